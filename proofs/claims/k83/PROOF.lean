import PyProof.Rows.All
import Wide.All
import OpenK.AllK
import Wide.FinOn
import HandS.ForMost
import HandS.Flow
import HandS.Style
import HandS.IsInst
import HandS.TupAny
import HandS.StrMore
import HandS.Wide
import HandS.RaiseMore
import HandS.TupMul
import PyProof.StrBlock2
import KE.GoesEnum
import HandS.HeadEnd
import HandS.EndBits
import HandS.HeadHook2
import PyProof.StrLawsFrom
import PySem.Challenge.RW_formscountry_k83_any_value_as_patch_or_l
import HandS.Text
import HandS.Head0
import HandS.Head1
import HandS.Head2
section
set_option Elab.async false
set_option linter.all false
set_option maxRecDepth 100000
/-! Q1: plain data behind values, own trees, and the state that holds both. -/
namespace Qv
open PySem PySem.Spec PyProof.Rows L2

abbrev Frag := PySem.W.Frag
def kD : Key → PyData
  | .inl i => .int i
  | .inr x => .str x

mutual
/-- a value that shows data, by objects of the heap G that nobody changes any more -/
def Sh (K : Frag) (G : Hp) : PyData → V → Prop
  | .none, v => v = .non
  | .bool b, v => v = .bl b
  | .int i, v => v = .int i
  | .str x, v => v = .str x
  | .list ds, v => ∃ a vs, v = .ref a ∧ G a = some (.lst vs) ∧ ShL K G ds vs
  | .tuple ds, v => ∃ a vs, v = .ref a ∧ SqT K G a vs ∧ ShL K G ds vs
  | .dict kvs, v => ∃ a xs, v = .ref a ∧ G a = some (.dK xs) ∧ ShD K G kvs xs
def ShL (K : Frag) (G : Hp) : List PyData → List V → Prop
  | [], vs => vs = []
  | d :: ds, vs => ∃ v r, vs = v :: r ∧ Sh K G d v ∧ ShL K G ds r
def ShD (K : Frag) (G : Hp) : List (PyData × PyData) → List (Key × V) → Prop
  | [], xs => xs = []
  | (k, d) :: r, xs => ∃ key v t, xs = (key, v) :: t ∧ k = kD key ∧ Sh K G d v ∧ ShD K G r t
end

def Sub (G H : Hp) : Prop := ∀ a u, G a = some u → H a = some u
theorem Sub.refl (G : Hp) : Sub G G := fun _ _ h => h
theorem Sub.trans {G H J : Hp} (a : Sub G H) (b : Sub H J) : Sub G J := fun x u h => b x u (a x u h)
theorem Sub.sqL {K : Frag} {G G' : Hp} {a : Addr} {vs : List V} (s : Sub G G') (h : SqL K G a vs) : SqL K G' a vs := by
  rcases h with (h | ⟨o, h⟩) | h
  · exact .inl (.inl (s _ _ h))
  · exact .inl (.inr ⟨o, s _ _ h⟩)
  · exact .inr h
theorem Sub.sqT {K : Frag} {G G' : Hp} {a : Addr} {vs : List V} (s : Sub G G') (h : SqT K G a vs) : SqT K G' a vs := by
  rcases h with (h | ⟨o, h⟩) | h
  · exact .inl (.inl (s _ _ h))
  · exact .inl (.inr ⟨o, s _ _ h⟩)
  · exact .inr h
theorem Sub.upd {G H : Hp} {p : Addr} {u : HO} (s : Sub G H) (hp : G p = none) : Sub G (upd H p u) := fun a w h => by
  have : a ≠ p := fun e => by rw [e, hp] at h; cases h
  rw [upd_ne this]
  exact s a w h

section
variable {K : Frag} {G G' : Hp}
mutual
theorem Sh.mono (s : Sub G G') : ∀ (d : PyData) (v : V), Sh K G d v → Sh K G' d v
  | .none, _, h => by simpa only [Sh] using h
  | .bool _, _, h => by simpa only [Sh] using h
  | .int _, _, h => by simpa only [Sh] using h
  | .str _, _, h => by simpa only [Sh] using h
  | .list ds, v, h => by
    simp only [Sh] at h ⊢
    obtain ⟨a, vs, e, q, r⟩ := h
    exact ⟨a, vs, e, s _ _ q, ShL.mono s ds vs r⟩
  | .tuple ds, v, h => by
    simp only [Sh] at h ⊢
    obtain ⟨a, vs, e, q, r⟩ := h
    exact ⟨a, vs, e, s.sqT q, ShL.mono s ds vs r⟩
  | .dict kvs, v, h => by
    simp only [Sh] at h ⊢
    obtain ⟨a, xs, e, q, r⟩ := h
    exact ⟨a, xs, e, s _ _ q, ShD.mono s kvs xs r⟩
theorem ShL.mono (s : Sub G G') : ∀ (ds : List PyData) (vs : List V), ShL K G ds vs → ShL K G' ds vs
  | [], _, h => by simpa only [ShL] using h
  | d :: ds, vs, h => by
    simp only [ShL] at h ⊢
    obtain ⟨v, r, e, q, t⟩ := h
    exact ⟨v, r, e, Sh.mono s d v q, ShL.mono s ds r t⟩
theorem ShD.mono (s : Sub G G') : ∀ (kvs : List (PyData × PyData)) (xs : List (Key × V)), ShD K G kvs xs → ShD K G' kvs xs
  | [], _, h => by simpa only [ShD] using h
  | (k, d) :: r, xs, h => by
    simp only [ShD] at h ⊢
    obtain ⟨key, v, t, e, e2, q, z⟩ := h
    exact ⟨key, v, t, e, e2, Sh.mono s d v q, ShD.mono s r t z⟩
end
theorem ShL.len : ∀ {ds : List PyData} {vs : List V}, ShL K G ds vs → ds.length = vs.length
  | [], _, h => by
    simp only [ShL] at h
    rw [h]
    rfl
  | d :: ds, vs, h => by
    simp only [ShL] at h
    obtain ⟨v, r, e, _, t⟩ := h
    rw [e, List.length_cons, List.length_cons, ShL.len t]
theorem ShL.get : ∀ {ds : List PyData} {vs : List V} {i : Nat} {d : PyData}, ShL K G ds vs → ds[i]? = some d → ∃ v, vs[i]? = some v ∧ Sh K G d v
  | [], _, _, _, _, e => by simp at e
  | d :: ds, vs, 0, x, h, e => by
    simp only [ShL] at h
    obtain ⟨v, r, rfl, q, _⟩ := h
    simp at e
    subst e
    exact ⟨v, rfl, q⟩
  | d :: ds, vs, i + 1, x, h, e => by
    simp only [ShL] at h
    obtain ⟨v, r, rfl, _, t⟩ := h
    obtain ⟨w, e1, q⟩ := ShL.get (i := i) t (by simpa using e)
    exact ⟨w, by simpa using e1, q⟩
theorem ShL.append : ∀ {ds es : List PyData} {vs ws : List V}, ShL K G ds vs → ShL K G es ws → ShL K G (ds ++ es) (vs ++ ws)
  | [], es, vs, ws, h, h2 => by
    simp only [ShL] at h
    subst h
    exact h2
  | d :: ds, es, vs, ws, h, h2 => by
    simp only [ShL] at h
    obtain ⟨v, r, rfl, q, t⟩ := h
    simp only [List.cons_append, ShL]
    exact ⟨v, r ++ ws, rfl, q, ShL.append t h2⟩
theorem ShL.take : ∀ {ds : List PyData} {vs : List V} (n : Nat), ShL K G ds vs → ShL K G (ds.take n) (vs.take n)
  | ds, vs, 0, h => by simp only [List.take_zero, ShL]
  | [], vs, n + 1, h => by
    simp only [ShL] at h
    subst h
    simp only [List.take_nil, ShL]
  | d :: ds, vs, n + 1, h => by
    simp only [ShL] at h
    obtain ⟨v, r, rfl, q, t⟩ := h
    simp only [List.take_succ_cons, ShL]
    exact ⟨v, _, rfl, q, ShL.take n t⟩
theorem ShL.drop : ∀ {ds : List PyData} {vs : List V} (n : Nat), ShL K G ds vs → ShL K G (ds.drop n) (vs.drop n)
  | ds, vs, 0, h => by simpa only [List.drop_zero] using h
  | [], vs, n + 1, h => by
    simp only [ShL] at h
    subst h
    simp only [List.drop_nil, ShL]
  | d :: ds, vs, n + 1, h => by
    simp only [ShL] at h
    obtain ⟨v, r, rfl, q, t⟩ := h
    simp only [List.drop_succ_cons]
    exact ShL.drop n t
theorem ShL.reverse : ∀ {ds : List PyData} {vs : List V}, ShL K G ds vs → ShL K G ds.reverse vs.reverse
  | [], vs, h => by
    simp only [ShL] at h
    subst h
    simp only [List.reverse_nil, ShL]
  | d :: ds, vs, h => by
    simp only [ShL] at h
    obtain ⟨v, r, rfl, q, t⟩ := h
    rw [List.reverse_cons, List.reverse_cons]
    exact ShL.append (ShL.reverse t) (by simp only [ShL]; exact ⟨v, [], rfl, q, rfl⟩)
theorem ShL.set : ∀ {ds : List PyData} {vs : List V} {d : PyData} {v : V} (i : Nat), Sh K G d v → ShL K G ds vs → ShL K G (ds.set i d) (vs.set i v)
  | [], vs, _, _, i, _, h => by
    simp only [ShL] at h
    subst h
    simp only [List.set_nil, ShL]
  | d :: ds, vs, x, w, 0, q2, h => by
    simp only [ShL] at h
    obtain ⟨v, r, rfl, q, t⟩ := h
    simp only [List.set_cons_zero, ShL]
    exact ⟨w, r, rfl, q2, t⟩
  | d :: ds, vs, x, w, i + 1, q2, h => by
    simp only [ShL] at h
    obtain ⟨v, r, rfl, q, t⟩ := h
    simp only [List.set_cons_succ, ShL]
    exact ⟨v, _, rfl, q, ShL.set i q2 t⟩
end

/-! ### own trees -/
/-- what a slot holds: data that nobody changes any more; a list, a tuple, a dict of one's own -/
inductive O where
  | sh (d : PyData)
  | ol (os : List O)
  | ot (os : List O)
  | od (kvs : List (Key × O))

mutual
/-- its data -/
def O.d : O → PyData
  | .sh d => d
  | .ol os => .list (O.dL os)
  | .ot os => .tuple (O.dL os)
  | .od kvs => .dict (O.dK kvs)
def O.dL : List O → List PyData
  | [] => []
  | o :: os => o.d :: O.dL os
def O.dK : List (Key × O) → List (PyData × PyData)
  | [] => []
  | (k, o) :: r => (kD k, o.d) :: O.dK r
end
theorem O.dL_map : ∀ os : List O, O.dL os = os.map O.d
  | [] => by simp only [O.dL, List.map_nil]
  | o :: os => by simp only [O.dL, List.map_cons, O.dL_map os]

mutual
/-- an own tree at a value: its objects at A, all others of G -/
def Ow (K : Frag) (G H : Hp) : O → V → List Addr → Prop
  | .sh d, v, A => A = [] ∧ Sh K G d v
  | .ol os, v, A => ∃ a vs B, v = .ref a ∧ H a = some (.lst vs) ∧ OwL K G H os vs B ∧ A = a :: B
  | .ot os, v, A => ∃ a vs B, v = .ref a ∧ H a = some (.tup vs) ∧ OwL K G H os vs B ∧ A = a :: B
  | .od kvs, v, A => ∃ a xs B, v = .ref a ∧ H a = some (.dK xs) ∧ OwD K G H kvs xs B ∧ A = a :: B
def OwL (K : Frag) (G H : Hp) : List O → List V → List Addr → Prop
  | [], vs, A => vs = [] ∧ A = []
  | o :: os, vs, A => ∃ v r B C, vs = v :: r ∧ Ow K G H o v B ∧ OwL K G H os r C ∧ A = B ++ C
def OwD (K : Frag) (G H : Hp) : List (Key × O) → List (Key × V) → List Addr → Prop
  | [], xs, A => xs = [] ∧ A = []
  | (k, o) :: r, xs, A => ∃ v t B C, xs = (k, v) :: t ∧ Ow K G H o v B ∧ OwD K G H r t C ∧ A = B ++ C
end

section
variable {K : Frag} {G G' H H' : Hp}
mutual
theorem Ow.mono (s : Sub G G') : ∀ (o : O) (v : V) (A : List Addr), (∀ a ∈ A, H' a = H a) → Ow K G H o v A → Ow K G' H' o v A
  | .sh d, v, A, _, h => by
    simp only [Ow] at h ⊢
    exact ⟨h.1, Sh.mono s d v h.2⟩
  | .ol os, v, A, k, h => by
    simp only [Ow] at h ⊢
    obtain ⟨a, vs, B, e, q, r, rfl⟩ := h
    exact ⟨a, vs, B, e, by rw [k a List.mem_cons_self]; exact q, OwL.mono s os vs B (fun b hb => k b (List.mem_cons_of_mem _ hb)) r, rfl⟩
  | .ot os, v, A, k, h => by
    simp only [Ow] at h ⊢
    obtain ⟨a, vs, B, e, q, r, rfl⟩ := h
    exact ⟨a, vs, B, e, by rw [k a List.mem_cons_self]; exact q, OwL.mono s os vs B (fun b hb => k b (List.mem_cons_of_mem _ hb)) r, rfl⟩
  | .od kvs, v, A, k, h => by
    simp only [Ow] at h ⊢
    obtain ⟨a, vs, B, e, q, r, rfl⟩ := h
    exact ⟨a, vs, B, e, by rw [k a List.mem_cons_self]; exact q, OwD.mono s kvs vs B (fun b hb => k b (List.mem_cons_of_mem _ hb)) r, rfl⟩
theorem OwL.mono (s : Sub G G') : ∀ (os : List O) (vs : List V) (A : List Addr), (∀ a ∈ A, H' a = H a) → OwL K G H os vs A → OwL K G' H' os vs A
  | [], vs, A, _, h => by simpa only [OwL] using h
  | o :: os, vs, A, k, h => by
    simp only [OwL] at h ⊢
    obtain ⟨v, r, B, C, e, q, t, rfl⟩ := h
    exact ⟨v, r, B, C, e, Ow.mono s o v B (fun b hb => k b (List.mem_append_left _ hb)) q, OwL.mono s os r C (fun b hb => k b (List.mem_append_right _ hb)) t, rfl⟩
theorem OwD.mono (s : Sub G G') : ∀ (kvs : List (Key × O)) (xs : List (Key × V)) (A : List Addr), (∀ a ∈ A, H' a = H a) → OwD K G H kvs xs A → OwD K G' H' kvs xs A
  | [], vs, A, _, h => by simpa only [OwD] using h
  | (ky, o) :: os, vs, A, k, h => by
    simp only [OwD] at h ⊢
    obtain ⟨v, r, B, C, e, q, t, rfl⟩ := h
    exact ⟨v, r, B, C, e, Ow.mono s o v B (fun b hb => k b (List.mem_append_left _ hb)) q, OwD.mono s os r C (fun b hb => k b (List.mem_append_right _ hb)) t, rfl⟩
end
mutual
theorem Ow.there : ∀ (o : O) (v : V) (A : List Addr), Ow K G H o v A → ∀ a ∈ A, ∃ u, H a = some u
  | .sh d, v, A, h => by
    simp only [Ow] at h
    intro a ha
    rw [h.1] at ha
    cases ha
  | .ol os, v, A, h => by
    simp only [Ow] at h
    obtain ⟨a, vs, B, e, q, r, rfl⟩ := h
    intro b hb
    rcases List.mem_cons.mp hb with rfl | hb
    · exact ⟨_, q⟩
    · exact OwL.there os vs B r b hb
  | .ot os, v, A, h => by
    simp only [Ow] at h
    obtain ⟨a, vs, B, e, q, r, rfl⟩ := h
    intro b hb
    rcases List.mem_cons.mp hb with rfl | hb
    · exact ⟨_, q⟩
    · exact OwL.there os vs B r b hb
  | .od kvs, v, A, h => by
    simp only [Ow] at h
    obtain ⟨a, vs, B, e, q, r, rfl⟩ := h
    intro b hb
    rcases List.mem_cons.mp hb with rfl | hb
    · exact ⟨_, q⟩
    · exact OwD.there kvs vs B r b hb
theorem OwL.there : ∀ (os : List O) (vs : List V) (A : List Addr), OwL K G H os vs A → ∀ a ∈ A, ∃ u, H a = some u
  | [], vs, A, h => by
    simp only [OwL] at h
    intro a ha
    rw [h.2] at ha
    cases ha
  | o :: os, vs, A, h => by
    simp only [OwL] at h
    obtain ⟨v, r, B, C, e, q, t, rfl⟩ := h
    intro b hb
    rcases List.mem_append.mp hb with hb | hb
    · exact Ow.there o v B q b hb
    · exact OwL.there os r C t b hb
theorem OwD.there : ∀ (os : List (Key × O)) (vs : List (Key × V)) (A : List Addr), OwD K G H os vs A → ∀ a ∈ A, ∃ u, H a = some u
  | [], vs, A, h => by
    simp only [OwD] at h
    intro a ha
    rw [h.2] at ha
    cases ha
  | (k, o) :: os, vs, A, h => by
    simp only [OwD] at h
    obtain ⟨v, r, B, C, e, q, t, rfl⟩ := h
    intro b hb
    rcases List.mem_append.mp hb with hb | hb
    · exact Ow.there o v B q b hb
    · exact OwD.there os r C t b hb
end
mutual
/-- an own tree that nobody changes any more: G' holds its objects, too -/
theorem Ow.fz (s : Sub G G') : ∀ (o : O) (v : V) (A : List Addr), (∀ a ∈ A, G' a = H a) → Ow K G H o v A → Sh K G' o.d v
  | .sh d, v, A, _, h => by
    simp only [Ow] at h
    simp only [O.d]
    exact Sh.mono s d v h.2
  | .ol os, v, A, k, h => by
    simp only [Ow] at h
    obtain ⟨a, vs, B, e, q, r, rfl⟩ := h
    simp only [O.d, Sh]
    exact ⟨a, vs, e, by rw [k a List.mem_cons_self]; exact q, OwL.fz s os vs B (fun b hb => k b (List.mem_cons_of_mem _ hb)) r⟩
  | .ot os, v, A, k, h => by
    simp only [Ow] at h
    obtain ⟨a, vs, B, e, q, r, rfl⟩ := h
    simp only [O.d, Sh]
    exact ⟨a, vs, e, .of (by rw [k a List.mem_cons_self]; exact q), OwL.fz s os vs B (fun b hb => k b (List.mem_cons_of_mem _ hb)) r⟩
  | .od kvs, v, A, k, h => by
    simp only [Ow] at h
    obtain ⟨a, vs, B, e, q, r, rfl⟩ := h
    simp only [O.d, Sh]
    exact ⟨a, vs, e, by rw [k a List.mem_cons_self]; exact q, OwD.fz s kvs vs B (fun b hb => k b (List.mem_cons_of_mem _ hb)) r⟩
theorem OwL.fz (s : Sub G G') : ∀ (os : List O) (vs : List V) (A : List Addr), (∀ a ∈ A, G' a = H a) → OwL K G H os vs A → ShL K G' (O.dL os) vs
  | [], vs, A, _, h => by
    simp only [OwL] at h
    simp only [O.dL, ShL]
    exact h.1
  | o :: os, vs, A, k, h => by
    simp only [OwL] at h
    obtain ⟨v, r, B, C, e, q, t, rfl⟩ := h
    simp only [O.dL, ShL]
    exact ⟨v, r, e, Ow.fz s o v B (fun b hb => k b (List.mem_append_left _ hb)) q, OwL.fz s os r C (fun b hb => k b (List.mem_append_right _ hb)) t⟩
theorem OwD.fz (s : Sub G G') : ∀ (os : List (Key × O)) (vs : List (Key × V)) (A : List Addr), (∀ a ∈ A, G' a = H a) → OwD K G H os vs A → ShD K G' (O.dK os) vs
  | [], vs, A, _, h => by
    simp only [OwD] at h
    simp only [O.dK, ShD]
    exact h.1
  | (ky, o) :: os, vs, A, k, h => by
    simp only [OwD] at h
    obtain ⟨v, r, B, C, e, q, t, rfl⟩ := h
    simp only [O.dK, ShD]
    exact ⟨ky, v, r, e, rfl, Ow.fz s o v B (fun b hb => k b (List.mem_append_left _ hb)) q, OwD.fz s os r C (fun b hb => k b (List.mem_append_right _ hb)) t⟩
end
end

/-! ### the state: entries, each an own tree at a value, or a shell (an object of one's own whose content isn't told) -/
abbrev En := Option O × V
def OwE (K : Frag) (G H : Hp) : En → List Addr → Prop
  | (some o, v), A => Ow K G H o v A
  | (none, v), A => ∃ a u, v = .ref a ∧ A = [a] ∧ H a = some u
def PL (K : Frag) (G H : Hp) : List En → List Addr → Prop
  | [], A => A = []
  | e :: L, A => ∃ B C, OwE K G H e B ∧ PL K G H L C ∧ A = B ++ C
def Wd (K : Frag) (H : Hp) (L : List En) : Prop := ∃ G A, Sub G H ∧ PL K G H L A ∧ A.Nodup ∧ ∀ a ∈ A, G a = none

section
variable {K : Frag} {G G' H H' : Hp} {L L' : List En} {A : List Addr}
theorem OwE.mono (s : Sub G G') : ∀ (e : En) (A : List Addr), (∀ a ∈ A, H' a = H a) → OwE K G H e A → OwE K G' H' e A
  | (some o, v), A, k, h => Ow.mono s o v A k h
  | (none, v), A, k, h => by
    obtain ⟨a, u, e, rfl, q⟩ := h
    exact ⟨a, u, e, rfl, by rw [k a List.mem_cons_self]; exact q⟩
theorem OwE.there : ∀ (e : En) (A : List Addr), OwE K G H e A → ∀ a ∈ A, ∃ u, H a = some u
  | (some o, v), A, h => Ow.there o v A h
  | (none, v), A, h => by
    obtain ⟨a, u, e, rfl, q⟩ := h
    intro b hb
    rcases List.mem_cons.mp hb with rfl | hb
    · exact ⟨u, q⟩
    · cases hb
theorem PL.mono (s : Sub G G') : ∀ (L : List En) (A : List Addr), (∀ a ∈ A, H' a = H a) → PL K G H L A → PL K G' H' L A
  | [], A, _, h => h
  | e :: L, A, k, h => by
    obtain ⟨B, C, h1, h2, rfl⟩ := h
    exact ⟨B, C, OwE.mono s e B (fun b hb => k b (List.mem_append_left _ hb)) h1, PL.mono s L C (fun b hb => k b (List.mem_append_right _ hb)) h2, rfl⟩
theorem PL.there : ∀ (L : List En) (A : List Addr), PL K G H L A → ∀ a ∈ A, ∃ u, H a = some u
  | [], A, h => by
    have h : A = [] := h
    intro a ha
    rw [h] at ha
    cases ha
  | e :: L, A, h => by
    obtain ⟨B, C, h1, h2, rfl⟩ := h
    intro b hb
    rcases List.mem_append.mp hb with hb | hb
    · exact OwE.there e B h1 b hb
    · exact PL.there L C h2 b hb
theorem PL.perm {L L' : List En} (p : L.Perm L') : ∀ A, PL K G H L A → ∃ A', PL K G H L' A' ∧ A.Perm A' := by
  induction p with
  | nil => exact fun A h => ⟨A, h, .refl _⟩
  | cons e _ ih =>
    rintro A ⟨B, C, h1, h2, rfl⟩
    obtain ⟨C', h3, p3⟩ := ih C h2
    exact ⟨B ++ C', ⟨B, C', h1, h3, rfl⟩, p3.append_left B⟩
  | swap e f L =>
    rintro A ⟨B, C, h1, ⟨B2, C2, h2, h3, rfl⟩, rfl⟩
    refine ⟨B2 ++ (B ++ C2), ⟨B2, _, h2, ⟨B, C2, h1, h3, rfl⟩, rfl⟩, ?_⟩
    rw [← List.append_assoc, ← List.append_assoc]
    exact (List.perm_append_comm).append_right C2
  | trans _ _ ih1 ih2 =>
    intro A h
    obtain ⟨A1, h1, p1⟩ := ih1 A h
    obtain ⟨A2, h2, p2⟩ := ih2 A1 h1
    exact ⟨A2, h2, p1.trans p2⟩
theorem Wd.perm (h : Wd K H L) (p : L.Perm L') : Wd K H L' := by
  obtain ⟨G, A, s, q, n, f⟩ := h
  obtain ⟨A', q', p'⟩ := PL.perm p A q
  exact ⟨G, A', s, q', p'.nodup_iff.mp n, fun a ha => f a (p'.mem_iff.mpr ha)⟩
theorem Wd.drop {e : En} (h : Wd K H (e :: L)) : Wd K H L := by
  obtain ⟨G, A, s, ⟨B, C, q1, q2, rfl⟩, n, f⟩ := h
  exact ⟨G, C, s, q2, (List.nodup_append.mp n).2.1, fun a ha => f a (List.mem_append_right _ ha)⟩
theorem Wd.dropL : ∀ (M : List En), Wd K H (M ++ L) → Wd K H L
  | [], h => h
  | e :: M, h => Wd.dropL M (Wd.drop (e := e) h)
/-- an object comes -/
theorem Wd.new {p : Addr} {u : HO} (h : Wd K H L) (hp : H p = none) : Wd K (upd H p u) ((none, .ref p) :: L) := by
  obtain ⟨G, A, s, q, n, f⟩ := h
  have hA : ∀ a ∈ A, a ≠ p := fun a ha e => by
    obtain ⟨w, hw⟩ := PL.there L A q a ha
    rw [e, hp] at hw
    cases hw
  have hG : G p = none := by
    cases e : G p with
    | none => rfl
    | some w =>
      have := s p w e
      rw [hp] at this
      cases this
  refine ⟨G, p :: A, s.upd hG, ⟨[p], A, ⟨p, u, rfl, rfl, upd_same⟩, PL.mono (Sub.refl G) L A (fun a ha => upd_ne (hA a ha)) q, rfl⟩, List.nodup_cons.mpr ⟨fun hm => hA p hm rfl, n⟩, fun a ha => ?_⟩
  rcases List.mem_cons.mp ha with rfl | ha
  · exact hG
  · exact f a ha
/-- .. that is not an own one's -/
theorem Wd.keep {p : Addr} {u : HO} (h : Wd K H L) (hp : H p = none) : Wd K (upd H p u) L := (h.new hp).drop
/-- a shell is filled, or changed -/
theorem Wd.put {a : Addr} {u : HO} (h : Wd K H ((none, .ref a) :: L)) : Wd K (upd H a u) ((none, .ref a) :: L) := by
  obtain ⟨G, A, s, ⟨B, C, ⟨b, w, e, rfl, hb⟩, q, rfl⟩, n, f⟩ := h
  cases e
  have nC : a ∉ C := (List.nodup_cons.mp n).1
  refine ⟨G, a :: C, s.upd (f a List.mem_cons_self), ⟨[a], C, ⟨a, u, rfl, rfl, upd_same⟩, PL.mono (Sub.refl G) L C (fun c hc => upd_ne fun e => nC (e ▸ hc)) q, rfl⟩, n, f⟩
/-- a list of entries side by side with values -/
def ens (os : List O) (vs : List V) : List En := (os.zip vs).map fun p => (some p.1, p.2)
theorem PL.split : ∀ (L M : List En) (A : List Addr), PL K G H (L ++ M) A → ∃ B C, PL K G H L B ∧ PL K G H M C ∧ A = B ++ C
  | [], M, A, h => ⟨[], A, rfl, h, rfl⟩
  | e :: L, M, A, h => by
    obtain ⟨B, C, h1, h2, rfl⟩ := h
    obtain ⟨C1, C2, h3, h4, rfl⟩ := PL.split L M C h2
    exact ⟨B ++ C1, C2, ⟨B, C1, h1, h3, rfl⟩, h4, (List.append_assoc ..).symm⟩
theorem PL.join : ∀ (L M : List En) (B C : List Addr), PL K G H L B → PL K G H M C → PL K G H (L ++ M) (B ++ C)
  | [], M, B, C, h, h2 => by
    have h : B = [] := h
    subst h
    exact h2
  | e :: L, M, A, C, h, h2 => by
    obtain ⟨B1, B2, h3, h4, rfl⟩ := h
    exact ⟨B1, B2 ++ C, h3, PL.join L M B2 C h4 h2, List.append_assoc ..⟩
theorem OwL.pl : ∀ {os : List O} {vs : List V} {A : List Addr}, OwL K G H os vs A → PL K G H (ens os vs) A ∧ os.length = vs.length
  | [], vs, A, h => by
    simp only [OwL] at h
    obtain ⟨rfl, rfl⟩ := h
    exact ⟨rfl, rfl⟩
  | o :: os, vs, A, h => by
    simp only [OwL] at h
    obtain ⟨v, r, B, C, rfl, h1, h2, rfl⟩ := h
    obtain ⟨h3, h4⟩ := OwL.pl h2
    exact ⟨⟨B, C, h1, h3, rfl⟩, by rw [List.length_cons, List.length_cons, h4]⟩
theorem OwL.of_pl : ∀ {os : List O} {vs : List V} {A : List Addr}, os.length = vs.length → PL K G H (ens os vs) A → OwL K G H os vs A
  | [], [], A, _, h => by
    simp only [OwL]
    exact ⟨trivial, h⟩
  | o :: os, v :: vs, A, e, h => by
    obtain ⟨B, C, h1, h2, rfl⟩ := h
    simp only [OwL]
    exact ⟨v, vs, B, C, rfl, h1, OwL.of_pl (by simpa using e) h2, rfl⟩
  | [], _ :: _, _, e, _ => by cases e
  | _ :: _, [], _, e, _ => by cases e
/-- a list of one's own opened: its shell, and what is in it -/
theorem Wd.open {os : List O} {v : V} (h : Wd K H ((some (.ol os), v) :: L)) : ∃ a vs, v = .ref a ∧ H a = some (.lst vs) ∧ os.length = vs.length ∧ Wd K H ((none, .ref a) :: (ens os vs ++ L)) := by
  obtain ⟨G, A, s, ⟨B, C, q1, q2, rfl⟩, n, f⟩ := h
  simp only [OwE, Ow] at q1
  obtain ⟨a, vs, D, rfl, ha, q3, rfl⟩ := q1
  obtain ⟨q4, e⟩ := OwL.pl q3
  exact ⟨a, vs, rfl, ha, e, G, _, s, ⟨[a], D ++ C, ⟨a, _, rfl, rfl, ha⟩, PL.join _ _ _ _ q4 q2, rfl⟩, n, f⟩
theorem Wd.openT {os : List O} {v : V} (h : Wd K H ((some (.ot os), v) :: L)) : ∃ a vs, v = .ref a ∧ H a = some (.tup vs) ∧ os.length = vs.length ∧ Wd K H ((none, .ref a) :: (ens os vs ++ L)) := by
  obtain ⟨G, A, s, ⟨B, C, q1, q2, rfl⟩, n, f⟩ := h
  simp only [OwE, Ow] at q1
  obtain ⟨a, vs, D, rfl, ha, q3, rfl⟩ := q1
  obtain ⟨q4, e⟩ := OwL.pl q3
  exact ⟨a, vs, rfl, ha, e, G, _, s, ⟨[a], D ++ C, ⟨a, _, rfl, rfl, ha⟩, PL.join _ _ _ _ q4 q2, rfl⟩, n, f⟩
theorem Wd.close {a : Addr} {os : List O} {vs : List V} (h : Wd K H ((none, .ref a) :: (ens os vs ++ L))) (e : os.length = vs.length) : Wd K (upd H a (.lst vs)) ((some (.ol os), .ref a) :: L) := by
  obtain ⟨G, A, s, ⟨B, C, ⟨b, w, e1, rfl, hb⟩, q, rfl⟩, n, f⟩ := h.put (u := .lst vs)
  cases e1
  obtain ⟨C1, C2, q1, q2, rfl⟩ := PL.split _ _ _ q
  refine ⟨G, _, s, ⟨a :: C1, C2, ?_, q2, rfl⟩, n, f⟩
  simp only [OwE, Ow]
  exact ⟨a, vs, C1, rfl, upd_same, OwL.of_pl e q1, rfl⟩
theorem Wd.closeT {a : Addr} {os : List O} {vs : List V} (h : Wd K H ((none, .ref a) :: (ens os vs ++ L))) (e : os.length = vs.length) : Wd K (upd H a (.tup vs)) ((some (.ot os), .ref a) :: L) := by
  obtain ⟨G, A, s, ⟨B, C, ⟨b, w, e1, rfl, hb⟩, q, rfl⟩, n, f⟩ := h.put (u := .tup vs)
  cases e1
  obtain ⟨C1, C2, q1, q2, rfl⟩ := PL.split _ _ _ q
  refine ⟨G, _, s, ⟨a :: C1, C2, ?_, q2, rfl⟩, n, f⟩
  simp only [OwE, Ow]
  exact ⟨a, vs, C1, rfl, upd_same, OwL.of_pl e q1, rfl⟩
/-- a new list, tuple of what was made -/
theorem Wd.list {p : Addr} {os : List O} {vs : List V} (h : Wd K H (ens os vs ++ L)) (e : os.length = vs.length) (hp : H p = none) : Wd K (upd H p (.lst vs)) ((some (.ol os), .ref p) :: L) := by
  have q := (h.new (u := .lst vs) hp).close e
  rwa [upd_upd] at q
theorem Wd.tuple {p : Addr} {os : List O} {vs : List V} (h : Wd K H (ens os vs ++ L)) (e : os.length = vs.length) (hp : H p = none) : Wd K (upd H p (.tup vs)) ((some (.ot os), .ref p) :: L) := by
  have q := (h.new (u := .tup vs) hp).closeT e
  rwa [upd_upd] at q
/-- nobody changes it any more -/
theorem Wd.fz {o : O} {v : V} (h : Wd K H ((some o, v) :: L)) : Wd K H ((some (.sh o.d), v) :: L) := by
  obtain ⟨G, A, s, ⟨B, C, q1, q2, rfl⟩, n, f⟩ := h
  obtain ⟨nB, nC, nBC⟩ := List.nodup_append.mp n
  have sG : Sub G (fun a => if a ∈ B then H a else G a) := fun a u h => by
    show (if a ∈ B then H a else G a) = some u
    split
    · exact s a u h
    · exact h
  refine ⟨fun a => if a ∈ B then H a else G a, C, fun a u h => ?_, ⟨[], C, ?_, PL.mono sG L C (fun _ _ => rfl) q2, rfl⟩, nC, fun a ha => ?_⟩
  · have h' : (if a ∈ B then H a else G a) = some u := h
    split at h'
    · exact h'
    · exact s a u h'
  · simp only [OwE, Ow]
    exact ⟨trivial, Ow.fz sG o v B (fun a ha => if_pos ha) q1⟩
  · show (if a ∈ B then H a else G a) = none
    rw [if_neg fun hb => nBC a hb a ha rfl]
    exact f a (List.mem_append_right _ ha)
/-- what nobody changes may be held twice -/
theorem Wd.dup {d : PyData} {v : V} (h : Wd K H ((some (.sh d), v) :: L)) : Wd K H ((some (.sh d), v) :: (some (.sh d), v) :: L) := by
  obtain ⟨G, A, s, ⟨B, C, q1, q2, rfl⟩, n, f⟩ := h
  have q3 : B = [] := by
    simp only [OwE, Ow] at q1
    exact q1.1
  subst q3
  exact ⟨G, C, s, ⟨[], C, q1, ⟨[], C, q1, q2, rfl⟩, rfl⟩, n, f⟩
theorem Wd.dupMem {d : PyData} {v : V} (h : Wd K H L) (m : (some (.sh d), v) ∈ L) : Wd K H ((some (.sh d), v) :: L) := by
  obtain ⟨L1, L2, rfl⟩ := List.append_of_mem m
  have p : (L1 ++ (some (O.sh d), v) :: L2).Perm ((some (O.sh d), v) :: (L1 ++ L2)) := List.perm_middle
  exact (h.perm p).dup.perm (p.symm.cons _)
/-- what needs no object -/
theorem Wd.flat {d : PyData} {v : V} (h : Wd K H L) (q : ∀ G, Sh K G d v) : Wd K H ((some (.sh d), v) :: L) := by
  obtain ⟨G, A, s, q2, n, f⟩ := h
  refine ⟨G, A, s, ⟨[], A, ?_, q2, rfl⟩, n, f⟩
  simp only [OwE, Ow]
  exact ⟨trivial, q G⟩
end
end Qv
end
section
set_option Elab.async false
set_option linter.all false
set_option maxRecDepth 100000
/-! Q2: terms, and what they compute over plain data. -/
namespace Qv
open PySem PySem.Spec PyProof.Rows L2

/-! ### terms -/
/-- operations whose operands are only looked at -/
inductive OpK where
  | add | sub | mul | fdiv | mod | pow | neg | nt
  | eq | ne | lt | le | gt | ge | isin | notin | isnone | notnone
  | item | back
  | len | int1 | abs | max2 | min2 | divmod | tuple1 | list1 | dict1 | sum | all | any | repr | reprl
  | isinst (ts : List String)
  | join | find | find3 | split | dget1 | dget2 | startswith
  deriving DecidableEq
/-- what a loop walks -/
inductive IK where
  | sq | rng | en | zp
  deriving DecidableEq
/-- targets: names, and rows of them -/
inductive Tg where
  | nm (i : Nat)
  | tp (ts : List Tg)
inductive T where
  | c (d : PyData)
  | nm (i : Nat)
  | mv (i : Nat)
  | tup (es : List T)
  | tupo (es : List T)
  | lst (es : List T)
  | op (k : OpK) (es : List T)
  | mth (k : OpK) (e : T) (es : List T)
  | prj (e : T) (j : Nat)
  | sl (es los his : List T)
  | and2 (a b : T)
  | or2 (a b : T)
  | ite (c a b : T)
  | chain (k l : OpK) (es fs : List T)
  | tt (e : T)
  | tn (e : T)
  | call (f : Nat) (es : List T)
  | lc (ws : List Nat) (tg : Tg) (ik : IK) (ies : List T) (cs : List T) (e : T)
  | callk (f : Nat) (es : List T) (pm : List Nat)
  | app (i : Nat) (e : T)
  | ext (i : Nat) (es : List T)
  | popl (i : Nat)
  | fz (e : T)
/-- targets of an assignment -/
inductive Ta where
  | nm (i : Nat)
  | tp (ts : List Ta)
  | st (i : Nat) (e : T)
inductive S where
  | asg (tg : Ta) (e : T)
  | par (is : List Nat) (es : List T)
  | ex (e : T)
  | ite (c : T) (a b : List S)
  | wh (c : T) (b : List S)
  | fr (tg : Tg) (ik : IK) (ies : List T) (b : List S)
  | ret (e : T)
  | pass | brk | cont | raise
  | augs (i : Nat) (e v : T)

/-! ### operations on own trees -/
def allSh : List O → Option (List PyData)
  | [] => some []
  | .sh d :: r => (allSh r).map (d :: ·)
  | _ :: _ => none
def O.list? : O → Option (List PyData)
  | .sh (.list ds) => some ds
  | .ol os => allSh os
  | _ => none
def O.tup? : O → Option (List PyData)
  | .sh (.tuple ds) => some ds
  | .ot os => allSh os
  | _ => none
def O.seq? (o : O) : Option (List PyData) :=
  match o.list? with
  | some ds => some ds
  | none => o.tup?
def allShK : List (Key × O) → Option (List (Key × PyData))
  | [] => some []
  | (k, .sh d) :: r => (allShK r).map ((k, d) :: ·)
  | _ :: _ => none
def keysOf : List (PyData × PyData) → Option (List (Key × PyData))
  | [] => some []
  | (.int i, d) :: r => (keysOf r).map ((.inl i, d) :: ·)
  | (.str x, d) :: r => (keysOf r).map ((.inr x, d) :: ·)
  | _ :: _ => none
def O.dict? : O → Option (List (Key × PyData))
  | .sh (.dict kvs) => keysOf kvs
  | .od kvs => allShK kvs
  | _ => none
/-- each child is data that nobody changes any more -/
def O.isFlat (o : O) : Bool :=
  match o with
  | .sh _ => true
  | .ol os => (allSh os).isSome
  | .ot os => (allSh os).isSome
  | .od kvs => (allShK kvs).isSome
def shI (i : Int) : O := .sh (.int i)
def shB (b : Bool) : O := .sh (.bool b)
def shS (x : Str) : O := .sh (.str x)
def olOf (ds : List PyData) : O := .ol (ds.map O.sh)
def gd {α : Type} (c : Bool) (x : α) : Option α := if c then some x else none

def i2 (f : Int → Int → Option O) : List O → Option O
  | [.sh (.int i), .sh (.int j)] => f i j
  | _ => none
def pAdd : List O → Option O
  | [.sh (.int i), .sh (.int j)] => some (shI (i + j))
  | [.sh (.str x), .sh (.str y)] => gd (decide (x.length + y.length ≤ sizeLine)) (shS (x ++ y))
  | [a, b] => match a.list?, b.list? with
    | some xs, some ys => gd (decide (xs.length + ys.length ≤ sizeLine)) (olOf (xs ++ ys))
    | _, _ => match a, b with
      | .sh (.tuple xs), .sh (.tuple ys) => gd (decide (xs.length + ys.length ≤ sizeLine)) (.sh (.tuple (xs ++ ys)))
      | _, _ => none
  | _ => none
def pMul : List O → Option O
  | [.sh (.int i), .sh (.int j)] => gd (decide ((-(2 ^ 64) < i ∧ i < 2 ^ 64) ∨ (-(2 ^ 64) < j ∧ j < 2 ^ 64))) (shI (i * j))
  | [.sh (.str x), .sh (.int j)] => gd (decide (1 ≤ j ∧ j ≤ 100000 ∧ x.length ≤ 10)) (shS (Txt.mul x j))
  | [.sh (.tuple xs), .sh (.int j)] => gd (!xs.isEmpty && decide (2 ≤ j ∧ j ≤ 1000 ∧ xs.length ≤ 1000)) (.sh (.tuple (List.replicate j.toNat xs).flatten))
  | [a, .sh (.int j)] => match a.list? with
    | some xs => gd (decide (-(2 ^ 63) ≤ j ∧ j < 2 ^ 63 ∧ xs.length * j.toNat ≤ sizeLine)) (olOf (List.replicate j.toNat xs).flatten)
    | _ => none
  | _ => none
def truth : O → Option Bool
  | .sh .none => some false
  | .sh (.bool b) => some b
  | .sh (.int i) => some (i != 0)
  | .sh (.str x) => gd (decide (x.length ≤ sizeLine)) ((x.length : Int) != 0)
  | .sh (.list ds) => some (!ds.isEmpty)
  | .sh (.tuple ds) => some (!ds.isEmpty)
  | .sh (.dict kvs) => some (!kvs.isEmpty)
  | .ol os => some (!os.isEmpty)
  | .ot os => some (!os.isEmpty)
  | .od kvs => some (!kvs.isEmpty)
def pCmp (f : Int → Int → Bool) (g : List Nat → List Nat → Bool) : List O → Option O
  | [.sh (.int i), .sh (.int j)] => some (shB (f i j))
  | [.sh (.str x), .sh (.str y)] => some (shB (g x.cps.toList y.cps.toList))
  | _ => none
def scalD : PyData → PyData → Bool
  | .none, .none | .none, .bool _ | .none, .int _ | .none, .str _ | .bool _, .none | .int _, .none | .str _, .none => true
  | .int _, .int _ | .bool _, .bool _ | .str _, .str _ => true
  | .int _, .str _ | .str _, .int _ | .bool _, .str _ | .str _, .bool _ => true
  | _, _ => false
def pEq : List O → Option Bool
  | [a, b] => if scalD a.d b.d then some (PyData.eqv a.d b.d) else gd (SeqAt.shaped a.d && SeqAt.shaped b.d) (PyData.eqv a.d b.d)
  | _ => none
def isFlatD : PyData → Bool
  | .none | .bool _ | .int _ | .str _ => true
  | _ => false
def pIn : List O → Option Bool
  | [.sh (.str x), .sh (.str y)] => match x.cps.toList with
    | [c] => some (decide (c ∈ y.cps.toList))
    | _ => some (!(Builtin.Str.occurrences y x 0 y.length 1).isEmpty)
  | [a, b] => match b.seq? with
    | some ys => gd (isFlatD a.d && ys.all isFlatD && ys.all (scalD a.d)) (ys.any fun y => PyData.eqv y a.d)
    | none => none
  | _ => none
def pItem : List O → Option O
  | [.sh (.str z), .sh (.int i)] => if z.length ≤ sizeLine then (atI z.cps.toList i).map fun c => shS ⟨#[c]⟩ else none
  | [a, .sh (.int i)] => match a.seq? with
    | some ds => (atI ds i).map O.sh
    | none => none
  | _ => none
def cutD (xs : List PyData) (lo hi : Option Int) : List PyData := (xs.drop (HT.sIx xs.length 0 lo)).take (HT.sIx xs.length xs.length hi - HT.sIx xs.length 0 lo)
def pCut (a : O) (lo hi : Option Int) : Option O :=
  match a with
  | .sh (.str z) => gd (decide (z.length ≤ sizeLine)) (shS (cutS z lo hi))
  | .sh (.tuple ds) => some (.sh (.tuple (cutD ds lo hi)))
  | a => match a.list? with
    | some ds => some (olOf (cutD ds lo hi))
    | none => none
def pLen : O → Option O
  | .sh (.str x) => gd (decide (x.length ≤ sizeLine)) (shI x.length)
  | .od kvs => some (shI kvs.length)
  | .sh (.dict kvs) => some (shI kvs.length)
  | a => a.seq?.map fun ds => shI ds.length
def allBl : List PyData → Option (List Bool)
  | [] => some []
  | .bool b :: r => (allBl r).map (b :: ·)
  | _ :: _ => none
def allIn : List PyData → Option (List Int)
  | [] => some []
  | .int b :: r => (allIn r).map (b :: ·)
  | _ :: _ => none
def allSt : List PyData → Option (List Str)
  | [] => some []
  | .str b :: r => (allSt r).map (b :: ·)
  | _ :: _ => none
def isT (d : PyData) : String → Option Bool
  | "int" => some (match d with | .int _ => true | .bool _ => true | _ => false)
  | "bool" => some (match d with | .bool _ => true | _ => false)
  | "str" => some (match d with | .str _ => true | _ => false)
  | "list" => some (match d with | .list _ => true | _ => false)
  | "tuple" => some (match d with | .tuple _ => true | _ => false)
  | "dict" => some (match d with | .dict _ => true | _ => false)
  | _ => none
def isAny (d : PyData) : List String → Option Bool
  | [] => some false
  | t :: ts => match isT d t, isAny d ts with
    | some a, some b => some (a || b)
    | _, _ => none
def pRepr (o : O) : Option O := gd (o.d.showable && !o.d.hasDict && decide (o.d.shown.length ≤ sizeLine) && decide (o.d.depth ≤ 60)) (shS o.d.shown)
def pReprL (os : List O) : Option O := if os.length ≤ sizeLine then pRepr (.ol os) else none
/-- the pairs of a dict's making -/
def pairsOf : List PyData → Option (List (Key × PyData))
  | [] => some []
  | .tuple [.int i, d] :: r => (pairsOf r).map ((.inl i, d) :: ·)
  | .tuple [.str x, d] :: r => (pairsOf r).map ((.inr x, d) :: ·)
  | _ :: _ => none
def putD (kvs : List (Key × PyData)) (k : Key) (d : PyData) : List (Key × PyData) :=
  if (kvs.any fun kv => decide (kv.1 = k)) = true then kvs.map (fun kv => if kv.1 = k then (kv.1, d) else kv) else kvs ++ [(k, d)]
def valD (kvs : List (Key × PyData)) (k : Key) : Option PyData := (kvs.find? fun kv => decide (kv.1 = k)).map (·.2)
def keyOf : PyData → Option Key
  | .int i => some (.inl i)
  | .str x => some (.inr x)
  | _ => none
def pGet (a k : O) (x : PyData) : Option O :=
  match a.dict?, keyOf k.d with
  | some kvs, some key => some (.sh ((valD kvs key).getD x))
  | _, _ => none
def u1 (f : O → Option O) : List O → Option O
  | [a] => f a
  | _ => none
def pNeg : O → Option O
  | .sh (.int i) => some (shI (-i))
  | _ => none
def isNon : O → Bool
  | .sh .none => true
  | _ => false
def pInt : O → Option O
  | .sh (.int i) => some (shI i)
  | .sh (.bool b) => some (shI (if b then 1 else 0))
  | _ => none
def pAbs : O → Option O
  | .sh (.int i) => some (shI (if i < 0 then -i else i))
  | _ => none
def pTuple (a : O) : Option O :=
  match a.list? with
  | some ds => some (.sh (.tuple ds))
  | none => match a with
    | .sh (.tuple ds) => some (.sh (.tuple ds))
    | _ => none
def pDict (a : O) : Option O :=
  match a.list? with
  | some ds => (pairsOf ds).map fun ps => .od ((ps.foldl (fun m p => putD m p.1 p.2) []).map fun p => (p.1, .sh p.2))
  | none => none
def pSum (a : O) : Option O :=
  match a.list? with
  | some ds => (allIn ds).map fun ns => shI ns.sum
  | none => none
def pAll (a : O) : Option O :=
  match a.list? with
  | some ds => (allBl ds).map fun bs => shB (bs.all id)
  | none => none
def pAny (a : O) : Option O :=
  match a.list? with
  | some ds => (allBl ds).map fun bs => shB (bs.any id)
  | none => none
def pJoin : List O → Option O
  | [.sh (.str x), a] => match a.seq? with
    | some ds => match allSt ds with
      | some ys => gd (decide ((ys.map Str.length).sum + ys.length * x.length ≤ 16777216)) (shS (Txt.join x ys))
      | none => none
    | none => none
  | _ => none
def s2 (f : Str → Str → Option O) : List O → Option O
  | [.sh (.str x), .sh (.str y)] => f x y
  | _ => none
def pFind3 : List O → Option O
  | [.sh (.str x), .sh (.str y), .sh (.int i)] => some (shI (Txt.find3 x y i))
  | _ => none
def pGet1 : List O → Option O
  | [a, k] => pGet a k .none
  | _ => none
def pGet2 : List O → Option O
  | [a, k, .sh d] => pGet a k d
  | _ => none
def prim : OpK → List O → Option O
  | .add => pAdd
  | .sub => i2 fun i j => some (shI (i - j))
  | .mul => pMul
  | .fdiv => i2 fun i j => gd (decide (j ≠ 0 ∧ j.natAbs < 1073741824)) (shI (i.fdiv j))
  | .mod => i2 fun i j => gd (decide (j ≠ 0)) (shI (i.fmod j))
  | .pow => i2 fun i j => gd (decide (0 ≤ j ∧ j ≤ 1000000 ∧ i.natAbs < 2 ^ 64)) (shI (i ^ j.toNat))
  | .neg => u1 pNeg
  | .nt => u1 fun a => (truth a).map fun b => shB !b
  | .eq => fun os => (pEq os).map shB
  | .ne => fun os => (pEq os).map fun b => shB !b
  | .lt => pCmp (fun i j => decide (i < j)) (fun x y => decide (x < y))
  | .le => pCmp (fun i j => decide (i ≤ j)) (fun x y => !decide (y < x))
  | .gt => pCmp (fun i j => decide (j < i)) (fun x y => decide (y < x))
  | .ge => pCmp (fun i j => decide (j ≤ i)) (fun x y => !decide (x < y))
  | .isin => fun os => (pIn os).map shB
  | .notin => fun os => (pIn os).map fun b => shB !b
  | .isnone => u1 fun a => some (shB (isNon a))
  | .notnone => u1 fun a => some (shB !(isNon a))
  | .item => pItem
  | .back => u1 fun a => a.list?.map fun ds => olOf ds.reverse
  | .len => u1 pLen
  | .int1 => u1 pInt
  | .abs => u1 pAbs
  | .max2 => i2 fun i j => some (shI (if j > i then j else i))
  | .min2 => i2 fun i j => some (shI (if j < i then j else i))
  | .divmod => i2 fun i j => gd (decide (0 < j ∧ j < 1073741824)) (.sh (.tuple [.int (i / j), .int (i % j)]))
  | .tuple1 => u1 pTuple
  | .list1 => u1 fun a => a.seq?.map olOf
  | .dict1 => u1 pDict
  | .sum => u1 pSum
  | .all => u1 pAll
  | .any => u1 pAny
  | .repr => u1 pRepr
  | .reprl => pReprL
  | .isinst ts => u1 fun a => (isAny a.d ts).map shB
  | .join => pJoin
  | .find => s2 fun x y => some (shI (Txt.find x y))
  | .find3 => pFind3
  | .split => s2 fun x y => gd (!(y.length == 0) && decide (x.length + 2 ≤ sizeLine)) (olOf ((Txt.split x y).map .str))
  | .startswith => s2 fun x y => some (shB (Txt.startswith x y))
  | .dget1 => pGet1
  | .dget2 => pGet2
def cmpOut : O → Option Bool
  | .sh (.bool b) => some b
  | _ => none

/-- the receiver is of the method's type -/
def mtyp : OpK → O → Bool
  | .join, .sh (.str _) => true
  | .find, .sh (.str _) => true
  | .find3, .sh (.str _) => true
  | .split, .sh (.str _) => true
  | .startswith, .sh (.str _) => true
  | .dget1, .od _ => true
  | .dget2, .od _ => true
  | .dget1, .sh (.dict _) => true
  | .dget2, .sh (.dict _) => true
  | _, _ => false
def isOl : O → Bool
  | .ol _ => true
  | _ => false

/-! ### slots -/
abbrev Env := List (Option O)
inductive Opd where
  | sl (i : Nat)
  | tv (o : O)
def rdO (ρ : Env) : Opd → Option O
  | .tv o => some o
  | .sl i => match ρ[i]? with
    | some (some o) => some o
    | _ => none
def rdOs (ρ : Env) : List Opd → Option (List O)
  | [] => some []
  | x :: xs => match rdO ρ x, rdOs ρ xs with
    | some o, some os => if o.isFlat then some (o :: os) else none
    | _, _ => none
/-- a part of a slice: nothing, or a number -/
def partOf (ρ : Env) : List Opd → Option (Option Int)
  | [] => some none
  | [x] => match rdO ρ x with
    | some (.sh (.int i)) => some (some i)
    | _ => none
  | _ => none
/-- a name's value: from then on nobody changes it -/
def rdV (i : Nat) (ρ : Env) : Option (O × Env) :=
  match ρ[i]? with
  | some (some (.sh d)) => some (.sh d, ρ)
  | some (some o) => some (.sh o.d, ρ.set i (some (.sh o.d)))
  | _ => none
/-- a name's value, for the last time -/
def mvV (i : Nat) (ρ : Env) : Option (O × Env) :=
  match ρ[i]? with
  | some (some o) => some (o, ρ.set i none)
  | _ => none
def lend : List Opd → Env → Option (List O × Env)
  | [], ρ => some ([], ρ)
  | x :: xs, ρ => match lend xs ρ with
    | none => none
    | some (os, ρ1) => match x with
      | .tv o => some (o :: os, ρ1)
      | .sl i => match ρ1[i]? with
        | some (some (.sh d)) => some (.sh d :: os, ρ1)
        | some (some o) => some (o :: os, ρ1.set i none)
        | _ => none
def back : List Opd → List O → Env → Env
  | .sl i :: xs, o :: os, ρ => back xs os (match ρ[i]? with | some none => ρ.set i (some o) | _ => ρ)
  | .tv _ :: xs, _ :: os, ρ => back xs os ρ
  | _, _, ρ => ρ
def forget (ρ : Env) : List Nat → Env
  | [] => ρ
  | v :: vs => (forget ρ vs).set v none
/-! a target gets a value -/
mutual
def bindTg : Tg → O → Env → Option Env
  | .nm i, o, ρ => if i < ρ.length then some (ρ.set i (some o)) else none
  | .tp ts, o, ρ => match o with
    | .sh (.tuple ds) => bindTgs ts (ds.map O.sh) ρ
    | .ot os => bindTgs ts os ρ
    | _ => none
def bindTgs : List Tg → List O → Env → Option Env
  | [], [], ρ => some ρ
  | t :: ts, o :: os, ρ => match bindTg t o ρ with
    | some ρ1 => bindTgs ts os ρ1
    | none => none
  | _, _, _ => none
end
/-- what a walk yields -/
def strItems (x : Str) : List O := x.cps.toList.map fun c => shS ⟨#[c]⟩
def walk : IK → List O → Option (List O)
  | .sq, [o] => match o.seq? with
    | some ds => some (ds.map O.sh)
    | none => match o with
      | .sh (.str x) => some (strItems x)
      | _ => none
  | .rng, [.sh (.int j)] => gd (decide (-(2 ^ 62) ≤ j ∧ j < 2 ^ 62)) ((List.range j.toNat).map fun (n : Nat) => shI (0 + (n : Int)))
  | .rng, [.sh (.int i), .sh (.int j)] => gd (decide (-(2 ^ 62) ≤ i ∧ i < 2 ^ 62 ∧ -(2 ^ 62) ≤ j ∧ j < 2 ^ 62)) ((List.range (j - i).toNat).map fun (n : Nat) => shI (i + (n : Int)))
  | .en, [o] => match o.seq? with
    | some ds => some (ds.zipIdx.map fun p => .sh (.tuple [.int p.2, p.1]))
    | none => none
  | .zp, [a, b] => match a.list?, b.list? with
    | some xs, some ys => some ((xs.zip ys).map fun p => .sh (.tuple [p.1, p.2]))
    | _, _ => none
  | _, _ => none
def permL {α : Type} (pm : List Nat) (xs : List α) : List α := pm.filterMap fun j => xs[j]?

/-! ### what terms compute; C: what calls do -/
abbrev Cal := Nat → List O → Option (O × List O)
def isNm : T → Option Nat
  | .nm i => some i
  | _ => none
/-- a comprehension's turns -/
def lcGo (f : O → Env → Option (Option O × Env)) : List O → List O → Env → Option (List O × Env)
  | [], acc, ρ => some (acc, ρ)
  | x :: xs, acc, ρ => match f x ρ with
    | some (some o, ρ1) => if acc.length < sizeLine then lcGo f xs (acc ++ [o]) ρ1 else none
    | some (none, ρ1) => lcGo f xs acc ρ1
    | none => none
mutual
def ev (C : Cal) : T → Env → Option (O × Env)
  | .c d, ρ => some (.sh d, ρ)
  | .nm i, ρ => rdV i ρ
  | .mv i, ρ => mvV i ρ
  | .tup es, ρ => match evs C es ρ with
    | some (os, ρ1) => if os.length ≤ sizeLine then some (.sh (.tuple (O.dL os)), ρ1) else none
    | none => none
  | .tupo es, ρ => match evs C es ρ with
    | some (os, ρ1) => if os.length ≤ sizeLine then some (.ot os, ρ1) else none
    | none => none
  | .lst es, ρ => match evs C es ρ with
    | some (os, ρ1) => if os.length ≤ sizeLine then some (olOf (O.dL os), ρ1) else none
    | none => none
  | .op k es, ρ => match evOs C es ρ with
    | some (xs, ρ1) => match rdOs ρ1 xs with
      | some os => match prim k os with
        | some o => some (o, ρ1)
        | none => none
      | none => none
    | none => none
  | .mth k e es, ρ => match isNm e with
    | some i => match rdOs ρ [.sl i] with
      | some [o0] => if mtyp k o0 then match evOs C es ρ with
          | some (xs, ρ2) => match rdOs ρ2 (.sl i :: xs) with
            | some os => match prim k os with
              | some o => some (o, ρ2)
              | none => none
            | none => none
          | none => none
        else none
      | _ => none
    | none => match ev C e ρ with
      | some (o0, ρ1) => if o0.isFlat && mtyp k o0 then match evOs C es ρ1 with
          | some (xs, ρ2) => match rdOs ρ2 (.tv o0 :: xs) with
            | some os => match prim k os with
              | some o => some (o, ρ2)
              | none => none
            | none => none
          | none => none
        else none
      | none => none
  | .prj e j, ρ => match ev C e ρ with
    | some (.ot os, ρ1) => match os[j]? with
      | some o => some (o, ρ1)
      | none => none
    | some (.sh (.tuple ds), ρ1) => match ds[j]? with
      | some d => some (.sh d, ρ1)
      | none => none
    | _ => none
  | .sl es los his, ρ => match evOs C es ρ with
    | some ([x], ρ1) => match evOs C los ρ1 with
      | some (ys, ρ2) => match partOf ρ2 ys with
        | some lo => match evOs C his ρ2 with
          | some (zs, ρ3) => match partOf ρ3 zs with
            | some hi => match rdOs ρ3 [x] with
              | some [o] => match pCut o lo hi with
                | some r => some (r, ρ3)
                | none => none
              | _ => none
            | none => none
          | none => none
        | none => none
      | none => none
    | _ => none
  | .and2 a b, ρ => match ev C a ρ with
    | some (.sh (.bool true), ρ1) => ev C b ρ1
    | some (.sh (.bool false), ρ1) => some (.sh (.bool false), ρ1)
    | _ => none
  | .or2 a b, ρ => match ev C a ρ with
    | some (.sh (.bool true), ρ1) => some (.sh (.bool true), ρ1)
    | some (.sh (.bool false), ρ1) => ev C b ρ1
    | _ => none
  | .ite c a b, ρ => match ev C c ρ with
    | some (.sh (.bool true), ρ1) => ev C a ρ1
    | some (.sh (.bool false), ρ1) => ev C b ρ1
    | _ => none
  | .chain k l es fs, ρ => match evOs C es ρ with
    | some (xs, ρ1) => match rdOs ρ1 xs with
      | some os => match prim k os with
        | some (.sh (.bool true)) => match evOs C fs ρ1 with
          | some (ys, ρ2) => match rdOs ρ2 (xs.drop 1 ++ ys) with
            | some os2 => match prim l os2 with
              | some o => some (o, ρ2)
              | none => none
            | none => none
          | none => none
        | some (.sh (.bool false)) => some (.sh (.bool false), ρ1)
        | _ => none
      | none => none
    | none => none
  | .tt e, ρ => match isNm e with
    | some i => match rdOs ρ [.sl i] with
      | some [o] => match truth o with
        | some b => some (shB b, ρ)
        | none => none
      | _ => none
    | none => match ev C e ρ with
      | some (o, ρ1) => match rdOs ρ1 [.tv o] with
        | some [o] => match truth o with
          | some b => some (shB b, ρ1)
          | none => none
        | _ => none
      | none => none
  | .tn e, ρ => match ev C e ρ with
    | some (.sh (.bool b), ρ1) => some (shB (!b), ρ1)
    | _ => none
  | .call f es, ρ => match evOs C es ρ with
    | some (xs, ρ1) => match lend xs ρ1 with
      | some (os, ρ2) => match C f os with
        | some (o, os2) => some (o, back xs os2 ρ2)
        | none => none
      | none => none
    | none => none
  | .lc ws tg ik ies cs e, ρ => match evs C ies ρ with
    | some (ios, ρ1) => match walk ik (ios.map fun o => .sh o.d) with
      | some xs => match lcGo (fun x ρ2 => match bindTg tg x ρ2 with
          | some ρ3 => match evBs C cs ρ3 with
            | some (true, ρ4) => match ev C e ρ4 with
              | some (o, ρ5) => some (some (.sh o.d), forget ρ5 ws)
              | none => none
            | some (false, ρ4) => some (none, forget ρ4 ws)
            | none => none
          | none => none) xs [] (forget ρ1 ws) with
        | some (os, ρ2) => some (.ol os, forget ρ2 ws)
        | none => none
      | none => none
    | none => none
  | .callk f es pm, ρ => match evOs C es ρ with
    | some (ys, ρ1) => match lend (permL pm ys) ρ1 with
      | some (os, ρ2) => match C f os with
        | some (o, os2) => some (o, back (permL pm ys) os2 ρ2)
        | none => none
      | none => none
    | none => none
  | .app i e, ρ => match rdO ρ (.sl i) with
    | some (.ol _) => match ev C e ρ with
      | some (o, ρ1) => match rdO ρ1 (.sl i) with
        | some (.ol os) => if os.length < sizeLine then some (.sh .none, ρ1.set i (some (.ol (os ++ [.sh o.d])))) else none
        | _ => none
      | none => none
    | _ => none
  | .ext i es, ρ => match rdO ρ (.sl i) with
    | some (.ol _) => match evOs C es ρ with
      | some ([x], ρ1) => match rdO ρ1 (.sl i), rdOs ρ1 [x] with
        | some (.ol os), some [o] => match o.list? with
          | some ds => if os.length + ds.length ≤ sizeLine then some (.sh .none, ρ1.set i (some (.ol (os ++ ds.map O.sh)))) else none
          | none => none
        | _, _ => none
      | _ => none
    | _ => none
  | .popl i, ρ => match rdO ρ (.sl i) with
    | some (.ol os) => match os[os.length - 1]? with
      | some o => some (o, ρ.set i (some (.ol os.dropLast)))
      | none => none
    | _ => none
  | .fz e, ρ => match ev C e ρ with
    | some (o, ρ1) => some (.sh o.d, ρ1)
    | none => none
def evs (C : Cal) : List T → Env → Option (List O × Env)
  | [], ρ => some ([], ρ)
  | e :: es, ρ => match ev C e ρ with
    | some (o, ρ1) => match evs C es ρ1 with
      | some (os, ρ2) => some (o :: os, ρ2)
      | none => none
    | none => none
def evOs (C : Cal) : List T → Env → Option (List Opd × Env)
  | [], ρ => some ([], ρ)
  | e :: es, ρ => match isNm e with
    | some i => match rdO ρ (.sl i) with
      | some _ => match evOs C es ρ with
        | some (xs, ρ2) => some (.sl i :: xs, ρ2)
        | none => none
      | none => none
    | none => match ev C e ρ with
      | some (o, ρ1) => match evOs C es ρ1 with
        | some (xs, ρ2) => some (.tv o :: xs, ρ2)
        | none => none
      | none => none
/-- tests, one behind another -/
def evBs (C : Cal) : List T → Env → Option (Bool × Env)
  | [], ρ => some (true, ρ)
  | e :: es, ρ => match ev C e ρ with
    | some (.sh (.bool true), ρ1) => evBs C es ρ1
    | some (.sh (.bool false), ρ1) => some (false, ρ1)
    | _ => none
end

/-! ### statements -/
inductive Out where
  | nx (ρ : Env)
  | rt (o : O) (ρ : Env)
  | bk (ρ : Env)
  | ct (ρ : Env)
mutual
def bindTa (C : Cal) : Ta → O → Env → Option Env
  | .nm i, o, ρ => if i < ρ.length then some (ρ.set i (some o)) else none
  | .tp ts, o, ρ => match o with
    | .sh (.tuple ds) => bindTas C ts (ds.map O.sh) ρ
    | .ot os => bindTas C ts os ρ
    | _ => none
  | .st i e, o, ρ => match rdO ρ (.sl i) with
    | some (.ol _) => match evOs C [e] ρ with
      | some (xs, ρ1) => match rdOs ρ1 xs, rdO ρ1 (.sl i) with
        | some [.sh (.int k)], some (.ol os) => match ixN os.length k with
          | some j => some (ρ1.set i (some (.ol (os.set j (.sh o.d)))))
          | none => none
        | _, _ => none
      | none => none
    | _ => none
def bindTas (C : Cal) : List Ta → List O → Env → Option Env
  | [], [], ρ => some ρ
  | t :: ts, o :: os, ρ => match bindTa C t o ρ with
    | some ρ1 => bindTas C ts os ρ1
    | none => none
  | _, _, _ => none
end
/-- a loop, turn by turn: left what is told, right the next turn -/
def iterN (f : Env → Option (Out ⊕ Env)) : Nat → Env → Option Out
  | 0, _ => none
  | n + 1, ρ => match f ρ with
    | none => none
    | some (.inl o) => some o
    | some (.inr ρ1) => iterN f n ρ1
theorem iterN_mono {f : Env → Option (Out ⊕ Env)} : ∀ {n m : Nat} {ρ : Env} {o : Out}, iterN f n ρ = some o → n ≤ m → iterN f m ρ = some o
  | 0, _, _, _, h, _ => by cases h
  | n + 1, 0, _, _, _, h => by omega
  | n + 1, m + 1, ρ, o, h, l => by
    unfold iterN at h ⊢
    split
    · simp_all
    · simp_all
    · rename_i e
      rw [e] at h
      exact iterN_mono h (by omega)
open Classical in
noncomputable def loopO (f : Env → Option (Out ⊕ Env)) (ρ : Env) : Option Out :=
  if h : ∃ n o, iterN f n ρ = some o then some (Classical.choose (Classical.choose_spec h)) else none
theorem loopO_of {f : Env → Option (Out ⊕ Env)} {n : Nat} {ρ : Env} {o : Out} (h : iterN f n ρ = some o) : loopO f ρ = some o := by
  have hx : ∃ n o, iterN f n ρ = some o := ⟨n, o, h⟩
  unfold loopO
  rw [dif_pos hx]
  have e := Classical.choose_spec (Classical.choose_spec hx)
  have e1 := iterN_mono e (Nat.le_max_left _ n)
  have e2 := iterN_mono h (Nat.le_max_right (Classical.choose hx) n)
  rw [e1] at e2
  exact e2
theorem loopO_some {f : Env → Option (Out ⊕ Env)} {ρ : Env} {o : Out} (h : loopO f ρ = some o) : ∃ n, iterN f n ρ = some o := by
  unfold loopO at h
  split at h
  · rename_i hx
    refine ⟨Classical.choose hx, ?_⟩
    have e := Classical.choose_spec (Classical.choose_spec hx)
    rw [Option.some.inj h] at e
    exact e
  · cases h
theorem loopO_eq (f : Env → Option (Out ⊕ Env)) (ρ : Env) : loopO f ρ = match f ρ with
    | none => none
    | some (.inl o) => some o
    | some (.inr ρ1) => loopO f ρ1 := by
  cases e : f ρ with
  | none =>
    cases q : loopO f ρ with
    | none => rfl
    | some o =>
      obtain ⟨n, h⟩ := loopO_some q
      cases n with
      | zero => cases h
      | succ n => simp [iterN, e] at h
  | some x =>
    cases x with
    | inl o => exact loopO_of (n := 1) (by simp [iterN, e])
    | inr ρ1 =>
      show loopO f ρ = loopO f ρ1
      cases q : loopO f ρ1 with
      | some o =>
        obtain ⟨n, h⟩ := loopO_some q
        exact loopO_of (n := n + 1) (by simp [iterN, e, h])
      | none =>
        cases q2 : loopO f ρ with
        | none => rfl
        | some o =>
          obtain ⟨n, h⟩ := loopO_some q2
          cases n with
          | zero => cases h
          | succ n =>
            simp [iterN, e] at h
            rw [loopO_of h] at q
            cases q
/-- a for's turns -/
def frGo (f : O → Env → Option Out) : List O → Env → Option Out
  | [], ρ => some (.nx ρ)
  | x :: xs, ρ => match f x ρ with
    | some (.nx ρ1) => frGo f xs ρ1
    | some (.ct ρ1) => frGo f xs ρ1
    | some (.bk ρ1) => some (.nx ρ1)
    | some (.rt o ρ1) => some (.rt o ρ1)
    | none => none
def putAll : List Nat → List O → Env → Env
  | i :: is, o :: os, ρ => putAll is os (ρ.set i (some o))
  | _, _, ρ => ρ
mutual
noncomputable def evS (C : Cal) : S → Env → Option Out
  | .asg tg e, ρ => match ev C e ρ with
    | some (o, ρ1) => match bindTa C tg o ρ1 with
      | some ρ2 => some (.nx ρ2)
      | none => none
    | none => none
  | .par is es, ρ => match evs C es ρ with
    | some (os, ρ1) => if is.all (fun i => decide (i < ρ1.length)) then some (.nx (putAll is os ρ1)) else none
    | none => none
  | .ex e, ρ => match ev C e ρ with
    | some (_, ρ1) => some (.nx ρ1)
    | none => none
  | .ite c a b, ρ => match ev C c ρ with
    | some (.sh (.bool true), ρ1) => evSs C a ρ1
    | some (.sh (.bool false), ρ1) => evSs C b ρ1
    | _ => none
  | .wh c b, ρ => loopO (fun ρ1 => match ev C c ρ1 with
      | some (.sh (.bool false), ρ2) => some (.inl (.nx ρ2))
      | some (.sh (.bool true), ρ2) => match evSs C b ρ2 with
        | some (.nx ρ3) => some (.inr ρ3)
        | some (.ct ρ3) => some (.inr ρ3)
        | some (.bk ρ3) => some (.inl (.nx ρ3))
        | some (.rt o ρ3) => some (.inl (.rt o ρ3))
        | none => none
      | _ => none) ρ
  | .fr tg ik ies b, ρ => match evs C ies ρ with
    | some (ios, ρ1) => match walk ik (ios.map fun o => .sh o.d) with
      | some xs => frGo (fun x ρ2 => match bindTg tg x ρ2 with
          | some ρ3 => evSs C b ρ3
          | none => none) xs ρ1
      | none => none
    | none => none
  | .ret e, ρ => match ev C e ρ with
    | some (o, ρ1) => some (.rt o ρ1)
    | none => none
  | .pass, ρ => some (.nx ρ)
  | .brk, ρ => some (.bk ρ)
  | .cont, ρ => some (.ct ρ)
  | .raise, _ => none
  | .augs i e v, ρ => match rdO ρ (.sl i) with
    | some (.ol _) => match evOs C [e] ρ with
      | some (xs, ρ1) => match rdOs ρ1 xs, rdO ρ1 (.sl i) with
        | some [.sh (.int k)], some (.ol os) => if 0 ≤ k ∧ k < os.length then match os[k.toNat]? with
            | some (.sh (.int a)) => match ev C v ρ1 with
              | some (.sh (.int b), ρ2) => match rdO ρ2 (.sl i) with
                | some (.ol os2) => match ixN os2.length k with
                  | some j => some (.nx (ρ2.set i (some (.ol (os2.set j (.sh (.int (a + b))))))))
                  | none => none
                | _ => none
              | _ => none
            | _ => none
          else none
        | _, _ => none
      | none => none
    | _ => none
noncomputable def evSs (C : Cal) : List S → Env → Option Out
  | [], ρ => some (.nx ρ)
  | s :: ss, ρ => match evS C s ρ with
    | some (.nx ρ1) => evSs C ss ρ1
    | r => r
end

/-! ### defs -/
structure Fd where
  np : Nat
  ns : Nat
  /-- the parameters whose slots get other values within -/
  asgd : List Nat
  body : List S
def heldAll : Nat → List Nat → List O → Env → Option (List O)
  | _, _, [], _ => some []
  | i, as, o :: os, ρ => match heldAll (i + 1) as os ρ with
    | none => none
    | some r => if as.contains i then some (.sh o.d :: r) else match ρ[i]? with
      | some (some o2) => some (o2 :: r)
      | _ => none
def startAll : Nat → List Nat → List O → Env
  | _, _, [] => []
  | i, as, o :: os => (if as.contains i then some (.sh o.d) else some o) :: startAll (i + 1) as os
/-- calls, k deep -/
noncomputable def runF (P : List Fd) : Nat → Cal
  | 0 => fun _ _ => none
  | k + 1 => fun f os => match P[f]? with
    | none => none
    | some fd => if os.length = fd.np then
        match evSs (runF P k) fd.body (startAll 0 fd.asgd os ++ List.replicate (fd.ns - fd.np) none) with
        | some (.rt o ρ) => (heldAll 0 fd.asgd os ρ).map fun os2 => (o, os2)
        | some (.nx ρ) => (heldAll 0 fd.asgd os ρ).map fun os2 => (.sh .none, os2)
        | _ => none
      else none
end Qv
end
section
set_option Elab.async false
set_option linter.all false
set_option maxRecDepth 100000
/-! Q3: slots and stack; readings of terms. -/
namespace Qv
open PySem PySem.Spec PyProof.Rows L2

def live : Env → L2.St → List En
  | some o :: ρ, some v :: σ => (some o, v) :: live ρ σ
  | _ :: ρ, _ :: σ => live ρ σ
  | _, _ => []
def Cov : Env → L2.St → Prop
  | [], [] => True
  | some _ :: ρ, some _ :: σ => Cov ρ σ
  | some _ :: _, none :: _ => False
  | none :: ρ, _ :: σ => Cov ρ σ
  | _, _ => False

theorem Cov.len : ∀ {ρ : Env} {σ : L2.St}, Cov ρ σ → ρ.length = σ.length
  | [], [], _ => rfl
  | some _ :: ρ, some _ :: σ, h => by
    rw [List.length_cons, List.length_cons, Cov.len (ρ := ρ) (σ := σ) h]
  | some _ :: _, none :: _, h => h.elim
  | none :: ρ, _ :: σ, h => by
    rw [List.length_cons, List.length_cons, Cov.len (ρ := ρ) (σ := σ) h]
  | [], _ :: _, h => h.elim
  | some _ :: _, [], h => h.elim
  | none :: _, [], h => h.elim
theorem Cov.take : ∀ {ρ : Env} {σ : L2.St} {i : Nat} {o : O}, Cov ρ σ → ρ[i]? = some (some o) →
    ∃ v, σ[i]? = some (some v) ∧ (live ρ σ).Perm ((some o, v) :: live (ρ.set i none) σ) ∧ Cov (ρ.set i none) σ
  | [], [], _, _, _, h => by simp at h
  | some o' :: ρ, some v :: σ, 0, o, c, h => by
    simp at h
    subst h
    exact ⟨v, rfl, .refl _, c⟩
  | some o' :: ρ, some v :: σ, i + 1, o, c, h => by
    obtain ⟨w, e, p, q⟩ := Cov.take (ρ := ρ) (σ := σ) (i := i) (o := o) c (by simpa using h)
    exact ⟨w, by simpa using e, (p.cons _).trans (.swap ..), q⟩
  | some _ :: _, none :: _, _, _, c, _ => c.elim
  | none :: ρ, x :: σ, 0, o, c, h => by simp at h
  | none :: ρ, x :: σ, i + 1, o, c, h => by
    obtain ⟨w, e, p, q⟩ := Cov.take (ρ := ρ) (σ := σ) (i := i) (o := o) c (by simpa using h)
    refine ⟨w, by simpa using e, ?_, ?_⟩
    · cases x <;> exact p
    · exact q
  | [], _ :: _, _, _, h, _ => h.elim
  | some _ :: _, [], _, _, h, _ => h.elim
  | none :: _, [], _, _, h, _ => h.elim
theorem Cov.give : ∀ {ρ : Env} {σ : L2.St} {i : Nat} {o : O} {v : V}, Cov ρ σ → ρ[i]? = some none → σ[i]? = some (some v) →
    (live (ρ.set i (some o)) σ).Perm ((some o, v) :: live ρ σ) ∧ Cov (ρ.set i (some o)) σ
  | [], [], _, _, _, _, h, _ => by simp at h
  | some o' :: ρ, some w :: σ, 0, o, v, c, h, _ => by simp at h
  | some o' :: ρ, some w :: σ, i + 1, o, v, c, h, g => by
    obtain ⟨p, q⟩ := Cov.give (ρ := ρ) (σ := σ) (i := i) (o := o) (v := v) c (by simpa using h) (by simpa using g)
    exact ⟨(p.cons _).trans (.swap ..), q⟩
  | some _ :: _, none :: _, _, _, _, c, _, _ => c.elim
  | none :: ρ, x :: σ, 0, o, v, c, h, g => by
    simp at g
    subst g
    exact ⟨.refl _, c⟩
  | none :: ρ, x :: σ, i + 1, o, v, c, h, g => by
    obtain ⟨p, q⟩ := Cov.give (ρ := ρ) (σ := σ) (i := i) (o := o) (v := v) c (by simpa using h) (by simpa using g)
    refine ⟨?_, q⟩
    cases x <;> exact p
  | [], _ :: _, _, _, _, h, _, _ => h.elim
  | some _ :: _, [], _, _, _, h, _, _ => h.elim
  | none :: _, [], _, _, _, h, _, _ => h.elim
theorem Cov.other : ∀ {ρ : Env} {σ : L2.St} {i : Nat} {x : Option V}, Cov ρ σ → ρ[i]? = some none → live ρ (σ.set i x) = live ρ σ ∧ Cov ρ (σ.set i x)
  | [], [], _, _, _, h => by simp at h
  | some o' :: ρ, some w :: σ, 0, _, c, h => by simp at h
  | some o' :: ρ, some w :: σ, i + 1, x, c, h => by
    obtain ⟨p, q⟩ := Cov.other (ρ := ρ) (σ := σ) (i := i) (x := x) c (by simpa using h)
    refine ⟨?_, q⟩
    show (some o', w) :: live ρ (σ.set i x) = _
    rw [p]
    rfl
  | some _ :: _, none :: _, _, _, c, _ => c.elim
  | none :: ρ, y :: σ, 0, x, c, h => by
    refine ⟨?_, c⟩
    cases x <;> cases y <;> rfl
  | none :: ρ, y :: σ, i + 1, x, c, h => by
    obtain ⟨p, q⟩ := Cov.other (ρ := ρ) (σ := σ) (i := i) (x := x) c (by simpa using h)
    refine ⟨?_, q⟩
    show live (none :: ρ) (y :: σ.set i x) = _
    cases y <;> exact p
  | [], _ :: _, _, _, h, _ => h.elim
  | some _ :: _, [], _, _, h, _ => h.elim
  | none :: _, [], _, _, h, _ => h.elim

/-- the stack M and the slots, held in H -/
def Ws (K : Frag) (H : Hp) (M : List En) (ρ : Env) (σ : L2.St) : Prop := Cov ρ σ ∧ Wd K H (M ++ live ρ σ)
section
variable {K : Frag} {H : Hp} {M M' : List En} {ρ : Env} {σ : L2.St} {i : Nat} {o : O} {v : V}
theorem set_set {ρ : Env} {i : Nat} {x y : Option O} : (ρ.set i x).set i y = ρ.set i y := List.set_set ..
theorem set_same {ρ : Env} {i : Nat} {x : Option O} (h : ρ[i]? = some x) : ρ.set i x = ρ := by
  apply List.ext_getElem?
  intro j
  rw [List.getElem?_set]
  split
  · rename_i e
    subst e
    split
    · exact h.symm
    · rename_i hl
      rw [List.getElem?_eq_none (by omega)] at h
      cases h
  · rfl
theorem get_set {ρ : Env} {i : Nat} {x y : Option O} (h : ρ[i]? = some x) : (ρ.set i y)[i]? = some y := by
  have : i < ρ.length := by
    rcases Nat.lt_or_ge i ρ.length with l | l
    · exact l
    · rw [List.getElem?_eq_none l] at h
      cases h
  rw [List.getElem?_set_self this]
theorem Ws.take (h : Ws K H M ρ σ) (e : ρ[i]? = some (some o)) : ∃ v, σ[i]? = some (some v) ∧ Ws K H ((some o, v) :: M) (ρ.set i none) σ := by
  obtain ⟨c, w⟩ := h
  obtain ⟨v, e2, p, c2⟩ := c.take e
  exact ⟨v, e2, c2, w.perm ((p.append_left M).trans List.perm_middle)⟩
theorem Ws.give (h : Ws K H ((some o, v) :: M) ρ σ) (e : ρ[i]? = some none) (e2 : σ[i]? = some (some v)) : Ws K H M (ρ.set i (some o)) σ := by
  obtain ⟨c, w⟩ := h
  obtain ⟨p, c2⟩ := c.give (o := o) e e2
  exact ⟨c2, w.perm (List.perm_middle.symm.trans (p.symm.append_left M))⟩
theorem Ws.mono (h : Ws K H M ρ σ) (p : M.Perm M') : Ws K H M' ρ σ := ⟨h.1, h.2.perm (p.append_right _)⟩
theorem Ws.drop {e : En} (h : Ws K H (e :: M) ρ σ) : Ws K H M ρ σ := ⟨h.1, Wd.drop (e := e) h.2⟩
theorem Ws.dropL (T : List En) (h : Ws K H (T ++ M) ρ σ) : Ws K H M ρ σ := ⟨h.1, Wd.dropL T (by rw [← List.append_assoc]; exact h.2)⟩
/-- the slot forgotten -/
theorem Ws.forget1 (h : Ws K H M ρ σ) (i : Nat) : Ws K H M (ρ.set i none) σ := by
  cases e : ρ[i]? with
  | none =>
    rw [List.set_eq_of_length_le (List.getElem?_eq_none_iff.mp e)]
    exact h
  | some x =>
    cases x with
    | none =>
      rw [set_same e]
      exact h
    | some o =>
      obtain ⟨v, _, q⟩ := h.take e
      exact q.drop
theorem Ws.forgetL (h : Ws K H M ρ σ) : ∀ vs : List Nat, Ws K H M (forget ρ vs) σ
  | [] => h
  | v :: vs => (Ws.forgetL h vs).forget1 v
theorem Ws.wiped (h : Ws K H M ρ σ) : ∀ vs : List Nat, Ws K H M (forget ρ vs) (wipe σ vs)
  | [] => h
  | v :: vs => by
    have q := (Ws.wiped h vs).forget1 v
    show Ws K H M ((forget ρ vs).set v none) ((wipe σ vs).set v none)
    by_cases hv : v < (forget ρ vs).length
    · have e : ((forget ρ vs).set v none)[v]? = some none := List.getElem?_set_self hv
      obtain ⟨a, b⟩ := q.1.other (x := none) e
      refine ⟨b, ?_⟩
      rw [a]
      exact q.2
    · have hl := (Ws.wiped h vs).1.len
      rw [List.set_eq_of_length_le (by omega)] at q ⊢
      rw [List.set_eq_of_length_le (by omega)]
      exact q
/-- the slot gets the top of the stack -/
theorem Ws.store (h : Ws K H ((some o, v) :: M) ρ σ) (hi : i < ρ.length) : Ws K H M (ρ.set i (some o)) (σ.set i (some v)) := by
  have q := h.forget1 i
  have e : (ρ.set i none)[i]? = some none := List.getElem?_set_self hi
  obtain ⟨a, b⟩ := q.1.other (x := some v) e
  have q2 : Ws K H ((some o, v) :: M) (ρ.set i none) (σ.set i (some v)) := ⟨b, by rw [a]; exact q.2⟩
  have hl := h.1.len
  have q3 := q2.give e (List.getElem?_set_self (by omega))
  rw [set_set] at q3
  exact q3
theorem Ws.fz (h : Ws K H ((some o, v) :: M) ρ σ) : Ws K H ((some (.sh o.d), v) :: M) ρ σ := ⟨h.1, Wd.fz (L := M ++ live ρ σ) h.2⟩
theorem Ws.flat {d : PyData} (h : Ws K H M ρ σ) (q : ∀ G, Sh K G d v) : Ws K H ((some (.sh d), v) :: M) ρ σ := ⟨h.1, Wd.flat (L := M ++ live ρ σ) h.2 q⟩
theorem Ws.dup {d : PyData} (h : Ws K H ((some (.sh d), v) :: M) ρ σ) : Ws K H ((some (.sh d), v) :: (some (.sh d), v) :: M) ρ σ := ⟨h.1, Wd.dup (L := M ++ live ρ σ) h.2⟩
theorem Ws.name {ρ' : Env} (h : Ws K H M ρ σ) (e : rdV i ρ = some (o, ρ')) : ∃ v, σ[i]? = some (some v) ∧ Ws K H ((some o, v) :: M) ρ' σ := by
  unfold rdV at e
  split at e
  · rename_i d e1
    cases e
    obtain ⟨v, e2, q⟩ := h.take e1
    have q2 := Ws.give q.dup (get_set e1) e2
    rw [set_set, set_same e1] at q2
    exact ⟨v, e2, q2⟩
  · rename_i o' _ e1
    cases e
    obtain ⟨v, e2, q⟩ := h.take e1
    have q2 := Ws.give q.fz.dup (get_set e1) e2
    rw [set_set] at q2
    exact ⟨v, e2, q2⟩
  · cases e
theorem Ws.moved {ρ' : Env} (h : Ws K H M ρ σ) (e : mvV i ρ = some (o, ρ')) : ∃ v, σ[i]? = some (some v) ∧ Ws K H ((some o, v) :: M) ρ' σ := by
  unfold mvV at e
  split at e
  · rename_i e1
    cases e
    exact h.take e1
  · cases e
end

/-! ### what operands show -/
def ShK (K : Frag) (G : Hp) : List (Key × PyData) → List (Key × V) → Prop
  | [], xs => xs = []
  | (k, d) :: r, xs => ∃ v t, xs = (k, v) :: t ∧ Sh K G d v ∧ ShK K G r t
def Fo (K : Frag) (G H : Hp) : O → V → Prop
  | .sh d, v => Sh K G d v
  | .ol os, v => ∃ a vs ds, v = .ref a ∧ H a = some (.lst vs) ∧ allSh os = some ds ∧ ShL K G ds vs
  | .ot os, v => ∃ a vs ds, v = .ref a ∧ H a = some (.tup vs) ∧ allSh os = some ds ∧ ShL K G ds vs
  | .od kvs, v => ∃ a xs kds, v = .ref a ∧ H a = some (.dK xs) ∧ allShK kvs = some kds ∧ ShK K G kds xs
def FoL (K : Frag) (G H : Hp) : List O → List V → Prop
  | [], vs => vs = []
  | o :: os, vs => ∃ v r, vs = v :: r ∧ Fo K G H o v ∧ FoL K G H os r
/-- what an operation leaves -/
def Pr (K : Frag) (G H : Hp) : O → V → Hp → Prop
  | .sh d, v, H' => ∃ G', Sub G G' ∧ Sub G' H' ∧ Sub H H' ∧ Sh K G' d v ∧ ∀ a u, H a = some u → G' a = G a
  | .ol os, v, H' => ∃ p vs ds, v = .ref p ∧ H p = none ∧ H' = upd H p (.lst vs) ∧ os = ds.map O.sh ∧ ShL K G ds vs
  | .ot _, _, _ => False
  | .od kvs, v, H' => ∃ p xs kds, v = .ref p ∧ H p = none ∧ H' = upd H p (.dK xs) ∧ kvs = kds.map (fun q : Key × PyData => (q.1, O.sh q.2)) ∧ ShK K G kds xs

section
variable {K : Frag} {G H : Hp} {M L : List En} {ρ : Env} {σ : L2.St} {i : Nat} {o : O} {v : V} {A : List Addr}
theorem OwL.flat : ∀ {os : List O} {vs : List V} {A : List Addr} {ds : List PyData}, OwL K G H os vs A → allSh os = some ds → ShL K G ds vs ∧ A = []
  | [], vs, A, ds, h, e => by
    simp only [OwL] at h
    simp only [allSh] at e
    cases e
    simp only [ShL]
    exact h
  | .sh d :: os, vs, A, ds, h, e => by
    simp only [OwL] at h
    obtain ⟨v, r, B, C, rfl, q1, q2, rfl⟩ := h
    simp only [Ow] at q1
    simp only [allSh, Option.map_eq_some_iff] at e
    obtain ⟨es, e1, rfl⟩ := e
    obtain ⟨q3, rfl⟩ := OwL.flat q2 e1
    simp only [ShL]
    exact ⟨⟨v, r, rfl, q1.2, q3⟩, by rw [q1.1]; rfl⟩
  | .ol _ :: _, _, _, _, _, e => by simp only [allSh] at e; cases e
  | .ot _ :: _, _, _, _, _, e => by simp only [allSh] at e; cases e
  | .od _ :: _, _, _, _, _, e => by simp only [allSh] at e; cases e
theorem OwD.flat : ∀ {os : List (Key × O)} {vs : List (Key × V)} {A : List Addr} {ds : List (Key × PyData)}, OwD K G H os vs A → allShK os = some ds → ShK K G ds vs
  | [], vs, A, ds, h, e => by
    simp only [OwD] at h
    simp only [allShK] at e
    cases e
    simp only [ShK]
    exact h.1
  | (k, .sh d) :: os, vs, A, ds, h, e => by
    simp only [OwD] at h
    obtain ⟨v, r, B, C, rfl, q1, q2, rfl⟩ := h
    simp only [Ow] at q1
    simp only [allShK, Option.map_eq_some_iff] at e
    obtain ⟨es, e1, rfl⟩ := e
    simp only [ShK]
    exact ⟨v, r, rfl, q1.2, OwD.flat q2 e1⟩
  | (_, .ol _) :: _, _, _, _, _, e => by simp only [allShK] at e; cases e
  | (_, .ot _) :: _, _, _, _, _, e => by simp only [allShK] at e; cases e
  | (_, .od _) :: _, _, _, _, _, e => by simp only [allShK] at e; cases e
theorem Ow.fo : ∀ {o : O} {v : V} {A : List Addr}, Ow K G H o v A → o.isFlat = true → Fo K G H o v
  | .sh d, v, A, h, _ => by
    simp only [Ow] at h
    exact h.2
  | .ol os, v, A, h, e => by
    simp only [Ow] at h
    obtain ⟨a, vs, B, rfl, q, r, rfl⟩ := h
    obtain ⟨ds, e⟩ := Option.isSome_iff_exists.mp (show (allSh os).isSome = true from e)
    exact ⟨a, vs, ds, rfl, q, e, (OwL.flat r e).1⟩
  | .ot os, v, A, h, e => by
    simp only [Ow] at h
    obtain ⟨a, vs, B, rfl, q, r, rfl⟩ := h
    obtain ⟨ds, e⟩ := Option.isSome_iff_exists.mp (show (allSh os).isSome = true from e)
    exact ⟨a, vs, ds, rfl, q, e, (OwL.flat r e).1⟩
  | .od kvs, v, A, h, e => by
    simp only [Ow] at h
    obtain ⟨a, xs, B, rfl, q, r, rfl⟩ := h
    obtain ⟨ds, e⟩ := Option.isSome_iff_exists.mp (show (allShK kvs).isSome = true from e)
    exact ⟨a, xs, ds, rfl, q, e, OwD.flat r e⟩
theorem PL.mem : ∀ {L : List En} {A : List Addr} {e : En}, PL K G H L A → e ∈ L → ∃ B, OwE K G H e B
  | f :: L, A, e, h, m => by
    obtain ⟨B, C, h1, h2, _⟩ := h
    rcases List.mem_cons.mp m with rfl | m
    · exact ⟨B, h1⟩
    · exact PL.mem h2 m
theorem allSh_map : ∀ ds : List PyData, allSh (ds.map O.sh) = some ds
  | [] => rfl
  | d :: ds => by simp only [List.map_cons, allSh, allSh_map ds, Option.map_some]
theorem OwL.of_sh : ∀ {ds : List PyData} {vs : List V}, ShL K G ds vs → OwL K G H (ds.map O.sh) vs []
  | [], vs, h => by
    simp only [ShL] at h
    simp only [List.map_nil, OwL]
    exact ⟨h, trivial⟩
  | d :: ds, vs, h => by
    simp only [ShL] at h
    obtain ⟨v, r, rfl, q, t⟩ := h
    simp only [List.map_cons, OwL, Ow]
    exact ⟨v, r, [], [], rfl, ⟨rfl, q⟩, OwL.of_sh t, rfl⟩
theorem OwD.of_sh : ∀ {ds : List (Key × PyData)} {vs : List (Key × V)}, ShK K G ds vs → OwD K G H (ds.map fun q : Key × PyData => (q.1, O.sh q.2)) vs []
  | [], vs, h => by
    simp only [ShK] at h
    simp only [List.map_nil, OwD]
    exact ⟨h, trivial⟩
  | (k, d) :: ds, vs, h => by
    simp only [ShK] at h
    obtain ⟨v, r, rfl, q, t⟩ := h
    simp only [List.map_cons, OwD, Ow]
    exact ⟨v, r, [], [], rfl, ⟨rfl, q⟩, OwD.of_sh t, rfl⟩
theorem Pr.close {H' : Hp} (s : Sub G H) (q : PL K G H L A) (n : A.Nodup) (f : ∀ a ∈ A, G a = none) : ∀ {o : O}, Pr K G H o v H' → Wd K H' ((some o, v) :: L)
  | .sh d, h => by
    obtain ⟨G', h1, h2, h3, h4, h5⟩ := h
    have there := PL.there L A q
    refine ⟨G', A, h2, ⟨[], A, ?_, PL.mono h1 L A (fun a ha => ?_) q, rfl⟩, n, fun a ha => ?_⟩
    · simp only [OwE, Ow]
      exact ⟨trivial, h4⟩
    · obtain ⟨u, hu⟩ := there a ha
      rw [hu]
      exact h3 a u hu
    · obtain ⟨u, hu⟩ := there a ha
      rw [h5 a u hu]
      exact f a ha
  | .ol os, h => by
    obtain ⟨p, vs, ds, rfl, hp, rfl, rfl, hs⟩ := h
    have hA : ∀ a ∈ A, a ≠ p := fun a ha e => by
      obtain ⟨w, hw⟩ := PL.there L A q a ha
      rw [e, hp] at hw
      cases hw
    have hG : G p = none := by
      cases e : G p with
      | none => rfl
      | some w =>
        have := s p w e
        rw [hp] at this
        cases this
    refine ⟨G, p :: A, s.upd hG, ⟨[p], A, ?_, PL.mono (Sub.refl G) L A (fun a ha => upd_ne (hA a ha)) q, rfl⟩, List.nodup_cons.mpr ⟨fun hm => hA p hm rfl, n⟩, fun a ha => ?_⟩
    · simp only [OwE, Ow]
      exact ⟨p, vs, [], rfl, upd_same, OwL.of_sh hs, rfl⟩
    · rcases List.mem_cons.mp ha with rfl | ha
      · exact hG
      · exact f a ha
  | .ot _, h => h.elim
  | .od kvs, h => by
    obtain ⟨p, vs, ds, rfl, hp, rfl, rfl, hs⟩ := h
    have hA : ∀ a ∈ A, a ≠ p := fun a ha e => by
      obtain ⟨w, hw⟩ := PL.there L A q a ha
      rw [e, hp] at hw
      cases hw
    have hG : G p = none := by
      cases e : G p with
      | none => rfl
      | some w =>
        have := s p w e
        rw [hp] at this
        cases this
    refine ⟨G, p :: A, s.upd hG, ⟨[p], A, ?_, PL.mono (Sub.refl G) L A (fun a ha => upd_ne (hA a ha)) q, rfl⟩, List.nodup_cons.mpr ⟨fun hm => hA p hm rfl, n⟩, fun a ha => ?_⟩
    · simp only [OwE, Ow]
      exact ⟨p, vs, [], rfl, upd_same, OwD.of_sh hs, rfl⟩
    · rcases List.mem_cons.mp ha with rfl | ha
      · exact hG
      · exact f a ha
/-- the ways a plain result is left -/
theorem Pr.same {d : PyData} (s : Sub G H) (h : Sh K G d v) : Pr K G H (.sh d) v H := ⟨G, .refl G, s, .refl H, h, fun _ _ _ => rfl⟩
theorem Pr.tup {ds : List PyData} {vs : List V} {p : Addr} (s : Sub G H) (hp : H p = none) (h : ShL K G ds vs) : Pr K G H (.sh (.tuple ds)) (.ref p) (upd H p (.tup vs)) := by
  have hG : G p = none := by
    cases e : G p with
    | none => rfl
    | some w =>
      have := s p w e
      rw [hp] at this
      cases this
  have s1 : Sub G (upd G p (.tup vs)) := (Sub.refl G).upd hG
  refine ⟨upd G p (.tup vs), s1, fun a u h => ?_, (Sub.refl H).upd hp, ?_, fun a u h => upd_ne fun e => ?_⟩
  · by_cases e : a = p
    · rw [e] at h ⊢
      rw [upd_same] at h ⊢
      exact h
    · rw [upd_ne e] at h ⊢
      exact s a u h
  · simp only [Sh]
    exact ⟨p, vs, rfl, .of upd_same, ShL.mono s1 ds vs h⟩
  · rw [e, hp] at h
    cases h
theorem Pr.lst {ds : List PyData} {vs : List V} {p : Addr} (hp : H p = none) (h : ShL K G ds vs) : Pr K G H (olOf ds) (.ref p) (upd H p (.lst vs)) := ⟨p, vs, ds, rfl, hp, rfl, rfl, h⟩
end

/-! ### operands on the stack -/
def Ats : List Opd → List V → L2.St → Prop
  | [], vs, _ => vs = []
  | .sl i :: xs, vs, σ => ∃ v r, vs = v :: r ∧ σ[i]? = some (some v) ∧ Ats xs r σ
  | .tv _ :: xs, vs, σ => ∃ v r, vs = v :: r ∧ Ats xs r σ
def pushes : List Opd → List V → List En → List En
  | .sl _ :: xs, _ :: vs, M => pushes xs vs M
  | .tv o :: xs, v :: vs, M => pushes xs vs ((some o, v) :: M)
  | _, _, M => M
theorem pushes_suffix : ∀ (xs : List Opd) (vs : List V) (M : List En), ∃ T, pushes xs vs M = T ++ M
  | [], _, M => ⟨[], by simp only [pushes, List.nil_append]⟩
  | .sl _ :: xs, [], M => ⟨[], by simp only [pushes, List.nil_append]⟩
  | .tv _ :: xs, [], M => ⟨[], by simp only [pushes, List.nil_append]⟩
  | .sl _ :: xs, _ :: vs, M => pushes_suffix xs vs M
  | .tv o :: xs, v :: vs, M => by
    obtain ⟨T, h⟩ := pushes_suffix xs vs ((some o, v) :: M)
    exact ⟨T ++ [(some o, v)], by rw [show pushes (.tv o :: xs) (v :: vs) M = pushes xs vs ((some o, v) :: M) from rfl, h, List.append_assoc]; rfl⟩
theorem pushes_mem : ∀ {xs : List Opd} {vs : List V} {M : List En} {e : En}, e ∈ M → e ∈ pushes xs vs M := fun {xs vs M e} h => by
  obtain ⟨T, q⟩ := pushes_suffix xs vs M
  rw [q]
  exact List.mem_append_right _ h
section
variable {K : Frag} {H : Hp} {ρ : Env} {σ : L2.St}
theorem Cov.mem (c : Cov ρ σ) {i : Nat} {o : O} {v : V} (e : ρ[i]? = some (some o)) (e2 : σ[i]? = some (some v)) : (some o, v) ∈ live ρ σ := by
  obtain ⟨w, e3, p, _⟩ := c.take e
  rw [e2] at e3
  cases e3
  exact p.mem_iff.mpr List.mem_cons_self
theorem op_fo {G : Hp} {A : List Addr} {L : List En} (c : Cov ρ σ) : ∀ {xs : List Opd} {vs : List V} {M : List En} {os : List O}, (∀ e ∈ pushes xs vs M ++ live ρ σ, e ∈ L) → PL K G H L A → Ats xs vs σ → rdOs ρ xs = some os → FoL K G H os vs
  | [], vs, M, os, _, _, a, e => by
    simp only [rdOs] at e
    cases e
    exact a
  | .sl i :: xs, vs, M, os, m, q, a, e => by
    obtain ⟨v, r, rfl, e1, a⟩ := a
    simp only [rdOs] at e
    split at e
    · rename_i o os' h1 h2
      split at e
      · rename_i hf
        cases e
        have h3 : ρ[i]? = some (some o) := by
          simp only [rdO] at h1
          split at h1
          · rename_i o2 h4
            cases h1
            exact h4
          · cases h1
        obtain ⟨B, q2⟩ := PL.mem q (m _ (List.mem_append_right _ (c.mem h3 e1)))
        exact ⟨v, r, rfl, Ow.fo q2 hf, op_fo c (xs := xs) (vs := r) (M := M) m q a h2⟩
      · cases e
    · cases e
  | .tv o1 :: xs, vs, M, os, m, q, a, e => by
    obtain ⟨v, r, rfl, a⟩ := a
    simp only [rdOs] at e
    split at e
    · rename_i o os' h1 h2
      split at e
      · rename_i hf
        cases e
        simp only [rdO] at h1
        cases h1
        obtain ⟨B, q2⟩ := PL.mem q (m _ (List.mem_append_left _ (pushes_mem (xs := xs) (vs := r) List.mem_cons_self)))
        exact ⟨v, r, rfl, Ow.fo q2 hf, op_fo c (xs := xs) (vs := r) (M := (some o1, v) :: M) m q a h2⟩
      · cases e
    · cases e
/-- operands at an operation -/
theorem op_fin {xs : List Opd} {vs : List V} {M : List En} {os : List O} (h : Ws K H (pushes xs vs M) ρ σ) (a : Ats xs vs σ) (e : rdOs ρ xs = some os) :
    ∃ G, Sub G H ∧ FoL K G H os vs ∧ (∀ o v H', Pr K G H o v H' → Ws K H' ((some o, v) :: M) ρ σ) := by
  obtain ⟨c, G, A, s, q, n, f⟩ := h
  have hf := op_fo c (L := pushes xs vs M ++ live ρ σ) (fun _ z => z) q a e
  refine ⟨G, s, hf, fun o v H' p => ⟨c, ?_⟩⟩
  obtain ⟨T, hT⟩ := pushes_suffix xs vs M
  rw [hT, List.append_assoc] at q
  obtain ⟨B, C, _, q2, rfl⟩ := PL.split _ _ _ q
  exact Pr.close s q2 (List.nodup_append.mp n).2.1 (fun a ha => f a (List.mem_append_right _ ha)) p
end

/-! ### readings -/
def tS (K : Frag) (C : Cal) (τ : T) : TE := fun σ H Q => ∃ ρ o ρ' M, ev C τ ρ = some (o, ρ') ∧ Ws K H M ρ σ ∧ ∀ v H', Ws K H' ((some o, v) :: M) ρ' σ → Q v H'
def tT (K : Frag) (C : Cal) (τ : T) : TT := fun σ H Q => ∃ ρ b ρ' M, ev C τ ρ = some (.sh (.bool b), ρ') ∧ Ws K H M ρ σ ∧ ∀ H', Ws K H' M ρ' σ → Q b H'
/-- an operand -/
def tO (K : Frag) (C : Cal) (τ : T) : TE := match isNm τ with
  | some i => tVar i
  | none => tS K C τ
def tOs (K : Frag) (C : Cal) : List T → TA
  | [] => tNil
  | τ :: τs => tCons (tO K C τ) (tOs K C τs)
def tSs (K : Frag) (C : Cal) : List T → TA
  | [] => tNil
  | τ :: τs => tCons (tS K C τ) (tSs K C τs)
section
variable {X : Cx} {C : Cal}
theorem PE.imp {e : Expr} {t t' : TE} (h : PE X e t) (w : ∀ σ H Q, t' σ H Q → t σ H Q) : PE X e t' := ⟨fun pins s σ H Q I q => h.run pins s σ H Q I (w σ H Q q)⟩
theorem PT.imp {e : Expr} {t t' : TT} (h : PT X e t) (w : ∀ σ H Q, t' σ H Q → t σ H Q) : PT X e t' := ⟨fun pins s σ H Q I q => h.run pins s σ H Q I (w σ H Q q)⟩
theorem PS.imp {e : Stmt} {t t' : TS} (h : PS X e t) (w : ∀ D σ H, t' D σ H → t D σ H) : PS X e t' := ⟨fun pins s σ H Q I q => h.run pins s σ H Q I (w Q σ H q)⟩
theorem PSs.imp {e : List Stmt} {t t' : TS} (h : PSs X e t) (w : ∀ D σ H, t' D σ H → t D σ H) : PSs X e t' := ⟨fun pins s σ H Q I q => h.run pins s σ H Q I (w Q σ H q)⟩
theorem tO_nm {K : Frag} {i : Nat} : tO K C (.nm i) = tVar i := rfl
theorem tO_tS {K : Frag} {τ : T} (h : isNm τ = none) : tO K C τ = tS K C τ := by
  unfold tO
  rw [h]
theorem isNm_some {τ : T} {i : Nat} (h : isNm τ = some i) : τ = .nm i := by
  cases τ <;> simp [isNm] at h
  rw [h]
/-- the operands one behind another -/
theorem opds {K : Frag} {σ : L2.St} : ∀ {τs : List T} {ρ ρ' : Env} {xs : List Opd} {H : Hp} {M : List En} {R : List V → Hp → Prop}, evOs C τs ρ = some (xs, ρ') → Ws K H M ρ σ →
    (∀ vs H', Ats xs vs σ → Ws K H' (pushes xs vs M) ρ' σ → R vs H') → tOs K C τs σ H R
  | [], ρ, ρ', xs, H, M, R, e, w, q => by
    simp only [evOs] at e
    cases e
    exact q [] H rfl w
  | τ :: τs, ρ, ρ', xs, H, M, R, e, w, q => by
    simp only [evOs] at e
    split at e
    · rename_i i hi
      have hi := isNm_some hi
      subst hi
      split at e
      · rename_i o ho
        split at e
        · rename_i xs' ρ2 h2
          cases e
          show tVar i σ H fun x H1 => tOs K C τs σ H1 fun vs H2 => R (x :: vs) H2
          have h3 : ρ[i]? = some (some o) := by
            simp only [rdO] at ho
            split at ho
            · rename_i o2 h4
              cases ho
              exact h4
            · cases ho
          obtain ⟨v, hv, _⟩ := w.1.take h3
          exact ⟨v, hv, opds h2 w fun vs H' a w' => q (v :: vs) H' ⟨v, vs, rfl, hv, a⟩ w'⟩
        · cases e
      · cases e
    · rename_i hi
      split at e
      · rename_i o ρ1 h1
        split at e
        · rename_i xs' ρ2 h2
          cases e
          show tO K C τ σ H fun x H1 => tOs K C τs σ H1 fun vs H2 => R (x :: vs) H2
          rw [tO_tS hi]
          exact ⟨ρ, o, ρ1, M, h1, w, fun v H1 w1 => opds h2 w1 fun vs H' a w' => q (v :: vs) H' ⟨v, vs, rfl, a⟩ w'⟩
        · cases e
      · cases e
/-- an operation's soundness -/
def PrimOk (K : Frag) (r : List V → Hp → VK → Prop) (p : List O → Option O) : Prop := ∀ os o, p os = some o → ∀ G H vs Q, Sub G H → FoL K G H os vs → (∀ v H', Pr K G H o v H' → Q v H') → r vs H Q
theorem op_sim {K : Frag} {k : OpK} {τs : List T} {r : List V → Hp → VK → Prop} (p : PrimOk K r (prim k)) (σ : L2.St) (H : Hp) (Q : VK) (h : tS K C (.op k τs) σ H Q) : tOs K C τs σ H fun vs H1 => r vs H1 Q := by
  obtain ⟨ρ, o, ρ', M, e, w, q⟩ := h
  simp only [ev] at e
  split at e
  · rename_i xs ρ1 h1
    split at e
    · rename_i os h2
      split at e
      · rename_i o' h3
        cases e
        refine opds h1 w fun vs H' a w' => ?_
        obtain ⟨G, s, f, cl⟩ := op_fin w' a h2
        exact p os _ h3 G H' vs Q s f fun v H2 z => q v H2 (cl _ v H2 z)
      · cases e
    · cases e
  · cases e
end
end Qv
end
section
set_option Elab.async false
set_option linter.all false
set_option maxRecDepth 100000
set_option maxHeartbeats 1000000
/-! Q4: each operation keeps what its rule asks. -/
namespace Qv
open PySem PySem.Spec PyProof.Rows L2

def r1L (r : V → Hp → VK → Prop) : List V → Hp → VK → Prop := fun vs H Q => match vs with
  | [x] => r x H Q
  | _ => False
def r2L (r : R2) : List V → Hp → VK → Prop := fun vs H Q => match vs with
  | [x, y] => r x y H Q
  | _ => False

section
variable {K : Frag} {G H : Hp}
theorem FoL.zero {vs : List V} (h : FoL K G H [] vs) : vs = [] := h
theorem FoL.one {a : O} {vs : List V} (h : FoL K G H [a] vs) : ∃ x, vs = [x] ∧ Fo K G H a x := by
  obtain ⟨x, r, rfl, h1, rfl⟩ := h
  exact ⟨x, rfl, h1⟩
theorem FoL.two {a b : O} {vs : List V} (h : FoL K G H [a, b] vs) : ∃ x y, vs = [x, y] ∧ Fo K G H a x ∧ Fo K G H b y := by
  obtain ⟨x, r, rfl, h1, h2⟩ := h
  obtain ⟨y, rfl, h3⟩ := FoL.one h2
  exact ⟨x, y, rfl, h1, h3⟩
theorem FoL.three {a b c : O} {vs : List V} (h : FoL K G H [a, b, c] vs) : ∃ x y z, vs = [x, y, z] ∧ Fo K G H a x ∧ Fo K G H b y ∧ Fo K G H c z := by
  obtain ⟨x, r, rfl, h1, h2⟩ := h
  obtain ⟨y, z, rfl, h3, h4⟩ := FoL.two h2
  exact ⟨x, y, z, rfl, h1, h3, h4⟩
theorem Fo.int {i : Int} {v : V} (h : Fo K G H (.sh (.int i)) v) : v = .int i := by simpa only [Fo, Sh] using h
theorem Fo.str {i : Str} {v : V} (h : Fo K G H (.sh (.str i)) v) : v = .str i := by simpa only [Fo, Sh] using h
theorem Fo.bool {i : Bool} {v : V} (h : Fo K G H (.sh (.bool i)) v) : v = .bl i := by simpa only [Fo, Sh] using h
theorem Fo.none {v : V} (h : Fo K G H (.sh .none) v) : v = .non := by simpa only [Fo, Sh] using h
theorem prI {i : Int} (s : Sub G H) : Pr K G H (shI i) (.int i) H := Pr.same s (by simp only [Sh])
theorem prB {i : Bool} (s : Sub G H) : Pr K G H (shB i) (.bl i) H := Pr.same s (by simp only [Sh])
theorem prS {i : Str} (s : Sub G H) : Pr K G H (shS i) (.str i) H := Pr.same s (by simp only [Sh])
theorem prN (s : Sub G H) : Pr K G H (.sh .none) .non H := Pr.same s (by simp only [Sh])
theorem gd_some {α : Type} {c : Bool} {x y : α} (h : gd c x = some y) : c = true ∧ x = y := by
  unfold gd at h
  split at h
  · rename_i hc
    exact ⟨hc, Option.some.inj h⟩
  · cases h
theorem allSh_dL : ∀ {os : List O} {ds : List PyData}, allSh os = some ds → O.dL os = ds
  | [], ds, h => by
    simp only [allSh] at h
    cases h
    simp only [O.dL]
  | .sh d :: os, ds, h => by
    simp only [allSh, Option.map_eq_some_iff] at h
    obtain ⟨es, h, rfl⟩ := h
    simp only [O.dL, O.d, allSh_dL h]
  | .ol _ :: _, _, h => by simp only [allSh] at h; cases h
  | .ot _ :: _, _, h => by simp only [allSh] at h; cases h
  | .od _ :: _, _, h => by simp only [allSh] at h; cases h
theorem Fo.list {o : O} {ds : List PyData} {v : V} (e : o.list? = some ds) (s : Sub G H) (h : Fo K G H o v) : ∃ a vs, v = .ref a ∧ H a = some (.lst vs) ∧ ShL K G ds vs := by
  cases o with
  | sh d =>
    cases d with
    | list es =>
      simp only [O.list?] at e
      cases e
      simp only [Fo, Sh] at h
      obtain ⟨a, vs, rfl, h1, h2⟩ := h
      exact ⟨a, vs, rfl, s _ _ h1, h2⟩
    | _ => simp only [O.list?] at e; cases e
  | ol os =>
    simp only [O.list?] at e
    obtain ⟨a, vs, ds2, rfl, h1, h2, h3⟩ := h
    rw [e] at h2
    cases h2
    exact ⟨a, vs, rfl, h1, h3⟩
  | ot os => simp only [O.list?] at e; cases e
  | od os => simp only [O.list?] at e; cases e
theorem Fo.tup {o : O} {ds : List PyData} {v : V} (e : o.tup? = some ds) (s : Sub G H) (h : Fo K G H o v) : ∃ a vs, v = .ref a ∧ SqT K H a vs ∧ ShL K G ds vs := by
  cases o with
  | sh d =>
    cases d with
    | tuple es =>
      simp only [O.tup?] at e
      cases e
      simp only [Fo, Sh] at h
      obtain ⟨a, vs, rfl, h1, h2⟩ := h
      exact ⟨a, vs, rfl, s.sqT h1, h2⟩
    | _ => simp only [O.tup?] at e; cases e
  | ot os =>
    simp only [O.tup?] at e
    obtain ⟨a, vs, ds2, rfl, h1, h2, h3⟩ := h
    rw [e] at h2
    cases h2
    exact ⟨a, vs, rfl, .of h1, h3⟩
  | ol os => simp only [O.tup?] at e; cases e
  | od os => simp only [O.tup?] at e; cases e
theorem Fo.seq {o : O} {ds : List PyData} {v : V} (e : o.seq? = some ds) (s : Sub G H) (h : Fo K G H o v) : ∃ a vs, v = .ref a ∧ (SqL K H a vs ∨ SqT K H a vs) ∧ ShL K G ds vs := by
  unfold O.seq? at e
  split at e
  · rename_i ds2 e2
    cases e
    obtain ⟨a, vs, rfl, h1, h2⟩ := Fo.list e2 s h
    exact ⟨a, vs, rfl, .inl (.of h1), h2⟩
  · obtain ⟨a, vs, rfl, h1, h2⟩ := Fo.tup e s h
    exact ⟨a, vs, rfl, .inr h1, h2⟩
theorem ShL.nil_iff {ds : List PyData} {vs : List V} (h : ShL K G ds vs) : ds.isEmpty = vs.isEmpty := by
  have := h.len
  cases ds <;> cases vs <;> simp_all
theorem r2_i2 {f : Int → Int → Option O} {r : R2} (h : ∀ i j o, f i j = some o → ∀ G H Q, Sub G H → (∀ v H', Pr K G H o v H' → Q v H') → r (.int i) (.int j) H Q) : PrimOk K (r2L r) (i2 f) := by
  intro os o e G H vs Q s g q
  unfold i2 at e
  split at e
  · obtain ⟨x, y, rfl, h1, h2⟩ := g.two
    cases h1.int
    cases h2.int
    exact h _ _ _ e G H Q s q
  · cases e
theorem PrimOk.congr {r : List V → Hp → VK → Prop} {p p' : List O → Option O} (h : PrimOk K r p) (e : ∀ os, p' os = p os) : PrimOk K r p' := fun os o q => h os o ((e os).symm.trans q)

theorem r1_u1 {f : O → Option O} {r : V → Hp → VK → Prop} (h : ∀ a o, f a = some o → ∀ G H x Q, Sub G H → Fo K G H a x → (∀ v H', Pr K G H o v H' → Q v H') → r x H Q) : PrimOk K (r1L r) (u1 f) := by
  intro os o e G H vs Q s g q
  unfold u1 at e
  split at e
  · obtain ⟨x, rfl, h1⟩ := g.one
    exact h _ _ e G H x Q s h1 q
  · cases e

/-! ### numbers -/
theorem p_sub : PrimOk K (r2L (rI0 fun i j => .int (i - j))) (prim .sub) :=
  r2_i2 fun i j o e G H Q s q => by
    cases e
    exact ⟨i, j, rfl, rfl, q _ _ (prI s)⟩
theorem p_fdiv : PrimOk K (r2L (rI CDivN fun i j => .int (i.fdiv j))) (prim .fdiv) :=
  r2_i2 fun i j o e G H Q s q => by
    obtain ⟨c, rfl⟩ := gd_some e
    have c : j ≠ 0 ∧ j.natAbs < 1073741824 := of_decide_eq_true c
    exact ⟨i, j, rfl, rfl, c, q _ _ (prI s)⟩
theorem p_mod : PrimOk K (r2L (rI (fun _ j => j ≠ 0) fun i j => .int (i.fmod j))) (prim .mod) :=
  r2_i2 fun i j o e G H Q s q => by
    obtain ⟨c, rfl⟩ := gd_some e
    exact ⟨i, j, rfl, rfl, of_decide_eq_true c, q _ _ (prI s)⟩
theorem p_pow : PrimOk K (r2L (rI CPow fun i j => .int (i ^ j.toNat))) (prim .pow) :=
  r2_i2 fun i j o e G H Q s q => by
    obtain ⟨c, rfl⟩ := gd_some e
    have c : 0 ≤ j ∧ j ≤ 1000000 ∧ i.natAbs < 2 ^ 64 := of_decide_eq_true c
    exact ⟨i, j, rfl, rfl, c, q _ _ (prI s)⟩
theorem p_neg : PrimOk K (r1L (rU fun i => .int (-i))) (prim .neg) :=
  r1_u1 fun a o e G H x Q s h q => by
    unfold pNeg at e
    split at e
    · rename_i i
      cases e
      cases h.int
      exact ⟨i, rfl, q _ _ (prI s)⟩
    · cases e
def rAddI : R2 := rI0 fun i j => .int (i + j)
def rAddS : R2 := fun x y H Q => ∃ i j, x = .str i ∧ y = .str j ∧ i.length + j.length ≤ sizeLine ∧ Q (.str (i ++ j)) H
def rAdd (K : Frag) : R2 := fun x y H Q => rAddI x y H Q ∨ rAddS x y H Q ∨ rCat x y H Q ∨ rCatA K x y H Q
theorem OpR.or {X : Cx} {f : Value → Value → Sem Value} {r r' : R2} (h : OpR X f r) (h' : OpR X f r') : OpR X f fun x y H Q => r x y H Q ∨ r' x y H Q := by
  intro pins s σ H x y v u Q I rx ry q
  rcases q with q | q
  · exact h pins s σ H x y v u Q I rx ry q
  · exact h' pins s σ H x y v u Q I rx ry q
theorem o_add {X : Cx} : OpR X (binaryOp .Add) (rAdd X.K) := OpR.or op_add (OpR.or op_add_str (OpR.or op_cat op_catA))
theorem p_add : PrimOk K (r2L (rAdd K)) (prim .add) := by
  intro os o e G H vs Q s g q
  change pAdd os = some o at e
  unfold pAdd at e
  split at e
  · cases e
    obtain ⟨x, y, rfl, h1, h2⟩ := g.two
    cases h1.int
    cases h2.int
    exact .inl ⟨_, _, rfl, rfl, q _ _ (prI s)⟩
  · obtain ⟨c, rfl⟩ := gd_some e
    obtain ⟨x, y, rfl, h1, h2⟩ := g.two
    cases h1.str
    cases h2.str
    exact .inr (.inl ⟨_, _, rfl, rfl, of_decide_eq_true c, q _ _ (prS s)⟩)
  · obtain ⟨x, y, rfl, h1, h2⟩ := g.two
    split at e
    · rename_i xs ys e1 e2
      obtain ⟨c, rfl⟩ := gd_some e
      obtain ⟨a, vs, rfl, ha, sa⟩ := Fo.list e1 s h1
      obtain ⟨b, ws, rfl, hb, sb⟩ := Fo.list e2 s h2
      refine .inr (.inr (.inl ⟨a, b, vs, ws, rfl, rfl, ha, hb, ?_, fun p hp => q _ _ (Pr.lst hp (sa.append sb))⟩))
      rw [← sa.len, ← sb.len]
      exact of_decide_eq_true c
    · split at e
      · rename_i xs ys _ _ _
        obtain ⟨c, rfl⟩ := gd_some e
        obtain ⟨a, vs, rfl, ha, sa⟩ := Fo.tup (ds := xs) rfl s h1
        obtain ⟨b, ws, rfl, hb, sb⟩ := Fo.tup (ds := ys) rfl s h2
        refine .inr (.inr (.inr ⟨a, b, vs, ws, rfl, rfl, ha, hb, ?_, fun z => ?_, fun z z2 => ?_, fun z z2 p hp => q _ _ (Pr.tup s hp (sa.append sb))⟩))
        · rw [← sa.len, ← sb.len]
          exact of_decide_eq_true c
        · subst z
          have : xs = [] := List.eq_nil_of_length_eq_zero sa.len
          subst this
          exact q _ _ (Pr.same s h2)
        · subst z2
          have : ys = [] := List.eq_nil_of_length_eq_zero sb.len
          subst this
          rw [List.append_nil] at q
          exact q _ _ (Pr.same s h1)
      · cases e
  · cases e
theorem ShL.rep {ds : List PyData} {vs : List V} (h : ShL K G ds vs) : ∀ n : Nat, ShL K G (List.replicate n ds).flatten (List.replicate n vs).flatten
  | 0 => by simp only [List.replicate_zero, List.flatten_nil, ShL]
  | n + 1 => by
    simp only [List.replicate_succ, List.flatten_cons]
    exact h.append (ShL.rep h n)
def rMulS : R2 := fun x y H Q => ∃ z k, x = .str z ∧ y = .int k ∧ MulOk z k ∧ Q (.str (Txt.mul z k)) H
theorem o_mulS {X : Cx} : OpR X (binaryOp .Mult) rMulS := by
  intro pins s σ H x y v u Q I rx ry h
  obtain ⟨z, k, rfl, rfl, hk, q⟩ := h
  obtain ⟨t, rfl⟩ := rx
  obtain ⟨t', rfl⟩ := ry
  exact SB.mul hk fun t2 tk => ⟨.str _, H, I.tok _, ⟨t2, rfl⟩, q⟩
def rMul (K : Frag) : R2 := fun x y H Q => rI CMul (fun i j => .int (i * j)) x y H Q ∨ rRep x y H Q ∨ rRepT K x y H Q ∨ rMulS x y H Q
theorem o_mul {X : Cx} : OpR X (binaryOp .Mult) (rMul X.K) := OpR.or op_mul (OpR.or op_rep (OpR.or op_repT o_mulS))
theorem mulOk_of {x : Str} {j : Int} (h1 : 1 ≤ j) (h2 : j ≤ 100000) (h3 : x.length ≤ 10) : MulOk x j := by
  have e : x.length * j.toNat ≤ 1000000 := by
    have : x.length * j.toNat ≤ 10 * j.toNat := Nat.mul_le_mul_right _ h3
    omega
  refine ⟨by rw [decide_eq_false (by omega), decide_eq_false (by omega)]; rfl, fun _ _ => ?_, fun _ _ => ?_⟩
  · have d : (10 : Int) ≤ (2 ^ 63 - 1) / j := by
      rw [Int.le_ediv_iff_mul_le (by omega)]
      omega
    omega
  · unfold Builtin.Str.tooLong
    rw [sizeLine_eq]
    exact decide_eq_false (by omega)
theorem p_mul : PrimOk K (r2L (rMul K)) (prim .mul) := by
  intro os o e G H vs Q s g q
  change pMul os = some o at e
  unfold pMul at e
  split at e
  · obtain ⟨c, rfl⟩ := gd_some e
    obtain ⟨x, y, rfl, h1, h2⟩ := g.two
    cases h1.int
    cases h2.int
    have c := of_decide_eq_true c
    exact .inl ⟨_, _, rfl, rfl, c, q _ _ (prI s)⟩
  · obtain ⟨c, rfl⟩ := gd_some e
    obtain ⟨x, y, rfl, h1, h2⟩ := g.two
    cases h1.str
    cases h2.int
    have c := of_decide_eq_true c
    exact .inr (.inr (.inr ⟨_, _, rfl, rfl, mulOk_of c.1 c.2.1 c.2.2, q _ _ (prS s)⟩))
  · rename_i xs j
    obtain ⟨c, rfl⟩ := gd_some e
    obtain ⟨x, y, rfl, h1, h2⟩ := g.two
    cases h2.int
    rw [Bool.and_eq_true, Bool.not_eq_true'] at c
    have c2 := of_decide_eq_true c.2
    obtain ⟨a, vs, rfl, ha, sa⟩ := Fo.tup (ds := xs) rfl s h1
    have l := sa.len
    refine .inr (.inr (.inl ⟨a, j, vs, rfl, rfl, ha, fun e => ?_, c2.1, c2.2.1, by rw [← l]; exact c2.2.2, fun p hp => q _ _ (Pr.tup s hp (sa.rep _))⟩))
    subst e
    have : xs = [] := List.eq_nil_of_length_eq_zero l
    subst this
    exact absurd c.1 (by decide)
  · rename_i a j _ _ _
    obtain ⟨x, y, rfl, h1, h2⟩ := g.two
    cases h2.int
    split at e
    · rename_i xs e1
      obtain ⟨c, rfl⟩ := gd_some e
      have c := of_decide_eq_true c
      obtain ⟨a, vs, rfl, ha, sa⟩ := Fo.list e1 s h1
      refine .inr (.inl ⟨a, j, vs, rfl, rfl, ha, c.1, c.2.1, ?_, fun p hp => q _ _ (Pr.lst hp (sa.rep _))⟩)
      rw [← sa.len]
      exact c.2.2
    · cases e
  · cases e
theorem p_max : PrimOk K (fun vs H Q => ∃ i j : Int, vs = [.int i, .int j] ∧ Q (.int (if j > i then j else i)) H) (prim .max2) := by
  intro os o e G H vs Q s g q
  change i2 _ os = some o at e
  unfold i2 at e
  split at e
  · obtain ⟨x, y, rfl, h1, h2⟩ := g.two
    cases h1.int
    cases h2.int
    cases e
    exact ⟨_, _, rfl, q _ _ (prI s)⟩
  · cases e
theorem p_min : PrimOk K (fun vs H Q => ∃ i j : Int, vs = [.int i, .int j] ∧ Q (.int (if j < i then j else i)) H) (prim .min2) := by
  intro os o e G H vs Q s g q
  change i2 _ os = some o at e
  unfold i2 at e
  split at e
  · obtain ⟨x, y, rfl, h1, h2⟩ := g.two
    cases h1.int
    cases h2.int
    cases e
    exact ⟨_, _, rfl, q _ _ (prI s)⟩
  · cases e
theorem p_divmod : PrimOk K (fun vs H Q => ∃ i j : Int, vs = [.int i, .int j] ∧ CDiv i j ∧ ∀ p, H p = none → Q (.ref p) (upd H p (.tup [.int (i / j), .int (i % j)]))) (prim .divmod) := by
  intro os o e G H vs Q s g q
  change i2 _ os = some o at e
  unfold i2 at e
  split at e
  · rename_i i j
    obtain ⟨x, y, rfl, h1, h2⟩ := g.two
    cases h1.int
    cases h2.int
    obtain ⟨c, rfl⟩ := gd_some e
    have c : 0 < j ∧ j < 1073741824 := of_decide_eq_true c
    refine ⟨_, _, rfl, c, fun p hp => q _ _ (Pr.tup s hp ?_)⟩
    simp only [ShL, Sh]
    exact ⟨_, _, rfl, rfl, _, _, rfl, rfl, rfl⟩
  · cases e
theorem p_int : PrimOk K (fun vs H Q => (∃ i, vs = [.int i] ∧ Q (.int i) H) ∨ ∃ k, vs = [.bl k] ∧ Q (.int (if k then 1 else 0)) H) (prim .int1) := by
  intro os o e G H vs Q s g q
  change u1 _ os = some o at e
  unfold u1 at e
  split at e
  · obtain ⟨x, rfl, h1⟩ := g.one
    unfold pInt at e
    split at e
    · cases e
      cases h1.int
      exact .inl ⟨_, rfl, q _ _ (prI s)⟩
    · cases e
      cases h1.bool
      exact .inr ⟨_, rfl, q _ _ (prI s)⟩
    · cases e
  · cases e
theorem p_abs : PrimOk K (fun vs H Q => ∃ i, vs = [.int i] ∧ Q (.int (if i < 0 then -i else i)) H) (prim .abs) := by
  intro os o e G H vs Q s g q
  change u1 _ os = some o at e
  unfold u1 at e
  split at e
  · obtain ⟨x, rfl, h1⟩ := g.one
    unfold pAbs at e
    split at e
    · cases e
      cases h1.int
      exact ⟨_, rfl, q _ _ (prI s)⟩
    · cases e
  · cases e

/-! ### comparisons -/
mutual
theorem Sh.dp (s : Sub G H) : ∀ (d : PyData) (v : V), d.canLay0 = true → Sh K G d v → Dp K H v d
  | .none, v, _, h => by
    simp only [Sh] at h
    rw [h]
    exact .non
  | .bool b, v, _, h => by
    simp only [Sh] at h
    rw [h]
    exact .bl b
  | .int i, v, _, h => by
    simp only [Sh] at h
    rw [h]
    exact .int i
  | .str x, v, _, h => by
    simp only [Sh] at h
    rw [h]
    exact .str x
  | .list ds, v, c, h => by
    simp only [Sh] at h
    simp only [PyData.canLay0] at c
    obtain ⟨a, vs, rfl, h1, h2⟩ := h
    exact .lst (.of (s _ _ h1)) (ShL.dp s ds vs c h2)
  | .tuple ds, v, c, h => by
    simp only [Sh] at h
    simp only [PyData.canLay0] at c
    obtain ⟨a, vs, rfl, h1, h2⟩ := h
    exact .tup (s.sqT h1) (ShL.dp s ds vs c h2)
  | .dict _, _, c, _ => by
    simp only [PyData.canLay0] at c
    cases c
theorem ShL.dp (s : Sub G H) : ∀ (ds : List PyData) (vs : List V), PyData.canLayAll0 ds = true → ShL K G ds vs → DpAll K H vs ds
  | [], vs, _, h => by
    simp only [ShL] at h
    rw [h]
    exact .nil
  | d :: ds, vs, c, h => by
    simp only [ShL] at h
    obtain ⟨v, r, rfl, h1, h2⟩ := h
    simp only [PyData.canLayAll0, Bool.and_eq_true] at c
    exact .cons (Sh.dp s d v c.1 h1) (ShL.dp s ds r c.2 h2)
end
theorem Fo.dp (s : Sub G H) {o : O} {v : V} (c : o.d.canLay0 = true) (h : Fo K G H o v) : Dp K H v o.d := by
  cases o with
  | sh d => exact Sh.dp s d v c h
  | ol os =>
    obtain ⟨a, vs, ds, rfl, h1, h2, h3⟩ := h
    simp only [O.d, allSh_dL h2, PyData.canLay0] at c ⊢
    exact .lst (.of h1) (ShL.dp s ds vs c h3)
  | ot os =>
    obtain ⟨a, vs, ds, rfl, h1, h2, h3⟩ := h
    simp only [O.d, allSh_dL h2, PyData.canLay0] at c ⊢
    exact .tup (.of h1) (ShL.dp s ds vs c h3)
  | od os =>
    simp only [O.d, PyData.canLay0] at c
    cases c
theorem scalD_sh {a : O} {e : PyData} (h : scalD a.d e = true) : ∃ d, a = .sh d := by
  cases a with
  | sh d => exact ⟨d, rfl⟩
  | _ => cases e <;> (simp only [O.d, scalD] at h; cases h)
theorem scalD_comm (d e : PyData) (h : scalD d e = true) : scalD e d = true := by
  cases d <;> cases e <;> first | rfl | (simp only [scalD] at h; cases h)
theorem scal_ok {d e : PyData} {x y : V} (h : scalD d e = true) (h1 : Sh K G d x) (h2 : Sh K G e y) : scal x y = true ∧ decide (x = y) = PyData.eqv d e := by
  cases d <;> cases e <;> first
    | exact absurd (show false = true from h) Bool.false_ne_true
    | (simp only [Sh] at h1 h2
       subst h1 h2
       refine ⟨rfl, ?_⟩
       simp [PyData.eqv, Bool.beq_eq_decide_eq])
def rEqA (K : Frag) : R2 := fun x y H Q => rEq x y H Q ∨ rEqD K x y H Q
def rNeA (K : Frag) : R2 := fun x y H Q => rNe x y H Q ∨ rNeD K x y H Q
theorem o_eq {X : Cx} (hu : X.A.units + 64 < cLine) : OpR X (compareOp .Eq) (rEqA X.K) := OpR.or op_eq (op_eqD hu)
theorem o_ne {X : Cx} (hu : X.A.units + 64 < cLine) : OpR X (compareOp .NotEq) (rNeA X.K) := OpR.or op_ne (op_neD hu)
theorem eq_in {os : List O} {b : Bool} (e : pEq os = some b) {vs : List V} (s : Sub G H) (g : FoL K G H os vs) :
    ∃ x y, vs = [x, y] ∧ ((scal x y = true ∧ decide (x = y) = b) ∨ ∃ d e, Dp K H x d ∧ Dp K H y e ∧ SeqAt.shaped d = true ∧ SeqAt.shaped e = true ∧ PyData.eqv d e = b) := by
  unfold pEq at e
  split at e
  · rename_i a c
    obtain ⟨x, y, rfl, h1, h2⟩ := g.two
    refine ⟨x, y, rfl, ?_⟩
    split at e
    · rename_i hs
      obtain ⟨d, rfl⟩ := scalD_sh hs
      obtain ⟨d2, rfl⟩ := scalD_sh (scalD_comm _ _ hs)
      cases e
      exact .inl (scal_ok hs h1 h2)
    · obtain ⟨hc, rfl⟩ := gd_some e
      simp only [Bool.and_eq_true] at hc
      exact .inr ⟨_, _, Fo.dp s (SeqAt.canLay_of_shaped hc.1) h1, Fo.dp s (SeqAt.canLay_of_shaped hc.2) h2, hc.1, hc.2, rfl⟩
  · cases e
theorem p_eq : PrimOk K (r2L (rEqA K)) (prim .eq) := by
  intro os o e G H vs Q s g q
  change (pEq os).map shB = some o at e
  simp only [Option.map_eq_some_iff] at e
  obtain ⟨b, e, rfl⟩ := e
  obtain ⟨x, y, rfl, ⟨h1, h2⟩ | ⟨d, d2, h1, h2, h3, h4, h5⟩⟩ := eq_in e s g
  · exact .inl ⟨h1, by rw [h2]; exact q _ _ (prB s)⟩
  · exact .inr ⟨d, d2, h1, h2, h3, h4, by rw [h5]; exact q _ _ (prB s)⟩
theorem p_ne : PrimOk K (r2L (rNeA K)) (prim .ne) := by
  intro os o e G H vs Q s g q
  change (pEq os).map (fun b => shB !b) = some o at e
  simp only [Option.map_eq_some_iff] at e
  obtain ⟨b, e, rfl⟩ := e
  obtain ⟨x, y, rfl, ⟨h1, h2⟩ | ⟨d, d2, h1, h2, h3, h4, h5⟩⟩ := eq_in e s g
  · exact .inl ⟨h1, by rw [h2]; exact q _ _ (prB s)⟩
  · exact .inr ⟨d, d2, h1, h2, h3, h4, by rw [h5]; exact q _ _ (prB s)⟩
def rCmp (f : Int → Int → Bool) (g : List Nat → List Nat → Bool) : R2 := fun x y H Q => rI0 (fun i j => .bl (f i j)) x y H Q ∨ ∃ i j : Str, x = .str i ∧ y = .str j ∧ Q (.bl (g i.cps.toList j.cps.toList)) H
theorem p_cmp (f : Int → Int → Bool) (k : List Nat → List Nat → Bool) : PrimOk K (r2L (rCmp f k)) (pCmp f k) := by
  intro os o e G H vs Q s g q
  unfold pCmp at e
  split at e
  · cases e
    obtain ⟨x, y, rfl, h1, h2⟩ := g.two
    cases h1.int
    cases h2.int
    exact .inl ⟨_, _, rfl, rfl, q _ _ (prB s)⟩
  · cases e
    obtain ⟨x, y, rfl, h1, h2⟩ := g.two
    cases h1.str
    cases h2.str
    exact .inr ⟨_, _, rfl, rfl, q _ _ (prB s)⟩
  · cases e
theorem o_lt {X : Cx} : OpR X (compareOp .Lt) (rCmp (fun i j => decide (i < j)) fun x y => decide (x < y)) := OpR.or op_lt op_lt_str
theorem o_le {X : Cx} : OpR X (compareOp .LtE) (rCmp (fun i j => decide (i ≤ j)) fun x y => !decide (y < x)) := OpR.or op_le op_le_str
theorem o_gt {X : Cx} : OpR X (compareOp .Gt) (rCmp (fun i j => decide (j < i)) fun x y => decide (y < x)) := OpR.or op_gt op_gt_str
theorem o_ge {X : Cx} : OpR X (compareOp .GtE) (rCmp (fun i j => decide (j ≤ i)) fun x y => !decide (x < y)) := OpR.or op_ge op_ge_str

/-! ### in, is None -/
def rInS : R2 := fun x y H Q => ∃ (c : Nat) (z : Str), x = .str ⟨#[c]⟩ ∧ y = .str z ∧ Q (.bl (decide (c ∈ z.cps.toList))) H
def rInT : R2 := fun x y H Q => ∃ i j : Str, x = .str i ∧ y = .str j ∧ Q (.bl (!(Builtin.Str.occurrences j i 0 j.length 1).isEmpty)) H
def rInA (K : Frag) : R2 := fun x y H Q => rInS x y H Q ∨ rInT x y H Q ∨ rIn K false x y H Q
def rNinS : R2 := fun x y H Q => ∃ (c : Nat) (z : Str), x = .str ⟨#[c]⟩ ∧ y = .str z ∧ Q (.bl (!decide (c ∈ z.cps.toList))) H
def rNinT : R2 := fun x y H Q => ∃ i j : Str, x = .str i ∧ y = .str j ∧ Q (.bl (!(!(Builtin.Str.occurrences j i 0 j.length 1).isEmpty))) H
def rNinA (K : Frag) : R2 := fun x y H Q => rNinS x y H Q ∨ rNinT x y H Q ∨ rIn K true x y H Q
theorem o_in {X : Cx} : OpR X (compareOp .In) (rInA X.K) := OpR.or op_in_sign (OpR.or op_in_str op_in_seq)
theorem o_notin {X : Cx} : OpR X (compareOp .NotIn) (rNinA X.K) := OpR.or op_notIn_sign (OpR.or op_notin_str op_notIn_seq)
theorem flat_ok {d : PyData} {v : V} (h : isFlatD d = true) (q : Sh K G d v) : flatV v = true := by
  cases d <;> first
    | exact absurd (show false = true from h) Bool.false_ne_true
    | (simp only [Sh] at q
       rw [q]
       rfl)
theorem flats_ok : ∀ {ds : List PyData} {vs : List V}, ds.all isFlatD = true → ShL K G ds vs → vs.all flatV = true
  | [], vs, _, q => by
    simp only [ShL] at q
    rw [q]
    rfl
  | d :: ds, vs, h, q => by
    simp only [ShL] at q
    obtain ⟨v, r, rfl, q1, q2⟩ := q
    simp only [List.all_cons, Bool.and_eq_true] at h ⊢
    exact ⟨flat_ok h.1 q1, flats_ok h.2 q2⟩
theorem eqV_ok {d e : PyData} {x y : V} (h : scalD e d = true) (h1 : Sh K G d x) (h2 : Sh K G e y) : eqV x y = PyData.eqv d e := by
  cases d <;> cases e <;> first
    | exact absurd (show false = true from h) Bool.false_ne_true
    | (simp only [Sh] at h1 h2
       subst h1 h2
       simp [PyData.eqv, eqV])
theorem inV_ok {e : PyData} {y : V} (h2 : Sh K G e y) : ∀ {ds : List PyData} {vs : List V}, ds.all (scalD e) = true → ShL K G ds vs → inV y vs = ds.any fun d => PyData.eqv d e
  | [], vs, _, q => by
    simp only [ShL] at q
    rw [q]
    rfl
  | d :: ds, vs, h, q => by
    simp only [ShL] at q
    obtain ⟨v, r, rfl, q1, q2⟩ := q
    simp only [List.all_cons, Bool.and_eq_true] at h
    have ih := inV_ok h2 h.2 q2
    unfold inV at ih ⊢
    rw [List.any_cons, List.any_cons, ih, eqV_ok h.1 q1 h2]
theorem isFlat_sh {a : O} (h : isFlatD a.d = true) : ∃ d, a = .sh d := by
  cases a with
  | sh d => exact ⟨d, rfl⟩
  | _ => exact absurd (show false = true from h) Bool.false_ne_true
theorem in_in {os : List O} {b : Bool} (e : pIn os = some b) {vs : List V} (s : Sub G H) (g : FoL K G H os vs) :
    ∃ x y, vs = [x, y] ∧ ((∃ (c : Nat) (z : Str), x = .str ⟨#[c]⟩ ∧ y = .str z ∧ decide (c ∈ z.cps.toList) = b) ∨ (∃ i j : Str, x = .str i ∧ y = .str j ∧ (!(Builtin.Str.occurrences j i 0 j.length 1).isEmpty) = b) ∨
      ∃ p xs, y = .ref p ∧ (SqL K H p xs ∨ SqT K H p xs) ∧ flatV x = true ∧ xs.all flatV = true ∧ inV x xs = b) := by
  unfold pIn at e
  split at e
  · rename_i x y
    obtain ⟨v, w, rfl, h1, h2⟩ := g.two
    cases h1.str
    cases h2.str
    refine ⟨_, _, rfl, ?_⟩
    split at e
    · rename_i c hc
      cases e
      refine .inl ⟨c, y, ?_, rfl, rfl⟩
      congr 1
      exact Str.ext' (Array.toList_inj.mp hc)
    · cases e
      exact .inr (.inl ⟨x, y, rfl, rfl, rfl⟩)
  · rename_i a c _
    obtain ⟨v, w, rfl, h1, h2⟩ := g.two
    refine ⟨_, _, rfl, ?_⟩
    split at e
    · rename_i ys e1
      obtain ⟨hc, rfl⟩ := gd_some e
      simp only [Bool.and_eq_true] at hc
      obtain ⟨d, rfl⟩ := isFlat_sh hc.1.1
      obtain ⟨p, xs, rfl, hp, hq⟩ := Fo.seq e1 s h2
      exact .inr (.inr ⟨p, xs, rfl, hp, flat_ok hc.1.1 h1, flats_ok hc.1.2 hq, inV_ok h1 hc.2 hq⟩)
    · cases e
  · cases e
theorem p_in : PrimOk K (r2L (rInA K)) (prim .isin) := by
  intro os o e G H vs Q s g q
  change (pIn os).map shB = some o at e
  simp only [Option.map_eq_some_iff] at e
  obtain ⟨b, e, rfl⟩ := e
  obtain ⟨x, y, rfl, ⟨c, z, h1, h2, h3⟩ | ⟨i, j, h1, h2, h3⟩ | ⟨p, xs, h1, h2, h3, h4, h5⟩⟩ := in_in e s g
  · exact .inl ⟨c, z, h1, h2, by rw [h3]; exact q _ _ (prB s)⟩
  · exact .inr (.inl ⟨i, j, h1, h2, by rw [h3]; exact q _ _ (prB s)⟩)
  · exact .inr (.inr ⟨p, xs, h1, h2, h3, h4, by rw [h5]; exact q _ _ (prB s)⟩)
theorem p_notin : PrimOk K (r2L (rNinA K)) (prim .notin) := by
  intro os o e G H vs Q s g q
  change (pIn os).map (fun b => shB !b) = some o at e
  simp only [Option.map_eq_some_iff] at e
  obtain ⟨b, e, rfl⟩ := e
  obtain ⟨x, y, rfl, ⟨c, z, h1, h2, h3⟩ | ⟨i, j, h1, h2, h3⟩ | ⟨p, xs, h1, h2, h3, h4, h5⟩⟩ := in_in e s g
  · exact .inl ⟨c, z, h1, h2, by rw [h3]; exact q _ _ (prB s)⟩
  · exact .inr (.inl ⟨i, j, h1, h2, by rw [h3]; exact q _ _ (prB s)⟩)
  · exact .inr (.inr ⟨p, xs, h1, h2, h3, h4, by rw [h5]; exact q _ _ (prB s)⟩)
theorem isNon_ok {a : O} {x : V} (h : Fo K G H a x) : decide (x = .non) = isNon a := by
  cases a with
  | sh d =>
    cases d <;> (simp only [Fo, Sh] at h)
    case none => subst h; rfl
    case bool => subst h; rfl
    case int => subst h; rfl
    case str => subst h; rfl
    all_goals
      obtain ⟨a, vs, rfl, _⟩ := h
      rfl
  | ol os =>
    obtain ⟨a, vs, ds, rfl, _⟩ := h
    rfl
  | ot os =>
    obtain ⟨a, vs, ds, rfl, _⟩ := h
    rfl
  | od os =>
    obtain ⟨a, vs, ds, rfl, _⟩ := h
    rfl
def rIsN : R2 := fun x y H Q => y = .non ∧ Q (.bl (decide (x = .non))) H
def rNotN : R2 := fun x y H Q => y = .non ∧ Q (.bl (!decide (x = .non))) H
theorem p_isnone : PrimOk K (r1L fun x H Q => rIsN x .non H Q) (prim .isnone) := r1_u1 fun a o e G H x Q s h q => by
  cases e
  exact ⟨rfl, by rw [isNon_ok h]; exact q _ _ (prB s)⟩
theorem p_notnone : PrimOk K (r1L fun x H Q => rNotN x .non H Q) (prim .notnone) := r1_u1 fun a o e G H x Q s h q => by
  cases e
  exact ⟨rfl, by rw [isNon_ok h]; exact q _ _ (prB s)⟩
/-- truth -/
theorem tru_in {a : O} {b : Bool} (e : truth a = some b) {x : V} (s : Sub G H) (h : Fo K G H a x) : TruV K x H b := by
  cases a with
  | sh d =>
    cases d <;> simp only [truth] at e <;> simp only [Fo, Sh] at h
    case none => cases e; subst h; rfl
    case bool => cases e; subst h; rfl
    case int => cases e; subst h; rfl
    case str => obtain ⟨c, rfl⟩ := gd_some e; subst h; exact ⟨of_decide_eq_true c, rfl⟩
    case list =>
      cases e
      obtain ⟨a, vs, rfl, h1, h2⟩ := h
      exact .inl ⟨vs, .of (s _ _ h1), by rw [h2.nil_iff]⟩
    case tuple =>
      cases e
      obtain ⟨a, vs, rfl, h1, h2⟩ := h
      exact .inr (.inl ⟨vs, s.sqT h1, by rw [h2.nil_iff]⟩)
    case dict kvs =>
      cases e
      obtain ⟨a, xs, rfl, h1, h2⟩ := h
      refine .inr (.inr ⟨xs, s _ _ h1, ?_⟩)
      cases kvs with
      | nil =>
        simp only [ShD] at h2
        rw [h2]
        rfl
      | cons p r =>
        obtain ⟨k, d⟩ := p
        simp only [ShD] at h2
        obtain ⟨_, _, _, rfl, _⟩ := h2
        rfl
  | ol os =>
    obtain ⟨a, vs, ds, rfl, h1, h2, h3⟩ := h
    cases e
    refine .inl ⟨vs, .of h1, ?_⟩
    rw [← h3.nil_iff, ← allSh_dL h2]
    cases os <;> simp [O.dL]
  | ot os =>
    obtain ⟨a, vs, ds, rfl, h1, h2, h3⟩ := h
    cases e
    refine .inr (.inl ⟨vs, .of h1, ?_⟩)
    rw [← h3.nil_iff, ← allSh_dL h2]
    cases os <;> simp [O.dL]
  | od kvs =>
    obtain ⟨a, xs, ds, rfl, h1, h2, h3⟩ := h
    cases e
    refine .inr (.inr ⟨xs, h1, ?_⟩)
    cases kvs with
    | nil =>
      simp only [allShK] at h2
      cases h2
      simp only [ShK] at h3
      rw [h3]
      rfl
    | cons p r =>
      obtain ⟨k, o⟩ := p
      cases o <;> simp only [allShK] at h2
      case sh d =>
        simp only [Option.map_eq_some_iff] at h2
        obtain ⟨z, _, rfl⟩ := h2
        simp only [ShK] at h3
        obtain ⟨_, _, rfl, _⟩ := h3
        rfl
      all_goals cases h2
end
end Qv
end
section
set_option Elab.async false
set_option linter.all false
set_option maxRecDepth 100000
set_option maxHeartbeats 1000000
/-! Q5: further operations. -/
namespace Qv
open PySem PySem.Spec PyProof.Rows L2
section
variable {K : Frag} {G H : Hp}

/-! ### items, slices -/
theorem atI_ok {ds : List PyData} {vs : List V} {i : Int} {d : PyData} (h : ShL K G ds vs) (e : atI ds i = some d) : ∃ v, atI vs i = some v ∧ Sh K G d v := by
  unfold atI at e ⊢
  rw [← h.len]
  cases q : ixN ds.length i with
  | none =>
    rw [q] at e
    cases e
  | some j =>
    rw [q] at e
    exact h.get e
theorem p_item : PrimOk K (r2L (rIx K)) (prim .item) := by
  intro os o e G H vs Q s g q
  change pItem os = some o at e
  unfold pItem at e
  split at e
  · rename_i z i
    obtain ⟨x, y, rfl, h1, h2⟩ := g.two
    cases h1.str
    cases h2.int
    split at e
    · rename_i hz
      simp only [Option.map_eq_some_iff] at e
      obtain ⟨c, e, rfl⟩ := e
      exact .inr (.inr ⟨z, i, c, rfl, rfl, hz, e, q _ _ (prS s)⟩)
    · cases e
  · rename_i a i _
    obtain ⟨x, y, rfl, h1, h2⟩ := g.two
    cases h2.int
    split at e
    · rename_i ds e1
      simp only [Option.map_eq_some_iff] at e
      obtain ⟨d, e, rfl⟩ := e
      obtain ⟨p, xs, rfl, hp, hq⟩ := Fo.seq e1 s h1
      obtain ⟨v, hv, sv⟩ := atI_ok hq e
      rcases hp with hp | hp
      · exact .inl ⟨p, xs, i, v, rfl, rfl, hp, hv, q _ _ (Pr.same s sv)⟩
      · exact .inr (.inl ⟨p, xs, i, v, rfl, rfl, hp, hv, q _ _ (Pr.same s sv)⟩)
    · cases e
  · cases e
theorem cut_ok {ds : List PyData} {vs : List V} (lo hi : Option Int) (h : ShL K G ds vs) : ShL K G (cutD ds lo hi) (cutV vs lo hi) := by
  unfold cutD cutV
  rw [← h.len]
  exact (h.drop _).take _
def rCutA (K : Frag) : V → Option Int → Option Int → Hp → VK → Prop := fun x lo hi H Q => rSlS x lo hi H Q ∨ rSlA K x lo hi H Q ∨ rSlL K x lo hi H Q
theorem o_cut {X : Cx} : SlR X (rCutA X.K) := SlR.or sl_str (SlR.or sl_tupA sl_list)
theorem full_cut {ds : List PyData} {lo hi : Option Int} (h : HT.sIx ds.length 0 lo = 0 ∧ HT.sIx ds.length ds.length hi = ds.length) : cutD ds lo hi = ds := by
  unfold cutD
  rw [h.1, h.2]
  simp
theorem p_cut {a o : O} {lo hi : Option Int} (e : pCut a lo hi = some o) {x : V} {Q : VK} (s : Sub G H) (h : Fo K G H a x) (q : ∀ v H', Pr K G H o v H' → Q v H') : rCutA K x lo hi H Q := by
  unfold pCut at e
  split at e
  · obtain ⟨c, rfl⟩ := gd_some e
    cases h.str
    exact .inl ⟨_, rfl, of_decide_eq_true c, q _ _ (prS s)⟩
  · rename_i ds
    cases e
    obtain ⟨p, xs, rfl, hp, hq⟩ := Fo.tup (ds := ds) rfl s h
    refine .inr (.inl ⟨p, xs, rfl, hp, fun z => ?_, fun z p hp => q _ _ (Pr.tup s hp (cut_ok lo hi hq))⟩)
    rw [full_cut (by rw [hq.len]; exact z)] at q
    exact q _ _ (Pr.same s h)
  · split at e
    · rename_i ds e1
      cases e
      obtain ⟨p, xs, rfl, hp, hq⟩ := Fo.list e1 s h
      exact .inr (.inr ⟨p, xs, rfl, .of hp, fun p hp => q _ _ (Pr.lst hp (cut_ok lo hi hq))⟩)
    · cases e
theorem p_back : PrimOk K (r1L fun x H Q => ∃ a xs, x = .ref a ∧ SqL K H a xs ∧ ∀ p, H p = none → Q (.ref p) (upd H p (.lst xs.reverse))) (prim .back) := r1_u1 fun a o e G H x Q s h q => by
  simp only [Option.map_eq_some_iff] at e
  obtain ⟨ds, e, rfl⟩ := e
  obtain ⟨p, xs, rfl, hp, hq⟩ := Fo.list e s h
  exact ⟨p, xs, rfl, .of hp, fun p hp => q _ _ (Pr.lst hp hq.reverse)⟩

/-! ### built-in functions -/
theorem p_len : PrimOk K (fun xs H Q => (∃ x n, xs = [x] ∧ LenV K x H n ∧ Q (.int n) H) ∨ ∃ a kvs, xs = [V.ref a] ∧ H a = some (.dK kvs) ∧ Q (.int kvs.length) H) (prim .len) := by
  intro os o e G H vs Q s g q
  change u1 _ os = some o at e
  unfold u1 at e
  split at e
  · obtain ⟨x, rfl, h1⟩ := g.one
    unfold pLen at e
    split at e
    · obtain ⟨c, rfl⟩ := gd_some e
      cases h1.str
      exact .inl ⟨_, _, rfl, ⟨of_decide_eq_true c, rfl⟩, q _ _ (prI s)⟩
    · cases e
      obtain ⟨a, xs, ds, rfl, h2, h3, h4⟩ := h1
      refine .inr ⟨a, xs, rfl, h2, ?_⟩
      have hl : ∀ {kvs : List (Key × O)} {ds : List (Key × PyData)} {xs : List (Key × V)}, allShK kvs = some ds → ShK K G ds xs → kvs.length = xs.length := by
        intro kvs
        induction kvs with
        | nil =>
          intro ds xs e1 e2
          simp only [allShK] at e1
          cases e1
          simp only [ShK] at e2
          rw [e2]
          rfl
        | cons p r ih =>
          intro ds xs e1 e2
          obtain ⟨k, o⟩ := p
          cases o <;> simp only [allShK] at e1
          case sh d =>
            simp only [Option.map_eq_some_iff] at e1
            obtain ⟨z, e1, rfl⟩ := e1
            simp only [ShK] at e2
            obtain ⟨v, t, rfl, _, e2⟩ := e2
            rw [List.length_cons, List.length_cons, ih e1 e2]
          all_goals cases e1
      rw [← hl h3 h4]
      exact q _ _ (prI s)
    · cases e
      simp only [Fo, Sh] at h1
      obtain ⟨a, xs, rfl, h2, h3⟩ := h1
      refine .inr ⟨a, xs, rfl, s _ _ h2, ?_⟩
      have hl : ∀ {kvs : List (PyData × PyData)} {xs : List (Key × V)}, ShD K G kvs xs → kvs.length = xs.length := by
        intro kvs
        induction kvs with
        | nil =>
          intro xs e2
          simp only [ShD] at e2
          rw [e2]
          rfl
        | cons p r ih =>
          intro xs e2
          obtain ⟨k, o⟩ := p
          simp only [ShD] at e2
          obtain ⟨_, v, t, rfl, _, _, e2⟩ := e2
          rw [List.length_cons, List.length_cons, ih e2]
      rw [← hl h3]
      exact q _ _ (prI s)
    · simp only [Option.map_eq_some_iff] at e
      obtain ⟨ds, e, rfl⟩ := e
      obtain ⟨p, xs, rfl, hp, hq⟩ := Fo.seq e s h1
      refine .inl ⟨_, ds.length, rfl, ?_, q _ _ (prI s)⟩
      rcases hp with hp | hp
      · exact .inl ⟨xs, hp, hq.len⟩
      · exact .inr ⟨xs, hp, hq.len⟩
  · cases e
theorem o_len {X : Cx} : CallR X (.builtin "len") (fun xs H Q => (∃ x n, xs = [x] ∧ LenV X.K x H n ∧ Q (.int n) H) ∨ ∃ a kvs, xs = [V.ref a] ∧ H a = some (.dK kvs) ∧ Q (.int kvs.length) H) := CallR.or call_len call_lenD
theorem p_tuple : PrimOk K (fun xs H Q => (∃ p ys, xs = [.ref p] ∧ ((SqL K H p ys ∧ ∀ l, H l = none → Q (.ref l) (upd H l (.tup ys))) ∨ (SqT K H p ys ∧ Q (.ref p) H)))) (prim .tuple1) := by
  intro os o e G H vs Q s g q
  change u1 _ os = some o at e
  unfold u1 at e
  split at e
  · obtain ⟨x, rfl, h1⟩ := g.one
    unfold pTuple at e
    split at e
    · rename_i ds e1
      cases e
      obtain ⟨p, xs, rfl, hp, hq⟩ := Fo.list e1 s h1
      exact ⟨p, xs, rfl, .inl ⟨.of hp, fun l hl => q _ _ (Pr.tup s hl hq)⟩⟩
    · split at e
      · rename_i ds _
        cases e
        obtain ⟨p, xs, rfl, hp, hq⟩ := Fo.tup (ds := ds) rfl s h1
        exact ⟨p, xs, rfl, .inr ⟨hp, q _ _ (Pr.same s h1)⟩⟩
      · cases e
  · cases e
theorem p_list : PrimOk K (fun xs H Q => ∃ p ys, xs = [.ref p] ∧ (SqL K H p ys ∨ SqT K H p ys) ∧ ∀ l, H l = none → Q (.ref l) (upd H l (.lst ys))) (prim .list1) := by
  intro os o e G H vs Q s g q
  change u1 _ os = some o at e
  unfold u1 at e
  split at e
  · obtain ⟨x, rfl, h1⟩ := g.one
    simp only [Option.map_eq_some_iff] at e
    obtain ⟨ds, e, rfl⟩ := e
    obtain ⟨p, xs, rfl, hp, hq⟩ := Fo.seq e s h1
    exact ⟨p, xs, rfl, hp, fun l hl => q _ _ (Pr.lst hl hq)⟩
  · cases e
theorem allBl_ok : ∀ {ds : List PyData} {bs : List Bool} {vs : List V}, allBl ds = some bs → ShL K G ds vs → vs = bs.map V.bl
  | [], bs, vs, e, h => by
    simp only [allBl] at e
    cases e
    simp only [ShL] at h
    rw [h]
    rfl
  | .bool b :: ds, bs, vs, e, h => by
    simp only [allBl, Option.map_eq_some_iff] at e
    obtain ⟨cs, e, rfl⟩ := e
    simp only [ShL, Sh] at h
    obtain ⟨v, r, rfl, rfl, h⟩ := h
    rw [allBl_ok e h]
    rfl
  | .none :: _, _, _, e, _ => by simp only [allBl] at e; cases e
  | .int _ :: _, _, _, e, _ => by simp only [allBl] at e; cases e
  | .str _ :: _, _, _, e, _ => by simp only [allBl] at e; cases e
  | .list _ :: _, _, _, e, _ => by simp only [allBl] at e; cases e
  | .tuple _ :: _, _, _, e, _ => by simp only [allBl] at e; cases e
  | .dict _ :: _, _, _, e, _ => by simp only [allBl] at e; cases e
theorem allIn_ok : ∀ {ds : List PyData} {bs : List Int} {vs : List V}, allIn ds = some bs → ShL K G ds vs → vs = bs.map V.int
  | [], bs, vs, e, h => by
    simp only [allIn] at e
    cases e
    simp only [ShL] at h
    rw [h]
    rfl
  | .int b :: ds, bs, vs, e, h => by
    simp only [allIn, Option.map_eq_some_iff] at e
    obtain ⟨cs, e, rfl⟩ := e
    simp only [ShL, Sh] at h
    obtain ⟨v, r, rfl, rfl, h⟩ := h
    rw [allIn_ok e h]
    rfl
  | .none :: _, _, _, e, _ => by simp only [allIn] at e; cases e
  | .bool _ :: _, _, _, e, _ => by simp only [allIn] at e; cases e
  | .str _ :: _, _, _, e, _ => by simp only [allIn] at e; cases e
  | .list _ :: _, _, _, e, _ => by simp only [allIn] at e; cases e
  | .tuple _ :: _, _, _, e, _ => by simp only [allIn] at e; cases e
  | .dict _ :: _, _, _, e, _ => by simp only [allIn] at e; cases e
theorem allSt_ok : ∀ {ds : List PyData} {bs : List Str} {vs : List V}, allSt ds = some bs → ShL K G ds vs → vs = bs.map V.str
  | [], bs, vs, e, h => by
    simp only [allSt] at e
    cases e
    simp only [ShL] at h
    rw [h]
    rfl
  | .str b :: ds, bs, vs, e, h => by
    simp only [allSt, Option.map_eq_some_iff] at e
    obtain ⟨cs, e, rfl⟩ := e
    simp only [ShL, Sh] at h
    obtain ⟨v, r, rfl, rfl, h⟩ := h
    rw [allSt_ok e h]
    rfl
  | .none :: _, _, _, e, _ => by simp only [allSt] at e; cases e
  | .bool _ :: _, _, _, e, _ => by simp only [allSt] at e; cases e
  | .int _ :: _, _, _, e, _ => by simp only [allSt] at e; cases e
  | .list _ :: _, _, _, e, _ => by simp only [allSt] at e; cases e
  | .tuple _ :: _, _, _, e, _ => by simp only [allSt] at e; cases e
  | .dict _ :: _, _, _, e, _ => by simp only [allSt] at e; cases e
theorem p_sum : PrimOk K (rSum K) (prim .sum) := by
  intro os o e G H vs Q s g q
  change u1 _ os = some o at e
  unfold u1 at e
  split at e
  · obtain ⟨x, rfl, h1⟩ := g.one
    unfold pSum at e
    split at e
    · rename_i ds e1
      simp only [Option.map_eq_some_iff] at e
      obtain ⟨ns, e, rfl⟩ := e
      obtain ⟨p, xs, rfl, hp, hq⟩ := Fo.list e1 s h1
      cases allIn_ok e hq
      exact ⟨p, ns, rfl, .of hp, q _ _ (prI s)⟩
    · cases e
  · cases e
theorem p_all : PrimOk K (rAll K) (prim .all) := by
  intro os o e G H vs Q s g q
  change u1 _ os = some o at e
  unfold u1 at e
  split at e
  · obtain ⟨x, rfl, h1⟩ := g.one
    unfold pAll at e
    split at e
    · rename_i ds e1
      simp only [Option.map_eq_some_iff] at e
      obtain ⟨ns, e, rfl⟩ := e
      obtain ⟨p, xs, rfl, hp, hq⟩ := Fo.list e1 s h1
      cases allBl_ok e hq
      exact ⟨p, ns, rfl, .of hp, q _ _ (prB s)⟩
    · cases e
  · cases e
theorem p_any : PrimOk K (rAny K) (prim .any) := by
  intro os o e G H vs Q s g q
  change u1 _ os = some o at e
  unfold u1 at e
  split at e
  · obtain ⟨x, rfl, h1⟩ := g.one
    unfold pAny at e
    split at e
    · rename_i ds e1
      simp only [Option.map_eq_some_iff] at e
      obtain ⟨ns, e, rfl⟩ := e
      obtain ⟨p, xs, rfl, hp, hq⟩ := Fo.list e1 s h1
      cases allBl_ok e hq
      exact ⟨p, ns, rfl, .of hp, q _ _ (prB s)⟩
    · cases e
  · cases e

/-! ### repr -/
mutual
theorem Sh.dpN (s : Sub G H) : ∀ (d : PyData) (v : V), d.hasDict = false → Sh K G d v → Dp K H v d
  | .none, v, _, h => by
    simp only [Sh] at h
    rw [h]
    exact .non
  | .bool b, v, _, h => by
    simp only [Sh] at h
    rw [h]
    exact .bl b
  | .int i, v, _, h => by
    simp only [Sh] at h
    rw [h]
    exact .int i
  | .str x, v, _, h => by
    simp only [Sh] at h
    rw [h]
    exact .str x
  | .list ds, v, c, h => by
    simp only [Sh] at h
    simp only [PyData.hasDict] at c
    obtain ⟨a, vs, rfl, h1, h2⟩ := h
    exact .lst (.of (s _ _ h1)) (ShL.dpN s ds vs c h2)
  | .tuple ds, v, c, h => by
    simp only [Sh] at h
    simp only [PyData.hasDict] at c
    obtain ⟨a, vs, rfl, h1, h2⟩ := h
    exact .tup (s.sqT h1) (ShL.dpN s ds vs c h2)
  | .dict _, _, c, _ => by
    simp only [PyData.hasDict] at c
    cases c
theorem ShL.dpN (s : Sub G H) : ∀ (ds : List PyData) (vs : List V), PyData.hasDictAll ds = false → ShL K G ds vs → DpAll K H vs ds
  | [], vs, _, h => by
    simp only [ShL] at h
    rw [h]
    exact .nil
  | d :: ds, vs, c, h => by
    simp only [ShL] at h
    obtain ⟨v, r, rfl, h1, h2⟩ := h
    simp only [PyData.hasDictAll, Bool.or_eq_false_iff] at c
    exact .cons (Sh.dpN s d v c.1 h1) (ShL.dpN s ds r c.2 h2)
end
theorem Fo.dpN (s : Sub G H) {o : O} {v : V} (c : o.d.hasDict = false) (h : Fo K G H o v) : Dp K H v o.d := by
  cases o with
  | sh d => exact Sh.dpN s d v c h
  | ol os =>
    obtain ⟨a, vs, ds, rfl, h1, h2, h3⟩ := h
    simp only [O.d, allSh_dL h2, PyData.hasDict] at c ⊢
    exact .lst (.of h1) (ShL.dpN s ds vs c h3)
  | ot os =>
    obtain ⟨a, vs, ds, rfl, h1, h2, h3⟩ := h
    simp only [O.d, allSh_dL h2, PyData.hasDict] at c ⊢
    exact .tup (.of h1) (ShL.dpN s ds vs c h3)
  | od os =>
    simp only [O.d, PyData.hasDict] at c
    cases c
def rRepr (K : Frag) : List V → Hp → VK → Prop := fun vs H Q => ∃ x d, vs = [x] ∧ Dp K H x d ∧ d.showable = true ∧ d.hasDict = false ∧ d.shown.length ≤ sizeLine ∧ d.depth ≤ 60 ∧ Q (.str d.shown) H
theorem o_repr {X : Cx} (hg : X.A.guards = some []) (hu : X.A.units + 64 < cLine) : CallR X (.builtin "repr") (rRepr X.K) := by
  intro pins s σ H xs us Q I r h
  obtain ⟨x, d, rfl, hd, hs, hn, hz, hp, q⟩ := h
  obtain ⟨u, rfl, ru⟩ := r.one
  have fin : ∀ (s' : Shared) (t : Tok), Inv X pins σ H s' → EP X pins σ Q (.str d.shown t) s' := fun s' t I' => ⟨.str d.shown, H, I', ⟨t, rfl⟩, q⟩
  have big : ∀ (a : Addr) (as : List Addr), u = .ref a → Reads s.heap (.ref a) d as → wpAny (model X.prog X.w) X.A (call (.builtin "repr") [u]) (EP X pins σ Q) X.xe s := by
    intro a as e rr
    subst e
    refine repr_of_reads' rr hs (fun z => ?_) hg (by omega) (fun _ _ z => z) (fun h' u tk k => fin _ _ (I.kept k)) hz
    rw [hn] at z
    cases z
  cases d with
  | none =>
    cases hd
    cases ru
    exact PySem.P.repr_of_none (fin _ _ (I.tok _))
  | bool b =>
    cases hd
    cases ru
    exact PySem.P.repr_of_bool (fin _ _ (I.tok _))
  | int i =>
    cases hd
    obtain ⟨t, rfl⟩ := ru
    refine PySem.P.repr_of_int ?_ (fin _ _ (I.tok _))
    simp only [PyData.showable] at hs
    exact of_decide_eq_true hs
  | str z =>
    cases hd
    obtain ⟨t, rfl⟩ := ru
    exact PySem.P.repr_of_str (fin _ _ (I.tok _)) hz
  | list ds =>
    obtain ⟨as, hr⟩ := Dp.reads I _ x u hd ru
    cases hd
    cases ru
    exact big _ as rfl hr
  | tuple ds =>
    obtain ⟨as, hr⟩ := Dp.reads I _ x u hd ru
    cases hd
    cases ru
    exact big _ as rfl hr
  | dict _ =>
    simp only [PyData.hasDict] at hn
    cases hn
theorem p_repr : PrimOk K (rRepr K) (prim .repr) := by
  intro os o e G H vs Q s g q
  change u1 _ os = some o at e
  unfold u1 at e
  split at e
  · obtain ⟨x, rfl, h1⟩ := g.one
    obtain ⟨c, rfl⟩ := gd_some e
    simp only [Bool.and_eq_true, Bool.not_eq_true', decide_eq_true_eq] at c
    exact ⟨x, _, rfl, Fo.dpN s c.1.1.2 h1, c.1.1.1, c.1.1.2, c.1.2, c.2, q _ _ (prS s)⟩
  · cases e

/-- repr of a row that is written down for it: its parts are only looked at -/
theorem Fo.up {H' : Hp} (z : Sub H H') {o : O} {v : V} (h : Fo K G H o v) : Fo K G H' o v := by
  cases o with
  | sh d => exact h
  | ol os =>
    obtain ⟨a, vs, ds, e, h1, h2, h3⟩ := h
    exact ⟨a, vs, ds, e, z _ _ h1, h2, h3⟩
  | ot os =>
    obtain ⟨a, vs, ds, e, h1, h2, h3⟩ := h
    exact ⟨a, vs, ds, e, z _ _ h1, h2, h3⟩
  | od os =>
    obtain ⟨a, vs, ds, e, h1, h2, h3⟩ := h
    exact ⟨a, vs, ds, e, z _ _ h1, h2, h3⟩
theorem FoL.dpN (s : Sub G H) : ∀ {os : List O} {vs : List V}, PyData.hasDictAll (O.dL os) = false → FoL K G H os vs → DpAll K H vs (O.dL os)
  | [], vs, _, h => by
    cases (show vs = [] from h)
    simp only [O.dL]
    exact .nil
  | o :: os, vs, c, h => by
    obtain ⟨v, r, rfl, h1, h2⟩ := h
    simp only [O.dL, PyData.hasDictAll, Bool.or_eq_false_iff] at c ⊢
    exact .cons (Fo.dpN s c.1 h1) (FoL.dpN s c.2 h2)
theorem FoL.up {H' : Hp} (z : Sub H H') : ∀ {os : List O} {vs : List V}, FoL K G H os vs → FoL K G H' os vs
  | [], vs, h => h
  | o :: os, vs, h => by
    obtain ⟨v, r, e, h1, h2⟩ := h
    exact ⟨v, r, e, h1.up z, FoL.up z h2⟩
theorem FoL.len : ∀ {os : List O} {vs : List V}, FoL K G H os vs → vs.length = os.length
  | [], vs, h => by
    cases (show vs = [] from h)
    rfl
  | o :: os, vs, h => by
    obtain ⟨v, r, rfl, h1, h2⟩ := h
    rw [List.length_cons, List.length_cons, FoL.len h2]
def rReprL (K : Frag) : List V → Hp → VK → Prop := fun vs H Q => vs.length ≤ sizeLine ∧ ∀ p, H p = none → rRepr K [.ref p] (upd H p (.lst vs)) Q
theorem p_reprl : PrimOk K (rReprL K) (prim .reprl) := by
  intro os o e G H vs Q s g q
  change pReprL os = some o at e
  unfold pReprL at e
  split at e
  · rename_i hl
    obtain ⟨c, rfl⟩ := gd_some e
    simp only [Bool.and_eq_true, Bool.not_eq_true', decide_eq_true_eq] at c
    refine ⟨by rw [g.len]; exact hl, fun p hp => ?_⟩
    have su : Sub H (upd H p (.lst vs)) := Sub.upd (.refl H) hp
    have c2 := c.1.1.2
    simp only [O.d, PyData.hasDict] at c2
    refine ⟨.ref p, _, rfl, ?_, c.1.1.1, c.1.1.2, c.1.2, c.2, q _ _ ⟨G, .refl G, s.trans su, su, by simp only [Sh], fun _ _ _ => rfl⟩⟩
    exact .lst (.of upd_same) (FoL.dpN (s.trans su) c2 (g.up su))
  · cases e

/-! ### isinstance -/
def tyN : PyData → String
  | .none => "NoneType"
  | .bool _ => "bool"
  | .int _ => "int"
  | .str _ => "str"
  | .list _ => "list"
  | .tuple _ => "tuple"
  | .dict _ => "dict"
def isTys : List String := ["int", "bool", "str", "list", "tuple", "dict"]
theorem isT_dom {d : PyData} {t : String} {b : Bool} (h : isT d t = some b) : t ∈ isTys := by
  unfold isT at h
  split at h <;> first | (simp [isTys]; done) | cases h
theorem kit_isT {d : PyData} {t : String} {b : Bool} (h : isT d t = some b) : kitB (tyN d) t = some b := by
  have m := isT_dom h
  simp only [isTys, List.mem_cons, List.not_mem_nil, or_false] at m
  rcases m with rfl | rfl | rfl | rfl | rfl | rfl <;> (cases d <;> (simp only [isT, Option.some.injEq] at h; subst h; simp only [tyN]; decide +kernel))
theorem tyx_ok {o : O} {x : V} (s : Sub G H) (h : Fo K G H o x) : TyX K H x (.type (tyN o.d)) := by
  cases o with
  | sh d =>
    cases d <;> simp only [Fo, Sh] at h
    case none => subst h; exact .base .non
    case bool => subst h; exact .base (.bl _)
    case int => subst h; exact .base (.int _)
    case str => subst h; exact .base (.str _)
    case list =>
      obtain ⟨a, vs, rfl, h1, _⟩ := h
      exact .base (.lst (s _ _ h1))
    case tuple =>
      obtain ⟨a, vs, rfl, h1, _⟩ := h
      rcases s.sqT h1 with (h1 | ⟨ob, h1⟩) | ⟨ob, _, _, h1, h2, _⟩
      · exact .base (.tup h1)
      · exact .fTuple h1
      · exact .kTuple h1 h2
    case dict =>
      obtain ⟨a, vs, rfl, h1, _⟩ := h
      exact .base (.dK (s _ _ h1))
  | ol os =>
    obtain ⟨a, vs, ds, rfl, h1, _⟩ := h
    exact .base (.lst h1)
  | ot os =>
    obtain ⟨a, vs, ds, rfl, h1, _⟩ := h
    exact .base (.tup h1)
  | od os =>
    obtain ⟨a, vs, ds, rfl, h1, _⟩ := h
    exact .base (.dK h1)
theorem TyX.keep {H' : Hp} {x : V} {n : String} (s : Sub H H') (h : TyX K H x (.type n)) : TyX K H' x (.type n) := by
  generalize hu : (Value.type n) = u at h
  cases h with
  | base b =>
    cases b with
    | non => exact .base .non
    | bl y => exact .base (.bl y)
    | int y => exact .base (.int y)
    | str y => exact .base (.str y)
    | flt y => exact .base (.flt y)
    | lst e => exact .base (.lst (s _ _ e))
    | frz e => exact .base (.frz (s _ _ e))
    | tup e => exact .base (.tup (s _ _ e))
    | dK e => exact .base (.dK (s _ _ e))
    | dT e => exact .base (.dT (s _ _ e))
    | ins => cases hu
  | byt b => exact .byt b
  | set e => exact .set (s _ _ e)
  | kList e c => exact .kList e c
  | kTuple e c => exact .kTuple e c
  | kDict e c => exact .kDict e c
  | fTuple e => exact .fTuple (s _ _ e)
  | fDict e => exact .fDict (s _ _ e)
theorem p_isi1 (n : String) : PrimOk K (r1L fun x H Q => rIsi K [x, .ty n] H Q) (prim (.isinst [n])) := r1_u1 fun a o e G H x Q s h q => by
  simp only [Option.map_eq_some_iff, isAny] at e
  obtain ⟨b, e, rfl⟩ := e
  split at e
  · rename_i p p2 e1 e2
    cases e2
    cases e
    rw [Bool.or_false] at q
    exact ⟨x, .ty n, _, _, p, rfl, .ty n, tyx_ok s h, kit_ty (kit_isT e1), q _ _ (prB s)⟩
  · cases e
theorem isAny_kit {d : PyData} : ∀ {ts : List String} {b : Bool}, isAny d ts = some b → PySem.W.kitAny K (.type (tyN d)) (ts.map Value.type) = some b
  | [], b, h => by
    simp only [isAny] at h
    cases h
    exact kitAny_nil
  | t :: ts, b, h => by
    simp only [isAny] at h
    split at h
    · rename_i p p2 e1 e2
      cases h
      refine kitAny_cons (kit_ty (kit_isT e1)) (fun z => ?_) (fun z => ?_)
      · rw [z, Bool.false_or]
        exact isAny_kit e2
      · rw [z, Bool.true_or]
    · cases h
theorem clsV_all : ∀ ts : List String, Paired ClsV (ts.map V.ty) (ts.map Value.type)
  | [] => .nil
  | t :: ts => .cons (.ty t) (clsV_all ts)
theorem p_isiT (ts : List String) : PrimOk K (r1L fun x H Q => ∀ p, H p = none → rIsiT K [x, .ref p] (upd H p (.tup (ts.map V.ty))) Q) (prim (.isinst ts)) := r1_u1 fun a o e G H x Q s h q => by
  simp only [Option.map_eq_some_iff] at e
  obtain ⟨b, e, rfl⟩ := e
  intro p hp
  have sH : Sub H (upd H p (.tup (ts.map V.ty))) := (Sub.refl H).upd hp
  refine ⟨x, p, ts.map V.ty, _, _, b, rfl, upd_same, clsV_all ts, TyX.keep sH (tyx_ok s h), isAny_kit e, q _ _ ⟨G, .refl G, s.trans sH, sH, by simp only [Sh], fun _ _ _ => rfl⟩⟩

/-! ### texts -/
theorem r_s2 {f : Str → Str → Option O} {r : List V → Hp → VK → Prop} (h : ∀ i j o, f i j = some o → ∀ G H Q, Sub G H → (∀ v H', Pr K G H o v H' → Q v H') → r [.str i, .str j] H Q) : PrimOk K r (s2 f) := by
  intro os o e G H vs Q s g q
  unfold s2 at e
  split at e
  · obtain ⟨x, y, rfl, h1, h2⟩ := g.two
    cases h1.str
    cases h2.str
    exact h _ _ _ e G H Q s q
  · cases e
/-- a method's reading as one over receiver and arguments -/
def rM (r : V → List V → Hp → VK → Prop) : List V → Hp → VK → Prop := fun vs H Q => match vs with
  | x :: xs => r x xs H Q
  | _ => False
theorem p_find : PrimOk K (rM fun x xs H Q => ∃ a b, x = .str a ∧ xs = [.str b] ∧ Q (.int (Txt.find a b)) H) (prim .find) := r_s2 fun i j o e G H Q s q => by
  cases e
  exact ⟨i, j, rfl, rfl, q _ _ (prI s)⟩
theorem p_startswith : PrimOk K (rM fun x xs H Q => ∃ a b, x = .str a ∧ xs = [.str b] ∧ Q (.bl (Txt.startswith a b)) H) (prim .startswith) := r_s2 fun i j o e G H Q s q => by
  cases e
  exact ⟨i, j, rfl, rfl, q _ _ (prB s)⟩
theorem ShL.strs : ∀ ys : List Str, ShL K G (ys.map PyData.str) (ys.map V.str)
  | [] => by simp only [List.map_nil, ShL]
  | y :: ys => by
    simp only [List.map_cons, ShL, Sh]
    exact ⟨_, _, rfl, rfl, ShL.strs ys⟩
theorem p_split : PrimOk K (rM fun x xs H Q => ∃ a b, x = .str a ∧ xs = [.str b] ∧ (b.length == 0) = false ∧ a.length + 2 ≤ sizeLine ∧ rNewStrs (Txt.split a b) H Q) (prim .split) := r_s2 fun i j o e G H Q s q => by
  obtain ⟨c, rfl⟩ := gd_some e
  simp only [Bool.and_eq_true, Bool.not_eq_true', decide_eq_true_eq] at c
  exact ⟨i, j, rfl, rfl, c.1, c.2, fun p hp => q _ _ (Pr.lst hp (ShL.strs _))⟩
theorem p_find3 : PrimOk K (rM fun x xs H Q => ∃ (a b : Str) (i : Int), x = .str a ∧ xs = [.str b, .int i] ∧ Q (.int (Txt.find3 a b i)) H) (prim .find3) := by
  intro os o e G H vs Q s g q
  change pFind3 os = some o at e
  unfold pFind3 at e
  split at e
  · cases e
    obtain ⟨x, y, z, rfl, h1, h2, h3⟩ := g.three
    cases h1.str
    cases h2.str
    cases h3.int
    exact ⟨_, _, _, rfl, rfl, q _ _ (prI s)⟩
  · cases e
theorem p_join : PrimOk K (rM fun x xs H Q => ∃ a p, ∃ ys : List Str, x = .str a ∧ xs = [.ref p] ∧ (SqL K H p (ys.map V.str) ∨ SqT K H p (ys.map V.str)) ∧
    (ys.map (·.length)).sum + ys.length * a.length ≤ 16777216 ∧ Q (.str (Txt.join a ys)) H) (prim .join) := by
  intro os o e G H vs Q s g q
  change pJoin os = some o at e
  unfold pJoin at e
  split at e
  · rename_i x a
    obtain ⟨y, z, rfl, h1, h2⟩ := g.two
    cases h1.str
    split at e
    · rename_i ds e1
      split at e
      · rename_i ys e2
        obtain ⟨c, rfl⟩ := gd_some e
        obtain ⟨p, xs, rfl, hp, hq⟩ := Fo.seq e1 s h2
        cases allSt_ok e2 hq
        exact ⟨x, p, ys, rfl, rfl, hp, of_decide_eq_true c, q _ _ (prS s)⟩
      · cases e
    · cases e
  · cases e

/-! ### dicts -/
theorem ShK.put : ∀ {ds : List (Key × PyData)} {xs : List (Key × V)} {k : Key} {d : PyData} {v : V}, ShK K G ds xs → Sh K G d v → ShK K G (putD ds k d) (putK xs k v) := by
  have any : ∀ {ds : List (Key × PyData)} {xs : List (Key × V)} {k : Key}, ShK K G ds xs → (ds.any fun kv => decide (kv.1 = k)) = (xs.any fun kv => decide (kv.1 = k)) := by
    intro ds
    induction ds with
    | nil =>
      intro xs k h
      simp only [ShK] at h
      rw [h]
      rfl
    | cons p r ih =>
      intro xs k h
      obtain ⟨k2, d⟩ := p
      simp only [ShK] at h
      obtain ⟨v, t, rfl, _, h⟩ := h
      rw [List.any_cons, List.any_cons, ih h]
  have mp : ∀ {ds : List (Key × PyData)} {xs : List (Key × V)} {k : Key} {d : PyData} {v : V}, ShK K G ds xs → Sh K G d v → ShK K G (ds.map fun kv => if kv.1 = k then (kv.1, d) else kv) (xs.map fun kv => if kv.1 = k then (kv.1, v) else kv) := by
    intro ds
    induction ds with
    | nil =>
      intro xs k d v h _
      simp only [ShK] at h
      rw [h]
      simp only [List.map_nil, ShK]
    | cons p r ih =>
      intro xs k d v h hv
      obtain ⟨k2, d2⟩ := p
      simp only [ShK] at h
      obtain ⟨v2, t, rfl, h2, h⟩ := h
      simp only [List.map_cons]
      by_cases e : k2 = k
      · simp only [e, if_true, ShK]
        exact ⟨v, _, rfl, hv, ih h hv⟩
      · simp only [e, if_false, ShK]
        exact ⟨v2, _, rfl, h2, ih h hv⟩
  have app : ∀ {ds : List (Key × PyData)} {xs : List (Key × V)} {k : Key} {d : PyData} {v : V}, ShK K G ds xs → Sh K G d v → ShK K G (ds ++ [(k, d)]) (xs ++ [(k, v)]) := by
    intro ds
    induction ds with
    | nil =>
      intro xs k d v h hv
      simp only [ShK] at h
      rw [h]
      simp only [List.nil_append, ShK]
      exact ⟨v, [], rfl, hv, rfl⟩
    | cons p r ih =>
      intro xs k d v h hv
      obtain ⟨k2, d2⟩ := p
      simp only [ShK] at h
      obtain ⟨v2, t, rfl, h2, h⟩ := h
      simp only [List.cons_append, ShK]
      exact ⟨v2, _, rfl, h2, ih h hv⟩
  intro ds xs k d v h hv
  unfold putD putK
  rw [any h]
  split
  · exact mp h hv
  · exact app h hv
theorem ShK.get : ∀ {ds : List (Key × PyData)} {xs : List (Key × V)} {k : Key}, ShK K G ds xs → (valD ds k = none ∧ valV xs k = none) ∨ ∃ d v, valD ds k = some d ∧ valV xs k = some v ∧ Sh K G d v
  | [], xs, k, h => by
    simp only [ShK] at h
    rw [h]
    exact .inl ⟨rfl, rfl⟩
  | (k2, d) :: r, xs, k, h => by
    simp only [ShK] at h
    obtain ⟨v, t, rfl, h1, h2⟩ := h
    by_cases e : k2 = k
    · exact .inr ⟨d, v, by simp [valD, e], by simp [valV, e], h1⟩
    · have q := ShK.get (k := k) h2
      simp only [valD, valV, List.find?_cons, e, decide_false] at q ⊢
      exact q
theorem pairs_ok : ∀ {ds : List PyData} {ps : List (Key × PyData)} {vs : List V}, pairsOf ds = some ps → ShL K G ds vs → ∃ (as : List Addr) (kvs : List (Key × V)), vs = as.map V.ref ∧ Paired (fun p kv => SqT K G p [kV kv.1, kv.2]) as kvs ∧ ShK K G ps kvs
  | [], ps, vs, e, h => by
    simp only [pairsOf] at e
    cases e
    simp only [ShL] at h
    rw [h]
    exact ⟨[], [], rfl, .nil, by simp only [ShK]⟩
  | d :: ds, ps, vs, e, h => by
    unfold pairsOf at e
    split at e
    · rename_i e0
      cases e0
    · rename_i i d2 r e0
      cases e0
      simp only [Option.map_eq_some_iff] at e
      obtain ⟨qs, e, rfl⟩ := e
      simp only [ShL, Sh] at h
      obtain ⟨v, r2, rfl, ⟨a, ws, rfl, hT, w1, r3, rfl, rfl, w2, r4, rfl, h3, rfl⟩, h⟩ := h
      obtain ⟨as, kvs, rfl, h4, h5⟩ := pairs_ok e h
      refine ⟨a :: as, (.inl i, w2) :: kvs, rfl, .cons hT h4, ?_⟩
      simp only [ShK]
      exact ⟨w2, kvs, rfl, h3, h5⟩
    · rename_i i d2 r e0
      cases e0
      simp only [Option.map_eq_some_iff] at e
      obtain ⟨qs, e, rfl⟩ := e
      simp only [ShL, Sh] at h
      obtain ⟨v, r2, rfl, ⟨a, ws, rfl, hT, w1, r3, rfl, rfl, w2, r4, rfl, h3, rfl⟩, h⟩ := h
      obtain ⟨as, kvs, rfl, h4, h5⟩ := pairs_ok e h
      refine ⟨a :: as, (.inr i, w2) :: kvs, rfl, .cons hT h4, ?_⟩
      simp only [ShK]
      exact ⟨w2, kvs, rfl, h3, h5⟩
    · cases e
theorem merge_ok : ∀ {ps : List (Key × PyData)} {kvs : List (Key × V)} {m : List (Key × PyData)} {n : List (Key × V)}, ShK K G m n → ShK K G ps kvs → ShK K G (ps.foldl (fun m p => putD m p.1 p.2) m) (mergeK n kvs)
  | [], kvs, m, n, h, h2 => by
    simp only [ShK] at h2
    rw [h2]
    exact h
  | (k, d) :: ps, kvs, m, n, h, h2 => by
    simp only [ShK] at h2
    obtain ⟨v, t, rfl, h3, h4⟩ := h2
    have z := merge_ok (ps := ps) (m := putD m k d) (n := putK n k v) (ShK.put h h3) h4
    exact z
theorem p_dict : PrimOk K (fun xs H Q => ∃ (a : Addr) (ps : List Addr) (kvs : List (Key × V)), xs = [.ref a] ∧ SqL K H a (ps.map V.ref) ∧ Paired (fun p kv => SqT K H p [kV kv.1, kv.2]) ps kvs ∧
    ∀ p, H p = none → Q (.ref p) (upd H p (.dK (mergeK [] kvs)))) (prim .dict1) := by
  intro os o e G H vs Q s g q
  change u1 _ os = some o at e
  unfold u1 at e
  split at e
  · obtain ⟨x, rfl, h1⟩ := g.one
    unfold pDict at e
    split at e
    · rename_i ds e1
      simp only [Option.map_eq_some_iff] at e
      obtain ⟨ps, e, rfl⟩ := e
      obtain ⟨p, xs, rfl, hp, hq⟩ := Fo.list e1 s h1
      obtain ⟨as, kvs, rfl, h4, h5⟩ := pairs_ok e hq
      have up : ∀ {as : List Addr} {kvs : List (Key × V)}, Paired (fun p kv => SqT K G p [kV kv.1, kv.2]) as kvs → Paired (fun p kv => SqT K H p [kV kv.1, kv.2]) as kvs := by
        intro as kvs h
        induction h with
        | nil => exact .nil
        | cons h _ ih => exact .cons (s.sqT h) ih
      exact ⟨p, as, kvs, rfl, .of hp, up h4, fun l hl => q _ _ ⟨l, _, _, rfl, hl, rfl, rfl, merge_ok (by simp only [ShK]) h5⟩⟩
    · cases e
  · cases e
end
end Qv
end
section
set_option Elab.async false
set_option linter.all false
set_option maxRecDepth 100000
set_option maxHeartbeats 1000000
/-! Q6: how expressions of the text compute as terms do. -/
namespace Qv
open PySem PySem.Spec PyProof.Rows L2

section
variable {K : Frag} {H : Hp} {ρ : Env} {σ : L2.St} {M N : List En}
/-- temps that stand on the stack -/
def Tin : List Opd → List V → List En → Prop
  | .sl _ :: xs, _ :: vs, N => Tin xs vs N
  | .tv o :: xs, v :: vs, N => (some o, v) ∈ N ∧ Tin xs vs N
  | _, _, _ => True
theorem Tin.mono {N N' : List En} (h : ∀ e ∈ N, e ∈ N') : ∀ {xs : List Opd} {vs : List V}, Tin xs vs N → Tin xs vs N'
  | [], _, _ => by simp only [Tin]
  | .sl _ :: xs, [], _ => by simp only [Tin]
  | .tv _ :: xs, [], _ => by simp only [Tin]
  | .sl _ :: xs, _ :: vs, t => by
    simp only [Tin] at t ⊢
    exact Tin.mono h t
  | .tv _ :: xs, _ :: vs, t => by
    simp only [Tin] at t ⊢
    exact ⟨h _ t.1, Tin.mono h t.2⟩
theorem Tin.pushes : ∀ {xs : List Opd} {vs : List V} {M : List En}, Tin xs vs (pushes xs vs M)
  | [], _, _ => by simp only [Tin]
  | .sl _ :: xs, [], _ => by simp only [Tin]
  | .tv _ :: xs, [], _ => by simp only [Tin]
  | .sl _ :: xs, _ :: vs, M => by
    simp only [Tin]
    exact Tin.pushes (xs := xs) (vs := vs) (M := M)
  | .tv o :: xs, v :: vs, M => by
    simp only [Tin]
    exact ⟨pushes_mem (xs := xs) (vs := vs) List.mem_cons_self, Tin.pushes (xs := xs) (vs := vs) (M := (some o, v) :: M)⟩
theorem rdO_sl {i : Nat} {o : O} (h : rdO ρ (.sl i) = some o) : ρ[i]? = some (some o) := by
  simp only [rdO] at h
  split at h
  · rename_i o2 h4
    cases h
    exact h4
  · cases h
theorem fo_of {G : Hp} {A : List Addr} {L : List En} (c : Cov ρ σ) (q : PL K G H L A) (ml : ∀ e ∈ live ρ σ, e ∈ L) : ∀ {xs : List Opd} {vs : List V} {os : List O}, Tin xs vs L → Ats xs vs σ → rdOs ρ xs = some os → FoL K G H os vs
  | [], vs, os, _, a, e => by
    simp only [rdOs] at e
    cases e
    exact a
  | .sl i :: xs, vs, os, m, a, e => by
    obtain ⟨v, r, rfl, e1, a⟩ := a
    simp only [rdOs] at e
    split at e
    · rename_i o os' h1 h2
      split at e
      · rename_i hf
        cases e
        obtain ⟨B, q2⟩ := PL.mem q (ml _ (c.mem (rdO_sl h1) e1))
        exact ⟨v, r, rfl, Ow.fo q2 hf, fo_of c q ml (by simpa only [Tin] using m) a h2⟩
      · cases e
    · cases e
  | .tv o1 :: xs, vs, os, m, a, e => by
    obtain ⟨v, r, rfl, a⟩ := a
    simp only [Tin] at m
    simp only [rdOs] at e
    split at e
    · rename_i o os' h1 h2
      split at e
      · rename_i hf
        cases e
        simp only [rdO] at h1
        cases h1
        obtain ⟨B, q2⟩ := PL.mem q m.1
        exact ⟨v, r, rfl, Ow.fo q2 hf, fo_of c q ml m.2 a h2⟩
      · cases e
    · cases e
/-- operands that are looked at; the stack stays -/
theorem Ws.look {xs : List Opd} {vs : List V} {os : List O} (h : Ws K H N ρ σ) (t : Tin xs vs N) (a : Ats xs vs σ) (e : rdOs ρ xs = some os) :
    ∃ G, Sub G H ∧ FoL K G H os vs ∧ (∀ o v H', Pr K G H o v H' → Ws K H' ((some o, v) :: N) ρ σ) := by
  obtain ⟨c, G, A, s, q, n, f⟩ := h
  exact ⟨G, s, fo_of c q (fun _ z => List.mem_append_right _ z) (t.mono fun _ z => List.mem_append_left _ z) a e, fun o v H' p => ⟨c, Pr.close s q n f p⟩⟩
theorem Ws.scal {d : PyData} {v : V} (h : Ws K H ((some (.sh d), v) :: M) ρ σ) : ∃ G, Sub G H ∧ Sh K G d v := by
  obtain ⟨_, G, A, s, ⟨B, C, q1, _, _⟩, _, _⟩ := h
  simp only [OwE, Ow] at q1
  exact ⟨G, s, q1.2⟩
theorem Ws.bool {b : Bool} {v : V} (h : Ws K H ((some (.sh (.bool b)), v) :: M) ρ σ) : v = .bl b := by
  obtain ⟨G, _, q⟩ := h.scal
  simpa only [Sh] using q
/-- the second of the stack left out -/
theorem Ws.under {e f : En} (h : Ws K H (e :: f :: M) ρ σ) : Ws K H (e :: M) ρ σ := (h.mono (.swap f e M)).drop
theorem Ws.underL {e : En} (T : List En) (h : Ws K H (e :: (T ++ M)) ρ σ) : Ws K H (e :: M) ρ σ := by
  have p : (e :: (T ++ M)).Perm (T ++ e :: M) := List.perm_middle.symm
  exact (h.mono p).dropL T
end

abbrev SE (X : Cx) (C : Cal) (e : Expr) (τ : T) : Prop := PE X e (tS X.K C τ)
abbrev SO (X : Cx) (C : Cal) (e : Expr) (τ : T) : Prop := PE X e (tO X.K C τ)
abbrev ST (X : Cx) (C : Cal) (e : Expr) (τ : T) : Prop := PT X e (tT X.K C τ)
abbrev SOs (X : Cx) (C : Cal) (es : List Expr) (τs : List T) : Prop := PA X es (tOs X.K C τs)
abbrev SEs (X : Cx) (C : Cal) (es : List Expr) (τs : List T) : Prop := PA X es (tSs X.K C τs)

section
variable {X : Cx} {C : Cal} {e a b c : Expr} {es : List Expr} {τ τa τb τc : T} {τs : List T} {pos p pos' : Pos}

theorem s_cst {d : PyData} {v : V} (h : PE X e (tC v)) (q : ∀ G, Sh X.K G d v) : SE X C e (.c d) := PE.imp h fun σ H Q z => by
  obtain ⟨ρ, o, ρ', M, e1, w, z⟩ := z
  simp only [ev] at e1
  cases e1
  exact z v H (w.flat q)
theorem s_non {j pos} : SE X C (.Constant .none j pos) (.c .none) := s_cst pe_non fun _ => by simp only [Sh]
theorem s_bl {b : Bool} {j pos} : SE X C (.Constant (.bool b) j pos) (.c (.bool b)) := s_cst pe_bl fun _ => by simp only [Sh]
theorem s_int {i : Int} {j pos} : SE X C (.Constant (.int i) j pos) (.c (.int i)) := s_cst pe_int fun _ => by simp only [Sh]
theorem s_str {x : Str} {j pos} : SE X C (.Constant (.str x) j pos) (.c (.str x)) := s_cst pe_str fun _ => by simp only [Sh]
theorem s_nm {i : Nat} (h : PE X e (tVar i)) : SE X C e (.nm i) := PE.imp h fun σ H Q z => by
  obtain ⟨ρ, o, ρ', M, e1, w, z⟩ := z
  simp only [ev] at e1
  obtain ⟨v, hv, w2⟩ := w.name e1
  exact ⟨v, hv, z v H w2⟩
theorem s_mv {i : Nat} (h : PE X e (tVar i)) : SE X C e (.mv i) := PE.imp h fun σ H Q z => by
  obtain ⟨ρ, o, ρ', M, e1, w, z⟩ := z
  simp only [ev] at e1
  obtain ⟨v, hv, w2⟩ := w.moved e1
  exact ⟨v, hv, z v H w2⟩
theorem s_fz (h : SE X C e τ) : SE X C e (.fz τ) := PE.imp h fun σ H Q z => by
  obtain ⟨ρ, o, ρ', M, e1, w, z⟩ := z
  simp only [ev] at e1
  split at e1
  · rename_i o1 ρ1 h1
    simp only [Option.some.injEq, Prod.mk.injEq] at e1
    obtain ⟨rfl, rfl⟩ := e1
    exact ⟨ρ, o1, _, M, h1, w, fun v H' w' => z v H' w'.fz⟩
  · cases e1
theorem so_nm {i : Nat} (h : PE X e (tVar i)) : SO X C e (.nm i) := h
theorem so_of (h : SE X C e τ) (n : isNm τ = none) : SO X C e τ := by
  show PE X e (tO X.K C τ)
  rw [tO_tS n]
  exact h

/-! ### displays -/
theorem evs_run {K : Frag} {σ : L2.St} : ∀ {τs : List T} {ρ ρ' : Env} {os : List O} {H : Hp} {M : List En} {R : List V → Hp → Prop}, evs C τs ρ = some (os, ρ') → Ws K H M ρ σ →
    (∀ vs H', os.length = vs.length → Ws K H' (ens os vs ++ M) ρ' σ → R vs H') → tSs K C τs σ H R
  | [], ρ, ρ', os, H, M, R, e, w, q => by
    simp only [evs] at e
    cases e
    exact q [] H rfl w
  | τ :: τs, ρ, ρ', os, H, M, R, e, w, q => by
    simp only [evs] at e
    split at e
    · rename_i o ρ1 h1
      split at e
      · rename_i os' ρ2 h2
        cases e
        refine ⟨ρ, o, ρ1, M, h1, w, fun v H1 w1 => evs_run h2 w1 fun vs H' l w' => q (v :: vs) H' (by rw [List.length_cons, List.length_cons, l]) (w'.mono ?_)⟩
        exact List.perm_middle
      · cases e
    · cases e
theorem Wd.fzL {K : Frag} {H : Hp} {L : List En} : ∀ {os : List O} {vs : List V}, Wd K H (ens os vs ++ L) → Wd K H (ens (os.map fun o => .sh o.d) vs ++ L)
  | [], _, h => h
  | _ :: _, [], h => h
  | o :: os, v :: vs, h => by
    have h1 : Wd K H ((some (.sh o.d), v) :: (ens os vs ++ L)) := Wd.fz h
    have h2 : Wd K H (ens os vs ++ ((some (.sh o.d), v) :: L)) := h1.perm List.perm_middle.symm
    exact (Wd.fzL h2).perm List.perm_middle
theorem s_tup {x1} (h : SEs X C es τs) : SE X C (.Tuple es x1 pos) (.tup τs) := PE.imp (pe_tup h) fun σ H Q z => by
  obtain ⟨ρ, o, ρ', M, e1, w, z⟩ := z
  simp only [ev] at e1
  split at e1
  · rename_i os ρ1 h1
    split at e1
    · rename_i hl
      cases e1
      refine evs_run h1 w fun vs H1 l w1 => ⟨by rw [← l]; exact hl, fun p hp => z _ _ ⟨w1.1, ?_⟩⟩
      have w2 := w1.2
      rw [List.append_assoc] at w2
      have w3 := (Wd.tuple w2 l hp).fz
      simp only [O.d] at w3
      exact w3
    · cases e1
  · cases e1
theorem s_tupo {x1} (h : SEs X C es τs) : SE X C (.Tuple es x1 pos) (.tupo τs) := PE.imp (pe_tup h) fun σ H Q z => by
  obtain ⟨ρ, o, ρ', M, e1, w, z⟩ := z
  simp only [ev] at e1
  split at e1
  · rename_i os ρ1 h1
    split at e1
    · rename_i hl
      cases e1
      refine evs_run h1 w fun vs H1 l w1 => ⟨by rw [← l]; exact hl, fun p hp => z _ _ ⟨w1.1, ?_⟩⟩
      have w2 := w1.2
      rw [List.append_assoc] at w2
      exact Wd.tuple w2 l hp
    · cases e1
  · cases e1
theorem map_sh_d : ∀ os : List O, (os.map fun o => O.sh o.d) = (O.dL os).map O.sh
  | [] => rfl
  | o :: os => by rw [List.map_cons, map_sh_d os]; rfl
theorem s_lst (h : SEs X C es τs) : SE X C (.List es pos) (.lst τs) := PE.imp (pe_lst h) fun σ H Q z => by
  obtain ⟨ρ, o, ρ', M, e1, w, z⟩ := z
  simp only [ev] at e1
  split at e1
  · rename_i os ρ1 h1
    split at e1
    · rename_i hl
      cases e1
      refine evs_run h1 w fun vs H1 l w1 => ⟨by rw [← l]; exact hl, fun p hp => z _ _ ⟨w1.1, ?_⟩⟩
      have w2 := w1.2
      rw [List.append_assoc] at w2
      have w3 := Wd.list (Wd.fzL w2) (by rw [List.length_map]; exact l) hp
      rw [map_sh_d] at w3
      exact w3
    · cases e1
  · cases e1

/-! ### operations -/
theorem s_op2 {op : Operator} {r : R2} {k : OpK} (ho : OpR X (binaryOp op) r) (pr : PrimOk X.K (r2L r) (prim k)) (ha : SO X C a τa) (hb : SO X C b τb) : SE X C (.BinOp a op b pos) (.op k [τa, τb]) :=
  PE.imp (pe_op ho ha hb) fun σ H Q z => op_sim pr σ H Q z
theorem s_un {op : UnaryOp} {r : V → Hp → VK → Prop} {k : OpK} (ho : UnR X (unaryOp op) r) (pr : PrimOk X.K (r1L r) (prim k)) (ha : SO X C a τa) : SE X C (.UnaryOp op a pos) (.op k [τa]) :=
  PE.imp (pe_un ho ha) fun σ H Q z => op_sim pr σ H Q z
theorem s_cmp {op : CmpOp} {r : R2} {k : OpK} (ho : OpR X (compareOp op) r) (pr : PrimOk X.K (r2L r) (prim k)) (ha : SO X C a τa) (hb : SO X C b τb) (hm : behindInMarks op b = false) : SE X C (.Compare a [op] [b] pos) (.op k [τa, τb]) :=
  PE.imp (pe_cmpR ho ha hb hm) fun σ H Q z => op_sim pr σ H Q z
theorem s_isN {j} (ha : SO X C a τa) : SE X C (.Compare a [.Is] [.Constant .none j p] pos) (.op .isnone [τa]) :=
  PE.imp (pe_cmpR op_isN ha pe_non (nomark _)) fun σ H Q z => op_sim p_isnone σ H Q z
theorem s_notN {j} (ha : SO X C a τa) : SE X C (.Compare a [.IsNot] [.Constant .none j p] pos) (.op .notnone [τa]) :=
  PE.imp (pe_cmpR op_notN ha pe_non (nomark _)) fun σ H Q z => op_sim p_notnone σ H Q z
theorem s_ix (ha : SO X C a τa) (hb : SO X C b τb) (hs : PlainIx b) : SE X C (.Subscript a b pos) (.op .item [τa, τb]) :=
  PE.imp (pe_ix ix_seq ha hb hs) fun σ H Q z => op_sim p_item σ H Q z
theorem s_revL {k : Nat} {p1 p2 p3 : Pos} (ha : SO X C a τa) : SE X C (.Subscript a (.Slice none none (some (.UnaryOp .USub (.Constant (.int 1) k p1) p2)) p3) pos) (.op .back [τa]) :=
  PE.imp (pe_revL ha) fun σ H Q z => op_sim p_back σ H Q z
theorem s_callB {x : Str} {id : String} {r : List V → Hp → VK → Prop} {k : OpK} (hc : CallR X (.builtin id) r) (pr : PrimOk X.K r (prim k)) (hg : Gl X x) (hm : X.mg x = none) (hv : bootBuiltins x = some (.builtin id)) (ha : SOs X C (e :: es) τs)
    (hn : x ≠ "__name__") (hdb : (x == ("__debug__" : Str)) = false) (he : starEach (e :: es) X.env = (false, eval e X.env) :: starEach es X.env) (hpl : (backTo pos (starEach es X.env)).any (·.1) = false) :
    SE X C (.Call (.Name x p) (e :: es) [] pos) (.op k τs) :=
  PE.imp (pe_callB hc hg hm hv ha hn hdb he hpl) fun σ H Q z => op_sim pr σ H Q z
theorem s_callTy {x : Str} {id : String} {r : List V → Hp → VK → Prop} {k : OpK} (hc : CallR X (.type id) r) (pr : PrimOk X.K r (prim k)) (hg : Gl X x) (hm : X.mg x = none) (hv : bootBuiltins x = some (.type id)) (ha : SOs X C (e :: es) τs)
    (hn : x ≠ "__name__") (hdb : (x == ("__debug__" : Str)) = false) (he : starEach (e :: es) X.env = (false, eval e X.env) :: starEach es X.env) (hpl : (backTo pos (starEach es X.env)).any (·.1) = false) :
    SE X C (.Call (.Name x p) (e :: es) [] pos) (.op k τs) :=
  PE.imp (pe_callTy hc hg hm hv ha hn hdb he hpl) fun σ H Q z => op_sim pr σ H Q z

/-! ### and, or, not, a if c else b -/
theorem s_and {rest : List Expr} (ha : SE X C a τa) (hb : SE X C (.BoolOp .And (b :: rest) pos) τb) : SE X C (.BoolOp .And (a :: b :: rest) pos) (.and2 τa τb) := PE.imp (pe_and ha hb) fun σ H Q z => by
  obtain ⟨ρ, o, ρ', M, e1, w, z⟩ := z
  simp only [ev] at e1
  split at e1
  · rename_i ρ1 h1
    exact ⟨ρ, _, ρ1, M, h1, w, fun v H1 w1 => ⟨true, w1.bool, iteT ⟨ρ1, o, ρ', M, e1, w1.drop, z⟩⟩⟩
  · rename_i ρ1 h1
    cases e1
    refine ⟨ρ, _, _, M, h1, w, fun v H1 w1 => ⟨false, w1.bool, iteF ?_⟩⟩
    have e := w1.bool
    subst e
    exact z _ _ w1
  · cases e1
theorem s_or {rest : List Expr} (ha : SE X C a τa) (hb : SE X C (.BoolOp .Or (b :: rest) pos) τb) : SE X C (.BoolOp .Or (a :: b :: rest) pos) (.or2 τa τb) := PE.imp (pe_or ha hb) fun σ H Q z => by
  obtain ⟨ρ, o, ρ', M, e1, w, z⟩ := z
  simp only [ev] at e1
  split at e1
  · rename_i ρ1 h1
    cases e1
    refine ⟨ρ, _, _, M, h1, w, fun v H1 w1 => ⟨true, w1.bool, iteT ?_⟩⟩
    have e := w1.bool
    subst e
    exact z _ _ w1
  · rename_i ρ1 h1
    refine ⟨ρ, _, ρ1, M, h1, w, fun v H1 w1 => ⟨false, w1.bool, iteF ?_⟩⟩
    exact ⟨ρ1, o, ρ', M, e1, w1.drop, z⟩
  · cases e1
theorem s_one {op} (h : SE X C a τ) : SE X C (.BoolOp op [a] pos) τ := pe_one h
theorem s_notT (ha : SO X C a τa) : SE X C (.UnaryOp .Not a pos) (.op .nt [τa]) := PE.imp (pe_notT ha) fun σ H Q z => by
  have pr : PrimOk X.K (r1L fun x H Q => ∃ k, TruV X.K x H k ∧ Q (.bl (!k)) H) (prim .nt) := r1_u1 fun a o e G H x Q s h q => by
    simp only [Option.map_eq_some_iff] at e
    obtain ⟨b, e, rfl⟩ := e
    exact ⟨b, tru_in e s h, q _ _ (prB s)⟩
  exact op_sim (r := r1L fun x H Q => ∃ k, TruV X.K x H k ∧ Q (.bl (!k)) H) pr σ H Q z
theorem s_ite (hc : ST X C c τc) (ha : SE X C a τa) (hb : SE X C b τb) : SE X C (.IfExp c a b pos) (.ite τc τa τb) := PE.imp (pe_ifExp hc ha hb) fun σ H Q z => by
  obtain ⟨ρ, o, ρ', M, e1, w, z⟩ := z
  simp only [ev] at e1
  split at e1
  · rename_i ρ1 h1
    exact ⟨ρ, true, ρ1, M, h1, w, fun H1 w1 => iteT ⟨ρ1, o, ρ', M, e1, w1, z⟩⟩
  · rename_i ρ1 h1
    refine ⟨ρ, false, _, M, h1, w, fun H1 w1 => iteF ?_⟩
    exact ⟨ρ1, o, ρ', M, e1, w1, z⟩
  · cases e1

/-! ### tests -/
def PlainT (X : Cx) (a : Expr) : Prop := ∀ whole, isTrue a X.env whole = (do let v ← whole; standAt a.pos; holding [v] (truthy v))
theorem t_tt (ha : SO X C a τa) (he : PlainT X a) : ST X C a (.tt τa) := PT.imp (pt_truth ha he) fun σ H Q z => by
  obtain ⟨ρ, b, ρ', M, e1, w, z⟩ := z
  simp only [ev] at e1
  split at e1
  · rename_i i hi
    have hi := isNm_some hi
    subst hi
    split at e1
    · rename_i o h1
      split at e1
      · rename_i b' h2
        cases e1
        have h3 : ρ[i]? = some (some o) := by
          simp only [rdOs] at h1
          split at h1
          · rename_i o2 os2 h4 h5
            split at h1
            · cases h5
              cases h1
              exact rdO_sl h4
            · cases h1
          · cases h1
        obtain ⟨v, hv, _⟩ := w.1.take h3
        obtain ⟨G, s, f, _⟩ := w.look (xs := [.sl i]) (vs := [v]) (by simp only [Tin]) ⟨v, [], rfl, hv, rfl⟩ h1
        obtain ⟨x, e2, hx⟩ := f.one
        cases e2
        exact ⟨v, hv, b, tru_in h2 s hx, z H w⟩
      · cases e1
    · cases e1
  · rename_i hi
    split at e1
    · rename_i o ρ1 h1
      split at e1
      · rename_i o' h2
        split at e1
        · rename_i b' h3
          cases e1
          show tO X.K C τa σ H _
          rw [tO_tS hi]
          refine ⟨ρ, o, _, M, h1, w, fun v H1 w1 => ?_⟩
          obtain ⟨G, s, f, _⟩ := w1.look (xs := [.tv o]) (vs := [v]) (by simp only [Tin]; exact ⟨List.mem_cons_self, trivial⟩) ⟨v, [], rfl, rfl⟩ h2
          obtain ⟨x, e2, hx⟩ := f.one
          cases e2
          exact ⟨b, tru_in h3 s hx, z H1 w1.drop⟩
        · cases e1
      · cases e1
    · cases e1
abbrev SW (X : Cx) (C : Cal) (e : Expr) (τ : T) : Prop := PW X e (tT X.K C τ)
theorem PW.imp {e : Expr} {t t' : TT} (h : PW X e t) (w : ∀ σ H Q, t' σ H Q → t σ H Q) : PW X e t' := ⟨fun wh pins s σ H Q I q => h.run wh pins s σ H Q I (w σ H Q q)⟩
theorem t_and1 (ha : ST X C a τ) : SW X C (.BoolOp .And [a] pos) τ := pw_and1 ha
theorem t_or1 (ha : ST X C a τ) : SW X C (.BoolOp .Or [a] pos) τ := pw_or1 ha
theorem t_and {rest : List Expr} (ha : ST X C a τa) (hb : SW X C (.BoolOp .And (b :: rest) pos) τb) : SW X C (.BoolOp .And (a :: b :: rest) pos) (.and2 τa τb) := PW.imp (pw_and ha hb) fun σ H Q z => by
  obtain ⟨ρ, t, ρ', M, e1, w, z⟩ := z
  simp only [ev] at e1
  split at e1
  · rename_i ρ1 h1
    exact ⟨ρ, true, ρ1, M, h1, w, fun H1 w1 => iteT ⟨ρ1, t, ρ', M, e1, w1, z⟩⟩
  · rename_i ρ1 h1
    cases e1
    refine ⟨ρ, false, _, M, h1, w, fun H1 w1 => iteF ?_⟩
    exact z _ w1
  · cases e1
theorem t_or {rest : List Expr} (ha : ST X C a τa) (hb : SW X C (.BoolOp .Or (b :: rest) pos) τb) : SW X C (.BoolOp .Or (a :: b :: rest) pos) (.or2 τa τb) := PW.imp (pw_or ha hb) fun σ H Q z => by
  obtain ⟨ρ, t, ρ', M, e1, w, z⟩ := z
  simp only [ev] at e1
  split at e1
  · rename_i ρ1 h1
    cases e1
    exact ⟨ρ, true, _, M, h1, w, fun H1 w1 => iteT (z _ w1)⟩
  · rename_i ρ1 h1
    refine ⟨ρ, false, _, M, h1, w, fun H1 w1 => iteF ?_⟩
    exact ⟨ρ1, t, ρ', M, e1, w1, z⟩
  · cases e1
theorem t_not (ha : ST X C a τ) : ST X C (.UnaryOp .Not a pos) (.tn τ) := PT.imp (pt_not ha) fun σ H Q z => by
  obtain ⟨ρ, t, ρ', M, e1, w, z⟩ := z
  simp only [ev] at e1
  split at e1
  · rename_i b ρ1 h1
    cases e1
    exact ⟨ρ, b, _, M, h1, w, fun H1 w1 => z _ w1⟩
  · cases e1
end
end Qv
end
section
set_option Elab.async false
set_option linter.all false
set_option maxRecDepth 100000
set_option maxHeartbeats 1000000
/-! Q7: chains, items of rows, slices, methods, calls. -/
namespace Qv
open PySem PySem.Spec PyProof.Rows L2

section
variable {X : Cx} {C : Cal} {e a b c : Expr} {es : List Expr} {τ τa τb τc : T} {τs : List T} {pos p pos' : Pos}
variable {K : Frag} {H : Hp} {ρ : Env} {σ : L2.St} {M N : List En}

theorem evOs_len : ∀ {τs : List T} {ρ ρ' : Env} {xs : List Opd}, evOs C τs ρ = some (xs, ρ') → xs.length = τs.length
  | [], ρ, ρ', xs, e => by
    simp only [evOs] at e
    cases e
    rfl
  | τ :: τs, ρ, ρ', xs, e => by
    simp only [evOs] at e
    split at e
    · split at e
      · split at e
        · rename_i h
          cases e
          rw [List.length_cons, List.length_cons, evOs_len h]
        · cases e
      · cases e
    · split at e
      · split at e
        · rename_i h
          cases e
          rw [List.length_cons, List.length_cons, evOs_len h]
        · cases e
      · cases e
theorem Ats.len : ∀ {xs : List Opd} {vs : List V}, Ats xs vs σ → xs.length = vs.length
  | [], vs, a => by
    have a : vs = [] := a
    rw [a]
    rfl
  | .sl i :: xs, vs, a => by
    obtain ⟨v, r, rfl, _, a⟩ := a
    rw [List.length_cons, List.length_cons, Ats.len a]
  | .tv i :: xs, vs, a => by
    obtain ⟨v, r, rfl, a⟩ := a
    rw [List.length_cons, List.length_cons, Ats.len a]
theorem Ats.append : ∀ {xs ys : List Opd} {vs ws : List V}, Ats xs vs σ → Ats ys ws σ → Ats (xs ++ ys) (vs ++ ws) σ
  | [], ys, vs, ws, a, b => by
    have a : vs = [] := a
    rw [a]
    exact b
  | .sl i :: xs, ys, vs, ws, a, b => by
    obtain ⟨v, r, rfl, e, a⟩ := a
    exact ⟨v, r ++ ws, rfl, e, Ats.append a b⟩
  | .tv i :: xs, ys, vs, ws, a, b => by
    obtain ⟨v, r, rfl, a⟩ := a
    exact ⟨v, r ++ ws, rfl, Ats.append a b⟩
theorem Tin.append {N : List En} : ∀ {xs ys : List Opd} {vs ws : List V}, xs.length = vs.length → Tin xs vs N → Tin ys ws N → Tin (xs ++ ys) (vs ++ ws) N
  | [], ys, [], ws, _, _, b => b
  | .sl i :: xs, ys, v :: vs, ws, l, a, b => by
    simp only [Tin, List.cons_append] at a ⊢
    exact Tin.append (by simpa using l) a b
  | .tv i :: xs, ys, v :: vs, ws, l, a, b => by
    simp only [Tin, List.cons_append] at a ⊢
    exact ⟨a.1, Tin.append (by simpa using l) a.2 b⟩
  | [], _, _ :: _, _, l, _, _ => by cases l
  | _ :: _, _, [], _, l, _, _ => by cases l
theorem pushes_sub {xs : List Opd} {vs : List V} : ∀ e ∈ M, e ∈ pushes xs vs M := fun e h => pushes_mem h
theorem Ws.pops {xs : List Opd} {vs : List V} (h : Ws K H (pushes xs vs M) ρ σ) : Ws K H M ρ σ := by
  obtain ⟨T, q⟩ := pushes_suffix xs vs M
  rw [q] at h
  exact h.dropL T
theorem Ws.popsU {xs : List Opd} {vs : List V} {e : En} (h : Ws K H (e :: pushes xs vs M) ρ σ) : Ws K H (e :: M) ρ σ := by
  obtain ⟨T, q⟩ := pushes_suffix xs vs M
  rw [q] at h
  exact h.underL T

/-! ### a op b op c -/
theorem chain_run {op op' : CmpOp} {r r' : R2} {k l : OpK} (ho : OpR X (compareOp op) r) (ho' : OpR X (compareOp op') r') (pr : PrimOk X.K (r2L r) (prim k)) (pr' : PrimOk X.K (r2L r') (prim l)) (σ : L2.St) (H : Hp) (Q : VK)
    (z : tS X.K C (.chain k l [τa, τb] [τc]) σ H Q) : tChain r r' (tO X.K C τa) (tO X.K C τb) (tO X.K C τc) σ H Q := by
  obtain ⟨ρ, o, ρ', M, e1, w, z⟩ := z
  simp only [ev] at e1
  split at e1
  · rename_i xs ρ1 h1
    split at e1
    · rename_i os h2
      show tOs X.K C [τa, τb] σ H fun vs H2 => r2L (fun x y H2 Q' => r x y H2 Q') vs H2 fun z H3 => ∃ k, z = .bl k ∧ (if k = true then tO X.K C τc σ H3 fun w' H4 => r' (vs.getD 1 .non) w' H4 Q else Q (.bl false) H3)
      refine opds h1 w fun vs H2 a w2 => ?_
      have two : ∀ {α : Type} {l : List α}, l.length = 2 → ∃ x y, l = [x, y] := fun {α l} h => match l, h with
        | [x, y], _ => ⟨x, y, rfl⟩
      obtain ⟨x1, x2, rfl⟩ := two (evOs_len h1)
      obtain ⟨v1, v2, rfl⟩ := two a.len.symm
      obtain ⟨G, s, f, cl⟩ := w2.look Tin.pushes a h2
      split at e1
      · rename_i h3
        refine pr os _ h3 G H2 [v1, v2] _ s f fun v H3 pv => ?_
        have w3 := cl _ v H3 pv
        have ev := w3.bool
        subst ev
        have w4 := w3.drop
        refine ⟨true, rfl, iteT ?_⟩
        split at e1
        · rename_i ys ρ2 h4
          split at e1
          · rename_i os2 h5
            split at e1
            · rename_i o' h6
              cases e1
              show tOs X.K C [τc] σ H3 fun ws H4 => r2L (fun x y H2 Q' => r' x y H2 Q') (v2 :: ws) H4 Q
              refine opds h4 w4 fun ws H4 a2 w5 => ?_
              have a3 : Ats [x2] [v2] σ := by
                cases x1 with
                | sl i =>
                  obtain ⟨_, _, e, _, a⟩ := a
                  cases e
                  exact a
                | tv i =>
                  obtain ⟨_, _, e, a⟩ := a
                  cases e
                  exact a
              have t3 : Tin [x2] [v2] (pushes [x1, x2] [v1, v2] M) := by
                have t := Tin.pushes (xs := [x1, x2]) (vs := [v1, v2]) (M := M)
                cases x1 with
                | sl i => simpa only [Tin] using t
                | tv i =>
                  simp only [Tin] at t
                  exact t.2
              obtain ⟨G2, s2, f2, cl2⟩ := w5.look (Tin.append (by rfl) (t3.mono fun e he => pushes_mem he) Tin.pushes) (a3.append a2) h5
              exact pr' os2 _ h6 G2 H4 _ Q s2 f2 fun v H5 pv => z v H5 (cl2 _ v H5 pv).popsU.popsU
            · cases e1
          · cases e1
        · cases e1
      · rename_i h3
        cases e1
        refine pr os _ h3 G H2 [v1, v2] _ s f fun v H3 pv => ?_
        have w3 := cl _ v H3 pv
        have ev := w3.bool
        subst ev
        exact ⟨false, rfl, iteF (z _ _ w3.popsU)⟩
      · cases e1
    · cases e1
  · cases e1
theorem s_chain {op op' : CmpOp} {r r' : R2} {k l : OpK} (ho : OpR X (compareOp op) r) (ho' : OpR X (compareOp op') r') (pr : PrimOk X.K (r2L r) (prim k)) (pr' : PrimOk X.K (r2L r') (prim l)) (ha : SO X C a τa) (hb : SO X C b τb) (hc : SO X C c τc)
    (hm : lastMarks [op, op'] [b, c] = false) : SE X C (.Compare a [op, op'] [b, c] pos) (.chain k l [τa, τb] [τc]) := PE.imp (pe_chain ho ho' ha hb hc hm) fun σ H Q z => chain_run ho ho' pr pr' σ H Q z

/-! ### an item of a row that was just made -/
theorem Ws.sub {d : PyData} {v : V} (h : Ws K H ((some (.sh d), v) :: M) ρ σ) : ∃ G, Sub G H ∧ Sh K G d v ∧ ∀ d' v', Sh K G d' v' → Ws K H ((some (.sh d'), v') :: M) ρ σ := by
  obtain ⟨c, G, A, s, ⟨B, C, q1, q2, rfl⟩, n, f⟩ := h
  simp only [OwE, Ow] at q1
  obtain ⟨rfl, q1⟩ := q1
  refine ⟨G, s, q1, fun d' v' q => ⟨c, G, C, s, ⟨[], C, ?_, q2, rfl⟩, n, f⟩⟩
  simp only [OwE, Ow]
  exact ⟨trivial, q⟩
theorem ens_at : ∀ {os : List O} {vs : List V} {j : Nat} {o : O}, os.length = vs.length → os[j]? = some o → ∃ w T U, vs[j]? = some w ∧ ens os vs = T ++ (some o, w) :: U
  | [], _, _, _, _, h => by simp at h
  | o :: os, v :: vs, 0, x, _, h => by
    simp at h
    subst h
    exact ⟨v, [], ens os vs, rfl, rfl⟩
  | o :: os, v :: vs, j + 1, x, l, h => by
    obtain ⟨w, T, U, h1, h2⟩ := ens_at (os := os) (vs := vs) (j := j) (o := x) (by simpa using l) (by simpa using h)
    exact ⟨w, (some o, v) :: T, U, by simpa using h1, by rw [show ens (o :: os) (v :: vs) = (some o, v) :: ens os vs from rfl, h2]; rfl⟩
  | _ :: _, [], _, _, l, _ => by cases l
theorem s_prj {j : Nat} {k : Nat} (ha : SE X C a τ) : SE X C (.Subscript a (.Constant (.int (j : Int)) k p) pos) (.prj τ j) := PE.imp (pe_ix ix_seq ha pe_int (fun _ _ => rfl)) fun σ H Q z => by
  obtain ⟨ρ, o, ρ', M, e1, w, z⟩ := z
  simp only [ev] at e1
  split at e1
  · rename_i os ρ1 h1
    split at e1
    · rename_i o' h2
      cases e1
      refine ⟨ρ, _, ρ', M, h1, w, fun v H1 w1 => ?_⟩
      obtain ⟨c, w2⟩ := w1
      obtain ⟨a, vs, rfl, ha, l, w3⟩ := Wd.openT (L := M ++ live ρ' σ) w2
      obtain ⟨u, T, U, h3, h4⟩ := ens_at l h2
      refine .inr (.inl ⟨a, vs, j, u, rfl, rfl, .of ha, atI_nat h3, z u H1 ⟨c, ?_⟩⟩)
      have w4 := w3.drop
      rw [h4, List.append_assoc] at w4
      have w5 := Wd.dropL T w4
      have pm : ((some o, u) :: U ++ (M ++ live ρ' σ)).Perm (U ++ ((some o, u) :: (M ++ live ρ' σ))) := List.perm_middle.symm
      exact Wd.dropL U (w5.perm pm)
    · cases e1
  · rename_i ds ρ1 h1
    split at e1
    · rename_i d h2
      cases e1
      refine ⟨ρ, _, ρ', M, h1, w, fun v H1 w1 => ?_⟩
      obtain ⟨G, s, q, cl⟩ := w1.sub
      simp only [Sh] at q
      obtain ⟨a, vs, rfl, ha, hq⟩ := q
      obtain ⟨u, h3, q3⟩ := hq.get h2
      exact .inr (.inl ⟨a, vs, j, u, rfl, rfl, s.sqT ha, atI_nat h3, z u H1 (cl d u q3)⟩)
    · cases e1
  · cases e1

/-! ### slices -/
def tP (K : Frag) (C : Cal) : List T → TO
  | [] => tNoPart
  | [τ] => tPart (tO K C τ)
  | _ => fun _ _ _ => False
theorem part_run {los : List T} {ys : List Opd} {ρ2 : Env} {lo : Option Int} {R : Option Int → Hp → Prop} (h1 : evOs C los ρ = some (ys, ρ2)) (h2 : partOf ρ2 ys = some lo) (w : Ws K H N ρ σ) (q : ∀ H', Ws K H' N ρ2 σ → R lo H') : tP K C los σ H R := by
  match los, ys, evOs_len h1 with
  | [], [], _ =>
    simp only [evOs] at h1
    cases h1
    simp only [partOf] at h2
    cases h2
    exact q H w
  | [τ], [y], _ =>
    show tOs K C [τ] σ H fun vs H1 => ∃ i, vs.getD 0 .non = .int i ∧ R (some i) H1
    refine opds h1 w fun vs H' a w1 => ?_
    simp only [partOf] at h2
    split at h2
    · rename_i i h3
      cases h2
      obtain ⟨G, s, f, _⟩ := w1.look (os := [.sh (.int i)]) Tin.pushes a (by simp only [rdOs, h3, O.isFlat, if_true])
      obtain ⟨x, rfl, hx⟩ := f.one
      cases hx.int
      exact ⟨i, rfl, q H' w1.pops⟩
    · cases h2
  | _ :: _ :: _, ys, l =>
    match ys, l with
    | _ :: _ :: _, _ => simp only [partOf] at h2; cases h2
theorem s_sl {lo hi : Option Expr} {p2 : Pos} {los his : List T} (ha : SO X C a τ) (hl : PO X lo (tP X.K C los)) (hh : PO X hi (tP X.K C his)) : SE X C (.Subscript a (.Slice lo hi none p2) pos) (.sl [τ] los his) := PE.imp (pe_slice o_cut ha hl hh) fun σ H Q z => by
  obtain ⟨ρ, o, ρ', M, e1, w, z⟩ := z
  simp only [ev] at e1
  split at e1
  · rename_i x ρ1 h1
    split at e1
    · rename_i ys ρ2 h2
      split at e1
      · rename_i lo' h3
        split at e1
        · rename_i zs ρ3 h4
          split at e1
          · rename_i hi' h5
            split at e1
            · rename_i oo h6
              split at e1
              · rename_i r h7
                cases e1
                show tOs X.K C [τ] σ H fun vs H1 => tP X.K C los σ H1 fun l H2 => tP X.K C his σ H2 fun u H3 => rCutA X.K (vs.getD 0 .non) l u H3 Q
                refine opds h1 w fun vs H1 a w1 => part_run h2 h3 w1 fun H2 w2 => part_run h4 h5 w2 fun H3 w3 => ?_
                obtain ⟨G, s, f, cl⟩ := w3.look Tin.pushes a h6
                obtain ⟨v, rfl, hv⟩ := f.one
                exact p_cut h7 s hv fun v' H' pv => z v' H' (cl _ v' H' pv).popsU
              · cases e1
            · cases e1
          · cases e1
        · cases e1
      · cases e1
    · cases e1
  · cases e1
theorem po_nil : PO X none (tP X.K C []) := po_none
theorem po_one (h : SO X C a τ) : PO X (some a) (tP X.K C [τ]) := po_some h

/-! ### methods of what is looked at -/
theorem mth_run {k : OpK} {r : V → List V → Hp → VK → Prop} {ty : V → Hp → Prop} (pr : PrimOk K (rM r) (prim k)) (ht : ∀ (o : O) (G H : Hp) (x : V), mtyp k o = true → Sub G H → Fo K G H o x → ty x H) {Q : VK}
    (h : tS K C (.mth k τ τs) σ H Q) : tO K C τ σ H fun x H1 => ty x H1 ∧ tOs K C τs σ H1 fun xs H2 => r x xs H2 Q := by
  obtain ⟨ρ, o, ρ', M, e1, w, z⟩ := h
  simp only [ev] at e1
  split at e1
  · rename_i i hi
    have hi := isNm_some hi
    subst hi
    split at e1
    · rename_i o0 h1
      split at e1
      · rename_i hm
        split at e1
        · rename_i xs ρ2 h2
          split at e1
          · rename_i os h3
            split at e1
            · rename_i o' h4
              cases e1
              have h5 : ρ[i]? = some (some o0) := by
                simp only [rdOs] at h1
                split at h1
                · rename_i o2 os2 h4 h5
                  split at h1
                  · cases h5
                    cases h1
                    exact rdO_sl h4
                  · cases h1
                · cases h1
              obtain ⟨v, hv, _⟩ := w.1.take h5
              obtain ⟨G, s, f, _⟩ := w.look (xs := [.sl i]) (vs := [v]) (by simp only [Tin]) ⟨v, [], rfl, hv, rfl⟩ h1
              obtain ⟨x, e2, hx⟩ := f.one
              cases e2
              refine ⟨v, hv, ht o0 G H v hm s hx, opds h2 w fun vs H2 a w2 => ?_⟩
              obtain ⟨G2, s2, f2, cl2⟩ := w2.look (xs := .sl i :: xs) (vs := v :: vs) (by simp only [Tin]; exact Tin.pushes) ⟨v, vs, rfl, hv, a⟩ h3
              exact pr os _ h4 G2 H2 _ Q s2 f2 fun v' H' pv => z v' H' (cl2 _ v' H' pv).popsU
            · cases e1
          · cases e1
        · cases e1
      · cases e1
    · cases e1
  · rename_i hi
    split at e1
    · rename_i o0 ρ1 h1
      split at e1
      · rename_i hm
        simp only [Bool.and_eq_true] at hm
        split at e1
        · rename_i xs ρ2 h2
          split at e1
          · rename_i os h3
            split at e1
            · rename_i o' h4
              cases e1
              rw [tO_tS hi]
              refine ⟨ρ, o0, ρ1, M, h1, w, fun v H1 w1 => ?_⟩
              obtain ⟨G, s, f, _⟩ := w1.look (xs := [.tv o0]) (vs := [v]) (os := [o0]) (by simp only [Tin]; exact ⟨List.mem_cons_self, trivial⟩) ⟨v, [], rfl, rfl⟩ (by simp only [rdOs, rdO, hm.1, if_true])
              obtain ⟨x, e2, hx⟩ := f.one
              cases e2
              refine ⟨ht o0 G H1 v hm.2 s hx, opds h2 w1 fun vs H2 a w2 => ?_⟩
              obtain ⟨G2, s2, f2, cl2⟩ := w2.look (xs := .tv o0 :: xs) (vs := v :: vs) (by simp only [Tin]; exact ⟨pushes_mem List.mem_cons_self, Tin.pushes⟩) ⟨v, vs, rfl, a⟩ h3
              exact pr os _ h4 G2 H2 _ Q s2 f2 fun v' H' pv => z v' H' (cl2 _ v' H' pv).popsU.under
            · cases e1
          · cases e1
        · cases e1
      · cases e1
    · cases e1
theorem ty_str {k : OpK} (hk : k = .join ∨ k = .find ∨ k = .find3 ∨ k = .split ∨ k = .startswith) (o : O) (G H : Hp) (x : V) (h : mtyp k o = true) (_ : Sub G H) (f : Fo K G H o x) : tyV K "str" x H := by
  have : ∃ z, o = .sh (.str z) := by
    rcases hk with rfl | rfl | rfl | rfl | rfl <;>
      (cases o with
        | sh d => cases d <;> first | exact ⟨_, rfl⟩ | exact absurd (show false = true from h) Bool.false_ne_true
        | _ => exact absurd (show false = true from h) Bool.false_ne_true)
  obtain ⟨z, rfl⟩ := this
  cases f.str
  rfl
theorem s_strM {o : Expr} {name : Str} {apos cpos : Pos} {id : String} {r : V → List V → Hp → VK → Prop} {k : OpK} (slot : Slot "str" name id) (hty : typeOf (.builtin id) = pure (.type "method_descriptor")) (hm : MtR X id r) (pr : PrimOk X.K (rM r) (prim k)) (hk : k = .join ∨ k = .find ∨ k = .find3 ∨ k = .split ∨ k = .startswith)
    (ho : SO X C o τ) (ha : SOs X C (e :: es) τs) (hbase : attributeBase o name X.env (eval o X.env) = eval o X.env)
    (hfew : ((backTo cpos (starEach (e :: es) X.env)).all (fun x => !x.1) && (backToKw cpos (keywordEach [] X.env)).all (fun x => x.1.isSome)
      && decide ((e :: es).length + ([] : List Keyword).length + (if ([] : List Keyword).isEmpty then 0 else 1) < 30)) = true)
    (hline : (apos.endLine == cpos.line) = true) (hs : starEach (e :: es) X.env = (false, eval e X.env) :: starEach es X.env) (hplain : (backTo cpos (starEach es X.env)).any (·.1) = false) :
    SE X C (.Call (.Attribute o name apos) (e :: es) [] cpos) (.mth k τ τs) :=
  PE.imp (pe_bm PySem.F.plainAttrs_str slot hty hm ho ha hbase hfew hline hs hplain) fun σ H Q z => mth_run pr (ty_str hk) z
end
end Qv
end
section
set_option Elab.async false
set_option linter.all false
set_option maxRecDepth 100000
set_option maxHeartbeats 1000000
/-! Q8: changes of a slot's list, calls, targets, walks, comprehensions. -/
namespace Qv
open PySem PySem.Spec PyProof.Rows L2

section
variable {X : Cx} {C : Cal} {e a b c : Expr} {es : List Expr} {τ τa τb τc : T} {τs : List T} {pos p pos' : Pos}
variable {K : Frag} {H : Hp} {ρ : Env} {σ : L2.St} {M N : List En}

/-! ### a slot's list changes -/
theorem Ws.shell {i : Nat} {os : List O} (h : Ws K H M ρ σ) (e : rdO ρ (.sl i) = some (.ol os)) :
    ∃ a vs, σ[i]? = some (some (.ref a)) ∧ H a = some (.lst vs) ∧ os.length = vs.length ∧ Cov (ρ.set i none) σ ∧ Wd K H ((none, .ref a) :: (ens os vs ++ (M ++ live (ρ.set i none) σ))) := by
  obtain ⟨v, hv, w⟩ := h.take (rdO_sl e)
  obtain ⟨c, w⟩ := w
  obtain ⟨a, vs, rfl, ha, l, w2⟩ := Wd.open (L := M ++ live (ρ.set i none) σ) w
  exact ⟨a, vs, hv, ha, l, c, w2⟩
/-- .. and is put back, with other items -/
theorem Ws.refill {i : Nat} {os os' : List O} {a : Addr} {ws : List V} (e : rdO ρ (.sl i) = some (.ol os)) (hv : σ[i]? = some (some (.ref a))) (c : Cov (ρ.set i none) σ)
    (w : Wd K H ((none, .ref a) :: (ens os' ws ++ (M ++ live (ρ.set i none) σ)))) (l : os'.length = ws.length) : Ws K (upd H a (.lst ws)) M (ρ.set i (some (.ol os'))) σ := by
  have q := Wd.close w l
  have w2 : Ws K (upd H a (.lst ws)) ((some (.ol os'), .ref a) :: M) (ρ.set i none) σ := ⟨c, q⟩
  have h := rdO_sl e
  have q2 := w2.give (get_set h) hv
  rw [set_set] at q2
  exact q2
theorem ens_append : ∀ {os os' : List O} {vs ws : List V}, os.length = vs.length → ens (os ++ os') (vs ++ ws) = ens os vs ++ ens os' ws
  | [], _, [], _, _ => rfl
  | o :: os, os', v :: vs, ws, l => by
    show (some o, v) :: ens (os ++ os') (vs ++ ws) = _
    rw [ens_append (by simpa using l)]
    rfl
  | [], _, _ :: _, _, l => by cases l
  | _ :: _, _, [], _, l => by cases l
theorem app_run {i : Nat} {Q : VK} (h : tS K C (.app i τ) σ H Q) : tVar i σ H fun x H1 => tyV K "list" x H1 ∧ tS K C τ σ H1 fun y H2 => rAppend x [y] H2 Q := by
  obtain ⟨ρ, o, ρ', M, e1, w, z⟩ := h
  simp only [ev] at e1
  split at e1
  · rename_i os0 h1
    obtain ⟨a0, vs0, hv, ha, _, _, _⟩ := w.shell h1
    refine ⟨_, hv, .inl ⟨rfl, vs0, .of ha⟩, ?_⟩
    split at e1
    · rename_i o1 ρ1 h2
      split at e1
      · rename_i os h3
        split at e1
        · rename_i hl
          cases e1
          refine ⟨ρ, o1, ρ1, M, h2, w, fun y H2 w2 => ?_⟩
          obtain ⟨a, vs, hv2, ha2, l, c, w3⟩ := w2.fz.shell h3
          rw [hv] at hv2
          cases hv2
          refine ⟨a0, vs, y, rfl, rfl, ha2, by rw [← l]; exact hl, z _ _ ?_⟩
          have l2 : (os ++ [O.sh o1.d]).length = (vs ++ [y]).length := by
            rw [List.length_append, List.length_append, l]
            rfl
          refine (Ws.refill (M := M) h3 hv c ?_ l2).flat fun _ => by simp only [Sh]
          rw [ens_append l, List.append_assoc]
          refine w3.perm (.cons _ ?_)
          exact .refl _
        · cases e1
      · cases e1
    · cases e1
  · cases e1
/-- the items of a list that is looked at, on the stack -/
theorem Ws.kids {x : Opd} {v : V} {o : O} {ds : List PyData} (h : Ws K H N ρ σ) (t : Tin [x] [v] N) (a : Ats [x] [v] σ) (e : rdOs ρ [x] = some [o]) (el : o.list? = some ds) :
    ∃ b ws, v = .ref b ∧ H b = some (.lst ws) ∧ ds.length = ws.length ∧ Ws K H (ens (ds.map O.sh) ws ++ N) ρ σ := by
  obtain ⟨c, G, A, s, q, n, f⟩ := h
  have fo := fo_of c q (fun _ z => List.mem_append_right _ z) (t.mono fun _ z => List.mem_append_left _ z) a e
  obtain ⟨x, e2, hx⟩ := fo.one
  cases e2
  obtain ⟨b, ws, rfl, hb, hs⟩ := Fo.list el s hx
  refine ⟨b, ws, rfl, hb, hs.len, c, G, A, s, ?_, n, f⟩
  rw [List.append_assoc]
  have q2 := PL.join (ens (ds.map O.sh) ws) (N ++ live ρ σ) [] A (OwL.pl (OwL.of_sh hs)).1 q
  exact q2
theorem ext_run {i : Nat} {Q : VK} (h : tS K C (.ext i [τ]) σ H Q) : tVar i σ H fun x H1 => tyV K "list" x H1 ∧ tO K C τ σ H1 fun y H2 => rExtend x [y] H2 Q := by
  obtain ⟨ρ, o, ρ', M, e1, w, z⟩ := h
  simp only [ev] at e1
  split at e1
  · rename_i os0 h1
    obtain ⟨a0, vs0, hv, ha, _, _, _⟩ := w.shell h1
    refine ⟨_, hv, .inl ⟨rfl, vs0, .of ha⟩, ?_⟩
    split at e1
    · rename_i x ρ1 h2
      split at e1
      · rename_i os oo h3 h4
        split at e1
        · rename_i ds h5
          split at e1
          · rename_i hl
            cases e1
            show tOs K C [τ] σ H fun vs H2 => rExtend (.ref a0) [vs.getD 0 .non] H2 Q
            refine opds h2 w fun vs H2 a w2 => ?_
            obtain ⟨v, rfl⟩ : ∃ v, vs = [v] := match vs, a.len with
              | [v], _ => ⟨v, rfl⟩
            obtain ⟨b, ws, e2, hb, lb, w3⟩ := w2.kids Tin.pushes a h4 h5
            have e2 : v = .ref b := e2
            subst e2
            obtain ⟨T, hT⟩ := pushes_suffix [x] [V.ref b] M
            rw [hT] at w3
            have w4 : Ws K H2 (ens (ds.map O.sh) ws ++ M) ρ1 σ := by
              have p : (ens (ds.map O.sh) ws ++ (T ++ M)).Perm (T ++ (ens (ds.map O.sh) ws ++ M)) := by
                rw [← List.append_assoc, ← List.append_assoc]
                exact (List.perm_append_comm).append_right M
              exact (w3.mono p).dropL T
            obtain ⟨a1, vs, hv2, ha2, l, c, w5⟩ := w4.shell h3
            rw [hv] at hv2
            cases hv2
            refine ⟨a0, b, vs, ws, rfl, rfl, ha2, hb, by rw [← l, ← lb]; exact hl, z _ _ ?_⟩
            have l2 : (os ++ ds.map O.sh).length = (vs ++ ws).length := by
              rw [List.length_append, List.length_append, l, List.length_map, lb]
            refine (Ws.refill (M := M) h3 hv c ?_ l2).flat fun _ => by simp only [Sh]
            rw [ens_append l, List.append_assoc]
            refine w5.perm (.cons _ ?_)
            rw [List.append_assoc]
          · cases e1
        · cases e1
      · cases e1
    · cases e1
  · cases e1
theorem popl_run {i : Nat} {Q : VK} (h : tS K C (.popl i) σ H Q) : tVar i σ H fun x H1 => tyV K "list" x H1 ∧ rPop x [] H1 Q := by
  obtain ⟨ρ, o, ρ', M, e1, w, z⟩ := h
  simp only [ev] at e1
  split at e1
  · rename_i os h1
    obtain ⟨a, vs, hv, ha, l, c, w2⟩ := w.shell h1
    refine ⟨_, hv, .inl ⟨rfl, vs, .of ha⟩, ?_⟩
    split at e1
    · rename_i o' h2
      cases e1
      rcases List.eq_nil_or_concat os with rfl | ⟨L, b, rfl⟩
      · simp at h2
      · rw [List.concat_eq_append] at *
        simp only [List.length_append, List.length_singleton, Nat.add_sub_cancel, List.getElem?_concat_length, Option.some.injEq] at h2
        subst h2
        obtain ⟨ws, u, rfl⟩ : ∃ ws u, vs = ws ++ [u] := by
          rcases List.eq_nil_or_concat vs with rfl | ⟨ws, u, rfl⟩
          · simp at l
          · exact ⟨ws, u, List.concat_eq_append ..⟩
        have l2 : L.length = ws.length := by simpa using l
        refine ⟨a, ws ++ [u], u, rfl, rfl, ha, by simp, ?_⟩
        rw [List.dropLast_concat] at z ⊢
        refine z _ _ ?_
        have w3 : Ws K (upd H a (.lst ws)) ((some b, u) :: M) (ρ.set i (some (.ol L))) σ := by
          refine Ws.refill (M := (some b, u) :: M) h1 hv c ?_ l2
          rw [ens_append l2, List.append_assoc] at w2
          exact w2
        exact w3
    · cases e1
  · cases e1

/-! ### calls of defs -/
/-- a def's promise, for where nobody writes texts of objects -/
structure FnG (P : Program) (w : World) (K : Frag) (mg : Str → Option Value) (base : Heap) (k : Nat) (f : Addr) (fd : FuncData) (ps : List Str) (sp : Sp) : Prop where
  len : ∀ vs H Q E, sp vs H Q E → vs.length = ps.length
  run : ∀ (A : Around) (outer : List PySem.Env) (s : Shared) (H : Hp) (args : Args) (us : List Value) (vs : List V) (Q : VK) (E : XK), Room k A → A.guards = some [] → Env0 P w K mg base A outer s H →
    BindsTo s fd args (ps.zip us) → Vals vs us → sp vs H Q E → codeAny (model P w) A (.call (.ref f) args) (CR CX0 outer P w H s Q E) s
/-- what a def does, as a promise -/
def spF (K : Frag) (F : List O → Option (O × List O)) : Sp := fun vs H Q _ => ∃ os o os2 L, F os = some (o, os2) ∧ os.length = vs.length ∧ Wd K H (ens os vs ++ L) ∧
  ∀ v H', Wd K H' (ens os2 vs ++ (some o, v) :: L) → Q v H'
def ents : List Opd → List V → List En
  | .sl _ :: xs, _ :: vs => ents xs vs
  | .tv o :: xs, v :: vs => (some o, v) :: ents xs vs
  | _, _ => []
theorem pushes_perm : ∀ (xs : List Opd) (vs : List V) (M : List En), (pushes xs vs M).Perm (ents xs vs ++ M)
  | [], _, M => by
    simp only [pushes, ents]
    exact .refl _
  | .sl _ :: xs, [], M => by
    simp only [pushes, ents]
    exact .refl _
  | .tv _ :: xs, [], M => by
    simp only [pushes, ents]
    exact .refl _
  | .sl _ :: xs, _ :: vs, M => by
    simp only [pushes, ents]
    exact pushes_perm xs vs M
  | .tv o :: xs, v :: vs, M => by
    simp only [pushes, ents]
    exact (pushes_perm xs vs _).trans List.perm_middle
theorem lend_run : ∀ {xs : List Opd} {vs : List V} {M : List En} {ρ ρ1 : Env} {os : List O}, Ws K H (ents xs vs ++ M) ρ σ → Ats xs vs σ → lend xs ρ = some (os, ρ1) → os.length = vs.length ∧ Ws K H (ens os vs ++ M) ρ1 σ
  | [], vs, M, ρ, ρ1, os, w, a, e => by
    simp only [lend] at e
    cases e
    have a : vs = [] := a
    subst a
    exact ⟨rfl, w⟩
  | .tv o :: xs, vs, M, ρ, ρ1, os, w, a, e => by
    obtain ⟨v, r, rfl, a⟩ := a
    simp only [lend] at e
    split at e
    · cases e
    · rename_i os' ρ2 h1
      cases e
      have w2 : Ws K H (ents xs r ++ ((some o, v) :: M)) ρ σ := w.mono List.perm_middle.symm
      obtain ⟨l, w3⟩ := lend_run w2 a h1
      exact ⟨by rw [List.length_cons, List.length_cons, l], w3.mono List.perm_middle⟩
  | .sl i :: xs, vs, M, ρ, ρ1, os, w, a, e => by
    obtain ⟨v, r, rfl, hv, a⟩ := a
    simp only [lend] at e
    split at e
    · cases e
    · rename_i os' ρ2 h1
      have w : Ws K H (ents xs r ++ M) ρ σ := w
      obtain ⟨l, w3⟩ := lend_run (M := M) w a h1
      split at e
      · rename_i d h2
        cases e
        refine ⟨by rw [List.length_cons, List.length_cons, l], ?_⟩
        obtain ⟨v2, hv2, w4⟩ := w3.name (o := .sh d) (ρ' := ρ1) (i := i) (by simp only [rdV, h2])
        rw [hv] at hv2
        cases hv2
        exact w4
      · rename_i o h2 h3
        cases e
        refine ⟨by rw [List.length_cons, List.length_cons, l], ?_⟩
        obtain ⟨v2, hv2, w4⟩ := w3.take h3
        rw [hv] at hv2
        cases hv2
        exact w4
      · cases e
theorem back_run : ∀ {xs : List Opd} {vs : List V} {os : List O} {ρ : Env} {M : List En}, Ws K H (ens os vs ++ M) ρ σ → Ats xs vs σ → os.length = vs.length → Ws K H M (back xs os ρ) σ
  | [], vs, os, ρ, M, w, a, l => by
    have a : vs = [] := a
    subst a
    cases os with
    | nil => exact w
    | cons _ _ => cases l
  | .sl i :: xs, vs, os, ρ, M, w, a, l => by
    obtain ⟨v, r, rfl, hv, a⟩ := a
    cases os with
    | nil => cases l
    | cons o os =>
      simp only [back]
      have w : Ws K H ((some o, v) :: (ens os r ++ M)) ρ σ := w
      refine back_run (vs := r) ?_ a (by simpa using l)
      split
      · rename_i h1
        exact w.give h1 hv
      · exact w.drop
  | .tv _ :: xs, vs, os, ρ, M, w, a, l => by
    obtain ⟨v, r, rfl, a⟩ := a
    cases os with
    | nil => cases l
    | cons o os =>
      simp only [back]
      have w : Ws K H ((some o, v) :: (ens os r ++ M)) ρ σ := w
      exact back_run (vs := r) w.drop a (by simpa using l)
/-- .. from operands on the stack to what the callee promises -/
theorem call_mid {xs : List Opd} {vs : List V} {ρ2 : Env} {os os2 : List O} {o : O} {F : List O → Option (O × List O)} {Q : VK} {E : XK} (w : Ws K H (ents xs vs ++ M) ρ σ) (a : Ats xs vs σ) (hl : lend xs ρ = some (os, ρ2)) (hF : F os = some (o, os2)) (h2 : os2.length = os.length)
    (z : ∀ v H', Ws K H' ((some o, v) :: M) (back xs os2 ρ2) σ → Q v H') : spF K F vs H Q E := by
  obtain ⟨l, c, w2⟩ := lend_run w a hl
  refine ⟨os, o, os2, M ++ live ρ2 σ, hF, l, by rw [← List.append_assoc]; exact w2, fun v H' w3 => z v H' ?_⟩
  have w4 : Ws K H' (ens os2 vs ++ ((some o, v) :: M)) ρ2 σ := ⟨c, by rw [List.append_assoc]; exact w3⟩
  exact back_run w4 a (by rw [h2, l])
/-- each def hands back as many as it was lent -/
def Fair (C : Cal) : Prop := ∀ f os o os2, C f os = some (o, os2) → os2.length = os.length
section
variable {k : Nat} {f : Addr} {fd : FuncData} {ps ks : List Str} {sp : Sp} {x : Str} {j : Nat}
theorem run_fnG {pins : List (Addr × Obj)} {s : Shared} {Q : VK} {E : XK} {args : Args} {us : List Value} {vs : List V} (F : FnG X.prog X.w X.K X.mg X.base k f fd ps sp) (hr : Room k X.A) (hg : X.A.guards = some []) (I : Inv X pins σ H s) (hb : BindsTo s fd args (ps.zip us)) (r : Vals vs us) (h : sp vs H Q E) :
    codeAny (model X.prog X.w) X.A (.call (.ref f) args) (fun r s' => match r with
      | .ok (.ret u) => EP X pins σ Q u s'
      | _ => False) s := by
  refine codeAny_mono (F.run X.A X.stack s H args us vs Q E hr hg I.env0 hb r h) fun r s' hq => ?_
  cases r with
  | error e => exact hq
  | ok fl =>
    cases fl with
    | ret u => exact I.after hq
    | next => exact hq
    | brk => exact hq
    | cont => exact hq
theorem call_wp {pins : List (Addr × Obj)} {s : Shared} {Q : VK} {us : List Value} {kw : List (Str × Value)} (h : codeAny (model X.prog X.w) X.A (.call (.ref f) ⟨us, kw⟩) (fun r s' => match r with
      | .ok (.ret u) => EP X pins σ Q u s'
      | _ => False) s) : wpAny (model X.prog X.w) X.A (call (.ref f) us kw) (EP X pins σ Q) X.xe s := by
  refine wpAny_call (codeAny_mono h fun r s' hq => ?_)
  cases r with
  | error e => exact hq.elim
  | ok fl =>
    cases fl with
    | ret u => exact hq
    | next => exact hq.elim
    | brk => exact hq.elim
    | cont => exact hq.elim
theorem pe_callG (F : FnG X.prog X.w X.K X.mg X.base k f fd ps sp) (hr : Room k X.A) (hgd : X.A.guards = some []) (hg : Gl X x) (hm : X.mg x = some (.ref f)) (hk : PySem.W.keepIn X.K (.ref f) = true)
    (hb : ∀ (s : Shared) (us : List Value), us.length = ps.length → BindsTo s fd ⟨us, []⟩ (ps.zip us)) {t : TA} (ha : PA X (e :: es) t) (hdb : (x == ("__debug__" : Str)) = false) (he : starEach (e :: es) X.env = (false, eval e X.env) :: starEach es X.env)
    (hpl : (backTo pos (starEach es X.env)).any (·.1) = false) : PE X (.Call (.Name x p) (e :: es) [] pos) (fun σ H Q => t σ H fun vs H1 => sp vs H1 Q E0) := by
  refine ⟨fun pins s σ H Q I h => ?_⟩
  refine wpAny_Call_Name_kw (ld_glob I hg hm ?_ hdb)
  refine PySem.W.callWith_K (h₀ := X.base) I.ok.mod.kin hk (thn (ha.run pos pins s σ H _ I h) fun us s1 ⟨vs, H1, I1, r, q⟩ => ⟨I1.kIn, ?_⟩) he hpl
  exact call_wp (run_fnG F hr hgd I1 (hb s1 us (by rw [← r.length]; exact F.len _ _ _ _ q)) r q)
theorem pe_callG0 (F : FnG X.prog X.w X.K X.mg X.base k f fd ps sp) (hr : Room k X.A) (hgd : X.A.guards = some []) (hg : Gl X x) (hm : X.mg x = some (.ref f)) (hk : PySem.W.keepIn X.K (.ref f) = true)
    (hb : ∀ (s : Shared) (us : List Value), us.length = ps.length → BindsTo s fd ⟨us, []⟩ (ps.zip us)) (hdb : (x == ("__debug__" : Str)) = false) : PE X (.Call (.Name x p) [] [] pos) (fun σ H Q => sp [] H Q E0) := by
  refine ⟨fun pins s σ H Q I h => ?_⟩
  refine wpAny_Call_Name_kw (ld_glob I hg hm ?_ hdb)
  exact PySem.W.callWith_K0 I.kIn hk (call_wp (run_fnG F hr hgd I (hb s [] (F.len _ _ _ _ h)) .nil h))
/-- a call with keywords: pm tells where each parameter's value stands among what is written -/
def KwB (fd : FuncData) (ps ks : List Str) (n : Nat) (pm : List Nat) : Prop := ∀ (s : Shared) (us ws : List Value), us.length = n → ws.length = ks.length → BindsTo s fd ⟨us, ks.zip ws⟩ (ps.zip (permL pm (us ++ ws)))
theorem Vals.perm {vs : List V} {us : List Value} (r : Vals vs us) : ∀ pm : List Nat, Vals (permL pm vs) (permL pm us)
  | [] => .nil
  | j :: pm => by
    unfold permL
    rw [List.filterMap_cons, List.filterMap_cons]
    cases q : vs[j]? with
    | none =>
      rw [r.none_of q]
      exact Vals.perm r pm
    | some v =>
      obtain ⟨u, e, ru⟩ := r.get q
      rw [e]
      exact .cons ru (Vals.perm r pm)
variable {kws : List Keyword} {n : Nat} {pm : List Nat}
theorem pe_callGK (F : FnG X.prog X.w X.K X.mg X.base k f fd ps sp) (hr : Room k X.A) (hgd : X.A.guards = some []) (hg : Gl X x) (hm : X.mg x = some (.ref f)) (hk : PySem.W.keepIn X.K (.ref f) = true)
    (hb : KwB fd ps ks (e :: es).length pm) {t tk : TA} (ha : PA X (e :: es) t) (hkw : PK X kws tk)
    (hall : (backToKw pos (keywordEach kws X.env)).all (·.1.isSome) = true) (hks : (backToKw pos (keywordEach kws X.env)).filterMap (·.1) = ks)
    (hdb : (x == ("__debug__" : Str)) = false) (he : starEach (e :: es) X.env = (false, eval e X.env) :: starEach es X.env)
    (hpl : ((backTo pos (starEach (e :: es) X.env)).any (·.1) || (backToKw pos (keywordEach kws X.env)).any (·.1.isNone)) = false) :
    PE X (.Call (.Name x p) (e :: es) kws pos) (fun σ H Q => t σ H fun vs H1 => vs.length = (e :: es).length ∧ tk σ H1 fun zs H2 => zs.length = ks.length ∧ sp (permL pm (vs ++ zs)) H2 Q E0) := by
  refine ⟨fun pins s σ H Q I h => ?_⟩
  refine wpAny_Call_Name_kw (ld_glob I hg hm ?_ hdb)
  refine PySem.W.callWith_KW (h₀ := X.base) I.ok.mod.kin hk hall (thn (ha.run pos pins s σ H _ I h) fun us s1 ⟨vs, H1, I1, r, l1, q⟩ => ?_) hpl he
  refine thn (hkw.run pos pins s1 σ H1 _ I1 q) fun ws s2 ⟨zs, H2, I2, rz, l2, q2⟩ => ⟨I2.kIn, ?_⟩
  rw [hks]
  exact call_wp (run_fnG F hr hgd I2 (hb s2 us ws (by rw [← r.length, l1]) (by rw [← rz.length, l2])) (Qv.Vals.perm (r.append rz) pm) q2)
theorem pe_callGK0 (F : FnG X.prog X.w X.K X.mg X.base k f fd ps sp) (hr : Room k X.A) (hgd : X.A.guards = some []) (hg : Gl X x) (hm : X.mg x = some (.ref f)) (hk : PySem.W.keepIn X.K (.ref f) = true)
    (hb : KwB fd ps ks 0 pm) {tk : TA} (hkw : PK X kws tk)
    (hall : (backToKw pos (keywordEach kws X.env)).all (·.1.isSome) = true) (hks : (backToKw pos (keywordEach kws X.env)).filterMap (·.1) = ks)
    (hdb : (x == ("__debug__" : Str)) = false) (hpl : ((backTo pos (starEach [] X.env)).any (·.1) || (backToKw pos (keywordEach kws X.env)).any (·.1.isNone)) = false) :
    PE X (.Call (.Name x p) [] kws pos) (fun σ H Q => tk σ H fun zs H2 => zs.length = ks.length ∧ sp (permL pm zs) H2 Q E0) := by
  refine ⟨fun pins s σ H Q I h => ?_⟩
  refine wpAny_Call_Name_kw (ld_glob I hg hm ?_ hdb)
  refine PySem.W.callWith_KW0 (h₀ := X.base) I.ok.mod.kin hk hall (thn (hkw.run pos pins s σ H _ I h) fun ws s2 ⟨zs, H2, I2, rz, l2, q2⟩ => ⟨I2.kIn, ?_⟩) hpl
  rw [hks]
  exact call_wp (run_fnG F hr hgd I2 (hb s2 [] ws rfl (by rw [← rz.length, l2])) (Qv.Vals.perm rz pm) q2)
end
end
end Qv
end
section
set_option Elab.async false
set_option linter.all false
set_option maxRecDepth 100000
set_option maxHeartbeats 2000000
/-! enumerate(tuple) -/
namespace Qv
open PySem PySem.Spec PyProof.Rows L2
theorem meets_enumerate_new1 {v : Value} {o : Obj} {Hh : Heap → Prop} (B : Begins v o Hh) :
    Meets (Builtin.«enumerate.__new__» ⟨[.type "enumerate", v], []⟩) (fun _ R s => Hh s.heap ∧
      R (.ok (.ret (.ref (s.heap.push o).objs.size))) { s with heap := (s.heap.push o).push { cls := .type "enumerate", data := .fields #[.none, .bool false, .ref s.heap.objs.size, rawInt 0, .none, .none] } }) :=
  .of_wp fun prog w A R s h => by
    obtain ⟨hp, g, d, tk, os⟩ := s; obtain ⟨h1, h⟩ := h
    have hsub := sub_enumerate
    have q1 : ∀ {A' : Around} {E : Value → Shared → Prop} {Q : Value → Shared → Prop}, Q (.ref hp.objs.size) ⟨hp.push o, g, d, tk, os⟩ → wpAny (model prog w) A' (pyIter v) Q E ⟨hp, g, d, tk, os⟩ :=
      fun q => B.iter prog w _ _ ⟨hp, g, d, tk, os⟩ _ h1 q
    wp_walk using q1
    refine wpAny_stack_any fun st => wpAny_pure ?_
    split
    · rename_i c _ _ _ _ _
      cases (c == Value.type "enumerate")
      · wp_walk using q1
        exact ⟨_, rfl, h⟩
      · wp_walk using q1
        exact ⟨_, rfl, h⟩
    · wp_walk using q1
      exact ⟨_, rfl, h⟩
section
variable {prog : Program} {w : World} {A : Around} {E : Value → Shared → Prop} {s : Shared}
theorem enum_begins1 {v : Value} {o : Obj} {Hh : Heap → Prop} {Q : Value → Shared → Prop} (B : Begins v o Hh) (h1 : Hh s.heap)
    (h : ∀ h', IsEnum h' (s.heap.objs.size + 1) s.heap.objs.size 0 .none → h'.get? s.heap.objs.size = some o → h'.objs.size = s.heap.objs.size + 2 →
      (∀ b o, s.heap.get? b = some o → h'.get? b = some o) → Q (.ref (s.heap.objs.size + 1)) { s with heap := h' }) :
    wpAny (model prog w) A (call (.type "enumerate") [v]) Q E s := by
  refine callType_new F.called_enumerate (by decide) (F.typeCall_enumerate_1 _) (F.newCall_enumerate_1 _) (fun obj => F.args_object_init_2 obj _) F.entry_enumerate_new
    (meets_enumerate_new1 B) ⟨h1, ?_⟩
  have hz : (s.heap.push o).objs.size = s.heap.objs.size + 1 := Heap.size_push ..
  show _ ∧ _
  rw [hz]
  have he : IsEnum ((s.heap.push o).push { cls := .type "enumerate", data := .fields #[.none, .bool false, .ref s.heap.objs.size, rawInt 0, .none, .none] }) (s.heap.objs.size + 1) s.heap.objs.size 0 .none := by
    have := Heap.get?_push_size (s.heap.push o) (o := { cls := .type "enumerate", data := .fields #[.none, .bool false, .ref s.heap.objs.size, rawInt 0, .none, .none] }) rfl
    rw [hz] at this; exact this
  refine ⟨⟨_, he, rfl⟩, h _ he (Heap.get?_push_of_some _ (Heap.get?_push_size _ B.free)) (by rw [Heap.size_push, hz]) fun b o x => Heap.get?_push_of_some _ (Heap.get?_push_of_some _ x)⟩
theorem next_enumT_end {e it t : Addr} {i : Nat} {c : Int} {items : Array Value} {old : Value} {Q : Option Value → Shared → Prop} (hh : A.handled = none)
    (he : IsEnum s.heap e it c old) (hit : s.heap.IsTupleIter it t i) (ht : s.heap.IsTuple t items) (hx : items[i]? = none)
    (hQ : ∀ h', Heap.ExtBut it s.heap h' → Q none { s with heap := h' }) : wpAny (model prog w) A (pyNext (.ref e)) Q E s := by
  have hTy : s.TypeIs (.ref e) "enumerate" := ⟨_, he, rfl⟩
  unfold pyNext
  refine wpAny_bind (wpAny_attempt (wpAny_callSpecial?_slot (name := Str.ofString "__next__") hTy F.slot_enumerate_next
    (wpAny_call_entry F.slot_enumerate_next hTy F.entry_enumerate_next ?_ (F.args_enumerate_next_1 _))))
  show wpAny _ _ (field (.ref e) 2 >>= _) _ _ _
  refine wpAny_bind (wpAny_field he rfl (x := .ref it) rfl ?_)
  refine wpAny_bind (wpAny_nextOf_tuple_end hh hit ht hx fun h' x he' hx' => ?_)
  obtain ⟨o, ho, hc⟩ := hx'
  refine wpAny_bind (wpAny_isInstance (T := "StopIteration") (b := true) ⟨o, ho, hc⟩ isSubtype_stop ?_)
  exact wpAny_pure (hQ _ he')
end
/-- the tuple at a, each item in a new pair -/
def IteT (K : Frag) (a : Addr) : It :=
  ⟨fun i H => ∃ (xs : List V) (x : V), SqT K H a xs ∧ xs[i]? = some x, fun i H v H' => ∃ T x, v = .ref T ∧ H T = none ∧ H' = upd H T (.tup [.int (i : Nat), x]) ∧ ∀ xs, SqT K H a xs → xs[i]? = some x, fun i H => ∃ xs : List V, SqT K H a xs ∧ xs.length ≤ i⟩
theorem turn_enumT {P : Program} {w : World} {K : Frag} {elts : List Expr} {kk : Nat} {tpos : Pos} (a e it : Addr) (hae : a ≠ e) (hai : a ≠ it) :
    Turn P w K (.Tuple elts kk tpos) (IteT K a) [e, it] e (fun i h => (∃ old, IsEnum h e it ((i : Nat) : Int) old) ∧ h.IsTupleIter it a i ∧ e ≠ it) where
  mem := by simp
  obj := fun i h st b hb => by
    obtain ⟨⟨old, he⟩, ⟨o, ho, hc, hd⟩, _⟩ := st
    have e' : b = e ∨ b = it := by simpa using hb
    rcases e' with z | z
    · rw [z]; exact ⟨_, he, fun v q => nomatch q⟩
    · rw [z]; exact ⟨o, ho, fun v q => by rw [hd] at q; cases q⟩
  keep := fun i h h' st k => let ⟨⟨old, he⟩, hi, hne⟩ := st; ⟨⟨old, k e (by simp) _ he⟩, hi.at fun o q => k it (by simp) o q, hne⟩
  item := by
    intro X hP hw hK hc i pins s σ H E I hf st hg
    subst hP hw hK
    obtain ⟨⟨old, he⟩, hit, hne⟩ := st
    obtain ⟨xs, x, hq, hx⟩ := hg
    obtain ⟨its, rv, p, hz⟩ := I.tuple hq
    obtain ⟨u, hu, ru⟩ := rv.get hx
    have hel : e < s.heap.objs.size := Heap.lt_size he
    have hil : it < s.heap.objs.size := by obtain ⟨_, q, _⟩ := hit; exact Heap.lt_size q
    have hlt : i < its.toArray.size := by
      rcases Nat.lt_or_ge i its.length with h | h
      · simpa using h
      · rw [List.getElem?_eq_none h] at hu
        cases hu
    have D : Draws X.prog X.w X.A.in1 it [it, a] its.toArray.size (fun i v => its.toArray[i]? = some v) (fun i h => h.IsTupleIter it a i ∧ h.IsTuple a its.toArray) := Draws.tuple (A := X.A.in1) (show X.A.in1.handled = none from I.ok.hd hc) it a hai its.toArray
    refine wpAny_pyNext_enum_itemC D he ⟨hit, p⟩ hlt hne (by simp [hne, Ne.symm hae]) fun x' h' tk hP ho hst' hT hsz hk => ?_
    have ex : x' = u := by
      have hP : its.toArray[i]? = some x' := hP
      have hu' : its.toArray[i]? = some u := by simpa using hu
      rw [hu'] at hP
      exact (Option.some.inj hP).symm
    subst ex
    obtain ⟨hit', p'⟩ := hst'
    refine ⟨_, rfl, wpAny_letOwnedTupleGo_enum (s := { s with heap := h', toks := tk + 1 }) ho fun h'' he' sb => ?_⟩
    have hT2 : h''.get? s.heap.objs.size = some { cls := .type "tuple", data := .seq #[.int i tk, x'] } := (sb.2 _ (Nat.ne_of_gt hel)).trans hT
    have new : ObjOk X.prog X.w (upd H s.heap.objs.size (.tup [.int (i : Nat), x])) h'' s.heap.objs.size (.tup [.int (i : Nat), x]) :=
      ⟨by show 2 ≤ sizeLine; decide, [.int i tk, x'], .cons ⟨_, rfl⟩ (.cons ru .nil), ⟨_, hT2, rfl, _, rfl⟩⟩
    have I1 : Inv X pins σ (upd H s.heap.objs.size (.tup [.int (i : Nat), x])) { s with heap := h'', toks := tk + 1 } :=
      I.turnedNew (ch := [e, it]) (fun b ob hb q => (sb.2 b (fun z => hb (by simp [z]))).trans (hk b ob (fun z => hb (by simp [z])) (fun z => hb (by simp [z])) q)) hf (Nat.le_refl _) new
    refine ⟨.ref s.heap.objs.size, _, I1, rfl, ⟨_, x, rfl, I.hok.fresh (Nat.le_refl _), rfl, fun ys hy => by rw [I.tuple_inj hy hq]; exact hx⟩, ⟨⟨x', ?_⟩, hit'.at fun o q => (sb.2 it (Ne.symm hne)).trans q, hne⟩, fun b hb => ?_⟩
    · have e1 : ((i + 1 : Nat) : Int) = (i : Int) + 1 := by omega
      rw [e1]; exact he'
    · have hb' : b < s.heap.objs.size := by
        have e' : b = e ∨ b = it := by simpa using hb
        rcases e' with z | z
        · rw [z]; exact hel
        · rw [z]; exact hil
      rw [upd_ne (Nat.ne_of_lt hb')]
      exact (hf b hb).1
  done := by
    intro X hP hw hK hc i pins s σ H E I hf st hg
    subst hP hw hK
    obtain ⟨⟨old, he⟩, hit, hne⟩ := st
    obtain ⟨xs, hq, hx⟩ := hg
    obtain ⟨its, rv, p, hz⟩ := I.tuple hq
    obtain ⟨f0, f1, f2, f3, f4, f5⟩ := hf it (by simp)
    have hl := rv.length
    exact next_enumT_end (I.ok.hd hc) he hit p (by simp; omega) fun h' eb => ⟨rfl, I.turned (t' := s.toks) (fun b o hb q => eb b o hb q) f0 f1 f3 f4 f5⟩
  self := fun A i s Q E st h => let ⟨⟨_, he⟩, _⟩ := st; wpAny_pyIter_enum he h
/-- enumerate of a list or a tuple -/
def iEnum2 (K : Frag) (ta : TA) : TI := fun σ H R => ta σ H fun vs H1 => (∃ a xs, vs = [.ref a] ∧ SqL K H1 a xs ∧ R (Ite K a) H1) ∨ ∃ a xs, vs = [.ref a] ∧ SqT K H1 a xs ∧ R (IteT K a) H1
theorem pi_enum2 {X : Cx} {e : Expr} {ta : TA} {p pos tpos : Pos} {elts : List Expr} {kk : Nat} (hg : Gl X "enumerate") (hm : X.mg "enumerate" = none) (ha : PA X [e] ta) (hs : starEach [e] X.env = [(false, eval e X.env)] := by rfl) :
    PI X (.Tuple elts kk tpos) (.Call (.Name "enumerate" p) [e] [] pos) (iEnum2 X.K ta) := by
  refine ⟨fun pins s σ H R I h => ?_⟩
  refine Call_ (ld_blt I hg hm boot_enumerate (PyProof.Rows.callWith_type1 (thn (ha.run pos pins s σ H _ I h) fun us s1 ⟨vs, H1, I1, r1, q1⟩ => ?_) hs rfl))
  rcases q1 with ⟨a, xs, ex, hq, q⟩ | ⟨a, xs, ex, hq, q⟩
  · subst ex
    cases r1 with
    | cons r rr =>
      cases rr
      cases r
      obtain ⟨its, rv, p', hz⟩ := I1.list hq
      refine call_enumerate_list p'.isList fun h' he hit hsz hk => wpAny_pyIter_enum he ?_
      have I2 : Inv X pins σ H1 { s1 with heap := h' } := I1.kept (t' := s1.toks) hk
      refine ⟨s1.heap.objs.size + 1, [s1.heap.objs.size + 1, s1.heap.objs.size], _, _, H1, rfl, I2, turn_enum a (s1.heap.objs.size + 1) s1.heap.objs.size, ⟨⟨.none, he⟩, hit, Nat.succ_ne_self _⟩, fun b hb => ?_, q⟩
      have e' : b = s1.heap.objs.size + 1 ∨ b = s1.heap.objs.size := by simpa using hb
      have hle : s1.heap.objs.size ≤ b := by
        rcases e' with z | z
        · rw [z]; exact Nat.le_add_right _ _
        · rw [z]; exact Nat.le_refl _
      exact I1.fpOk hle (I1.hok.fresh hle)
  · subst ex
    cases r1 with
    | cons r rr =>
      cases rr
      cases r
      obtain ⟨its, rv, p', hz⟩ := I1.tuple hq
      have hla : a < s1.heap.objs.size := by obtain ⟨_, ho, _⟩ := p'; exact Heap.lt_size ho
      refine enum_begins1 (begins_tuple a its.toArray) p' fun h' he hit hsz hk => wpAny_pyIter_enum he ?_
      have I2 : Inv X pins σ H1 { s1 with heap := h' } := I1.kept (t' := s1.toks) hk
      refine ⟨s1.heap.objs.size + 1, [s1.heap.objs.size + 1, s1.heap.objs.size], _, _, H1, rfl, I2, turn_enumT a (s1.heap.objs.size + 1) s1.heap.objs.size (Nat.ne_of_lt (Nat.lt_succ_of_lt hla)) (Nat.ne_of_lt hla), ⟨⟨.none, he⟩, ⟨_, hit, rfl, rfl⟩, Nat.succ_ne_self _⟩, fun b hb => ?_, q⟩
      have e' : b = s1.heap.objs.size + 1 ∨ b = s1.heap.objs.size := by simpa using hb
      have hle : s1.heap.objs.size ≤ b := by
        rcases e' with z | z
        · rw [z]; exact Nat.le_add_right _ _
        · rw [z]; exact Nat.le_refl _
      exact I1.fpOk hle (I1.hok.fresh hle)
end Qv
end
section
set_option Elab.async false
set_option linter.all false
set_option maxRecDepth 100000
set_option maxHeartbeats 1000000
/-! Q9: calls as terms; targets; walks; comprehensions. -/
namespace Qv
open PySem PySem.Spec PyProof.Rows L2

section
variable {X : Cx} {C : Cal} {e a b c : Expr} {es : List Expr} {τ τa τb τc : T} {τs κs : List T} {pos p pos' : Pos}
variable {K : Frag} {H : Hp} {ρ : Env} {σ : L2.St} {M N : List En}

theorem tO_mono {Q Q' : VK} (h : tO K C τ σ H Q) (m : ∀ v H', Q v H' → Q' v H') : tO K C τ σ H Q' := by
  cases hi : isNm τ with
  | some i =>
    have hi := isNm_some hi
    subst hi
    obtain ⟨v, e, q⟩ := h
    exact ⟨v, e, m v H q⟩
  | none =>
    rw [tO_tS hi] at h ⊢
    obtain ⟨ρ, o, ρ', M, e1, w, z⟩ := h
    exact ⟨ρ, o, ρ', M, e1, w, fun v H' w' => m v H' (z v H' w')⟩
theorem tOs_mono : ∀ {τs : List T} {H : Hp} {R R' : List V → Hp → Prop}, tOs K C τs σ H R → (∀ vs H', R vs H' → R' vs H') → tOs K C τs σ H R'
  | [], H, R, R', h, m => m [] H h
  | τ :: τs, H, R, R', h, m => tO_mono (τ := τ) h fun v H1 h1 => tOs_mono (τs := τs) h1 fun vs H2 h2 => m (v :: vs) H2 h2
theorem tOs_len : ∀ {τs : List T} {H : Hp} {R : List V → Hp → Prop}, tOs K C τs σ H R → tOs K C τs σ H fun vs H1 => vs.length = τs.length ∧ R vs H1
  | [], H, R, h => ⟨rfl, h⟩
  | τ :: τs, H, R, h => tO_mono (τ := τ) h fun v H1 h1 => tOs_mono (tOs_len (τs := τs) h1) fun vs H2 h2 => ⟨by rw [List.length_cons, List.length_cons, h2.1], h2.2⟩
theorem tOs_app : ∀ {τs : List T} {H : Hp} {R : List V → Hp → Prop}, tOs K C (τs ++ κs) σ H R → tOs K C τs σ H fun vs H1 => tOs K C κs σ H1 fun zs H2 => R (vs ++ zs) H2
  | [], H, R, h => h
  | τ :: τs, H, R, h => tO_mono (τ := τ) h fun v H1 h1 => tOs_app (τs := τs) h1

theorem Ats.get : ∀ {xs : List Opd} {vs : List V} {j : Nat} {x : Opd}, Ats xs vs σ → xs[j]? = some x → ∃ v, vs[j]? = some v ∧ Ats [x] [v] σ
  | [], _, _, _, _, h => by simp at h
  | .sl i :: xs, vs, 0, x, a, h => by
    obtain ⟨v, r, rfl, e, a⟩ := a
    simp at h
    subst h
    exact ⟨v, rfl, v, [], rfl, e, rfl⟩
  | .tv o :: xs, vs, 0, x, a, h => by
    obtain ⟨v, r, rfl, a⟩ := a
    simp at h
    subst h
    exact ⟨v, rfl, v, [], rfl, rfl⟩
  | .sl i :: xs, vs, j + 1, x, a, h => by
    obtain ⟨v, r, rfl, e, a⟩ := a
    obtain ⟨w, h1, h2⟩ := Ats.get (j := j) a (by simpa using h)
    exact ⟨w, by simpa using h1, h2⟩
  | .tv o :: xs, vs, j + 1, x, a, h => by
    obtain ⟨v, r, rfl, a⟩ := a
    obtain ⟨w, h1, h2⟩ := Ats.get (j := j) a (by simpa using h)
    exact ⟨w, by simpa using h1, h2⟩
theorem Ats.perm {ys : List Opd} {vs : List V} (a : Ats ys vs σ) : ∀ {pm : List Nat}, (∀ j ∈ pm, j < ys.length) → Ats (permL pm ys) (permL pm vs) σ
  | [], _ => rfl
  | j :: pm, h => by
    have hj := h j List.mem_cons_self
    obtain ⟨v, e, q⟩ := a.get (List.getElem?_eq_getElem hj)
    have ih := Ats.perm a (pm := pm) fun i hi => h i (List.mem_cons_of_mem _ hi)
    have e1 : permL (j :: pm) ys = ys[j] :: permL pm ys := by
      unfold permL
      rw [List.filterMap_cons, List.getElem?_eq_getElem hj]
    have e2 : permL (j :: pm) vs = v :: permL pm vs := by
      unfold permL
      rw [List.filterMap_cons, e]
    rw [e1, e2]
    exact q.append ih
def entf (p : Opd × V) : Option En := match p with
  | (.tv o, v) => some (some o, v)
  | _ => none
theorem ents_eq : ∀ (xs : List Opd) (vs : List V), ents xs vs = (xs.zip vs).filterMap entf
  | [], _ => by simp [ents]
  | .sl _ :: xs, [] => by simp [ents]
  | .tv _ :: xs, [] => by simp [ents]
  | .sl i :: xs, v :: vs => by
    simp only [ents, List.zip_cons_cons, List.filterMap_cons, entf]
    exact ents_eq xs vs
  | .tv o :: xs, v :: vs => by
    simp only [ents, List.zip_cons_cons, List.filterMap_cons, entf, ents_eq xs vs]
theorem permL_zip {xs : List Opd} {vs : List V} (l : xs.length = vs.length) : ∀ {pm : List Nat}, (∀ j ∈ pm, j < xs.length) → (permL pm xs).zip (permL pm vs) = permL pm (xs.zip vs)
  | [], _ => rfl
  | j :: pm, h => by
    have hj := h j List.mem_cons_self
    have ih := permL_zip l (pm := pm) fun i hi => h i (List.mem_cons_of_mem _ hi)
    have hz : j < (xs.zip vs).length := by rw [List.length_zip, ← l]; omega
    have g1 : permL (j :: pm) xs = xs[j] :: permL pm xs := by
      unfold permL
      rw [List.filterMap_cons, List.getElem?_eq_getElem hj]
    have g2 : permL (j :: pm) vs = vs[j]'(by omega) :: permL pm vs := by
      unfold permL
      rw [List.filterMap_cons, List.getElem?_eq_getElem (by omega : j < vs.length)]
    have g3 : permL (j :: pm) (xs.zip vs) = (xs.zip vs)[j] :: permL pm (xs.zip vs) := by
      unfold permL
      rw [List.filterMap_cons, List.getElem?_eq_getElem hz]
    rw [g1, g2, g3, List.zip_cons_cons, ih, List.getElem_zip]
theorem permL_range {α : Type} : ∀ l : List α, permL (List.range l.length) l = l := fun l => by
  unfold permL
  apply List.ext_getElem?
  intro i
  have : ∀ n, n ≤ l.length → (List.range n).filterMap (fun j => l[j]?) = l.take n := by
    intro n
    induction n with
    | zero => intro _; simp
    | succ n ih =>
      intro h
      rw [List.range_succ, List.filterMap_append, ih (by omega), List.take_add_one]
      simp [List.getElem?_eq_getElem (show n < l.length by omega)]
  rw [this _ (Nat.le_refl _), List.take_length]
theorem ents_perm {xs : List Opd} {vs : List V} {pm : List Nat} (l : xs.length = vs.length) (h : pm.Perm (List.range xs.length)) : (ents (permL pm xs) (permL pm vs)).Perm (ents xs vs) := by
  have hj : ∀ j ∈ pm, j < xs.length := fun j hj => by simpa using h.mem_iff.mp hj
  rw [ents_eq, ents_eq, permL_zip l hj]
  refine List.Perm.filterMap _ ?_
  have e := permL_range (xs.zip vs)
  have p : (permL pm (xs.zip vs)).Perm (permL (List.range (xs.zip vs).length) (xs.zip vs)) := by
    unfold permL
    refine List.Perm.filterMap _ ?_
    rw [List.length_zip, ← l, Nat.min_self]
    exact h
  rwa [e] at p

section
variable {k : Nat} {f : Addr} {fd : FuncData} {ps ks : List Str} {x : Str} {j : Nat}
theorem call_out {Q : VK} (hf : Fair C) (h : tS K C (.call j τs) σ H Q) : tOs K C τs σ H fun vs H1 => spF K (C j) vs H1 Q E0 := by
  obtain ⟨ρ, o, ρ', M, e1, w, z⟩ := h
  simp only [ev] at e1
  split at e1
  · rename_i xs ρ1 h1
    split at e1
    · rename_i os ρ2 h2
      split at e1
      · rename_i o' os2 h3
        cases e1
        refine opds h1 w fun vs H' a w' => ?_
        exact call_mid (M := M) (w'.mono (pushes_perm xs vs M)) a h2 h3 (hf _ _ _ _ h3) z
      · cases e1
    · cases e1
  · cases e1
theorem callk_out {Q : VK} {pm : List Nat} (hf : Fair C) (hp : pm.Perm (List.range τs.length)) (h : tS K C (.callk j τs pm) σ H Q) : tOs K C τs σ H fun vs H1 => spF K (C j) (permL pm vs) H1 Q E0 := by
  obtain ⟨ρ, o, ρ', M, e1, w, z⟩ := h
  simp only [ev] at e1
  split at e1
  · rename_i xs ρ1 h1
    split at e1
    · rename_i os ρ2 h2
      split at e1
      · rename_i o' os2 h3
        cases e1
        refine opds h1 w fun vs H' a w' => ?_
        have hp2 : pm.Perm (List.range xs.length) := by rw [evOs_len h1]; exact hp
        have pp := ents_perm a.len hp2
        exact call_mid (M := M) ((w'.mono (pushes_perm xs vs M)).mono (pp.symm.append_right M)) (a.perm fun j hj => by simpa using hp2.mem_iff.mp hj) h2 h3 (hf _ _ _ _ h3) z
      · cases e1
    · cases e1
  · cases e1
theorem s_call (hf : Fair C) (F : FnG X.prog X.w X.K X.mg X.base k f fd ps (spF X.K (C j))) (hr : Room k X.A) (hgd : X.A.guards = some []) (hg : Gl X x) (hm : X.mg x = some (.ref f)) (hk : PySem.W.keepIn X.K (.ref f) = true)
    (hb : ∀ (s : Shared) (us : List Value), us.length = ps.length → BindsTo s fd ⟨us, []⟩ (ps.zip us)) (ha : SOs X C (e :: es) τs) (hdb : (x == ("__debug__" : Str)) = false) (he : starEach (e :: es) X.env = (false, eval e X.env) :: starEach es X.env)
    (hpl : (backTo pos (starEach es X.env)).any (·.1) = false) : SE X C (.Call (.Name x p) (e :: es) [] pos) (.call j τs) :=
  PE.imp (pe_callG F hr hgd hg hm hk hb ha hdb he hpl) fun σ H Q z => call_out hf z
theorem s_call0 (hf : Fair C) (F : FnG X.prog X.w X.K X.mg X.base k f fd ps (spF X.K (C j))) (hr : Room k X.A) (hgd : X.A.guards = some []) (hg : Gl X x) (hm : X.mg x = some (.ref f)) (hk : PySem.W.keepIn X.K (.ref f) = true)
    (hb : ∀ (s : Shared) (us : List Value), us.length = ps.length → BindsTo s fd ⟨us, []⟩ (ps.zip us)) (hdb : (x == ("__debug__" : Str)) = false) : SE X C (.Call (.Name x p) [] [] pos) (.call j []) :=
  PE.imp (pe_callG0 F hr hgd hg hm hk hb hdb) fun σ H Q z => call_out hf z
variable {kws : List Keyword} {pm : List Nat}
theorem s_callk (hf : Fair C) (F : FnG X.prog X.w X.K X.mg X.base k f fd ps (spF X.K (C j))) (hr : Room k X.A) (hgd : X.A.guards = some []) (hg : Gl X x) (hm : X.mg x = some (.ref f)) (hk : PySem.W.keepIn X.K (.ref f) = true)
    (hb : KwB fd ps ks (e :: es).length pm) (ha : SOs X C (e :: es) τs) (hkw : PK X kws (tOs X.K C κs)) (hl1 : τs.length = (e :: es).length) (hl2 : κs.length = ks.length) (hp : pm.Perm (List.range (τs ++ κs).length))
    (hall : (backToKw pos (keywordEach kws X.env)).all (·.1.isSome) = true) (hks : (backToKw pos (keywordEach kws X.env)).filterMap (·.1) = ks)
    (hdb : (x == ("__debug__" : Str)) = false) (he : starEach (e :: es) X.env = (false, eval e X.env) :: starEach es X.env)
    (hpl : ((backTo pos (starEach (e :: es) X.env)).any (·.1) || (backToKw pos (keywordEach kws X.env)).any (·.1.isNone)) = false) :
    SE X C (.Call (.Name x p) (e :: es) kws pos) (.callk j (τs ++ κs) pm) :=
  PE.imp (pe_callGK F hr hgd hg hm hk hb ha hkw hall hks hdb he hpl) fun σ H Q z => by
    have h1 := tOs_app (callk_out hf hp z)
    refine tOs_mono (tOs_len h1) fun vs H1 h2 => ⟨h2.1.trans hl1, tOs_mono (tOs_len h2.2) fun zs H2 h3 => ⟨h3.1.trans hl2, h3.2⟩⟩
theorem s_callk0 (hf : Fair C) (F : FnG X.prog X.w X.K X.mg X.base k f fd ps (spF X.K (C j))) (hr : Room k X.A) (hgd : X.A.guards = some []) (hg : Gl X x) (hm : X.mg x = some (.ref f)) (hk : PySem.W.keepIn X.K (.ref f) = true)
    (hb : KwB fd ps ks 0 pm) (hkw : PK X kws (tOs X.K C κs)) (hl2 : κs.length = ks.length) (hp : pm.Perm (List.range κs.length))
    (hall : (backToKw pos (keywordEach kws X.env)).all (·.1.isSome) = true) (hks : (backToKw pos (keywordEach kws X.env)).filterMap (·.1) = ks)
    (hdb : (x == ("__debug__" : Str)) = false) (hpl : ((backTo pos (starEach [] X.env)).any (·.1) || (backToKw pos (keywordEach kws X.env)).any (·.1.isNone)) = false) :
    SE X C (.Call (.Name x p) [] kws pos) (.callk j κs pm) :=
  PE.imp (pe_callGK0 F hr hgd hg hm hk hb hkw hall hks hdb hpl) fun σ H Q z =>
    tOs_mono (tOs_len (callk_out hf hp z)) fun zs H2 h3 => ⟨h3.1.trans hl2, h3.2⟩
end

/-! ### targets -/
mutual
def tgSlots : Tg → List Nat
  | .nm i => [i]
  | .tp ts => tgsSlots ts
def tgsSlots : List Tg → List Nat
  | [] => []
  | t :: ts => tgSlots t ++ tgsSlots ts
end
/-- σ' is σ but for those slots -/
def Agree (is : List Nat) (σ σ' : L2.St) : Prop := σ'.length = σ.length ∧ ∀ i, i ∉ is → σ'[i]? = σ[i]?
theorem Agree.refl (is : List Nat) (σ : L2.St) : Agree is σ σ := ⟨rfl, fun _ _ => rfl⟩
theorem Agree.trans {is js : List Nat} {σ σ' σ2 : L2.St} (a : Agree is σ σ') (b : Agree js σ' σ2) : Agree (is ++ js) σ σ2 :=
  ⟨b.1.trans a.1, fun i h => by rw [b.2 i fun z => h (List.mem_append_right _ z), a.2 i fun z => h (List.mem_append_left _ z)]⟩
theorem Agree.mono {is js : List Nat} {σ σ' : L2.St} (a : Agree is σ σ') (h : ∀ i ∈ is, i ∈ js) : Agree js σ σ' := ⟨a.1, fun i hi => a.2 i fun z => hi (h i z)⟩
theorem Agree.set {i : Nat} {σ : L2.St} {x : Option V} : Agree [i] σ (σ.set i x) := ⟨List.length_set .., fun j h => List.getElem?_set_ne fun e => h (by simp [e])⟩
theorem wipe_get : ∀ {vs : List Nat} {σ : L2.St} {i : Nat}, i < σ.length → i ∈ vs → (wipe σ vs)[i]? = some none
  | [], _, _, _, h => by cases h
  | v :: vs, σ, i, hl, h => by
    show ((wipe σ vs).set v none)[i]? = some none
    by_cases e : v = i
    · subst e
      rw [List.getElem?_set_self (by rw [wipe_length]; exact hl)]
    · rw [List.getElem?_set_ne e]
      exact wipe_get hl ((List.mem_cons.mp h).resolve_left fun z => e z.symm)
theorem Agree.wipe {vs : List Nat} {σ σ' : L2.St} (a : Agree vs σ σ') : wipe σ' vs = wipe σ vs := by
  apply List.ext_getElem?
  intro i
  by_cases hi : i ∈ vs
  · by_cases hl : i < σ.length
    · rw [wipe_get hl hi, wipe_get (by rw [a.1]; exact hl) hi]
    · rw [List.getElem?_eq_none (by rw [wipe_length, a.1]; omega), List.getElem?_eq_none (by rw [wipe_length]; omega)]
  · rw [wipe_out hi, wipe_out hi, a.2 i hi]
def gS (K : Frag) (t : Tg) : TG := fun v σ H Q => ∃ ρ o ρ' M, bindTg t o ρ = some ρ' ∧ Ws K H ((some o, v) :: M) ρ σ ∧ ∀ σ', Agree (tgSlots t) σ σ' → Ws K H M ρ' σ' → Q σ' H
def gSs (K : Frag) (ts : List Tg) : TGs := fun vs σ H Q => ∃ ρ os ρ' M, bindTgs ts os ρ = some ρ' ∧ os.length = vs.length ∧ Ws K H (ens os vs ++ M) ρ σ ∧ ∀ σ', Agree (tgsSlots ts) σ σ' → Ws K H M ρ' σ' → Q σ' H
theorem PG.imp {tg : Expr} {t t' : TG} (h : PG X tg t) (w : ∀ v σ H Q, t' v σ H Q → t v σ H Q) : PG X tg t' := ⟨fun pins s σ H v u Q I r q => h.run pins s σ H v u Q I r (w v σ H Q q)⟩
theorem PGs.imp {tg : List Expr} {t t' : TGs} (h : PGs X tg t) (w : ∀ v σ H Q, t' v σ H Q → t v σ H Q) : PGs X tg t' := ⟨fun pins s σ H v u Q I r q => h.run pins s σ H v u Q I r (w v σ H Q q)⟩
theorem g_name {i : Nat} {x : Str} (hN : X.N.Nodup) (hi : X.N[i]? = some x) (hx : Loc X.env.scope x) (hf : X.fn x = true ∨ X.env.scope.names.lookup x = some .local) : PG X (.Name x pos) (gS X.K (.nm i)) :=
  PG.imp (pg_name hN hi hx hf) fun v σ H Q h => by
    obtain ⟨ρ, o, ρ', M, e1, w, z⟩ := h
    simp only [bindTg] at e1
    split at e1
    · rename_i hl
      cases e1
      exact z _ (by simp only [tgSlots]; exact Agree.set) (w.store hl)
    · cases e1
theorem g_nil : PGs X [] (gSs X.K []) := PGs.imp pgs_nil fun vs σ H Q h => by
  obtain ⟨ρ, os, ρ', M, e1, l, w, z⟩ := h
  cases os with
  | nil =>
    simp only [bindTgs] at e1
    cases e1
    have : vs = [] := List.eq_nil_of_length_eq_zero l.symm
    subst this
    exact ⟨rfl, z σ (Agree.refl _ _) w⟩
  | cons _ _ =>
    simp only [bindTgs] at e1
    cases e1
theorem g_cons {t : Tg} {ts : List Tg} (h1 : PG X e (gS X.K t)) (h2 : PGs X es (gSs X.K ts)) (hs : (assignEach (e :: es) X.env).map (·.2) = assign e X.env :: (assignEach es X.env).map (·.2)) : PGs X (e :: es) (gSs X.K (t :: ts)) :=
  PGs.imp (pgs_cons h1 h2 hs) fun vs σ H Q h => by
    obtain ⟨ρ, os, ρ', M, e1, l, w, z⟩ := h
    cases os with
    | nil =>
      simp only [bindTgs] at e1
      cases e1
    | cons o os =>
      simp only [bindTgs] at e1
      split at e1
      · rename_i ρ1 h3
        cases vs with
        | nil => cases l
        | cons v r =>
          have w : Ws X.K H ((some o, v) :: (ens os r ++ M)) ρ σ := w
          refine ⟨v, r, rfl, ρ, o, ρ1, ens os r ++ M, h3, w, fun σ1 a1 w1 => ⟨ρ1, os, ρ', M, e1, by simpa using l, w1, fun σ2 a2 w2 => z σ2 ?_ w2⟩⟩
          simp only [tgsSlots]
          exact a1.trans a2
      · cases e1
theorem bindTgs_len : ∀ {ts : List Tg} {os : List O} {ρ ρ' : Env}, bindTgs ts os ρ = some ρ' → ts.length = os.length
  | [], [], _, _, _ => rfl
  | t :: ts, o :: os, ρ, ρ', h => by
    simp only [bindTgs] at h
    split at h
    · rw [List.length_cons, List.length_cons, bindTgs_len h]
    · cases h
  | [], _ :: _, _, _, h => by simp only [bindTgs] at h; cases h
  | _ :: _, [], _, _, h => by simp only [bindTgs] at h; cases h
theorem g_tup {ts : List Tg} {k : Nat} (hc : X.calm = true) (h : PGs X es (gSs X.K ts)) (hn : (assignEach es X.env).length = ts.length) (hst : (assignEach es X.env).findIdx? (·.1) = none) : PG X (.Tuple es k pos) (gS X.K (.tp ts)) :=
  PG.imp (pg_tup hc h hn hst) fun v σ H Q h => by
    obtain ⟨ρ, o, ρ', M, e1, w, z⟩ := h
    simp only [bindTg] at e1
    split at e1
    · rename_i ds
      obtain ⟨c, G, A, s, ⟨B, D, q1, q2, rfl⟩, n, f⟩ := w
      simp only [OwE, Ow, Sh] at q1
      obtain ⟨rfl, a, vs, rfl, ha, hs⟩ := q1
      refine ⟨a, vs, rfl, s.sqT ha, ?_, ρ, ds.map O.sh, ρ', M, e1, by rw [List.length_map]; exact hs.len, ⟨c, G, D, s, ?_, n, f⟩, fun σ' ag w' => z σ' (by simpa only [tgSlots] using ag) w'⟩
      · rw [← hs.len, bindTgs_len e1, List.length_map]
      · rw [List.append_assoc]
        exact PL.join _ _ [] D (OwL.pl (OwL.of_sh hs)).1 q2
    · rename_i os
      obtain ⟨c, w⟩ := w
      obtain ⟨a, vs, rfl, ha, l, w2⟩ := Wd.openT (L := M ++ live ρ σ) w
      refine ⟨a, vs, rfl, .of ha, ?_, ρ, os, ρ', M, e1, l, ⟨c, by rw [List.append_assoc]; exact w2.drop⟩, fun σ' ag w' => z σ' (by simpa only [tgSlots] using ag) w'⟩
      rw [← l, bindTgs_len e1]
    · cases e1

/-! ### walks -/
structure ItOk (K : Frag) (J : It) (E : List En) (xs : List O) : Prop where
  step : ∀ (i : Nat) (x : O), xs[i]? = some x → ∀ (H : Hp) (L : List En), Wd K H (E ++ L) → J.go i H ∧ ∀ v H', J.yld i H v H' → Wd K H' ((some x, v) :: (E ++ L))
  stop : ∀ (i : Nat), xs.length ≤ i → ∀ (H : Hp) (L : List En), Wd K H (E ++ L) → J.stop i H
def tI (K : Frag) (C : Cal) (ik : IK) (τs : List T) : TI := fun σ H R => ∃ ρ os ρ' M xs, evs C τs ρ = some (os, ρ') ∧ walk ik (os.map fun o => .sh o.d) = some xs ∧ Ws K H M ρ σ ∧
  ∀ J E H1, ItOk K J E xs → Ws K H1 (E ++ M) ρ' σ → R J H1
theorem PI.imp {tg : Expr} {t t' : TI} (h : PI X tg e t) (w : ∀ σ H R, t' σ H R → t σ H R) : PI X tg e t' := ⟨fun pins s σ H R I q => h.run pins s σ H R I (w σ H R q)⟩
theorem PI.or {tg : Expr} {t t' : TI} (h : PI X tg e t) (h' : PI X tg e t') : PI X tg e fun σ H R => t σ H R ∨ t' σ H R := ⟨fun pins s σ H R I q => q.elim (h.run pins s σ H R I) (h'.run pins s σ H R I)⟩
theorem sub_wd {d : PyData} {v : V} {L : List En} (h : Wd K H ((some (.sh d), v) :: L)) : ∃ G, Sub G H ∧ Sh K G d v ∧ ∀ d' v', Sh K G d' v' → Wd K H ((some (.sh d'), v') :: (some (.sh d), v) :: L) := by
  obtain ⟨G, A, s, ⟨B, D, q1, q2, rfl⟩, n, f⟩ := h
  simp only [OwE, Ow] at q1
  obtain ⟨rfl, q1⟩ := q1
  refine ⟨G, s, q1, fun d' v' q => ⟨G, D, s, ⟨[], D, ?_, ⟨[], D, ?_, q2, rfl⟩, rfl⟩, n, f⟩⟩
  · simp only [OwE, Ow]
    exact ⟨trivial, q⟩
  · simp only [OwE, Ow]
    exact ⟨trivial, q1⟩
theorem itok_list {ds : List PyData} {a : Addr} : ItOk K (Itl K a) [(some (.sh (.list ds)), .ref a)] (ds.map O.sh) where
  step := fun i x hx H L w => by
    obtain ⟨G, s, q, cl⟩ := sub_wd (L := L) w
    simp only [Sh] at q
    obtain ⟨b, vs, e, ha, hs⟩ := q
    cases e
    rw [List.getElem?_map, Option.map_eq_some_iff] at hx
    obtain ⟨d, hd, rfl⟩ := hx
    obtain ⟨u, hu, su⟩ := hs.get hd
    refine ⟨⟨vs, u, .of (s _ _ ha), hu⟩, fun v H' y => ?_⟩
    obtain ⟨rfl, y⟩ := y
    have := y vs (.of (s _ _ ha))
    rw [hu] at this
    cases this
    exact cl d u su
  stop := fun i hi H L w => by
    obtain ⟨G, s, q, cl⟩ := sub_wd (L := L) w
    simp only [Sh] at q
    obtain ⟨b, vs, e, ha, hs⟩ := q
    cases e
    refine ⟨vs, .of (s _ _ ha), ?_⟩
    rw [← hs.len]
    simpa using hi
theorem itok_tup {ds : List PyData} {a : Addr} : ItOk K (Itt K a) [(some (.sh (.tuple ds)), .ref a)] (ds.map O.sh) where
  step := fun i x hx H L w => by
    obtain ⟨G, s, q, cl⟩ := sub_wd (L := L) w
    simp only [Sh] at q
    obtain ⟨b, vs, e, ha, hs⟩ := q
    cases e
    rw [List.getElem?_map, Option.map_eq_some_iff] at hx
    obtain ⟨d, hd, rfl⟩ := hx
    obtain ⟨u, hu, su⟩ := hs.get hd
    refine ⟨⟨vs, u, s.sqT ha, hu⟩, fun v H' y => ?_⟩
    obtain ⟨rfl, y⟩ := y
    have := y vs (s.sqT ha)
    rw [hu] at this
    cases this
    exact cl d u su
  stop := fun i hi H L w => by
    obtain ⟨G, s, q, cl⟩ := sub_wd (L := L) w
    simp only [Sh] at q
    obtain ⟨b, vs, e, ha, hs⟩ := q
    cases e
    refine ⟨vs, s.sqT ha, ?_⟩
    rw [← hs.len]
    simpa using hi
theorem itok_str {z : Str} : ItOk K (Its z) [] (strItems z) where
  step := fun i x hx H L w => by
    unfold strItems at hx
    rw [List.getElem?_map, Option.map_eq_some_iff] at hx
    obtain ⟨c, hc, rfl⟩ := hx
    have hl : i < z.cps.size := by
      rcases Nat.lt_or_ge i z.cps.size with h | h
      · exact h
      · rw [List.getElem?_eq_none (by simpa using h)] at hc
        cases hc
    refine ⟨hl, fun v H' y => ?_⟩
    obtain ⟨rfl, c', hc', rfl⟩ := y
    have : c' = c := by
      rw [Array.getElem?_toList, hc'] at hc
      exact Option.some.inj hc
    subst this
    exact Wd.flat (L := L) w fun _ => by simp only [Sh]
  stop := fun i hi H L w => by
    have : z.cps.size ≤ i := by simpa [strItems] using hi
    exact this
theorem itok_rng {lo : Int} {n : Nat} : ItOk K (Itr lo n) [] ((List.range n).map fun (m : Nat) => shI (lo + (m : Int))) where
  step := fun i x hx H L w => by
    rw [List.getElem?_map, Option.map_eq_some_iff] at hx
    obtain ⟨m, hm, rfl⟩ := hx
    have hl : i < n := by
      rcases Nat.lt_or_ge i n with h | h
      · exact h
      · rw [List.getElem?_eq_none (by simpa using h)] at hm
        cases hm
    rw [List.getElem?_range hl] at hm
    cases hm
    refine ⟨hl, fun v H' y => ?_⟩
    obtain ⟨rfl, rfl⟩ := y
    exact Wd.flat (L := L) w fun _ => by simp only [Sh]
  stop := fun i hi H L w => by
    have : n ≤ i := by simpa using hi
    exact this
/-- a new pair of what nobody changes -/
theorem pair_wd {d1 d2 : PyData} {v1 v2 : V} {p : Addr} {L : List En} (h : Wd K H ((some (.sh d1), v1) :: (some (.sh d2), v2) :: L)) (hp : H p = none) : Wd K (upd H p (.tup [v1, v2])) ((some (.sh (.tuple [d1, d2])), .ref p) :: L) := by
  have h2 : Wd K H (ens [.sh d1, .sh d2] [v1, v2] ++ L) := h
  have q := (Wd.tuple h2 rfl hp).fz
  simpa only [O.d, O.dL] using q
theorem itok_en {ds : List PyData} {a : Addr} : ItOk K (Ite K a) [(some (.sh (.list ds)), .ref a)] (ds.zipIdx.map fun q : PyData × Nat => .sh (.tuple [.int q.2, q.1])) where
  step := fun i x hx H L w => by
    obtain ⟨G, s, q, cl⟩ := sub_wd (L := L) w
    simp only [Sh] at q
    obtain ⟨b, vs, e, ha, hs⟩ := q
    cases e
    rw [List.getElem?_map, Option.map_eq_some_iff] at hx
    obtain ⟨⟨d, j⟩, hd, rfl⟩ := hx
    rw [List.getElem?_zipIdx, Option.map_eq_some_iff] at hd
    obtain ⟨d', hd, e2⟩ := hd
    cases e2
    obtain ⟨u, hu, su⟩ := hs.get hd
    refine ⟨⟨vs, u, .of (s _ _ ha), hu⟩, fun v H' y => ?_⟩
    obtain ⟨T, x, rfl, hT, rfl, y⟩ := y
    have := y vs (.of (s _ _ ha))
    rw [hu] at this
    cases this
    have w2 := (cl d u su).flat (d := .int i) (v := .int i) fun _ => by simp only [Sh]
    have w3 := pair_wd w2 hT
    rw [Nat.zero_add]
    exact w3
  stop := fun i hi H L w => by
    obtain ⟨G, s, q, cl⟩ := sub_wd (L := L) w
    simp only [Sh] at q
    obtain ⟨b, vs, e, ha, hs⟩ := q
    cases e
    refine ⟨vs, .of (s _ _ ha), ?_⟩
    rw [← hs.len]
    simpa using hi
theorem itok_enT {ds : List PyData} {a : Addr} : ItOk K (IteT K a) [(some (.sh (.tuple ds)), .ref a)] (ds.zipIdx.map fun q : PyData × Nat => .sh (.tuple [.int q.2, q.1])) where
  step := fun i x hx H L w => by
    obtain ⟨G, s, q, cl⟩ := sub_wd (L := L) w
    simp only [Sh] at q
    obtain ⟨b, vs, e, ha, hs⟩ := q
    cases e
    rw [List.getElem?_map, Option.map_eq_some_iff] at hx
    obtain ⟨⟨d, j⟩, hd, rfl⟩ := hx
    rw [List.getElem?_zipIdx, Option.map_eq_some_iff] at hd
    obtain ⟨d', hd, e2⟩ := hd
    cases e2
    obtain ⟨u, hu, su⟩ := hs.get hd
    refine ⟨⟨vs, u, s.sqT ha, hu⟩, fun v H' y => ?_⟩
    obtain ⟨T, x, rfl, hT, rfl, y⟩ := y
    have := y vs (s.sqT ha)
    rw [hu] at this
    cases this
    have w2 := (cl d u su).flat (d := .int i) (v := .int i) fun _ => by simp only [Sh]
    have w3 := pair_wd w2 hT
    rw [Nat.zero_add]
    exact w3
  stop := fun i hi H L w => by
    obtain ⟨G, s, q, cl⟩ := sub_wd (L := L) w
    simp only [Sh] at q
    obtain ⟨b, vs, e, ha, hs⟩ := q
    cases e
    refine ⟨vs, s.sqT ha, ?_⟩
    rw [← hs.len]
    simpa using hi
theorem itok_zp {ds es : List PyData} {a b : Addr} : ItOk K (Itz K a b) [(some (.sh (.list ds)), .ref a), (some (.sh (.list es)), .ref b)] ((ds.zip es).map fun q : PyData × PyData => .sh (.tuple [q.1, q.2])) where
  step := fun i x hx H L w => by
    obtain ⟨G, A, s, ⟨B, D, q1, ⟨B2, D2, q2, q3, rfl⟩, rfl⟩, n, f⟩ := w
    simp only [OwE, Ow, Sh] at q1 q2
    obtain ⟨rfl, a1, vs, e1, ha, hs⟩ := q1
    obtain ⟨rfl, b1, ws, e2, hb, ht⟩ := q2
    cases e1
    cases e2
    rw [List.getElem?_map, Option.map_eq_some_iff] at hx
    obtain ⟨⟨d1, d2⟩, hd, rfl⟩ := hx
    rw [List.getElem?_zip_eq_some] at hd
    obtain ⟨u1, hu1, su1⟩ := hs.get hd.1
    obtain ⟨u2, hu2, su2⟩ := ht.get hd.2
    refine ⟨⟨vs, ws, u1, u2, .of (s _ _ ha), .of (s _ _ hb), hu1, hu2⟩, fun v H' y => ?_⟩
    obtain ⟨T, x, y', rfl, hT, rfl, y1, y2⟩ := y
    have g1 := y1 vs (.of (s _ _ ha))
    have g2 := y2 ws (.of (s _ _ hb))
    rw [hu1] at g1
    rw [hu2] at g2
    cases g1
    cases g2
    refine pair_wd (L := (some (.sh (.list ds)), .ref a) :: (some (.sh (.list es)), .ref b) :: L) ⟨G, D2, s, ⟨[], D2, ?_, ⟨[], D2, ?_, ⟨[], D2, ?_, ⟨[], D2, ?_, q3, rfl⟩, rfl⟩, rfl⟩, rfl⟩, n, f⟩ hT
    · simp only [OwE, Ow]; exact ⟨trivial, su1⟩
    · simp only [OwE, Ow]; exact ⟨trivial, su2⟩
    · simp only [OwE, Ow, Sh]; exact ⟨trivial, _, _, rfl, ha, hs⟩
    · simp only [OwE, Ow, Sh]; exact ⟨trivial, _, _, rfl, hb, ht⟩
  stop := fun i hi H L w => by
    obtain ⟨G, A, s, ⟨B, D, q1, ⟨B2, D2, q2, q3, rfl⟩, rfl⟩, n, f⟩ := w
    simp only [OwE, Ow, Sh] at q1 q2
    obtain ⟨rfl, a1, vs, e1, ha, hs⟩ := q1
    obtain ⟨rfl, b1, ws, e2, hb, ht⟩ := q2
    cases e1
    cases e2
    refine ⟨vs, ws, .of (s _ _ ha), .of (s _ _ hb), ?_⟩
    rw [← hs.len, ← ht.len]
    rw [List.length_map, List.length_zip] at hi
    omega
end
end Qv
end
section
set_option Elab.async false
set_option linter.all false
set_option maxRecDepth 100000
set_option maxHeartbeats 1000000
/-! Q10: what loops walk; comprehensions; statements. -/
namespace Qv
open PySem PySem.Spec PyProof.Rows L2

section
variable {X : Cx} {C : Cal} {e a b c tg : Expr} {es : List Expr} {τ τa τb τc : T} {τs κs : List T} {pos p pos' : Pos}
variable {K : Frag} {H : Hp} {ρ : Env} {σ : L2.St} {M N : List En}

/-! ### what is walked -/
theorem shd_eq {o : O} {d : PyData} (h : O.sh o.d = .sh d) : o.d = d := by injection h
theorem Ws.data {o : O} {v : V} {d : PyData} (w : Ws K H ((some o, v) :: M) ρ σ) (h : o.d = d) : Ws K H ((some (.sh d), v) :: M) ρ σ := h ▸ w.fz
theorem evs_one {ρ ρ' : Env} {os : List O} (h : evs C [τ] ρ = some (os, ρ')) : ∃ o, os = [o] ∧ ev C τ ρ = some (o, ρ') := by
  simp only [evs] at h
  split at h
  · rename_i o ρ1 h1
    cases h
    exact ⟨o, rfl, h1⟩
  · cases h
theorem i_sq (h : SE X C e τ) : PI X tg e (tI X.K C .sq [τ]) := PI.imp (PI.or (pi_list h) (PI.or (pi_tup h) (pi_str h))) fun σ H R z => by
  obtain ⟨ρ, os, ρ', M, xs, e1, e2, w, z⟩ := z
  obtain ⟨o, rfl, e0⟩ := evs_one e1
  simp only [List.map_cons, List.map_nil, walk] at e2
  have cs : (∃ ds, o.d = .list ds ∧ xs = ds.map O.sh) ∨ (∃ ds, o.d = .tuple ds ∧ xs = ds.map O.sh) ∨ ∃ x, o.d = .str x ∧ xs = strItems x := by
    cases q : o.d with
    | list ds => rw [q] at e2; simp only [O.seq?, O.list?] at e2; cases e2; exact .inl ⟨ds, rfl, rfl⟩
    | tuple ds => rw [q] at e2; simp only [O.seq?, O.list?, O.tup?] at e2; cases e2; exact .inr (.inl ⟨ds, rfl, rfl⟩)
    | str x => rw [q] at e2; simp only [O.seq?, O.list?, O.tup?] at e2; cases e2; exact .inr (.inr ⟨x, rfl, rfl⟩)
    | _ => rw [q] at e2; simp only [O.seq?, O.list?, O.tup?] at e2; cases e2
  rcases cs with ⟨ds, q, rfl⟩ | ⟨ds, q, rfl⟩ | ⟨x, q, rfl⟩
  · refine .inl ⟨ρ, o, ρ', M, e0, w, fun v H1 w1 => ?_⟩
    have w2 := w1.data q
    obtain ⟨G, s, hv⟩ := w2.scal
    simp only [Sh] at hv
    obtain ⟨a, vs, rfl, ha, _⟩ := hv
    exact ⟨a, rfl, ⟨vs, .of (s _ _ ha)⟩, z _ [(some (.sh (.list ds)), .ref a)] H1 itok_list w2⟩
  · refine .inr (.inl ⟨ρ, o, ρ', M, e0, w, fun v H1 w1 => ?_⟩)
    have w2 := w1.data q
    obtain ⟨G, s, hv⟩ := w2.scal
    simp only [Sh] at hv
    obtain ⟨a, vs, rfl, ha, _⟩ := hv
    exact ⟨a, rfl, ⟨vs, s.sqT ha⟩, z _ [(some (.sh (.tuple ds)), .ref a)] H1 itok_tup w2⟩
  · refine .inr (.inr ⟨ρ, o, ρ', M, e0, w, fun v H1 w1 => ?_⟩)
    have w2 := w1.data q
    obtain ⟨G, s, hv⟩ := w2.scal
    simp only [Sh] at hv
    subst hv
    exact ⟨x, rfl, z _ [] H1 itok_str w2.drop⟩
theorem Ws.int {i : Int} {v : V} {o : O} (w : Ws K H ((some o, v) :: M) ρ σ) (h : o.d = .int i) : v = .int i := by
  obtain ⟨G, s, hv⟩ := (w.data h).scal
  simpa only [Sh] using hv
theorem rng1_in {o : O} {xs : List O} (h : walk .rng [.sh o.d] = some xs) : ∃ j : Int, o.d = .int j ∧ (-(2 ^ 62) ≤ j ∧ j < 2 ^ 62) ∧ xs = (List.range j.toNat).map fun (n : Nat) => shI (0 + (n : Int)) := by
  cases q : o.d with
  | int j =>
    rw [q] at h
    simp only [walk] at h
    obtain ⟨c, rfl⟩ := gd_some h
    have c : -(2 ^ 62) ≤ j ∧ j < 2 ^ 62 := of_decide_eq_true c
    exact ⟨j, rfl, c, rfl⟩
  | _ => rw [q] at h; simp only [walk] at h; cases h
theorem i_rng1 (hg : Gl X "range") (hm : X.mg "range" = none) (ha : SEs X C [a] [τ]) (hs : starEach [a] X.env = [(false, eval a X.env)]) : PI X tg (.Call (.Name "range" p) [a] [] pos) (tI X.K C .rng [τ]) :=
  PI.imp (pi_range1 hg hm ha hs) fun σ H R z => by
    obtain ⟨ρ, os, ρ', M, xs, e1, e2, w, z⟩ := z
    refine evs_run e1 w fun vs H1 l w1 => ?_
    obtain ⟨o, rfl, e1⟩ := evs_one e1
    obtain ⟨j, q, c, rfl⟩ := rng1_in e2
    obtain ⟨v, rfl⟩ : ∃ v, vs = [v] := match vs, l with
      | [v], _ => ⟨v, rfl⟩
    have w1 : Ws X.K H1 ((some o, v) :: M) ρ' σ := w1
    cases w1.int q
    exact ⟨j, rfl, c.1, c.2, z _ [] H1 itok_rng w1.drop⟩
theorem evs_two {ρ ρ' : Env} {os : List O} {τ2 : T} (h : evs C [τ, τ2] ρ = some (os, ρ')) : ∃ o o2, os = [o, o2] := by
  simp only [evs] at h
  split at h
  · split at h
    · rename_i os' ρ2 h2
      cases h
      split at h2
      · cases h2
        exact ⟨_, _, rfl⟩
      · cases h2
    · cases h
  · cases h
theorem i_rng2 {τ2 : T} (hg : Gl X "range") (hm : X.mg "range" = none) (ha : SEs X C [a, b] [τ, τ2]) (hs : starEach [a, b] X.env = [(false, eval a X.env), (false, eval b X.env)]) (hs2 : starEach [b] X.env = [(false, eval b X.env)]) : PI X tg (.Call (.Name "range" p) [a, b] [] pos) (tI X.K C .rng [τ, τ2]) :=
  PI.imp (pi_range2 hg hm ha hs hs2) fun σ H R z => by
    obtain ⟨ρ, os, ρ', M, xs, e1, e2, w, z⟩ := z
    refine evs_run e1 w fun vs H1 l w1 => ?_
    obtain ⟨o, o2, rfl⟩ := evs_two e1
    obtain ⟨v, v2, rfl⟩ : ∃ v v2, vs = [v, v2] := match vs, l with
      | [v, v2], _ => ⟨v, v2, rfl⟩
    have w1 : Ws X.K H1 ((some o, v) :: (some o2, v2) :: M) ρ' σ := w1
    simp only [List.map_cons, List.map_nil] at e2
    obtain ⟨i, j, q1, q2, c, rfl⟩ : ∃ i j : Int, o.d = .int i ∧ o2.d = .int j ∧ (-(2 ^ 62) ≤ i ∧ i < 2 ^ 62 ∧ -(2 ^ 62) ≤ j ∧ j < 2 ^ 62) ∧ xs = (List.range (j - i).toNat).map fun (n : Nat) => shI (i + (n : Int)) := by
      cases q : o.d with
      | int i =>
        rw [q] at e2
        cases q2 : o2.d with
        | int j =>
          rw [q2] at e2
          simp only [walk] at e2
          obtain ⟨c, rfl⟩ := gd_some e2
          have c : -(2 ^ 62) ≤ i ∧ i < 2 ^ 62 ∧ -(2 ^ 62) ≤ j ∧ j < 2 ^ 62 := of_decide_eq_true c
          exact ⟨i, j, rfl, rfl, c, rfl⟩
        | _ => rw [q2] at e2; simp only [walk] at e2; cases e2
      | _ => rw [q] at e2; simp only [walk] at e2; cases e2
    cases w1.int q1
    cases w1.drop.int q2
    exact ⟨i, j, rfl, c, z _ [] H1 itok_rng w1.drop.drop⟩
theorem Ws.lst {ds : List PyData} {v : V} {o : O} (w : Ws K H ((some o, v) :: M) ρ σ) (h : o.d = .list ds) : ∃ a vs, v = .ref a ∧ H a = some (.lst vs) := by
  obtain ⟨G, s, hv⟩ := (w.data h).scal
  simp only [Sh] at hv
  obtain ⟨a, vs, rfl, ha, _⟩ := hv
  exact ⟨a, vs, rfl, s _ _ ha⟩
theorem i_en {elts : List Expr} {kk : Nat} {tpos : Pos} (hg : Gl X "enumerate") (hm : X.mg "enumerate" = none) (ha : SEs X C [a] [τ]) (hs : starEach [a] X.env = [(false, eval a X.env)]) : PI X (.Tuple elts kk tpos) (.Call (.Name "enumerate" p) [a] [] pos) (tI X.K C .en [τ]) :=
  PI.imp (pi_enum2 hg hm ha hs) fun σ H R z => by
    obtain ⟨ρ, os, ρ', M, xs, e1, e2, w, z⟩ := z
    refine evs_run e1 w fun vs H1 l w1 => ?_
    obtain ⟨o, rfl, e1⟩ := evs_one e1
    obtain ⟨v, rfl⟩ : ∃ v, vs = [v] := match vs, l with
      | [v], _ => ⟨v, rfl⟩
    have w1 : Ws X.K H1 ((some o, v) :: M) ρ' σ := w1
    simp only [List.map_cons, List.map_nil] at e2
    obtain ⟨ds, q, rfl⟩ : ∃ ds, (o.d = .list ds ∨ o.d = .tuple ds) ∧ xs = ds.zipIdx.map fun q : PyData × Nat => .sh (.tuple [.int q.2, q.1]) := by
      cases q : o.d with
      | list ds => rw [q] at e2; simp only [walk, O.seq?, O.list?] at e2; cases e2; exact ⟨ds, .inl rfl, rfl⟩
      | tuple ds => rw [q] at e2; simp only [walk, O.seq?, O.list?, O.tup?] at e2; cases e2; exact ⟨ds, .inr rfl, rfl⟩
      | _ => rw [q] at e2; simp only [walk, O.seq?, O.list?, O.tup?] at e2; cases e2
    rcases q with q | q
    · obtain ⟨a, us, rfl, ha⟩ := w1.lst q
      exact .inl ⟨a, us, rfl, .of ha, z _ [(some (.sh (.list ds)), .ref a)] H1 itok_en (w1.data q)⟩
    · have w2 := w1.data q
      obtain ⟨G, s, hv⟩ := w2.scal
      simp only [Sh] at hv
      obtain ⟨a, us, rfl, ha, _⟩ := hv
      exact .inr ⟨a, us, rfl, s.sqT ha, z _ [(some (.sh (.tuple ds)), .ref a)] H1 itok_enT w2⟩
theorem i_zp {elts : List Expr} {kk : Nat} {tpos : Pos} {τ2 : T} (hg : Gl X "zip") (hm : X.mg "zip" = none) (ha : SEs X C [a, b] [τ, τ2]) (hs : starEach [a, b] X.env = [(false, eval a X.env), (false, eval b X.env)]) (hs2 : starEach [b] X.env = [(false, eval b X.env)]) : PI X (.Tuple elts kk tpos) (.Call (.Name "zip" p) [a, b] [] pos) (tI X.K C .zp [τ, τ2]) :=
  PI.imp (pi_zip hg hm ha (by rw [hs, hs2]) (by rw [hs2]; rfl)) fun σ H R z => by
    obtain ⟨ρ, os, ρ', M, xs, e1, e2, w, z⟩ := z
    refine evs_run e1 w fun vs H1 l w1 => ?_
    obtain ⟨o, o2, rfl⟩ := evs_two e1
    obtain ⟨v, v2, rfl⟩ : ∃ v v2, vs = [v, v2] := match vs, l with
      | [v, v2], _ => ⟨v, v2, rfl⟩
    have w1 : Ws X.K H1 ((some o, v) :: (some o2, v2) :: M) ρ' σ := w1
    simp only [List.map_cons, List.map_nil] at e2
    obtain ⟨ds, es, q1, q2, rfl⟩ : ∃ ds es, o.d = .list ds ∧ o2.d = .list es ∧ xs = (ds.zip es).map fun q : PyData × PyData => .sh (.tuple [q.1, q.2]) := by
      cases q : o.d with
      | list ds =>
        rw [q] at e2
        cases q2 : o2.d with
        | list es => rw [q2] at e2; simp only [walk, O.list?] at e2; cases e2; exact ⟨ds, es, rfl, rfl, rfl⟩
        | _ => rw [q2] at e2; simp only [walk, O.list?] at e2; cases e2
      | _ => rw [q] at e2; simp only [walk, O.list?] at e2; cases e2
    obtain ⟨a, us, rfl, ha⟩ := w1.lst q1
    obtain ⟨b, ws, rfl, hb⟩ := w1.drop.lst q2
    refine ⟨a, b, us, ws, rfl, .of ha, .of hb, z _ [(some (.sh (.list ds)), .ref a), (some (.sh (.list es)), .ref b)] H1 itok_zp ?_⟩
    have w2 := w1.data q1
    have w3 : Ws X.K H1 ((some o2, .ref b) :: (some (.sh (.list ds)), .ref a) :: M) ρ' σ := w2.mono (.swap ..)
    exact (w3.data q2).mono (.swap ..)

/-! ### comprehensions -/
def tBs (K : Frag) (C : Cal) (cs : List T) : TT := fun σ H Q => ∃ ρ b ρ' M, evBs C cs ρ = some (b, ρ') ∧ Ws K H M ρ σ ∧ ∀ H', Ws K H' M ρ' σ → Q b H'
theorem PTs.imp {ifs : List Expr} {t t' : TT} (h : PTs X ifs t) (w : ∀ σ H Q, t' σ H Q → t σ H Q) : PTs X ifs t' := ⟨fun pins s σ H Q I q => h.run pins s σ H Q I (w σ H Q q)⟩
theorem ts_nil : PTs X [] (tBs X.K C []) := PTs.imp pts_nil fun σ H Q z => by
  obtain ⟨ρ, b, ρ', M, e1, w, z⟩ := z
  simp only [evBs] at e1
  cases e1
  exact z H w
theorem ts_one (h : ST X C c τ) : PTs X [c] (tBs X.K C [τ]) := PTs.imp (pts_one h) fun σ H Q z => by
  obtain ⟨ρ, b, ρ', M, e1, w, z⟩ := z
  simp only [evBs] at e1
  split at e1
  · rename_i h1
    cases e1
    exact ⟨ρ, true, ρ', M, h1, w, z⟩
  · rename_i h1
    cases e1
    exact ⟨ρ, false, ρ', M, h1, w, z⟩
  · cases e1
theorem set_none_comm (ρ : Env) (i j : Nat) : (ρ.set i none).set j none = (ρ.set j none).set i none := by
  by_cases e : i = j
  · rw [e]
  · rw [List.set_comm _ _ e]
theorem forget_set : ∀ (vs : List Nat) (ρ : Env) (v : Nat), (forget ρ vs).set v none = forget (ρ.set v none) vs
  | [], _, _ => rfl
  | u :: vs, ρ, v => by
    show ((forget ρ vs).set u none).set v none = (forget (ρ.set v none) vs).set u none
    rw [set_none_comm, forget_set vs ρ v]
theorem Ws.unset {v : Nat} (h : Ws K H M ρ (σ.set v none)) : Ws K H M (ρ.set v none) σ := by
  have q := h.forget1 v
  by_cases hv : v < σ.length
  · have hl : v < ρ.length := by rw [h.1.len, List.length_set]; exact hv
    have e : (ρ.set v none)[v]? = some none := List.getElem?_set_self hl
    obtain ⟨a, b⟩ := q.1.other (x := σ[v]) e
    have e2 : (σ.set v none).set v σ[v] = σ := by
      rw [List.set_set]
      exact List.set_getElem_self hv
    rw [e2] at a b
    refine ⟨b, ?_⟩
    rw [a]
    exact q.2
  · have e : σ.set v none = σ := List.set_eq_of_length_le (by omega)
    rw [e] at q
    exact q
theorem Ws.unwipe : ∀ {vs : List Nat} {ρ : Env}, Ws K H M ρ (wipe σ vs) → Ws K H M (forget ρ vs) σ
  | [], _, h => h
  | v :: vs, ρ, h => by
    have h : Ws K H M ρ ((wipe σ vs).set v none) := h
    have q := Ws.unwipe (vs := vs) h.unset
    show Ws K H M ((forget ρ vs).set v none) σ
    rw [forget_set]
    exact q
theorem lc_out {ws : List Nat} {t : Tg} {ik : IK} {ies cs : List T} {Q : VK} (htg : ∀ i ∈ tgSlots t, i ∈ ws) (h : tS K C (.lc ws t ik ies cs τ) σ H Q) : tLc (tI K C ik ies) (gS K t) (tBs K C cs) (tS K C τ) ws σ H Q := by
  obtain ⟨ρ, o, ρ', M, e1, w, z⟩ := h
  simp only [ev] at e1
  split at e1
  · rename_i ios ρ1 h1
    split at e1
    · rename_i xs h2
      split at e1
      · rename_i os ρ2 h3
        cases e1
        refine ⟨ρ, ios, ρ1, M, xs, h1, h2, w, fun J E H1 it w1 D hD => ?_⟩
        generalize hf : (fun x ρ2 => match bindTg t x ρ2 with
          | some ρ3 => match evBs C cs ρ3 with
            | some (true, ρ4) => match ev C τ ρ4 with
              | some (o, ρ5) => some (some (.sh o.d), forget ρ5 ws)
              | none => none
            | some (false, ρ4) => some (none, forget ρ4 ws)
            | none => none
          | none => none : O → Env → Option (Option O × Env)) = f at h3
        refine ⟨fun i m H => m = xs.length - i ∧ i ≤ xs.length ∧ ∃ acc ρa, lcGo f (xs.drop i) acc ρa = some (os, ρ2) ∧ Ws K H ((some (.ol acc), .ref D) :: (E ++ M)) ρa (wipe σ ws),
          ⟨xs.length, by simp, Nat.zero_le _, [], forget ρ1 ws, by simpa using h3, ?_⟩, ?_⟩
        · have w2 := w1.wiped ws
          refine ⟨w2.1, ?_⟩
          have w3 : Wd K H1 (ens [] [] ++ (E ++ M ++ live (forget ρ1 ws) (wipe σ ws))) := w2.2
          exact Wd.list w3 rfl hD
        · rintro i m H2 ⟨rfl, hi, acc, ρa, hg, w2⟩
          have front : ((some (O.ol acc), V.ref D) :: (E ++ M)).Perm (E ++ ((some (O.ol acc), V.ref D) :: M)) := List.perm_middle.symm
          have w3 := w2.mono front
          by_cases hlt : i < xs.length
          · have hx : xs[i]? = some xs[i] := List.getElem?_eq_getElem hlt
            have w3d := w3.2
            rw [List.append_assoc] at w3d
            obtain ⟨go, yl⟩ := it.step i _ hx H2 _ w3d
            refine .inr ⟨go, fun H' => ∃ acc ρa, lcGo f (xs.drop (i + 1)) acc ρa = some (os, ρ2) ∧ Ws K H' ((some (.ol acc), .ref D) :: (E ++ M)) ρa (wipe σ ws),
              fun H' hn => ⟨xs.length - (i + 1), by omega, rfl, hlt, hn⟩, fun v H' y => ?_⟩
            have w4 := yl v H' y
            have w5 : Ws K H' ((some xs[i], v) :: (E ++ ((some (.ol acc), .ref D) :: M))) ρa (wipe σ ws) := ⟨w3.1, by
              have := w4
              rw [← List.append_assoc] at this
              exact this⟩
            rw [List.drop_eq_getElem_cons hlt] at hg
            simp only [lcGo] at hg
            rw [← hf] at hg
            dsimp only at hg
            cases hb : bindTg t xs[i] ρa with
            | none =>
              rw [hb] at hg
              cases hg
            | some ρ3 =>
              rw [hb] at hg
              dsimp only at hg
              refine ⟨ρa, xs[i], ρ3, _, hb, w5, fun σ2 ag w6 => ⟨(ag.mono htg).wipe.trans ?_, ?_⟩⟩
              · have : Agree ws σ (wipe σ ws) := ⟨wipe_length σ ws, fun i hi => wipe_out hi⟩
                exact this.wipe
              have wp : wipe σ2 ws = wipe σ ws := (ag.mono htg).wipe.trans (by
                have : Agree ws σ (wipe σ ws) := ⟨wipe_length σ ws, fun i hi => wipe_out hi⟩
                exact this.wipe)
              cases hc : evBs C cs ρ3 with
              | none =>
                rw [hc] at hg
                cases hg
              | some bb =>
                obtain ⟨b, ρ4⟩ := bb
                rw [hc] at hg
                refine ⟨ρ3, b, ρ4, _, hc, w6, fun H3 w7 => ?_⟩
                cases b with
                | false =>
                  dsimp only at hg
                  refine iteF ⟨acc, forget ρ4 ws, ?_, ?_⟩
                  · rw [hf] at hg
                    exact hg
                  · have w8 := w7.wiped ws
                    rw [wp] at w8
                    exact w8.mono front.symm
                | true =>
                  dsimp only at hg
                  refine iteT ?_
                  cases he : ev C τ ρ4 with
                  | none =>
                    rw [he] at hg
                    cases hg
                  | some oo =>
                    obtain ⟨o, ρ5⟩ := oo
                    rw [he] at hg
                    dsimp only at hg
                    split at hg
                    · rename_i hl
                      rw [hf] at hg
                      refine ⟨ρ4, o, ρ5, _, he, w7, fun y H4 w8 => ?_⟩
                      have w9 := w8.fz.wiped ws
                      rw [wp] at w9
                      have w10 : Ws K H4 ((some (.ol acc), .ref D) :: (some (.sh o.d), y) :: (E ++ M)) (forget ρ5 ws) (wipe σ ws) := w9.mono ((front.symm.cons _).trans (.swap ..))
                      obtain ⟨c, w11⟩ := w10
                      obtain ⟨a, vs, e3, ha, l, w12⟩ := Wd.open (L := (some (.sh o.d), y) :: (E ++ M) ++ live (forget ρ5 ws) (wipe σ ws)) w11
                      cases e3
                      refine ⟨vs, ha, by rw [← l]; exact hl, acc ++ [.sh o.d], forget ρ5 ws, hg, c, ?_⟩
                      have l2 : (acc ++ [O.sh o.d]).length = (vs ++ [y]).length := by
                        rw [List.length_append, List.length_append, l]
                        rfl
                      refine Wd.close (L := E ++ M ++ live (forget ρ5 ws) (wipe σ ws)) ?_ l2
                      rw [ens_append l, List.append_assoc]
                      exact w12
                    · cases hg
          · have e : i = xs.length := by omega
            subst e
            have w3d := w3.2
            rw [List.append_assoc] at w3d
            refine .inl ⟨it.stop _ (Nat.le_refl _) H2 _ w3d, ?_⟩
            rw [List.drop_length] at hg
            simp only [lcGo] at hg
            cases hg
            have w4 := (w2.underL E).unwipe
            exact z _ _ w4
      · cases e1
    · cases e1
  · cases e1
theorem s_lc {elt iter : Expr} {ifs : List Expr} {scope : Scope} {own : List (Str × Nat)} {t : Tg} {ik : IK} {ies cs : List T} (hc : X.calm = true) (hN : X.N.Nodup) (hi : PI X tg iter (tI X.K C ik ies)) (ok : BlkOk X.N X.env.scope scope own)
    (hg : ∀ (s : Shared) (H : Hp) (B : Addr) (cl : List (Str × Addr)) (fp : List Addr), PG (X.blk s H scope (compEnvC scope cl B X.env) fp) tg (gS X.K t)) (ht : ∀ (s : Shared) (H : Hp) (B : Addr) (cl : List (Str × Addr)) (fp : List Addr), PTs (X.blk s H scope (compEnvC scope cl B X.env) fp) ifs (tBs X.K C cs))
    (he : ∀ (s : Shared) (H : Hp) (B : Addr) (cl : List (Str × Addr)) (fp : List Addr), PE (X.blk s H scope (compEnvC scope cl B X.env) fp) elt (tS X.K C τ)) (hs : ∀ x, foldedSetIterable iter X.env x = pure x)
    (htg : ∀ i ∈ tgSlots t, i ∈ own.map (·.2)) : SE X C (.ListComp elt [⟨tg, iter, ifs, 0⟩] scope pos) (.lc (own.map (·.2)) t ik ies cs τ) :=
  PE.imp (pe_lc hc hN hi ok hg ht he hs) fun σ H Q z => lc_out htg z
end
end Qv
end
section
set_option Elab.async false
set_option linter.all false
set_option maxRecDepth 100000
set_option maxHeartbeats 1000000
/-! Q11: statements. -/
namespace Qv
open PySem PySem.Spec PyProof.Rows L2

/-- these slots stay -/
def Kp (kp : List Nat) (σ σ' : L2.St) : Prop := σ'.length = σ.length ∧ ∀ i ∈ kp, σ'[i]? = σ[i]?
theorem Kp.refl (kp : List Nat) (σ : L2.St) : Kp kp σ σ := ⟨rfl, fun _ _ => rfl⟩
theorem Kp.trans {kp : List Nat} {σ σ1 σ2 : L2.St} (a : Kp kp σ σ1) (b : Kp kp σ1 σ2) : Kp kp σ σ2 := ⟨b.1.trans a.1, fun i h => (b.2 i h).trans (a.2 i h)⟩
theorem Agree.kp {is kp : List Nat} {σ σ' : L2.St} (a : Agree is σ σ') (h : ∀ i ∈ is, i ∉ kp) : Kp kp σ σ' := ⟨a.1, fun i hi => a.2 i fun z => h i z hi⟩
def outOk (K : Frag) (kp : List Nat) (M : List En) (σ : L2.St) : Out → Ends → Prop
  | .nx ρ', D => ∀ σ' H', Kp kp σ σ' → Ws K H' M ρ' σ' → D.nx σ' H'
  | .rt o ρ', D => ∀ σ' v H', Kp kp σ σ' → Ws K H' ((some o, v) :: M) ρ' σ' → D.rt v H'
  | .bk ρ', D => ∀ σ' H', Kp kp σ σ' → Ws K H' M ρ' σ' → D.bk σ' H'
  | .ct ρ', D => ∀ σ' H', Kp kp σ σ' → Ws K H' M ρ' σ' → D.ct σ' H'
def tSS (K : Frag) (C : Cal) (kp : List Nat) (ς : S) : TS := fun D σ H => ∃ ρ out M, evS C ς ρ = some out ∧ Ws K H M ρ σ ∧ outOk K kp M σ out D
def tSB (K : Frag) (C : Cal) (kp : List Nat) (ςs : List S) : TS := fun D σ H => ∃ ρ out M, evSs C ςs ρ = some out ∧ Ws K H M ρ σ ∧ outOk K kp M σ out D
abbrev SS (X : Cx) (C : Cal) (kp : List Nat) (st : Stmt) (ς : S) : Prop := PS X st (tSS X.K C kp ς)
abbrev SB (X : Cx) (C : Cal) (kp : List Nat) (st : List Stmt) (ςs : List S) : Prop := PSs X st (tSB X.K C kp ςs)

section
variable {X : Cx} {C : Cal} {kp : List Nat} {e a b c tg : Expr} {es : List Expr} {τ τa τb τc : T} {τs κs : List T} {pos p pos' : Pos} {st : Stmt} {sts : List Stmt} {ς : S} {ςs : List S}
variable {K : Frag} {H : Hp} {ρ : Env} {σ : L2.St} {M N : List En}

theorem outOk_kp {σ1 : L2.St} {out : Out} {D : Ends} (k : Kp kp σ σ1) (h : outOk K kp M σ out D) : outOk K kp M σ1 out D := by
  cases out with
  | nx ρ' => exact fun σ' H' k' w => h σ' H' (k.trans k') w
  | rt o ρ' => exact fun σ' v H' k' w => h σ' v H' (k.trans k') w
  | bk ρ' => exact fun σ' H' k' w => h σ' H' (k.trans k') w
  | ct ρ' => exact fun σ' H' k' w => h σ' H' (k.trans k') w
/-! ### blocks -/
theorem b_nil : SB X C kp [] [] := PSs.imp pss_nil fun D σ H z => by
  obtain ⟨ρ, out, M, e1, w, q⟩ := z
  simp only [evSs] at e1
  cases e1
  exact q σ H (.refl _ _) w
theorem b_cons (h1 : SS X C kp st ς) (h2 : SB X C kp sts ςs) : SB X C kp (st :: sts) (ς :: ςs) := PSs.imp (pss_cons h1 h2) fun D σ H z => by
  obtain ⟨ρ, out, M, e1, w, q⟩ := z
  simp only [evSs] at e1
  show tSS X.K C kp ς { D with nx := tSB X.K C kp ςs D } σ H
  split at e1
  · rename_i ρ1 h3
    exact ⟨ρ, _, M, h3, w, fun σ' H' k w' => ⟨ρ1, out, M, e1, w', outOk_kp k q⟩⟩
  · rename_i h3
    refine ⟨ρ, out, M, e1, w, ?_⟩
    cases out with
    | nx ρ1 => exact absurd e1 (h3 ρ1)
    | rt o ρ' => exact q
    | bk ρ' => exact q
    | ct ρ' => exact q

/-! ### small statements -/
theorem ss_ex (he : SE X C e τ) (hs : swapsWith e none pos.line X.env = pure false) : SS X C kp (.Expr e pos) (.ex τ) := PS.imp (ps_expr he hs) fun D σ H z => by
  obtain ⟨ρ, out, M, e1, w, q⟩ := z
  simp only [evS] at e1
  split at e1
  · rename_i o ρ1 h1
    cases e1
    exact ⟨ρ, o, ρ1, M, h1, w, fun v H' w' => q σ H' (.refl _ _) w'.drop⟩
  · cases e1
theorem ss_ret (he : SE X C e τ) : SS X C kp (.Return (some e) pos) (.ret τ) := PS.imp (ps_ret he) fun D σ H z => by
  obtain ⟨ρ, out, M, e1, w, q⟩ := z
  simp only [evS] at e1
  split at e1
  · rename_i o ρ1 h1
    cases e1
    exact ⟨ρ, o, ρ1, M, h1, w, fun v H' w' => q σ v H' (.refl _ _) w'⟩
  · cases e1
theorem ss_retN : SS X C kp (.Return none pos) (.ret (.c .none)) := PS.imp ps_retN fun D σ H z => by
  obtain ⟨ρ, out, M, e1, w, q⟩ := z
  simp only [evS, ev] at e1
  cases e1
  exact q σ .non H (.refl _ _) (w.flat fun _ => by simp only [Sh])
theorem ss_pass : SS X C kp (.Pass pos) .pass := PS.imp ps_pass fun D σ H z => by
  obtain ⟨ρ, out, M, e1, w, q⟩ := z
  simp only [evS] at e1
  cases e1
  exact q σ H (.refl _ _) w
theorem ss_brk : SS X C kp (.Break pos) .brk := PS.imp ps_break fun D σ H z => by
  obtain ⟨ρ, out, M, e1, w, q⟩ := z
  simp only [evS] at e1
  cases e1
  exact q σ H (.refl _ _) w
theorem ss_cont : SS X C kp (.Continue pos) .cont := PS.imp ps_continue fun D σ H z => by
  obtain ⟨ρ, out, M, e1, w, q⟩ := z
  simp only [evS] at e1
  cases e1
  exact q σ H (.refl _ _) w
/-- what is never come to -/
theorem ss_raise : SS X C kp st .raise := PS.imp ps_never fun D σ H z => by
  obtain ⟨ρ, out, M, e1, w, q⟩ := z
  simp only [evS] at e1
  cases e1
theorem ss_if {x y : List Stmt} {xs ys : List S} (hc : ST X C c τc) (ha : SB X C kp x xs) (hb : SB X C kp y ys) : SS X C kp (.If c x y pos) (.ite τc xs ys) := PS.imp (ps_if hc ha hb) fun D σ H z => by
  obtain ⟨ρ, out, M, e1, w, q⟩ := z
  simp only [evS] at e1
  split at e1
  · rename_i ρ1 h1
    exact ⟨ρ, true, ρ1, M, h1, w, fun H1 w1 => iteT ⟨ρ1, out, M, e1, w1, q⟩⟩
  · rename_i ρ1 h1
    exact ⟨ρ, false, ρ1, M, h1, w, fun H1 w1 => iteF ⟨ρ1, out, M, e1, w1, q⟩⟩
  · cases e1
theorem ss_while {x : List Stmt} {xs : List S} (hxe : X.xe = fun _ _ => False) (hc : ST X C c τc) (ha : SB X C kp x xs) : SS X C kp (.While c x [] pos) (.wh τc xs) := by
  have hp : PassesOwn (model X.prog X.w) X.A X.env X.xe := by
    rw [hxe]
    exact PassesOwn.never
  refine PS.imp (ps_while hp hc ha) fun D σ H z => ?_
  obtain ⟨ρ, out, M, e1, w, q⟩ := z
  simp only [evS] at e1
  obtain ⟨n, hn⟩ := loopO_some e1
  generalize hf : (fun ρ1 => match ev C τc ρ1 with
      | some (.sh (.bool false), ρ2) => some (.inl (.nx ρ2))
      | some (.sh (.bool true), ρ2) => match evSs C xs ρ2 with
        | some (.nx ρ3) => some (.inr ρ3)
        | some (.ct ρ3) => some (.inr ρ3)
        | some (.bk ρ3) => some (.inl (.nx ρ3))
        | some (.rt o ρ3) => some (.inl (.rt o ρ3))
        | none => none
      | _ => none : Env → Option (Out ⊕ Env)) = f at hn
  refine ⟨fun m σ' H' => ∃ ρ', iterN f m ρ' = some out ∧ Ws X.K H' M ρ' σ' ∧ Kp kp σ σ', ⟨n, ρ, hn, w, .refl _ _⟩, fun m σ1 H1 hW => ?_⟩
  obtain ⟨ρ1, h1, w1, k1⟩ := hW
  cases m with
  | zero =>
    simp only [iterN] at h1
    cases h1
  | succ m =>
    simp only [iterN] at h1
    split at h1
    · cases h1
    · rename_i o h2
      cases h1
      rw [← hf] at h2
      dsimp only at h2
      split at h2
      · rename_i ρ2 h3
        cases h2
        exact ⟨ρ1, false, ρ2, M, h3, w1, fun H2 w2 => iteF (q σ1 H2 k1 w2)⟩
      · rename_i ρ2 h3
        split at h2
        · cases h2
        · cases h2
        · rename_i ρ3 h4
          cases h2
          exact ⟨ρ1, true, ρ2, M, h3, w1, fun H2 w2 => iteT ⟨fun _ _ => False, fun _ _ z => z.elim, ρ2, _, M, h4, w2, fun σ' H' k w' => q σ' H' (k1.trans k) w'⟩⟩
        · rename_i o ρ3 h4
          cases h2
          exact ⟨ρ1, true, ρ2, M, h3, w1, fun H2 w2 => iteT ⟨fun _ _ => False, fun _ _ z => z.elim, ρ2, _, M, h4, w2, fun σ' v H' k w' => q σ' v H' (k1.trans k) w'⟩⟩
        · cases h2
      · cases h2
    · rename_i ρ2 h2
      rw [← hf] at h2
      dsimp only at h2
      split at h2
      · cases h2
      · rename_i ρ3 h3
        split at h2
        · rename_i ρ4 h4
          cases h2
          exact ⟨ρ1, true, ρ3, M, h3, w1, fun H2 w2 => iteT ⟨fun σ' H' => ∃ ρ', iterN f m ρ' = some out ∧ Ws X.K H' M ρ' σ' ∧ Kp kp σ σ', fun σ' H' n => ⟨m, Nat.lt_succ_self _, n⟩, ρ3, _, M, h4, w2, fun σ' H' k w' => ⟨_, h1, w', k1.trans k⟩⟩⟩
        · rename_i ρ4 h4
          cases h2
          exact ⟨ρ1, true, ρ3, M, h3, w1, fun H2 w2 => iteT ⟨fun σ' H' => ∃ ρ', iterN f m ρ' = some out ∧ Ws X.K H' M ρ' σ' ∧ Kp kp σ σ', fun σ' H' n => ⟨m, Nat.lt_succ_self _, n⟩, ρ3, _, M, h4, w2, fun σ' H' k w' => ⟨_, h1, w', k1.trans k⟩⟩⟩
        · cases h2
        · cases h2
        · cases h2
      · cases h2
theorem ss_for {iter : Expr} {x : List Stmt} {xs : List S} {t : Tg} {ik : IK} {ies : List T} (hxe : X.xe = fun _ _ => False) (hc : X.calm = true) (hi : PI X tg iter (tI X.K C ik ies)) (hg : PG X tg (gS X.K t)) (ha : SB X C kp x xs)
    (hs : ∀ x, foldedSetIterable iter X.env x = pure x) (htg : ∀ i ∈ tgSlots t, i ∉ kp) : SS X C kp (.For tg iter x [] pos) (.fr t ik ies xs) := by
  have hp : PassesOwn (model X.prog X.w) X.A X.env X.xe := by
    rw [hxe]
    exact PassesOwn.never
  refine PS.imp (ps_for hp hc hi hg ha hs) fun D σ H z => ?_
  obtain ⟨ρ, out, M, e1, w, q⟩ := z
  simp only [evS] at e1
  split at e1
  · rename_i ios ρ1 h1
    split at e1
    · rename_i ys h2
      generalize hf : (fun x ρ2 => match bindTg t x ρ2 with
          | some ρ3 => evSs C xs ρ3
          | none => none : O → Env → Option Out) = f at e1
      refine ⟨ρ, ios, ρ1, M, ys, h1, h2, w, fun J E H1 it w1 => ?_⟩
      refine ⟨fun i m σ' H' => m = ys.length - i ∧ i ≤ ys.length ∧ ∃ ρ', frGo f (ys.drop i) ρ' = some out ∧ Ws X.K H' (E ++ M) ρ' σ' ∧ Kp kp σ σ',
        ⟨ys.length, by simp, Nat.zero_le _, ρ1, by simpa using e1, w1, .refl _ _⟩, ?_⟩
      rintro i m σ1 H2 ⟨rfl, hi, ρa, hgo, w2, k1⟩
      have w2d := w2.2
      rw [List.append_assoc] at w2d
      by_cases hlt : i < ys.length
      · have hx : ys[i]? = some ys[i] := List.getElem?_eq_getElem hlt
        obtain ⟨go, yl⟩ := it.step i _ hx H2 _ w2d
        rw [List.drop_eq_getElem_cons hlt] at hgo
        simp only [frGo] at hgo
        refine .inr ⟨go, fun σ' H' => ∃ ρ', frGo f (ys.drop (i + 1)) ρ' = some out ∧ Ws X.K H' (E ++ M) ρ' σ' ∧ Kp kp σ σ', fun σ' H' hn => ⟨ys.length - (i + 1), by omega, rfl, hlt, hn⟩, fun v H' y => ?_⟩
        have w4 := yl v H' y
        have w5 : Ws X.K H' ((some ys[i], v) :: (E ++ M)) ρa σ1 := ⟨w2.1, by
          have := w4
          rw [← List.append_assoc] at this
          exact this⟩
        rw [← hf] at hgo
        dsimp only at hgo
        cases hb : bindTg t ys[i] ρa with
        | none =>
          rw [hb] at hgo
          cases hgo
        | some ρ3 =>
          rw [hb] at hgo
          dsimp only at hgo
          refine ⟨ρa, ys[i], ρ3, E ++ M, hb, w5, fun σ2 ag w6 => ?_⟩
          have k2 : Kp kp σ σ2 := k1.trans (ag.kp htg)
          cases hbd : evSs C xs ρ3 with
          | none =>
            rw [hbd] at hgo
            cases hgo
          | some o1 =>
            rw [hbd] at hgo
            refine ⟨ρ3, o1, E ++ M, hbd, w6, ?_⟩
            cases o1 with
            | nx ρ4 =>
              dsimp only at hgo
              rw [hf] at hgo
              exact fun σ' H3 k w' => ⟨ρ4, hgo, w', k2.trans k⟩
            | ct ρ4 =>
              dsimp only at hgo
              rw [hf] at hgo
              exact fun σ' H3 k w' => ⟨ρ4, hgo, w', k2.trans k⟩
            | bk ρ4 =>
              dsimp only at hgo
              cases hgo
              exact fun σ' H3 k w' => q σ' H3 (k2.trans k) (w'.dropL E)
            | rt o ρ4 =>
              dsimp only at hgo
              cases hgo
              exact fun σ' v' H3 k w' => q σ' v' H3 (k2.trans k) (w'.underL E)
      · have e : i = ys.length := by omega
        subst e
        rw [List.drop_length] at hgo
        simp only [frGo] at hgo
        cases hgo
        exact .inl ⟨it.stop _ (Nat.le_refl _) H2 _ w2d, q σ1 H2 k1 (w2.dropL E)⟩
    · cases e1
  · cases e1

/-! ### assignments -/
mutual
def taSlots : Ta → List Nat
  | .nm i => [i]
  | .tp ts => tasSlots ts
  | .st _ _ => []
def tasSlots : List Ta → List Nat
  | [] => []
  | t :: ts => taSlots t ++ tasSlots ts
end
def gA (K : Frag) (C : Cal) (t : Ta) : TG := fun v σ H Q => ∃ ρ o ρ' M, bindTa C t o ρ = some ρ' ∧ Ws K H ((some o, v) :: M) ρ σ ∧ ∀ σ' H', Agree (taSlots t) σ σ' → Ws K H' M ρ' σ' → Q σ' H'
def gAs (K : Frag) (C : Cal) (ts : List Ta) : TGs := fun vs σ H Q => ∃ ρ os ρ' M, bindTas C ts os ρ = some ρ' ∧ os.length = vs.length ∧ Ws K H (ens os vs ++ M) ρ σ ∧ ∀ σ' H', Agree (tasSlots ts) σ σ' → Ws K H' M ρ' σ' → Q σ' H'
theorem a_name {i : Nat} {x : Str} (hN : X.N.Nodup) (hi : X.N[i]? = some x) (hx : Loc X.env.scope x) (hf : X.fn x = true ∨ X.env.scope.names.lookup x = some .local) : PG X (.Name x pos) (gA X.K C (.nm i)) :=
  PG.imp (pg_name hN hi hx hf) fun v σ H Q h => by
    obtain ⟨ρ, o, ρ', M, e1, w, z⟩ := h
    simp only [bindTa] at e1
    split at e1
    · rename_i hl
      cases e1
      exact z _ _ (by simp only [taSlots]; exact Agree.set) (w.store hl)
    · cases e1
theorem a_nil : PGs X [] (gAs X.K C []) := PGs.imp pgs_nil fun vs σ H Q h => by
  obtain ⟨ρ, os, ρ', M, e1, l, w, z⟩ := h
  cases os with
  | nil =>
    simp only [bindTas] at e1
    cases e1
    have : vs = [] := List.eq_nil_of_length_eq_zero l.symm
    subst this
    exact ⟨rfl, z σ H (Agree.refl _ _) w⟩
  | cons _ _ =>
    simp only [bindTas] at e1
    cases e1
theorem a_cons {t : Ta} {ts : List Ta} (h1 : PG X e (gA X.K C t)) (h2 : PGs X es (gAs X.K C ts)) (hs : (assignEach (e :: es) X.env).map (·.2) = assign e X.env :: (assignEach es X.env).map (·.2)) : PGs X (e :: es) (gAs X.K C (t :: ts)) :=
  PGs.imp (pgs_cons h1 h2 hs) fun vs σ H Q h => by
    obtain ⟨ρ, os, ρ', M, e1, l, w, z⟩ := h
    cases os with
    | nil =>
      simp only [bindTas] at e1
      cases e1
    | cons o os =>
      simp only [bindTas] at e1
      split at e1
      · rename_i ρ1 h3
        cases vs with
        | nil => cases l
        | cons v r =>
          have w : Ws X.K H ((some o, v) :: (ens os r ++ M)) ρ σ := w
          refine ⟨v, r, rfl, ρ, o, ρ1, ens os r ++ M, h3, w, fun σ1 H1 a1 w1 => ⟨ρ1, os, ρ', M, e1, by simpa using l, w1, fun σ2 H2 a2 w2 => z σ2 H2 ?_ w2⟩⟩
          simp only [tasSlots]
          exact a1.trans a2
      · cases e1
theorem bindTas_len : ∀ {ts : List Ta} {os : List O} {ρ ρ' : Env}, bindTas C ts os ρ = some ρ' → ts.length = os.length
  | [], [], _, _, _ => rfl
  | t :: ts, o :: os, ρ, ρ', h => by
    simp only [bindTas] at h
    split at h
    · rw [List.length_cons, List.length_cons, bindTas_len h]
    · cases h
  | [], _ :: _, _, _, h => by simp only [bindTas] at h; cases h
  | _ :: _, [], _, _, h => by simp only [bindTas] at h; cases h
theorem a_tup {ts : List Ta} {k : Nat} (hc : X.calm = true) (h : PGs X es (gAs X.K C ts)) (hn : (assignEach es X.env).length = ts.length) (hst : (assignEach es X.env).findIdx? (·.1) = none) : PG X (.Tuple es k pos) (gA X.K C (.tp ts)) :=
  PG.imp (pg_tup hc h hn hst) fun v σ H Q h => by
    obtain ⟨ρ, o, ρ', M, e1, w, z⟩ := h
    simp only [bindTa] at e1
    split at e1
    · rename_i ds
      obtain ⟨c, G, A, s, ⟨B, D, q1, q2, rfl⟩, n, f⟩ := w
      simp only [OwE, Ow, Sh] at q1
      obtain ⟨rfl, a, vs, rfl, ha, hs⟩ := q1
      refine ⟨a, vs, rfl, s.sqT ha, ?_, ρ, ds.map O.sh, ρ', M, e1, by rw [List.length_map]; exact hs.len, ⟨c, G, D, s, ?_, n, f⟩, fun σ' H' ag w' => z σ' H' (by simpa only [taSlots] using ag) w'⟩
      · rw [← hs.len, bindTas_len e1, List.length_map]
      · rw [List.append_assoc]
        exact PL.join _ _ [] D (OwL.pl (OwL.of_sh hs)).1 q2
    · rename_i os
      obtain ⟨c, w⟩ := w
      obtain ⟨a, vs, rfl, ha, l, w2⟩ := Wd.openT (L := M ++ live ρ σ) w
      refine ⟨a, vs, rfl, .of ha, ?_, ρ, os, ρ', M, e1, l, ⟨c, by rw [List.append_assoc]; exact w2.drop⟩, fun σ' H' ag w' => z σ' H' (by simpa only [taSlots] using ag) w'⟩
      rw [← l, bindTas_len e1]
    · cases e1
theorem ens_set {d : PyData} {v : V} : ∀ {os : List O} {vs : List V} {j : Nat} {L : List En}, os.length = vs.length → j < os.length → Wd K H ((some (.sh d), v) :: (ens os vs ++ L)) → Wd K H (ens (os.set j (.sh d)) (vs.set j v) ++ L)
  | [], _, _, _, _, h, _ => by cases h
  | o :: os, [], _, _, l, _, _ => by cases l
  | o :: os, u :: vs, 0, L, l, h, w => by
    have w : Wd K H ((some (.sh d), v) :: (some o, u) :: (ens os vs ++ L)) := w
    exact (w.perm (.swap ..)).drop
  | o :: os, u :: vs, j + 1, L, l, h, w => by
    have w : Wd K H ((some (.sh d), v) :: (some o, u) :: (ens os vs ++ L)) := w
    have p : ((some (O.sh d), v) :: (some o, u) :: (ens os vs ++ L)).Perm ((some (O.sh d), v) :: (ens os vs ++ ((some o, u) :: L))) := List.Perm.cons _ List.perm_middle.symm
    have q := ens_set (j := j) (by simpa using l) (by simpa using h) (w.perm p)
    exact q.perm List.perm_middle
theorem a_st {i : Nat} {o1 : Expr} (hv : PE X o1 (tVar i)) (hi : SO X C e τ) (ha : ∀ v, assign (.Subscript o1 e pos) X.env v = (do
      let ov ← holding [v] (eval o1 X.env)
      let iv ← holding [v, ov] (eval e X.env)
      standAt pos
      holding [v, ov, iv] (setItem ov iv v)
      release [v, ov, iv] [])) : PG X (.Subscript o1 e pos) (gA X.K C (.st i τ)) :=
  PG.imp (pg_sub hv hi set_list ha) fun v σ H Q h => by
    obtain ⟨ρ, o, ρ', M, e1, w, z⟩ := h
    simp only [bindTa] at e1
    split at e1
    · rename_i os0 h0
      split at e1
      · rename_i xs ρ1 h1
        split at e1
        · rename_i k os h2 h3
          split at e1
          · rename_i j h4
            cases e1
            show ∃ ov, σ[i]? = some (some ov) ∧ tOs X.K C [τ] σ H fun vs H2 => rSetL ov (vs.getD 0 .non) v H2 fun H3 => Q σ H3
            obtain ⟨a0, _, hv0, _, _, _, _⟩ := w.shell h0
            refine ⟨_, hv0, opds h1 w fun vs H2 a w2 => ?_⟩
            obtain ⟨G, s, f, _⟩ := w2.look Tin.pushes a h2
            obtain ⟨kv, rfl, hk⟩ := f.one
            cases hk.int
            have w3 := w2.pops.fz
            obtain ⟨a1, ws, hv1, ha1, l, c, w4⟩ := w3.shell h3
            rw [hv0] at hv1
            cases hv1
            have hj := (ixN_seq h4).2.1
            refine ⟨a0, ws, k, j, rfl, rfl, ha1, by rw [← l]; exact h4, z σ _ (Agree.refl _ _) ?_⟩
            refine Ws.refill (M := M) h3 hv0 c ?_ (by rw [List.length_set, List.length_set, l])
            have p : ((none, V.ref a0) :: (ens os ws ++ ((some (O.sh o.d), v) :: M ++ live (ρ1.set i none) σ))).Perm ((some (O.sh o.d), v) :: (ens os ws ++ ((none, V.ref a0) :: (M ++ live (ρ1.set i none) σ)))) := by
              refine (List.Perm.cons _ List.perm_middle).trans ?_
              refine (List.Perm.swap ..).trans (.cons _ List.perm_middle.symm)
            exact (ens_set l hj (w4.perm p)).perm List.perm_middle
          · cases e1
        · cases e1
      · cases e1
    · cases e1
/-- row[e] += v -/
def rGetL : V → V → Hp → VK → Prop := fun o i H Q => ∃ p xs k v, o = .ref p ∧ i = .int k ∧ H p = some (.lst xs) ∧ 0 ≤ k ∧ k < xs.length ∧ xs[k.toNat]? = some v ∧ Q v H
theorem get_list : PGet X rGetL := by
  intro pins s σ H o i ov iv Q I ro ri h
  obtain ⟨p, xs, k, v, rfl, rfl, hp, h0, h1, he, q⟩ := h
  cases ro
  obtain ⟨t, rfl⟩ := ri
  obtain ⟨its, r, pl, hz⟩ := I.list (.of hp)
  obtain ⟨w, ew, rw'⟩ := r.get he
  have fin : EP X pins σ Q w s := ⟨v, H, I, rw', q⟩
  have hn := line63
  have hl := r.length
  exact wpAny_getItem_list pl.isList h0 (by omega) (by simpa using ew) fin
theorem ens_get : ∀ {os : List O} {vs : List V} {j : Nat} {o : O}, os.length = vs.length → os[j]? = some o → ∃ v, vs[j]? = some v ∧ (some o, v) ∈ ens os vs
  | [], _, _, _, _, h => by simp at h
  | o :: os, [], _, _, l, _ => by cases l
  | o :: os, v :: vs, 0, o', l, h => by
    simp at h
    subst h
    exact ⟨v, rfl, List.mem_cons_self⟩
  | o :: os, v :: vs, j + 1, o', l, h => by
    obtain ⟨w, h1, h2⟩ := ens_get (j := j) (by simpa using l) (by simpa using h)
    exact ⟨w, by simpa using h1, List.mem_cons_of_mem _ h2⟩
theorem Wd.intAt {L : List En} {a : Int} {v : V} (h : Wd K H L) (m : (some (O.sh (.int a)), v) ∈ L) : v = .int a := by
  obtain ⟨G, A, s, q, n, f⟩ := h
  obtain ⟨B, q2⟩ := PL.mem q m
  have q2 : Ow K G H (.sh (.int a)) v B := q2
  simp only [Ow, Sh] at q2
  exact q2.2
theorem ss_augs {i : Nat} {o1 : Expr} {tpos : Pos} (hv : PE X o1 (tVar i)) (hi : SO X C e τ) (he : SE X C b τb)
    (ha : ∀ ov iv new, augStore e ov iv new = (do holding [new, ov, iv] (setItem ov iv new); release [new, ov, iv] []; pure .next)) : SS X C kp (.AugAssign (.Subscript o1 e tpos) .Add b pos) (.augs i τ τb) :=
  PS.imp (ps_augS hv hi get_list he ip_add set_list ha) fun D σ H z => by
    obtain ⟨ρ, out, M, e1, w, z⟩ := z
    simp only [evS] at e1
    split at e1
    · rename_i os0 h0
      split at e1
      · rename_i xs ρ1 h1
        split at e1
        · rename_i k os h2 h3
          split at e1
          · rename_i hk
            split at e1
            · rename_i a h4
              split at e1
              · rename_i b ρ2 h5
                split at e1
                · rename_i os2 h6
                  split at e1
                  · rename_i j h7
                    cases e1
                    show ∃ ov, σ[i]? = some (some ov) ∧ tOs X.K C [τ] σ H fun vs H2 => rGetL ov (vs.getD 0 .non) H2 fun x H3 => tS X.K C τb σ H3 fun y H4 => ipI (fun i j => i + j) x y H4 fun zv H5 => rSetL ov (vs.getD 0 .non) zv H5 fun H6 => D.nx σ H6
                    obtain ⟨a0, _, hv0, _, _, _, _⟩ := w.shell h0
                    refine ⟨_, hv0, opds h1 w fun vs H2 at' w2 => ?_⟩
                    obtain ⟨G, s, f, _⟩ := w2.look Tin.pushes at' h2
                    obtain ⟨kv, rfl, hkv⟩ := f.one
                    cases hkv.int
                    have w3 := w2.pops
                    obtain ⟨a1, ws, hv1, ha1, l, c, w4⟩ := w3.shell h3
                    rw [hv0] at hv1
                    cases hv1
                    obtain ⟨u, hu, mu⟩ := ens_get l h4
                    have eu := w4.intAt (List.mem_cons_of_mem _ (List.mem_append_left _ mu))
                    subst eu
                    refine ⟨a0, ws, k, .int a, rfl, rfl, ha1, hk.1, by rw [← l]; exact hk.2, hu, ρ1, _, ρ2, M, h5, w3, fun y H4 w5 => ?_⟩
                    have ey := w5.int rfl
                    subst ey
                    refine ⟨a, b, rfl, rfl, ?_⟩
                    have w6 : Ws X.K H4 ((some (.sh (.int (a + b))), V.int (a + b)) :: M) ρ2 σ := w5.drop.flat fun G => by simp only [Sh]
                    obtain ⟨a2, ws2, hv2, ha2, l2, c2, w7⟩ := w6.shell h6
                    rw [hv0] at hv2
                    cases hv2
                    have hj := (ixN_seq h7).2.1
                    refine ⟨a0, ws2, k, j, rfl, rfl, ha2, by rw [← l2]; exact h7, z σ _ (.refl _ _) ?_⟩
                    refine Ws.refill (M := M) h6 hv0 c2 ?_ (by rw [List.length_set, List.length_set, l2])
                    have p : ((none, V.ref a0) :: (ens os2 ws2 ++ ((some (O.sh (.int (a + b))), V.int (a + b)) :: M ++ live (ρ2.set i none) σ))).Perm ((some (O.sh (.int (a + b))), V.int (a + b)) :: (ens os2 ws2 ++ ((none, V.ref a0) :: (M ++ live (ρ2.set i none) σ)))) := by
                      refine (List.Perm.cons _ List.perm_middle).trans ?_
                      refine (List.Perm.swap ..).trans (.cons _ List.perm_middle.symm)
                    exact (ens_set l2 hj (w7.perm p)).perm List.perm_middle
                  · cases e1
                · cases e1
              · cases e1
            · cases e1
          · cases e1
        · cases e1
      · cases e1
    · cases e1
theorem ss_asg {t : Ta} (he : SE X C e τ) (hg : PG X tg (gA X.K C t)) (hs : swapsWithSole [tg] e pos.line X.env = pure false) (hw : swappedStores [tg] e X.env = pure none) (h1 : (assignEach [tg] X.env).map (·.2) = [assign tg X.env]) (hk : ∀ i ∈ taSlots t, i ∉ kp) :
    SS X C kp (.Assign [tg] e pos) (.asg t τ) := PS.imp (ps_asg he hg hs hw h1) fun D σ H z => by
  obtain ⟨ρ, out, M, e1, w, q⟩ := z
  simp only [evS] at e1
  split at e1
  · rename_i o ρ1 h2
    split at e1
    · rename_i ρ2 h3
      cases e1
      exact ⟨ρ, o, ρ1, M, h2, w, fun v H1 w1 => ⟨ρ1, o, ρ2, M, h3, w1, fun σ' H' ag w' => q σ' H' (ag.kp hk) w'⟩⟩
    · cases e1
  · cases e1
/-- name = [..] on one line -/
theorem ss_setLc {i : Nat} {y : Str} {py spos : Pos} {elt iter : Expr} {ifs : List Expr} {scope : Scope} {own : List (Str × Nat)} {t : Tg} {ik : IK} {ies cs : List T} (hc : X.calm = true) (hN : X.N.Nodup) (hy : X.N[i]? = some y) (hyl : X.env.scope.names.lookup y = some .local)
    (hsw : swapsWith (.ListComp elt [⟨tg, iter, ifs, 0⟩] scope pos) (some (.Name y py)) spos.line X.env = pure true) (hi : PI X tg iter (tI X.K C ik ies)) (ok : BlkOk X.N X.env.scope scope own)
    (hg : ∀ (s : Shared) (H : Hp) (B : Addr) (cl : List (Str × Addr)) (fp : List Addr), PG (X.blk s H scope (compEnvC scope cl B X.env) fp) tg (gS X.K t)) (ht : ∀ (s : Shared) (H : Hp) (B : Addr) (cl : List (Str × Addr)) (fp : List Addr), PTs (X.blk s H scope (compEnvC scope cl B X.env) fp) ifs (tBs X.K C cs))
    (he : ∀ (s : Shared) (H : Hp) (B : Addr) (cl : List (Str × Addr)) (fp : List Addr), PE (X.blk s H scope (compEnvC scope cl B X.env) fp) elt (tS X.K C τ)) (hs : ∀ x, foldedSetIterable iter X.env x = pure x)
    (htg : ∀ i ∈ tgSlots t, i ∈ own.map (·.2)) (hk : i ∉ kp) : SS X C kp (.Assign [.Name y py] (.ListComp elt [⟨tg, iter, ifs, 0⟩] scope pos) spos) (.asg (.nm i) (.lc (own.map (·.2)) t ik ies cs τ)) :=
  PS.imp (ps_setLc hc hN hy hyl hsw hi ok hg ht he hs) fun D σ H z => by
    obtain ⟨ρ, out, M, e1, w, q⟩ := z
    simp only [evS] at e1
    split at e1
    · rename_i o ρ1 h2
      split at e1
      · rename_i ρ2 h3
        cases e1
        refine lc_out htg ⟨ρ, o, ρ1, M, h2, w, fun v H1 w1 => ?_⟩
        simp only [bindTa] at h3
        split at h3
        · rename_i hl
          cases h3
          exact q _ _ (Agree.kp (is := [i]) Agree.set (by simpa using hk)) (w1.store hl)
        · cases h3
      · cases e1
    · cases e1
/-- a, b = x, y with plain local names -/
theorem ss_par2 {i j : Nat} {x y : Str} {px py pt : Pos} {kt k2 pt2} {τ2 : T} (hc : X.calm = true) (hN : X.N.Nodup) (hi : X.N[i]? = some x) (hj : X.N[j]? = some y) (hij : i ≠ j)
    (hx : X.env.scope.names.lookup x = some .local) (hy : X.env.scope.names.lookup y = some .local) (ha : SEs X C [a, b] [τ, τ2])
    (hw : swappedStores [.Tuple [.Name x px, .Name y py] kt pt] (.Tuple [a, b] k2 pt2) X.env = pure (some [x, y]))
    (hs : swapsWithSole [.Tuple [.Name x px, .Name y py] kt pt] (.Tuple [a, b] k2 pt2) pos.line X.env = pure false) (hk : i ∉ kp ∧ j ∉ kp) :
    SS X C kp (.Assign [.Tuple [.Name x px, .Name y py] kt pt] (.Tuple [a, b] k2 pt2) pos) (.par [i, j] [τ, τ2]) :=
  PS.imp (ps_par hc hN hi hj hij hx hy ha hw hs) fun D σ H z => by
    obtain ⟨ρ, out, M, e1, w, q⟩ := z
    simp only [evS] at e1
    split at e1
    · rename_i os ρ1 h2
      split at e1
      · rename_i hl
        cases e1
        simp only [List.all_cons, List.all_nil, Bool.and_true, Bool.and_eq_true, decide_eq_true_eq] at hl
        refine evs_run h2 w fun vs H1 l w1 => ?_
        obtain ⟨o, o2, rfl⟩ := evs_two h2
        obtain ⟨v, v2, rfl⟩ : ∃ v v2, vs = [v, v2] := match vs, l with
          | [v, v2], _ => ⟨v, v2, rfl⟩
        have w1 : Ws X.K H1 ((some o, v) :: (some o2, v2) :: M) ρ1 σ := w1
        refine ⟨v, v2, rfl, q _ _ ?_ ?_⟩
        · exact (Agree.kp (is := [i]) Agree.set (by simpa using hk.1)).trans (Agree.kp (is := [j]) Agree.set (by simpa using hk.2))
        · exact (w1.store hl.1).store (by rw [List.length_set]; exact hl.2)
      · cases e1
    · cases e1
theorem evs_three {ρ ρ' : Env} {os : List O} {τ2 τ3 : T} (h : evs C [τ, τ2, τ3] ρ = some (os, ρ')) : ∃ o o2 o3, os = [o, o2, o3] := by
  rw [evs] at h
  split at h
  · split at h
    · rename_i os' ρ2 h2
      cases h
      obtain ⟨o2, o3, rfl⟩ := evs_two h2
      exact ⟨_, _, _, rfl⟩
    · cases h
  · cases h
theorem ss_par3 {i j l : Nat} {x y u : Str} {px py pz pt : Pos} {kt k2 pt2} {τ2 τ3 : T} (hc : X.calm = true) (hN : X.N.Nodup) (hi : X.N[i]? = some x) (hj : X.N[j]? = some y) (hl : X.N[l]? = some u) (hij : i ≠ j) (hil : i ≠ l) (hjl : j ≠ l)
    (hx : X.env.scope.names.lookup x = some .local) (hy : X.env.scope.names.lookup y = some .local) (hu : X.env.scope.names.lookup u = some .local) (ha : SEs X C [a, b, c] [τ, τ2, τ3])
    (hw : swappedStores [.Tuple [.Name x px, .Name y py, .Name u pz] kt pt] (.Tuple [a, b, c] k2 pt2) X.env = pure (some [x, y, u]))
    (hs : swapsWithSole [.Tuple [.Name x px, .Name y py, .Name u pz] kt pt] (.Tuple [a, b, c] k2 pt2) pos.line X.env = pure false) (hk : i ∉ kp ∧ j ∉ kp ∧ l ∉ kp) :
    SS X C kp (.Assign [.Tuple [.Name x px, .Name y py, .Name u pz] kt pt] (.Tuple [a, b, c] k2 pt2) pos) (.par [i, j, l] [τ, τ2, τ3]) :=
  PS.imp (ps_par3 hc hN hi hj hl hij hil hjl hx hy hu ha hw hs) fun D σ H z => by
    obtain ⟨ρ, out, M, e1, w, q⟩ := z
    simp only [evS] at e1
    split at e1
    · rename_i os ρ1 h2
      split at e1
      · rename_i hl
        cases e1
        simp only [List.all_cons, List.all_nil, Bool.and_true, Bool.and_eq_true, decide_eq_true_eq] at hl
        refine evs_run h2 w fun vs H1 l w1 => ?_
        obtain ⟨o, o2, o3, rfl⟩ := evs_three h2
        obtain ⟨v, v2, v3, rfl⟩ : ∃ v v2 v3, vs = [v, v2, v3] := match vs, l with
          | [v, v2, v3], _ => ⟨v, v2, v3, rfl⟩
        have w1 : Ws X.K H1 ((some o, v) :: (some o2, v2) :: (some o3, v3) :: M) ρ1 σ := w1
        refine ⟨v, v2, v3, rfl, q _ _ ?_ ?_⟩
        · exact ((Agree.kp (is := [i]) Agree.set (by simpa using hk.1)).trans (Agree.kp (is := [j]) Agree.set (by simpa using hk.2.1))).trans (Agree.kp (is := [_]) Agree.set (by simpa using hk.2.2))
        · exact ((w1.store hl.1).store (by rw [List.length_set]; exact hl.2.1)).store (by rw [List.length_set, List.length_set]; exact hl.2.2)
      · cases e1
    · cases e1
end
end Qv
end
section
set_option Elab.async false
set_option linter.all false
set_option maxRecDepth 100000
set_option maxHeartbeats 1000000
/-! Q12: small rules that were lacking; what is seen of the text. -/
namespace Qv
open PySem PySem.Spec PyProof.Rows L2

section
variable {X : Cx} {C : Cal} {e a b c f tg o : Expr} {es : List Expr} {τ τa τb τc : T} {τs κs : List T} {pos p pos' apos cpos : Pos}
variable {K : Frag} {H : Hp} {ρ : Env} {σ : L2.St} {M N : List En}

/-! ### a test that is a value of truth -/
theorem t_val {t : TE} (h : PT X e (tTest t)) (w : ∀ σ H Q, tS X.K C τ σ H Q → t σ H Q) : ST X C e τ := PT.imp h fun σ H Q z => by
  obtain ⟨ρ, b, ρ', M, e1, wd, z⟩ := z
  exact w σ H _ ⟨ρ, _, ρ', M, e1, wd, fun v H' w' => ⟨b, w'.bool, z H' w'.drop⟩⟩
theorem t_cmp {op : CmpOp} {r : R2} {k : OpK} (ho : OpR X (compareOp op) r) (pr : PrimOk X.K (r2L r) (prim k)) (ha : SO X C a τa) (hb : SO X C b τb) (hm : behindInMarks op b = false) : ST X C (.Compare a [op] [b] pos) (.op k [τa, τb]) :=
  t_val (pt_cmpR ho ha hb hm) fun σ H Q z => op_sim pr σ H Q z
theorem t_isN {j} (ha : SO X C a τa) : ST X C (.Compare a [.Is] [.Constant .none j p] pos) (.op .isnone [τa]) :=
  t_val (pt_cmpR op_isN ha pe_non (nomark _)) fun σ H Q z => op_sim p_isnone σ H Q z
theorem t_notN {j} (ha : SO X C a τa) : ST X C (.Compare a [.IsNot] [.Constant .none j p] pos) (.op .notnone [τa]) :=
  t_val (pt_cmpR op_notN ha pe_non (nomark _)) fun σ H Q z => op_sim p_notnone σ H Q z

/-! ### lists of arguments -/
def nostar : Expr → Bool
  | .Starred .. => false
  | _ => true
theorem star1 {env : PySem.Env} (h : nostar e = true) : starEach (e :: es) env = (false, eval e env) :: starEach es env := by
  cases e <;> first | rfl | cases h
theorem star_any {env : PySem.Env} : ∀ {es : List Expr}, es.all nostar = true → (backTo pos (starEach es env)).any (·.1) = false
  | [], _ => rfl
  | e :: es, h => by
    rw [List.all_cons, Bool.and_eq_true] at h
    rw [star1 h.1]
    have q := star_any (env := env) h.2
    unfold backTo at q ⊢
    rw [List.map_cons, List.any_cons, q]
    rfl
theorem star_all {env : PySem.Env} : ∀ {es : List Expr}, es.all nostar = true → (backTo pos (starEach es env)).all (fun x => !x.1) = true
  | [], _ => rfl
  | e :: es, h => by
    rw [List.all_cons, Bool.and_eq_true] at h
    rw [star1 h.1]
    have q := star_all (env := env) h.2
    unfold backTo at q ⊢
    rw [List.map_cons, List.all_cons, q]
    rfl
theorem few_ok {env : PySem.Env} (h : es.all nostar = true) (hl : es.length < 30) : ((backTo pos (starEach es env)).all (fun x => !x.1) && (backToKw pos (keywordEach [] env)).all (fun x => x.1.isSome)
      && decide (es.length + ([] : List Keyword).length + (if ([] : List Keyword).isEmpty then 0 else 1) < 30)) = true := by
  rw [star_all h]
  have : decide (es.length + ([] : List Keyword).length + (if ([] : List Keyword).isEmpty then 0 else 1) < 30) = true := decide_eq_true (by simpa using hl)
  rw [this]
  rfl
def notSup : Expr → Bool
  | .Call _ [] _ _ => false
  | _ => true
theorem base_ok {env : PySem.Env} {w : Sem Value} {m : Str} (h : notSup o = true) : attributeBase o m env w = w := by
  unfold attributeBase
  cases o with
  | Call g es kws pos =>
    cases es with
    | nil => cases h
    | cons _ _ => cases g <;> rfl
  | _ => rfl
def noset : Expr → Bool
  | .Set .. => false
  | _ => true
theorem behind_ok {op : CmpOp} (h : noset b = true) : behindInMarks op b = false := by
  cases b <;> first | rfl | cases h
theorem last_ok {op op' : CmpOp} (h : noset c = true) : lastMarks [op, op'] [b, c] = false := by
  unfold lastMarks
  unfold lastMarks
  exact behind_ok h
theorem fold_ok {env : PySem.Env} (h : noset e = true) (x : Value) : foldedSetIterable e env x = pure x := by
  cases e <;> first | rfl | cases h
def noslice : Expr → Bool
  | .Slice .. => false
  | _ => true
theorem plainIx_ok (h : noslice b = true) : PlainIx b := fun o i => by
  cases b <;> first | rfl | cases h
def plainT : Expr → Bool
  | .UnaryOp .. => false
  | .BoolOp .. => false
  | .IfExp .. => false
  | .Compare .. => false
  | _ => true
theorem plainT_ok (h : plainT a = true) : PlainT X a := fun whole => by
  cases a <;> first | rfl | cases h
def nocomp : Expr → Bool
  | .ListComp .. => false
  | .SetComp .. => false
  | .DictComp .. => false
  | _ => true
theorem swaps_ok {env : PySem.Env} {t : Option Expr} {l : Nat} (h : nocomp e = true) : swapsWith e t l env = pure false := by
  cases e <;> first | rfl | cases h
theorem assign1 {env : PySem.Env} (h : nostar e = true) : assignEach (e :: es) env = (false, assign e env) :: assignEach es env := by
  cases e <;> first | rfl | cases h
theorem assign_len {env : PySem.Env} : ∀ {es : List Expr}, es.all nostar = true → (assignEach es env).length = es.length ∧ (assignEach es env).findIdx? (·.1) = none
  | [], _ => ⟨rfl, rfl⟩
  | e :: es, h => by
    rw [List.all_cons, Bool.and_eq_true] at h
    rw [assign1 h.1]
    obtain ⟨q1, q2⟩ := assign_len (env := env) h.2
    refine ⟨by rw [List.length_cons, List.length_cons, q1], ?_⟩
    rw [List.findIdx?_cons]
    simp only [Bool.false_eq_true, if_false, q2, Option.map_none]
theorem sub_ok {env : PySem.Env} {o1 i1 : Expr} (h : noslice i1 = true) (v : Value) : assign (.Subscript o1 i1 pos) env v = (do
      let ov ← holding [v] (eval o1 env)
      let iv ← holding [v, ov] (eval i1 env)
      standAt pos
      holding [v, ov, iv] (setItem ov iv v)
      release [v, ov, iv] []) := by
  cases i1 <;> first | rfl | cases h

/-! ### isinstance -/
def tTys (ts : List String) : TA := fun _ H Q => Q (ts.map V.ty) H
theorem s_isi1 {x : Str} {n : String} (hg : Gl X "isinstance") (hm : X.mg "isinstance" = none) (hg2 : Gl X x) (hm2 : X.mg x = none) (hv : bootBuiltins x = some (.type n)) (hn : x ≠ "__name__") (hd : (x == ("__debug__" : Str)) = false) (hns : nostar a = true) (ha : SO X C a τa) :
    SE X C (.Call (.Name "isinstance" p) [a, .Name x pos'] [] pos) (.op (.isinst [n]) [τa]) := by
  have hb : PE X (.Name x pos') (tC (.ty n)) := pe_bltn hg2 hm2 hv rfl hn hd
  have hA : PA X [a, .Name x pos'] (tCons (tO X.K C τa) (tCons (tC (.ty n)) tNil)) := pa_cons ha (pa_cons hb pa_nil rfl) (star1 hns)
  have q := pe_callB (pos := pos) (p := p) call_isi hg hm rfl hA (by decide) (by decide) (star1 hns) rfl
  exact PE.imp q fun σ H Q z => op_sim (p_isi1 n) σ H Q z
def isNames : List String → List Expr → Bool
  | [], [] => true
  | t :: ts, .Name x _ :: es => (match bootBuiltins x with | some (.type n) => n == t | _ => false) && !(x == ("__name__" : Str)) && !(x == ("__debug__" : Str)) && isNames ts es
  | _, _ => false
theorem pa_types : ∀ {ts : List String} {es : List Expr}, isNames ts es = true → (∀ x q, Expr.Name x q ∈ es → Gl X x ∧ X.mg x = none) → PA X es (tTys ts)
  | [], [], _, _ => pa_nil
  | t :: ts, .Name x q :: es, h, g => by
    simp only [isNames, Bool.and_eq_true, Bool.not_eq_true'] at h
    obtain ⟨⟨⟨h1, h2⟩, h3⟩, h4⟩ := h
    split at h1
    · rename_i n hn
      have e : n = t := by simpa using h1
      subst e
      obtain ⟨g1, g2⟩ := g x q List.mem_cons_self
      have hb : PE X (.Name x q) (tC (.ty n)) := pe_bltn g1 g2 hn rfl (by simpa using h2) h3
      exact pa_cons hb (pa_types h4 fun x q m => g x q (List.mem_cons_of_mem _ m)) rfl
    · cases h1
  | [], _ :: _, h, _ => by cases h
  | t :: ts, [], h, _ => by cases h
  | t :: ts, .Constant .. :: _, h, _ => by cases h
  | t :: ts, .UnaryOp .. :: _, h, _ => by cases h
  | t :: ts, .BinOp .. :: _, h, _ => by cases h
  | t :: ts, .BoolOp .. :: _, h, _ => by cases h
  | t :: ts, .Compare .. :: _, h, _ => by cases h
  | t :: ts, .Call .. :: _, h, _ => by cases h
  | t :: ts, .Attribute .. :: _, h, _ => by cases h
  | t :: ts, .Subscript .. :: _, h, _ => by cases h
  | t :: ts, .IfExp .. :: _, h, _ => by cases h
  | t :: ts, .Tuple .. :: _, h, _ => by cases h
  | t :: ts, .List .. :: _, h, _ => by cases h
  | t :: ts, .Starred .. :: _, h, _ => by cases h
  | t :: ts, .Slice .. :: _, h, _ => by cases h
  | t :: ts, .ListComp .. :: _, h, _ => by cases h
  | t :: ts, .SetComp .. :: _, h, _ => by cases h
  | t :: ts, .DictComp .. :: _, h, _ => by cases h
  | t :: ts, .Set .. :: _, h, _ => by cases h
  | t :: ts, .Dict .. :: _, h, _ => by cases h
  | t :: ts, .Lambda .. :: _, h, _ => by cases h
  | t :: ts, .GeneratorExp .. :: _, h, _ => by cases h
  | t :: ts, .NamedExpr .. :: _, h, _ => by cases h
  | t :: ts, .Yield .. :: _, h, _ => by cases h
  | t :: ts, .YieldFrom .. :: _, h, _ => by cases h
  | t :: ts, .Await .. :: _, h, _ => by cases h
  | t :: ts, .JoinedStr .. :: _, h, _ => by cases h
  | t :: ts, .FormattedValue .. :: _, h, _ => by cases h
theorem s_isiT {ts : List String} {es : List Expr} {k2 : Nat} (hg : Gl X "isinstance") (hm : X.mg "isinstance" = none) (hns : nostar a = true) (hts : isNames ts es = true) (hgs : ∀ x q, Expr.Name x q ∈ es → Gl X x ∧ X.mg x = none) (hsz : ts.length ≤ sizeLine) (ha : SO X C a τa) :
    SE X C (.Call (.Name "isinstance" p) [a, .Tuple es k2 pos'] [] pos) (.op (.isinst ts) [τa]) := by
  have hb : PE X (.Tuple es k2 pos') _ := pe_tup (pa_types hts hgs)
  have hA : PA X [a, .Tuple es k2 pos'] (tCons (tO X.K C τa) (tCons _ tNil)) := pa_cons ha (pa_cons hb pa_nil rfl) (star1 hns)
  have q := pe_callB (pos := pos) (p := p) call_isiT hg hm rfl hA (by decide) (by decide) (star1 hns) rfl
  exact PE.imp q fun σ H Q z => by
    have z2 := op_sim (p_isiT ts) σ H Q z
    refine tO_mono z2 fun x H1 z3 => ?_
    exact ⟨by rw [List.length_map]; exact hsz, fun p hp => z3 p hp⟩

/-! ### changes of a slot's list -/
theorem s_app {i : Nat} (hv : PE X o (tVar i)) (he : SE X C e τ) (hns : nostar e = true) (hb : notSup o = true) (hl : (apos.endLine == cpos.line) = true) : SE X C (.Call (.Attribute o "append" apos) [e] [] cpos) (.app i τ) := by
  have hA : PA X [e] (tCons (tS X.K C τ) tNil) := pa_cons he pa_nil (star1 hns)
  have q := pe_bm (cpos := cpos) (apos := apos) PySem.F.plainAttrs_list PySem.F.slot_list_append PySem.F.type_list_append mt_append hv hA (base_ok hb) (few_ok (by simp [hns]) (by simp)) hl (star1 hns) rfl
  exact PE.imp q fun σ H Q z => app_run z
theorem s_ext {i : Nat} (hv : PE X o (tVar i)) (he : SO X C e τ) (hns : nostar e = true) (hb : notSup o = true) (hl : (apos.endLine == cpos.line) = true) : SE X C (.Call (.Attribute o "extend" apos) [e] [] cpos) (.ext i [τ]) := by
  have hA : PA X [e] (tCons (tO X.K C τ) tNil) := pa_cons he pa_nil (star1 hns)
  have q := pe_bm (cpos := cpos) (apos := apos) PySem.F.plainAttrs_list PySem.F.slot_list_extend PySem.F.type_list_extend mt_extend hv hA (base_ok hb) (few_ok (by simp [hns]) (by simp)) hl (star1 hns) rfl
  exact PE.imp q fun σ H Q z => ext_run z
theorem s_popl {i : Nat} (hv : PE X o (tVar i)) (hb : notSup o = true) (hl : (apos.endLine == cpos.line) = true) : SE X C (.Call (.Attribute o "pop" apos) [] [] cpos) (.popl i) := by
  have q := pe_bm0 (cpos := cpos) (apos := apos) PySem.F.plainAttrs_list PySem.F.slot_list_pop PySem.F.type_list_pop mt_pop hv (base_ok hb) hl
  exact PE.imp q fun σ H Q z => popl_run z
end
end Qv
end
section
set_option Elab.async false
set_option linter.all false
set_option maxRecDepth 100000
set_option maxHeartbeats 1000000
/-! Q13: dict.get; tables of operations. -/
namespace Qv
open PySem PySem.Spec PyProof.Rows L2

section
variable {X : Cx} {C : Cal} {e a b c f tg o : Expr} {es : List Expr} {τ τa τb τc : T} {τs κs : List T} {pos p pos' apos cpos : Pos}
variable {K : Frag} {G H : Hp} {ρ : Env} {σ : L2.St} {M N : List En}

/-! ### dict.get -/
theorem keys_ok : ∀ {kvs : List (PyData × PyData)} {kds : List (Key × PyData)} {xs : List (Key × V)}, keysOf kvs = some kds → ShD K G kvs xs → ShK K G kds xs
  | [], kds, xs, e, h => by
    simp only [keysOf] at e
    cases e
    simp only [ShD] at h
    simpa only [ShK] using h
  | (k, d) :: r, kds, xs, e, h => by
    simp only [ShD] at h
    obtain ⟨key, v, t, rfl, rfl, h1, h2⟩ := h
    cases key with
    | inl i =>
      simp only [kD, keysOf, Option.map_eq_some_iff] at e
      obtain ⟨ks, e1, rfl⟩ := e
      simp only [ShK]
      exact ⟨v, t, rfl, h1, keys_ok e1 h2⟩
    | inr i =>
      simp only [kD, keysOf, Option.map_eq_some_iff] at e
      obtain ⟨ks, e1, rfl⟩ := e
      simp only [ShK]
      exact ⟨v, t, rfl, h1, keys_ok e1 h2⟩
theorem Fo.dict {o : O} {kds : List (Key × PyData)} {v : V} (e : o.dict? = some kds) (s : Sub G H) (h : Fo K G H o v) : ∃ a xs, v = .ref a ∧ H a = some (.dK xs) ∧ ShK K G kds xs := by
  cases o with
  | sh d =>
    cases d with
    | dict kvs =>
      simp only [Fo, Sh] at h
      obtain ⟨a, xs, rfl, ha, q⟩ := h
      exact ⟨a, xs, rfl, s _ _ ha, keys_ok e q⟩
    | _ => simp only [O.dict?] at e; cases e
  | od kvs =>
    obtain ⟨a, xs, ds, rfl, ha, e2, q⟩ := h
    simp only [O.dict?] at e
    rw [e2] at e
    cases e
    exact ⟨a, xs, rfl, ha, q⟩
  | ol _ => simp only [O.dict?] at e; cases e
  | ot _ => simp only [O.dict?] at e; cases e
theorem key_ok {o : O} {k : Key} {v : V} (e : keyOf o.d = some k) (h : Fo K G H o v) : v = kV k := by
  cases o with
  | sh d =>
    cases d with
    | int i =>
      simp only [O.d, keyOf] at e
      cases e
      exact h.int
    | str i =>
      simp only [O.d, keyOf] at e
      cases e
      exact h.str
    | _ => simp only [O.d, keyOf] at e; cases e
  | ol _ => simp only [O.d, keyOf] at e; cases e
  | ot _ => simp only [O.d, keyOf] at e; cases e
  | od _ => simp only [O.d, keyOf] at e; cases e
def rG1 : V → List V → Hp → VK → Prop := fun x xs H Q => ∃ a y o, x = .ref a ∧ xs = [y] ∧ DGet H a y o ∧ Q (o.getD .non) H
def rG2 : V → List V → Hp → VK → Prop := fun x xs H Q => ∃ a y z o, x = .ref a ∧ xs = [y, z] ∧ DGet H a y o ∧ Q (o.getD z) H
theorem get_in {o k : O} {r : O} {x : PyData} {v y z : V} (e : pGet o k x = some r) (s : Sub G H) (h1 : Fo K G H o v) (h2 : Fo K G H k y) (h3 : Sh K G x z) : ∃ a u, v = .ref a ∧ DGet H a y u ∧ Pr K G H r (u.getD z) H := by
  unfold pGet at e
  split at e
  · rename_i kvs key e1 e2
    cases e
    obtain ⟨a, xs, rfl, ha, q⟩ := Fo.dict e1 s h1
    have := key_ok e2 h2
    subst this
    refine ⟨a, _, rfl, .k ha, ?_⟩
    rcases q.get (k := key) with ⟨n1, n2⟩ | ⟨d, w, n1, n2, n3⟩
    · rw [n1, n2]
      exact Pr.same s h3
    · rw [n1, n2]
      exact Pr.same s n3
  · cases e
theorem p_get1 : PrimOk K (rM rG1) (prim .dget1) := by
  intro os o e G H vs Q s g q
  show rM rG1 vs H Q
  have e : pGet1 os = some o := e
  unfold pGet1 at e
  split at e
  · obtain ⟨x, y, rfl, h1, h2⟩ := g.two
    obtain ⟨a, u, rfl, dg, pr⟩ := get_in (z := .non) e s h1 h2 (by simp only [Sh])
    exact ⟨a, y, u, rfl, rfl, dg, q _ _ pr⟩
  · cases e
theorem p_get2 : PrimOk K (rM rG2) (prim .dget2) := by
  intro os o e G H vs Q s g q
  show rM rG2 vs H Q
  have e : pGet2 os = some o := e
  unfold pGet2 at e
  split at e
  · obtain ⟨x, y, z, rfl, h1, h2, h3⟩ := g.three
    obtain ⟨a, u, rfl, dg, pr⟩ := get_in (z := z) e s h1 h2 h3
    exact ⟨a, y, z, u, rfl, rfl, dg, q _ _ pr⟩
  · cases e
theorem ty_dict {k : OpK} (hk : k = .dget1 ∨ k = .dget2) (o : O) (G H : Hp) (x : V) (h : mtyp k o = true) (s : Sub G H) (f : Fo K G H o x) : ∃ a, x = .ref a ∧ IsD H a := by
  cases o with
  | sh d =>
    cases d with
    | dict kvs =>
      simp only [Fo, Sh] at f
      obtain ⟨a, xs, rfl, ha, q⟩ := f
      exact ⟨a, rfl, .inl ⟨xs, .of (s _ _ ha)⟩⟩
    | _ => rcases hk with rfl | rfl <;> exact absurd (show false = true from h) Bool.false_ne_true
  | od kvs =>
    obtain ⟨a, xs, ds, rfl, ha, e2, q⟩ := f
    exact ⟨a, rfl, .inl ⟨xs, .of ha⟩⟩
  | ol _ => rcases hk with rfl | rfl <;> exact absurd (show false = true from h) Bool.false_ne_true
  | ot _ => rcases hk with rfl | rfl <;> exact absurd (show false = true from h) Bool.false_ne_true
theorem s_get1 (hu : X.A.units + 1 < cLine) (ho : SO X C o τ) (he : SO X C e τa) (hb : notSup o = true) (hns : nostar e = true) (hl : (apos.endLine == cpos.line) = true) : SE X C (.Call (.Attribute o "get" apos) [e] [] cpos) (.mth .dget1 τ [τa]) := by
  have m : M1 X o "get" apos e cpos := ⟨base_ok hb, few_ok (by simp [hns]) (by simp), hl, by rw [star1 hns]; rfl⟩
  refine PE.imp (pe_dget1 hu ho he m) fun σ H Q z => ?_
  refine tO_mono (mth_run p_get1 (ty_dict (.inl rfl)) z) fun x H1 ⟨⟨a, e1, d⟩, z2⟩ => ⟨a, e1, d, tO_mono z2 fun y H2 z3 => ?_⟩
  obtain ⟨a2, y2, u, e2, e3, dg, q⟩ := z3
  subst e1
  cases e2
  cases e3
  exact ⟨u, dg, q⟩
theorem s_get2 (hu : X.A.units + 1 < cLine) (ho : SO X C o τ) (he : SO X C e τa) (hf : SO X C f τb) (hb : notSup o = true) (hns : nostar e = true) (hns2 : nostar f = true) (hl : (apos.endLine == cpos.line) = true) : SE X C (.Call (.Attribute o "get" apos) [e, f] [] cpos) (.mth .dget2 τ [τa, τb]) := by
  have m : M2 X o "get" apos e f cpos := ⟨base_ok hb, few_ok (by simp [hns, hns2]) (by simp), hl, by rw [star1 hns, star1 hns2]; rfl⟩
  refine PE.imp (pe_dget2 hu ho he hf m) fun σ H Q z => ?_
  refine tO_mono (mth_run p_get2 (ty_dict (.inr rfl)) z) fun x H1 ⟨⟨a, e1, d⟩, z2⟩ => ⟨a, e1, d, tO_mono z2 fun y H2 z3 => tO_mono z3 fun w H3 z4 => ?_⟩
  obtain ⟨a2, y2, z2', u, e2, e3, dg, q⟩ := z4
  subst e1
  cases e2
  cases e3
  exact ⟨u, dg, q⟩

/-! ### tables -/
def opB : Operator → OpK → Bool
  | .Add, .add => true
  | .Sub, .sub => true
  | .Mult, .mul => true
  | .FloorDiv, .fdiv => true
  | .Mod, .mod => true
  | .Pow, .pow => true
  | _, _ => false
theorem opB_ok {op : Operator} {k : OpK} (h : opB op k = true) : ∃ r, OpR X (binaryOp op) r ∧ PrimOk X.K (r2L r) (prim k) := by
  unfold opB at h
  split at h
  · exact ⟨_, o_add, p_add⟩
  · exact ⟨_, op_sub, p_sub⟩
  · exact ⟨_, o_mul, p_mul⟩
  · exact ⟨_, op_fdivN, p_fdiv⟩
  · exact ⟨_, op_modN, p_mod⟩
  · exact ⟨_, op_pow, p_pow⟩
  · cases h
def cmpB : CmpOp → OpK → Bool
  | .Eq, .eq => true
  | .NotEq, .ne => true
  | .Lt, .lt => true
  | .LtE, .le => true
  | .Gt, .gt => true
  | .GtE, .ge => true
  | .In, .isin => true
  | .NotIn, .notin => true
  | _, _ => false
theorem cmpB_ok {op : CmpOp} {k : OpK} (hu : X.A.units + 64 < cLine) (h : cmpB op k = true) : ∃ r, OpR X (compareOp op) r ∧ PrimOk X.K (r2L r) (prim k) := by
  unfold cmpB at h
  split at h
  · exact ⟨_, o_eq hu, p_eq⟩
  · exact ⟨_, o_ne hu, p_ne⟩
  · exact ⟨_, o_lt, p_cmp _ _⟩
  · exact ⟨_, o_le, p_cmp _ _⟩
  · exact ⟨_, o_gt, p_cmp _ _⟩
  · exact ⟨_, o_ge, p_cmp _ _⟩
  · exact ⟨_, o_in, p_in⟩
  · exact ⟨_, o_notin, p_notin⟩
  · cases h
def blTab : List (Str × OpK) := [("len", .len), ("int", .int1), ("abs", .abs), ("max", .max2), ("min", .min2), ("divmod", .divmod), ("tuple", .tuple1), ("list", .list1), ("dict", .dict1), ("sum", .sum), ("all", .all), ("any", .any), ("repr", .repr)]
theorem blTab_ok (hc : X.calm = true) (hg : X.A.guards = some []) (hu : X.A.units + 64 < cLine) {x : Str} {k : OpK} (h : (x, k) ∈ blTab) : x ≠ "__name__" ∧ (x == ("__debug__" : Str)) = false ∧ ∃ id r, PrimOk X.K r (prim k) ∧
    ((bootBuiltins x = some (.builtin id) ∧ CallR X (.builtin id) r) ∨ (bootBuiltins x = some (.type id) ∧ CallR X (.type id) r)) := by
  simp only [blTab, List.mem_cons, Prod.mk.injEq, List.not_mem_nil, or_false] at h
  rcases h with ⟨rfl, rfl⟩ | ⟨rfl, rfl⟩ | ⟨rfl, rfl⟩ | ⟨rfl, rfl⟩ | ⟨rfl, rfl⟩ | ⟨rfl, rfl⟩ | ⟨rfl, rfl⟩ | ⟨rfl, rfl⟩ | ⟨rfl, rfl⟩ | ⟨rfl, rfl⟩ | ⟨rfl, rfl⟩ | ⟨rfl, rfl⟩ | ⟨rfl, rfl⟩ <;> refine ⟨by decide, by decide, ?_⟩
  · exact ⟨_, _, p_len, .inl ⟨rfl, o_len⟩⟩
  · exact ⟨_, _, p_int, .inr ⟨rfl, call_int1⟩⟩
  · exact ⟨_, _, p_abs, .inl ⟨rfl, call_abs⟩⟩
  · exact ⟨_, _, p_max, .inl ⟨rfl, call_max2 hc⟩⟩
  · exact ⟨_, _, p_min, .inl ⟨rfl, call_min2 hc⟩⟩
  · exact ⟨_, _, p_divmod, .inl ⟨rfl, call_divmod⟩⟩
  · exact ⟨_, _, p_tuple, .inr ⟨rfl, call_tuple_of⟩⟩
  · exact ⟨_, _, p_list, .inr ⟨rfl, call_list_of⟩⟩
  · exact ⟨_, _, p_dict, .inr ⟨rfl, call_dictP hc⟩⟩
  · exact ⟨_, _, p_sum, .inl ⟨rfl, cr_sum hc⟩⟩
  · exact ⟨_, _, p_all, .inl ⟨rfl, cr_all hc⟩⟩
  · exact ⟨_, _, p_any, .inl ⟨rfl, cr_any hc⟩⟩
  · exact ⟨_, _, p_repr, .inl ⟨rfl, o_repr hg hu⟩⟩
def mtTab : List (Str × OpK) := [("join", .join), ("find", .find), ("find", .find3), ("split", .split), ("startswith", .startswith)]
theorem mtTab_ok {x : Str} {k : OpK} (h : (x, k) ∈ mtTab) (ho : SO X C o τ) (ha : SOs X C (e :: es) τs) (hb : notSup o = true) (hns : (e :: es).all nostar = true) (hlen : (e :: es).length < 30) (hl : (apos.endLine == cpos.line) = true) :
    SE X C (.Call (.Attribute o x apos) (e :: es) [] cpos) (.mth k τ τs) := by
  have hn : nostar e = true ∧ es.all nostar = true := by
    rw [List.all_cons, Bool.and_eq_true] at hns
    exact hns
  simp only [mtTab, List.mem_cons, Prod.mk.injEq, List.not_mem_nil, or_false] at h
  rcases h with ⟨rfl, rfl⟩ | ⟨rfl, rfl⟩ | ⟨rfl, rfl⟩ | ⟨rfl, rfl⟩ | ⟨rfl, rfl⟩
  · exact s_strM PySem.F.slot_str_join PySem.F.type_str_join mt_join p_join (by simp) ho ha (base_ok hb) (few_ok hns hlen) hl (star1 hn.1) (star_any hn.2)
  · exact s_strM PySem.F.slot_str_find PySem.F.type_str_find mt_find p_find (by simp) ho ha (base_ok hb) (few_ok hns hlen) hl (star1 hn.1) (star_any hn.2)
  · exact s_strM PySem.F.slot_str_find PySem.F.type_str_find mt_find3 p_find3 (by simp) ho ha (base_ok hb) (few_ok hns hlen) hl (star1 hn.1) (star_any hn.2)
  · exact s_strM PySem.F.slot_str_split PySem.F.type_str_split mt_split p_split (by simp) ho ha (base_ok hb) (few_ok hns hlen) hl (star1 hn.1) (star_any hn.2)
  · exact s_strM PySem.F.slot_str_startswith PySem.F.type_str_startswith mt_startswith p_startswith (by simp) ho ha (base_ok hb) (few_ok hns hlen) hl (star1 hn.1) (star_any hn.2)
end
end Qv
end
section
set_option Elab.async false
set_option linter.all false
set_option maxRecDepth 100000
set_option maxHeartbeats 2000000
/-! Q14: a text is held against a term. -/
namespace Qv
open PySem PySem.Spec PyProof.Rows L2

structure Pg where
  fs : List (Str × List Str)
  cs : List (Str × PyData)
  kw : List (Nat × List Str × Nat × List Nat)
structure Cc where
  N : List Str
  sc : Scope
  fn : Str → Bool
def Cc.blk (c : Cc) (scope : Scope) : Cc := ⟨c.N, relS scope c.sc, fun x => scope.names.lookup x == some .cell⟩
def bnames : List Str := ["isinstance", "len", "int", "abs", "max", "min", "divmod", "tuple", "list", "dict", "sum", "all", "any", "repr", "range", "enumerate", "zip", "bool", "str"]
structure Gd (X : Cx) (g : Pg) (C : Cal) (k : Nat) : Prop where
  calm : X.calm = true
  nd : X.N.Nodup
  room : Room k X.A
  guards : X.A.guards = some []
  units : X.A.units + 64 < cLine
  xe : X.xe = fun _ _ => False
  blt : ∀ x ∈ bnames, X.mg x = none
  cs : ∀ x d, (x, d) ∈ g.cs → ∃ u v, X.mg x = some u ∧ RelV v u ∧ ∀ G, Sh X.K G d v
  fs : ∀ j x ps, g.fs[j]? = some (x, ps) → ∃ f fd, X.mg x = some (.ref f) ∧ PySem.W.keepIn X.K (.ref f) = true ∧ (∀ (s : Shared) (us : List Value), us.length = ps.length → BindsTo s fd ⟨us, []⟩ (ps.zip us)) ∧
    (∀ ks n pm, (j, ks, n, pm) ∈ g.kw → KwB fd ps ks n pm) ∧ FnG X.prog X.w X.K X.mg X.base k f fd ps (spF X.K (C j))
  fair : Fair C
structure At (X : Cx) (c : Cc) : Prop where
  N : X.N = c.N
  sc : X.env.scope = c.sc
  fn : X.fn = c.fn
theorem Gd.blk {X : Cx} {g : Pg} {C : Cal} {k : Nat} (h : Gd X g C k) (s : Shared) (H : Hp) (scope : Scope) (cenv : PySem.Env) (fp : List Addr) : Gd (X.blk s H scope cenv fp) g C k :=
  ⟨h.calm, h.nd, h.room, h.guards, h.units, rfl, h.blt, h.cs, h.fs, h.fair⟩
theorem At.blk {X : Cx} {c : Cc} (h : At X c) (s : Shared) (H : Hp) (scope : Scope) (cl : List (Str × Addr)) (B : Addr) (fp : List Addr) : At (X.blk s H scope (compEnvC scope cl B X.env) fp) (c.blk scope) :=
  ⟨h.N, by show relS scope X.env.scope = relS scope c.sc; rw [h.sc], rfl⟩

/-! ### names -/
def ckN (c : Cc) (i : Nat) : Expr → Bool
  | .Name x _ => decide (c.N[i]? = some x) && (match c.sc.names.lookup x with | some .local => true | some .cell => true | some .free => true | _ => false) && !(x == ("__debug__" : Str)) && !(x == ("__classdict__" : Str))
  | _ => false
def gl (c : Cc) (x : Str) : Bool := decide (c.sc.names.lookup x = some .globalImplicit)
def bn (c : Cc) (x : Str) : Bool := gl c x && bnames.contains x
def ckLoc (c : Cc) (i : Nat) (x : Str) : Bool := decide (c.N[i]? = some x) && (match c.sc.names.lookup x with | some .local => true | some .cell => c.fn x | _ => false)
mutual
def ckTg (c : Cc) : Tg → Expr → Bool
  | .nm i, e => match e with
    | .Name x _ => ckLoc c i x
    | _ => false
  | .tp ts, e => match e with
    | .Tuple es _ _ => ckTgs c ts es
    | _ => false
def ckTgs (c : Cc) : List Tg → List Expr → Bool
  | [], es => es.isEmpty
  | t :: ts, es => match es with
    | e :: es => nostar e && ckTg c t e && ckTgs c ts es
    | [] => false
end
/-- what a term's operation works on -/
def ckOp (c : Cc) (k : OpK) : Expr → Option (List Expr)
  | .BinOp a op b _ => if opB op k then some [a, b] else none
  | .UnaryOp .USub a _ => if k = .neg then some [a] else none
  | .UnaryOp .Not a _ => if k = .nt then some [a] else none
  | .Compare a [.Is] [.Constant .none _ _] _ => if k = .isnone then some [a] else none
  | .Compare a [.IsNot] [.Constant .none _ _] _ => if k = .notnone then some [a] else none
  | .Compare a [op] [b] _ => if cmpB op k && noset b then some [a, b] else none
  | .Subscript a (.Slice none none (some (.UnaryOp .USub (.Constant (.int 1) _ _) _)) _) _ => if k = .back then some [a] else none
  | .Subscript a b _ => if decide (k = .item) && noslice b then some [a, b] else none
  | .Call (.Name x _) (a :: as) [] _ => match k with
    | .isinst ts => match as with
      | [.Tuple es _ _] => if x = "isinstance" ∧ bn c x = true ∧ isNames ts es = true ∧ (es.all fun | .Name y _ => bn c y | _ => false) = true ∧ ts.length ≤ 1000 ∧ nostar a = true then some [a] else none
      | [b] => if x = "isinstance" ∧ bn c x = true ∧ isNames ts [b] = true ∧ ts.length = 1 ∧ ([b].all fun | .Name y _ => bn c y | _ => false) = true ∧ nostar a = true then some [a] else none
      | _ => none
    | .reprl => match a, as with
      | .List es _, [] => if x = "repr" ∧ bn c x = true then some es else none
      | _, _ => none
    | _ => if bn c x && blTab.contains (x, k) then some (a :: as) else none
  | _ => none

/-- each term fits its text -/
def SOl (X : Cx) (C : Cal) : List Expr → List T → Prop
  | [], τs => τs = []
  | e :: es, τs => ∃ τ r, τs = τ :: r ∧ nostar e = true ∧ SE X C e τ ∧ SO X C e τ ∧ SOl X C es r
section
variable {X : Cx} {C : Cal} {g : Pg} {c : Cc} {k : Nat} {e a b : Expr} {es : List Expr} {τ τa τb τc : T} {τs κs : List T} {pos p pos' apos cpos : Pos}
theorem SOl.one (h : SOl X C [a] τs) : ∃ τ, τs = [τ] ∧ nostar a = true ∧ SE X C a τ ∧ SO X C a τ := by
  obtain ⟨τ, r, rfl, h1, h2, h3, h4⟩ := h
  cases (show r = [] from h4)
  exact ⟨τ, rfl, h1, h2, h3⟩
theorem SOl.two (h : SOl X C [a, b] τs) : ∃ τ τ', τs = [τ, τ'] ∧ nostar a = true ∧ SE X C a τ ∧ SO X C a τ ∧ nostar b = true ∧ SE X C b τ' ∧ SO X C b τ' := by
  obtain ⟨τ, r, rfl, h1, h2, h3, h4⟩ := h
  obtain ⟨τ', rfl, h5⟩ := SOl.one h4
  exact ⟨τ, τ', rfl, h1, h2, h3, h5⟩
theorem SOl.stars : ∀ {es : List Expr} {τs : List T}, SOl X C es τs → es.all nostar = true
  | [], _, _ => rfl
  | e :: es, τs, h => by
    obtain ⟨τ, r, rfl, h1, h2, h3, h4⟩ := h
    rw [List.all_cons, h1, SOl.stars h4]
    rfl
theorem SOl.len : ∀ {es : List Expr} {τs : List T}, SOl X C es τs → τs.length = es.length
  | [], _, h => by
    cases (show _ = [] from h)
    rfl
  | e :: es, τs, h => by
    obtain ⟨τ, r, rfl, h1, h2, h3, h4⟩ := h
    rw [List.length_cons, List.length_cons, SOl.len h4]
theorem SOl.os : ∀ {es : List Expr} {τs : List T}, SOl X C es τs → SOs X C es τs
  | [], _, h => by
    cases (show _ = [] from h)
    exact pa_nil
  | e :: es, τs, h => by
    obtain ⟨τ, r, rfl, h1, h2, h3, h4⟩ := h
    exact pa_cons h3 (SOl.os h4) (star1 h1)
theorem SOl.ss : ∀ {es : List Expr} {τs : List T}, SOl X C es τs → SEs X C es τs
  | [], _, h => by
    cases (show _ = [] from h)
    exact pa_nil
  | e :: es, τs, h => by
    obtain ⟨τ, r, rfl, h1, h2, h3, h4⟩ := h
    exact pa_cons h2 (SOl.ss h4) (star1 h1)
theorem SOl.split : ∀ {es fs : List Expr} {τs : List T}, SOl X C (es ++ fs) τs → ∃ τa τb, τs = τa ++ τb ∧ SOl X C es τa ∧ SOl X C fs τb
  | [], fs, τs, h => ⟨[], τs, rfl, rfl, h⟩
  | e :: es, fs, τs, h => by
    obtain ⟨τ, r, rfl, h1, h2, h3, h4⟩ := h
    obtain ⟨ra, rb, rfl, q1, q2⟩ := SOl.split h4
    exact ⟨τ :: ra, rb, rfl, ⟨τ, ra, rfl, h1, h2, h3, q1⟩, q2⟩
theorem gl_ok (A : At X c) {x : Str} (h : gl c x = true) : Gl X x := by
  unfold gl at h
  show X.env.scope.names.lookup x = _
  rw [A.sc]
  exact of_decide_eq_true h
theorem bn_ok (A : At X c) (D : Gd X g C k) {x : Str} (h : bn c x = true) : Gl X x ∧ X.mg x = none := by
  unfold bn at h
  rw [Bool.and_eq_true] at h
  exact ⟨gl_ok A h.1, D.blt x (by simpa using h.2)⟩
theorem ckN_ok (A : At X c) {i : Nat} (h : ckN c i e = true) : PE X e (tVar i) := by
  unfold ckN at h
  split at h
  · rename_i x q
    simp only [Bool.and_eq_true, decide_eq_true_eq, Bool.not_eq_true'] at h
    obtain ⟨⟨⟨h1, h2⟩, h3⟩, h4⟩ := h
    refine pe_var (by rw [A.N]; exact h1) ?_ h3 h4
    show X.env.scope.names.lookup x = _ ∨ X.env.scope.names.lookup x = _ ∨ X.env.scope.names.lookup x = _
    rw [A.sc]
    split at h2
    · rename_i q; exact .inl q
    · rename_i q; exact .inr (.inl q)
    · rename_i q; exact .inr (.inr q)
    · cases h2
  · cases h
theorem ckLoc_ok (A : At X c) {i : Nat} {x : Str} (h : ckLoc c i x = true) : X.N[i]? = some x ∧ L2.Loc X.env.scope x ∧ (X.fn x = true ∨ X.env.scope.names.lookup x = some .local) := by
  unfold ckLoc at h
  simp only [Bool.and_eq_true, decide_eq_true_eq] at h
  obtain ⟨h1, h2⟩ := h
  unfold L2.Loc
  rw [A.N, A.sc, A.fn]
  split at h2
  · rename_i q; exact ⟨h1, .inl q, .inr q⟩
  · rename_i q; exact ⟨h1, .inr q, .inl h2⟩
  · cases h2
mutual
theorem ckTg_ok (A : At X c) (D : Gd X g C k) : ∀ (t : Tg) (e : Expr), ckTg c t e = true → PG X e (gS X.K t)
  | .nm i, e, h => by
    simp only [ckTg] at h
    split at h
    · obtain ⟨h1, h2, h3⟩ := ckLoc_ok A h
      exact g_name D.nd h1 h2 h3
    · cases h
  | .tp ts, e, h => by
    simp only [ckTg] at h
    split at h
    · obtain ⟨q1, q2, q3⟩ := ckTgs_ok A D ts _ h
      obtain ⟨l1, l2⟩ := assign_len (env := X.env) q2
      exact g_tup D.calm q1 (by rw [l1, q3]) l2
    · cases h
theorem ckTgs_ok (A : At X c) (D : Gd X g C k) : ∀ (t : List Tg) (e : List Expr), ckTgs c t e = true → PGs X e (gSs X.K t) ∧ e.all nostar = true ∧ e.length = t.length
  | [], e, h => by
    simp only [ckTgs] at h
    cases e with
    | nil => exact ⟨g_nil, rfl, rfl⟩
    | cons _ _ => cases h
  | t :: ts, e, h => by
    simp only [ckTgs] at h
    split at h
    · simp only [Bool.and_eq_true] at h
      obtain ⟨⟨h1, h2⟩, h3⟩ := h
      obtain ⟨q1, q2, q3⟩ := ckTgs_ok A D ts _ h3
      refine ⟨g_cons (ckTg_ok A D t _ h2) q1 (by rw [assign1 h1]; rfl), by rw [List.all_cons, h1, q2]; rfl, by rw [List.length_cons, List.length_cons, q3]⟩
    · cases h
end
theorem names_bn (A : At X c) (D : Gd X g C k) (h : (es.all fun | .Name y _ => bn c y | _ => false) = true) : ∀ x q, Expr.Name x q ∈ es → Gl X x ∧ X.mg x = none := fun x q m => by
  have := List.all_eq_true.mp h _ m
  exact bn_ok A D this
theorem s_reprl (hg : X.A.guards = some []) (hu : X.A.units + 64 < cLine) (h1 : Gl X "repr") (h2 : X.mg "repr" = none) (hl : SOl X C es τs) : SE X C (.Call (.Name "repr" p) [.List es apos] [] pos) (.op .reprl τs) :=
  PE.imp (pe_callB (o_repr hg hu) h1 h2 rfl (pa_cons (pe_lst hl.os) pa_nil (star1 rfl)) (by decide) (by decide) (star1 rfl) (star_any rfl)) fun σ H Q z => op_sim p_reprl σ H Q z
theorem ckOp_ok (A : At X c) (D : Gd X g C k) {o : OpK} {as : List Expr} (h : ckOp c o e = some as) (hl : SOl X C as τs) : SE X C e (.op o τs) := by
  unfold ckOp at h
  split at h
  · split at h
    · rename_i q
      cases h
      obtain ⟨τ, τ', rfl, n1, e1, o1, n2, e2, o2⟩ := hl.two
      obtain ⟨r, h1, h2⟩ := opB_ok (X := X) q
      exact s_op2 h1 h2 o1 o2
    · cases h
  · split at h
    · rename_i q
      cases h
      subst q
      obtain ⟨τ, rfl, n1, e1, o1⟩ := hl.one
      exact s_un un_neg p_neg o1
    · cases h
  · split at h
    · rename_i q
      cases h
      subst q
      obtain ⟨τ, rfl, n1, e1, o1⟩ := hl.one
      exact s_notT o1
    · cases h
  · split at h
    · rename_i q
      cases h
      subst q
      obtain ⟨τ, rfl, n1, e1, o1⟩ := hl.one
      exact s_isN o1
    · cases h
  · split at h
    · rename_i q
      cases h
      subst q
      obtain ⟨τ, rfl, n1, e1, o1⟩ := hl.one
      exact s_notN o1
    · cases h
  · split at h
    · rename_i q
      cases h
      rw [Bool.and_eq_true] at q
      obtain ⟨τ, τ', rfl, n1, e1, o1, n2, e2, o2⟩ := hl.two
      obtain ⟨r, h1, h2⟩ := cmpB_ok (X := X) D.units q.1
      exact s_cmp h1 h2 o1 o2 (behind_ok q.2)
    · cases h
  · split at h
    · rename_i q
      cases h
      subst q
      obtain ⟨τ, rfl, n1, e1, o1⟩ := hl.one
      exact s_revL o1
    · cases h
  · split at h
    · rename_i q
      cases h
      rw [Bool.and_eq_true] at q
      obtain ⟨q1, q2⟩ := q
      have q1 := of_decide_eq_true q1
      subst q1
      obtain ⟨τ, τ', rfl, n1, e1, o1, n2, e2, o2⟩ := hl.two
      exact s_ix o1 o2 (plainIx_ok q2)
    · cases h
  · split at h
    · split at h
      · split at h
        · rename_i q
          cases h
          obtain ⟨rfl, q1, q2, q3, q4, q5⟩ := q
          obtain ⟨τ, rfl, n1, e1, o1⟩ := hl.one
          obtain ⟨g1, g2⟩ := bn_ok A D q1
          exact s_isiT g1 g2 n1 q2 (names_bn A D q3) (Nat.le_trans q4 (by rw [sizeLine_eq]; omega)) o1
        · cases h
      · split at h
        · rename_i ts as0 b0 nb q
          cases h
          obtain ⟨rfl, q1, q2, q3, q4, q5⟩ := q
          obtain ⟨τ, rfl, n1, e1, o1⟩ := hl.one
          obtain ⟨g1, g2⟩ := bn_ok A D q1
          have hb := names_bn A D q4
          cases b0 with
          | Name y py =>
            obtain ⟨t, rfl⟩ := List.length_eq_one_iff.mp q3
            simp only [isNames, Bool.and_eq_true, Bool.not_eq_true'] at q2
            obtain ⟨⟨⟨z1, z2⟩, z3⟩, _⟩ := q2
            split at z1
            · rename_i n hn
              have e : n = t := by simpa using z1
              subst e
              obtain ⟨b1, b2⟩ := hb y py List.mem_cons_self
              exact s_isi1 g1 g2 b1 b2 hn (by simpa using z2) z3 n1 o1
            · cases z1
          | _ => simp at q4
        · cases h
      · cases h
    · split at h
      · split at h
        · rename_i q
          cases h
          obtain ⟨rfl, q⟩ := q
          obtain ⟨g1, g2⟩ := bn_ok A D q
          exact s_reprl D.guards D.units g1 g2 hl
        · cases h
      · cases h
    · split at h
      · rename_i x0 p0 a0 as0 p1 k0 nk nk2 q
        cases h
        rw [Bool.and_eq_true] at q
        obtain ⟨g1, g2⟩ := bn_ok A D q.1
        obtain ⟨b1, b2, id, r, pr, hh⟩ := blTab_ok D.calm D.guards D.units (List.contains_iff_mem.mp q.2)
        have ns := hl.stars
        rw [List.all_cons, Bool.and_eq_true] at ns
        rcases hh with ⟨hv, cr⟩ | ⟨hv, cr⟩
        · exact s_callB cr pr g1 g2 hv hl.os b1 b2 (star1 ns.1) (star_any ns.2)
        · exact s_callTy cr pr g1 g2 hv hl.os b1 b2 (star1 ns.1) (star_any ns.2)
      · cases h
  · cases h
/-- .. as a test -/
theorem ckOp_test (A : At X c) (D : Gd X g C k) {o : OpK} {as : List Expr} {l : Expr} {ops : List CmpOp} {cs : List Expr} (h : ckOp c o (.Compare l ops cs pos) = some as) (hl : SOl X C as τs) : ST X C (.Compare l ops cs pos) (.op o τs) := by
  generalize he : Expr.Compare l ops cs pos = e at h
  unfold ckOp at h
  split at h
  · cases he
  · cases he
  · cases he
  · split at h
    · rename_i q
      cases h
      subst q
      obtain ⟨τ, rfl, n1, e1, o1⟩ := hl.one
      exact t_isN o1
    · cases h
  · split at h
    · rename_i q
      cases h
      subst q
      obtain ⟨τ, rfl, n1, e1, o1⟩ := hl.one
      exact t_notN o1
    · cases h
  · split at h
    · rename_i q
      cases h
      rw [Bool.and_eq_true] at q
      obtain ⟨τ, τ', rfl, n1, e1, o1, n2, e2, o2⟩ := hl.two
      obtain ⟨r, h1, h2⟩ := cmpB_ok (X := X) D.units q.1
      exact t_cmp h1 h2 o1 o2 (behind_ok q.2)
    · cases h
  · cases he
  · cases he
  · cases he
  · cases h
end
end Qv
end
section
set_option Elab.async false
set_option linter.all false
set_option maxRecDepth 100000
set_option maxHeartbeats 4000000
/-! Q15: expressions held against terms. -/
namespace Qv
open PySem PySem.Spec PyProof.Rows L2

def ckConst : PyData → Const → Bool
  | .none, .none => true
  | .bool a, .bool b => a == b
  | .int a, .int b => decide (a = b)
  | .str a, .str b => decide (a = b)
  | _, _ => false
def eqC : PyData → PyData → Bool
  | .none, .none => true
  | .bool a, .bool b => a == b
  | .int a, .int b => decide (a = b)
  | .str a, .str b => decide (a = b)
  | _, _ => false
theorem eqC_ok {d e : PyData} (h : eqC d e = true) : d = e := by
  unfold eqC at h
  split at h
  · rfl
  · rw [eq_of_beq h]
  · rw [of_decide_eq_true h]
  · rw [of_decide_eq_true h]
  · cases h
def ckC (g : Pg) (c : Cc) (d : PyData) : Expr → Bool
  | .Constant k _ _ => ckConst d k
  | .Name x _ => gl c x && !(x == ("__debug__" : Str)) && g.cs.any fun q => decide (q.1 = x) && eqC q.2 d
  | _ => false
/-- a comprehension's own names -/
def ownOf (N : List Str) (ws : List Nat) : List (Str × Nat) := ws.filterMap fun i => (N[i]?).map fun x => (x, i)
def isTup : Expr → Bool
  | .Tuple .. => true
  | _ => false
/-- what a walk works on -/
def itA (c : Cc) (t : Expr) : IK → Expr → Option (List Expr)
  | .sq, e => some [e]
  | .rng, .Call (.Name x _) [a] [] _ => if x = "range" ∧ bn c x = true then some [a] else none
  | .rng, .Call (.Name x _) [a, b] [] _ => if x = "range" ∧ bn c x = true then some [a, b] else none
  | .en, .Call (.Name x _) [a] [] _ => if x = "enumerate" ∧ bn c x = true ∧ isTup t = true then some [a] else none
  | .zp, .Call (.Name x _) [a, b] [] _ => if x = "zip" ∧ bn c x = true ∧ isTup t = true then some [a, b] else none
  | _, _ => none
def kwNames (kws : List Keyword) : Option (List Str) := kws.mapM (·.arg)
def permB (pm : List Nat) (n : Nat) : Bool := pm.isPerm (List.range n)
mutual
def ckE (g : Pg) : T → Cc → Expr → Bool
  | .c d, c, e => ckC g c d e
  | .nm i, c, e => ckN c i e
  | .mv i, c, e => ckN c i e
  | .tup ts, c, e => match e with
    | .Tuple es _ _ => ckEs g ts c es
    | _ => false
  | .tupo ts, c, e => match e with
    | .Tuple es _ _ => ckEs g ts c es
    | _ => false
  | .lst ts, c, e => match e with
    | .List es _ => ckEs g ts c es
    | _ => false
  | .op k ts, c, e => match ckOp c k e with
    | some es => ckEs g ts c es
    | none => false
  | .mth k t ts, c, e => match e with
    | .Call (.Attribute o m apos) (a :: as) [] cpos => ckE g t c o && ckEs g ts c (a :: as) && notSup o && decide ((a :: as).length < 30) && (apos.endLine == cpos.line) &&
      (mtTab.contains (m, k) || (decide (m = "get") && ((decide (k = .dget1) && decide ((a :: as).length = 1)) || (decide (k = .dget2) && decide ((a :: as).length = 2)))))
    | _ => false
  | .prj t j, c, e => match e with
    | .Subscript a (.Constant (.int i) _ _) _ => ckE g t c a && decide (i = (j : Int))
    | _ => false
  | .sl ts los his, c, e => match e with
    | .Subscript a (.Slice lo hi none _) _ => ckEs g ts c [a] && ckEs g los c lo.toList && ckEs g his c hi.toList
    | _ => false
  | .and2 s t, c, e => match e with
    | .BoolOp .And [a, b] _ => ckE g s c a && ckE g t c b
    | .BoolOp .And (a :: b :: r) pos => ckE g s c a && ckE g t c (.BoolOp .And (b :: r) pos)
    | _ => false
  | .or2 s t, c, e => match e with
    | .BoolOp .Or [a, b] _ => ckE g s c a && ckE g t c b
    | .BoolOp .Or (a :: b :: r) pos => ckE g s c a && ckE g t c (.BoolOp .Or (b :: r) pos)
    | _ => false
  | .ite s t u, c, e => match e with
    | .IfExp q a b _ => ckT g s c q && ckE g t c a && ckE g u c b
    | _ => false
  | .chain k l ts us, c, e => match e with
    | .Compare a [o1, o2] [b, d] _ => cmpB o1 k && cmpB o2 l && noset d && ckEs g ts c [a, b] && ckEs g us c [d]
    | _ => false
  | .tt _, _, _ => false
  | .tn _, _, _ => false
  | .call j ts, c, e => match e with
    | .Call (.Name x _) as [] _ => gl c x && !(x == ("__debug__" : Str)) && (match g.fs[j]? with | some q => decide (q.1 = x) | none => false) && ckEs g ts c as
    | _ => false
  | .lc ws tg ik ies cs t, c, e => match e with
    | .ListComp elt [⟨tg', iter, ifs, ia⟩] scope _ => decide (ia = 0) && decide (ws = (ownOf c.N ws).map (·.2)) && blkC c.N c.sc scope (ownOf c.N ws) && ckTg (c.blk scope) tg tg' && (match itA c tg' ik iter with | some es => ckEs g ies c es | none => false) &&
      ckTs g cs (c.blk scope) ifs && ckE g t (c.blk scope) elt && noset iter && (tgSlots tg).all (ws.contains ·)
    | _ => false
  | .callk j ts pm, c, e => match e with
    | .Call (.Name x _) as kws _ => gl c x && !(x == ("__debug__" : Str)) && (match g.fs[j]? with | some q => decide (q.1 = x) | none => false) && ckEs g ts c (as ++ kws.map (·.value)) && permB pm ts.length &&
      (match kwNames kws with | some ks => g.kw.contains (j, ks, as.length, pm) | none => false)
    | _ => false
  | .app i t, c, e => match e with
    | .Call (.Attribute o m apos) [a] [] cpos => decide (m = "append") && ckN c i o && notSup o && nostar a && (apos.endLine == cpos.line) && ckE g t c a
    | _ => false
  | .ext i ts, c, e => match e with
    | .Call (.Attribute o m apos) [a] [] cpos => decide (m = "extend") && ckN c i o && notSup o && (apos.endLine == cpos.line) && ckEs g ts c [a]
    | _ => false
  | .popl i, c, e => match e with
    | .Call (.Attribute o m apos) [] [] cpos => decide (m = "pop") && ckN c i o && notSup o && (apos.endLine == cpos.line)
    | _ => false
  | .fz t, c, e => ckE g t c e
def ckEs (g : Pg) : List T → Cc → List Expr → Bool
  | [], _, es => es.isEmpty
  | t :: ts, c, es => match es with
    | e :: es => nostar e && ckE g t c e && ckEs g ts c es
    | [] => false
def ckT (g : Pg) : T → Cc → Expr → Bool
  | .op k ts, c, e => match e with
    | .Compare l os cs pos => (match ckOp c k (.Compare l os cs pos) with
      | some es => ckEs g ts c es
      | none => false)
    | _ => false
  | .and2 s t, c, e => match e with
    | .BoolOp .And [a, b] _ => ckT g s c a && ckT g t c b
    | .BoolOp .And (a :: b :: r) pos => ckT g s c a && ckT g t c (.BoolOp .And (b :: r) pos)
    | _ => false
  | .or2 s t, c, e => match e with
    | .BoolOp .Or [a, b] _ => ckT g s c a && ckT g t c b
    | .BoolOp .Or (a :: b :: r) pos => ckT g s c a && ckT g t c (.BoolOp .Or (b :: r) pos)
    | _ => false
  | .chain k l ts us, c, e => match e with
    | .Compare a [o1, o2] [b, d] _ => cmpB o1 k && cmpB o2 l && noset d && ckEs g ts c [a, b] && ckEs g us c [d]
    | _ => false
  | .tt t, c, e => plainT e && ckE g t c e
  | .tn t, c, e => match e with
    | .UnaryOp .Not a _ => ckT g t c a
    | _ => false
  | .c _, _, _ => false
  | .nm _, _, _ => false
  | .mv _, _, _ => false
  | .tup _, _, _ => false
  | .tupo _, _, _ => false
  | .lst _, _, _ => false
  | .mth _ _ _, _, _ => false
  | .prj _ _, _, _ => false
  | .sl _ _ _, _, _ => false
  | .ite _ _ _, _, _ => false
  | .call _ _, _, _ => false
  | .lc _ _ _ _ _ _, _, _ => false
  | .callk _ _ _, _, _ => false
  | .app _ _, _, _ => false
  | .ext _ _, _, _ => false
  | .popl _, _, _ => false
  | .fz _, _, _ => false
def ckTs (g : Pg) : List T → Cc → List Expr → Bool
  | [], _, es => es.isEmpty
  | t :: ts, c, es => match es with
    | [e] => ckT g t c e && ts.isEmpty
    | _ => false
end
section
variable {C : Cal} {g : Pg} {k : Nat}
theorem ckC_ok {X : Cx} {c : Cc} (A : At X c) (D : Gd X g C k) {d : PyData} {e : Expr} (h : ckC g c d e = true) : SE X C e (.c d) := by
  unfold ckC at h
  split at h
  · unfold ckConst at h
    split at h
    · exact s_non
    · rw [eq_of_beq h]
      exact s_bl
    · rw [of_decide_eq_true h]
      exact s_int
    · rw [of_decide_eq_true h]
      exact s_str
    · cases h
  · simp only [Bool.and_eq_true, Bool.not_eq_true', List.any_eq_true, decide_eq_true_eq] at h
    obtain ⟨⟨h1, h2⟩, ⟨y, d2⟩, hm, e1, e2⟩ := h
    cases e1
    cases eqC_ok e2
    obtain ⟨u, v, h3, h4, h5⟩ := D.cs _ _ hm
    exact s_cst (pe_glob (gl_ok A h1) h3 h4 h2) h5
  · cases h
theorem itA_ok {X : Cx} {c : Cc} (A : At X c) (D : Gd X g C k) {tg e : Expr} {ik : IK} {es : List Expr} {τs : List T} (h : itA c tg ik e = some es) (hl : SOl X C es τs) : PI X tg e (tI X.K C ik τs) := by
  unfold itA at h
  split at h
  · cases h
    obtain ⟨τ, rfl, n1, e1, o1⟩ := hl.one
    exact i_sq e1
  · split at h
    · rename_i q
      cases h
      obtain ⟨rfl, q1⟩ := q
      obtain ⟨g1, g2⟩ := bn_ok A D q1
      have ss := hl.ss
      obtain ⟨τ, rfl, n1, e1, o1⟩ := hl.one
      exact i_rng1 g1 g2 ss (star1 n1)
    · cases h
  · split at h
    · rename_i q
      cases h
      obtain ⟨rfl, q1⟩ := q
      obtain ⟨g1, g2⟩ := bn_ok A D q1
      have ss := hl.ss
      obtain ⟨τ, τ', rfl, n1, e1, o1, n2, e2, o2⟩ := hl.two
      exact i_rng2 g1 g2 ss (by rw [star1 n1, star1 n2]; rfl) (star1 n2)
    · cases h
  · split at h
    · rename_i q
      cases h
      obtain ⟨rfl, q1, q2⟩ := q
      obtain ⟨g1, g2⟩ := bn_ok A D q1
      have ss := hl.ss
      obtain ⟨τ, rfl, n1, e1, o1⟩ := hl.one
      cases tg with
      | Tuple elts kk tp => exact i_en g1 g2 ss (star1 n1)
      | _ => cases q2
    · cases h
  · split at h
    · rename_i q
      cases h
      obtain ⟨rfl, q1, q2⟩ := q
      obtain ⟨g1, g2⟩ := bn_ok A D q1
      have ss := hl.ss
      obtain ⟨τ, τ', rfl, n1, e1, o1, n2, e2, o2⟩ := hl.two
      cases tg with
      | Tuple elts kk tp => exact i_zp g1 g2 ss (by rw [star1 n1, star1 n2]; rfl) (star1 n2)
      | _ => cases q2
    · cases h
  · cases h
theorem SOl.pk {X : Cx} : ∀ {kws : List Keyword} {τs : List T}, SOl X C (kws.map (·.value)) τs → PK X kws (tOs X.K C τs)
  | [], _, h => by
    cases (show _ = [] from h)
    exact pk_nil
  | ⟨nm, e, kp⟩ :: kws, τs, h => by
    obtain ⟨τ, r, rfl, h1, h2, h3, h4⟩ := h
    exact pk_cons h3 (SOl.pk h4)
theorem kw_ok {env : PySem.Env} {pos : Pos} : ∀ {kws : List Keyword} {ks : List Str}, kwNames kws = some ks → (backToKw pos (keywordEach kws env)).all (·.1.isSome) = true ∧ (backToKw pos (keywordEach kws env)).filterMap (·.1) = ks ∧
    (backToKw pos (keywordEach kws env)).any (·.1.isNone) = false ∧ kws.length = ks.length
  | [], ks, h => by
    simp only [kwNames, List.mapM_nil] at h
    cases h
    exact ⟨rfl, rfl, rfl, rfl⟩
  | ⟨nm, e, kp⟩ :: kws, ks, h => by
    simp only [kwNames, List.mapM_cons] at h
    cases nm with
    | none => cases h
    | some n =>
      cases q : kws.mapM (·.arg) with
      | none => rw [q] at h; cases h
      | some r =>
        rw [q] at h
        cases h
        obtain ⟨h1, h2, h3, h4⟩ := kw_ok (env := env) (pos := pos) (kws := kws) (ks := r) q
        unfold backToKw at h1 h2 h3 ⊢
        refine ⟨?_, ?_, ?_, by rw [List.length_cons, List.length_cons, h4]⟩
        · show (List.map _ ((some n, eval e env) :: keywordEach kws env)).all _ = true
          rw [List.map_cons, List.all_cons, h1]
          rfl
        · show (List.map _ ((some n, eval e env) :: keywordEach kws env)).filterMap _ = _
          rw [List.map_cons, List.filterMap_cons, h2]
        · show (List.map _ ((some n, eval e env) :: keywordEach kws env)).any _ = false
          rw [List.map_cons, List.any_cons, h3]
          rfl
/-- a term's two sides -/
theorem so_se {X : Cx} {e : Expr} {τ : T} (hn : isNm τ = none) (h : SE X C e τ) : SE X C e τ ∧ SO X C e τ := ⟨h, so_of h hn⟩
def STW (X : Cx) (C : Cal) (e : Expr) (τ : T) : Prop := ST X C e τ ∧ ∀ op es pos, e = .BoolOp op es pos → SW X C e τ
theorem stw {X : Cx} {e : Expr} {τ : T} (h : ST X C e τ) (n : ∀ op es pos, e ≠ .BoolOp op es pos) : STW X C e τ := ⟨h, fun op es pos q => absurd q (n op es pos)⟩
end
end Qv
end
section
set_option Elab.async false
set_option linter.all false
set_option maxRecDepth 100000
set_option maxHeartbeats 4000000
/-! Q16: what is held against a term computes what the term does. -/
namespace Qv
open PySem PySem.Spec PyProof.Rows L2

section
variable {C : Cal} {g : Pg} {k : Nat}
theorem permB_ok {pm : List Nat} {n : Nat} (h : permB pm n = true) : pm.Perm (List.range n) := List.isPerm_iff.mp h
theorem po_list {X : Cx} {lo : Option Expr} {los : List T} (h : SOl X C lo.toList los) : PO X lo (tP X.K C los) := by
  cases lo with
  | none =>
    cases (show los = [] from h)
    exact po_nil
  | some a =>
    obtain ⟨τ, rfl, n1, e1, o1⟩ := SOl.one h
    exact po_one o1
theorem fs_ok {X : Cx} {c : Cc} (A : At X c) (D : Gd X g C k) {j : Nat} {x : Str} (h : (match g.fs[j]? with | some q => decide (q.1 = x) | none => false) = true) :
    ∃ ps f fd, X.mg x = some (.ref f) ∧ PySem.W.keepIn X.K (.ref f) = true ∧ (∀ (s : Shared) (us : List Value), us.length = ps.length → BindsTo s fd ⟨us, []⟩ (ps.zip us)) ∧
    (∀ ks n pm, (j, ks, n, pm) ∈ g.kw → KwB fd ps ks n pm) ∧ FnG X.prog X.w X.K X.mg X.base k f fd ps (spF X.K (C j)) := by
  split at h
  · rename_i q e
    obtain ⟨y, ps⟩ := q
    have e1 := of_decide_eq_true h
    cases e1
    obtain ⟨f, fd, r⟩ := D.fs j _ ps e
    exact ⟨ps, f, fd, r⟩
  · cases h
theorem callk_ok {X : Cx} {c : Cc} (A : At X c) (D : Gd X g C k) {j : Nat} {ts : List T} {pm : List Nat} {x : Str} {as : List Expr} {kws : List Keyword} {p pos : Pos} (h1 : gl c x = true) (h2 : (x == ("__debug__" : Str)) = false)
    (h3 : (match g.fs[j]? with | some q => decide (q.1 = x) | none => false) = true) (h4 : SOl X C (as ++ kws.map (·.value)) ts) (h5 : permB pm ts.length = true)
    (h6 : (match kwNames kws with | some ks => g.kw.contains (j, ks, as.length, pm) | none => false) = true) : SE X C (.Call (.Name x p) as kws pos) (.callk j ts pm) := by
  obtain ⟨ps, f, fd, m1, m2, m3, m4, F⟩ := fs_ok A D h3
  split at h6
  · rename_i ks hks
    have hb := m4 ks _ pm (List.contains_iff_mem.mp h6)
    obtain ⟨τa, τb, rfl, q1, q2⟩ := h4.split
    obtain ⟨k1, k2, k3, k4⟩ := kw_ok (env := X.env) (pos := pos) hks
    have l2 : τb.length = ks.length := by rw [q2.len, List.length_map, k4]
    cases as with
    | nil =>
      cases (show τa = [] from q1)
      refine s_callk0 D.fair F D.room D.guards (gl_ok A h1) m1 m2 hb q2.pk l2 (permB_ok h5) k1 k2 h2 ?_
      rw [k3]
      rfl
    | cons e es =>
      have ns := q1.stars
      have ns' := ns
      rw [List.all_cons, Bool.and_eq_true] at ns'
      refine s_callk D.fair F D.room D.guards (gl_ok A h1) m1 m2 hb q1.os q2.pk q1.len l2 (permB_ok h5) k1 k2 h2 (star1 ns'.1) ?_
      rw [k3, star_any ns]
      rfl
  · cases h6
theorem call_ok {X : Cx} {c : Cc} (A : At X c) (D : Gd X g C k) {j : Nat} {ts : List T} {x : Str} {as : List Expr} {p pos : Pos} (h1 : gl c x = true) (h2 : (x == ("__debug__" : Str)) = false)
    (h3 : (match g.fs[j]? with | some q => decide (q.1 = x) | none => false) = true) (h4 : SOl X C as ts) : SE X C (.Call (.Name x p) as [] pos) (.call j ts) := by
  obtain ⟨ps, f, fd, m1, m2, m3, m4, F⟩ := fs_ok A D h3
  cases as with
  | nil =>
    cases (show ts = [] from h4)
    exact s_call0 D.fair F D.room D.guards (gl_ok A h1) m1 m2 m3 h2
  | cons e es =>
    have ns := h4.stars
    rw [List.all_cons, Bool.and_eq_true] at ns
    exact s_call D.fair F D.room D.guards (gl_ok A h1) m1 m2 m3 h4.os h2 (star1 ns.1) (star_any ns.2)
theorem mth_ok {X : Cx} {c : Cc} (D : Gd X g C k) {o a : Expr} {as : List Expr} {m : Str} {apos cpos : Pos} {κ : OpK} {t : T} {ts : List T} (ho : SO X C o t) (h2 : SOl X C (a :: as) ts) (h3 : notSup o = true) (h4 : (a :: as).length < 30) (h5 : (apos.endLine == cpos.line) = true)
    (h6 : (mtTab.contains (m, κ) || (decide (m = "get") && ((decide (κ = .dget1) && decide ((a :: as).length = 1)) || (decide (κ = .dget2) && decide ((a :: as).length = 2))))) = true) : SE X C (.Call (.Attribute o m apos) (a :: as) [] cpos) (.mth κ t ts) := by
  rw [Bool.or_eq_true] at h6
  rcases h6 with h6 | h6
  · exact mtTab_ok (List.contains_iff_mem.mp h6) ho h2.os h3 h2.stars h4 h5
  · simp only [Bool.and_eq_true, Bool.or_eq_true, decide_eq_true_eq] at h6
    have hu : X.A.units + 1 < cLine := Nat.lt_of_le_of_lt (by omega) D.units
    obtain ⟨rfl, h6⟩ := h6
    rcases h6 with ⟨rfl, l⟩ | ⟨rfl, l⟩
    · match as, l with
      | [], _ =>
        obtain ⟨τ, rfl, n1, e1, o1⟩ := h2.one
        exact s_get1 hu ho o1 h3 n1 h5
    · match as, l with
      | [b], _ =>
        obtain ⟨τ, τ', rfl, n1, e1, o1, n2, e2, o2⟩ := h2.two
        exact s_get2 hu ho o1 o2 h3 n1 n2 h5
theorem chain_ok {X : Cx} (D : Gd X g C k) {a b d : Expr} {o1 o2 : CmpOp} {κ l : OpK} {ts us : List T} {pos : Pos} (h1 : cmpB o1 κ = true) (h2 : cmpB o2 l = true) (h3 : noset d = true) (h4 : SOl X C [a, b] ts) (h5 : SOl X C [d] us) :
    SE X C (.Compare a [o1, o2] [b, d] pos) (.chain κ l ts us) ∧ ST X C (.Compare a [o1, o2] [b, d] pos) (.chain κ l ts us) := by
  obtain ⟨τ, τ', rfl, n1, e1, p1, n2, e2, p2⟩ := h4.two
  obtain ⟨υ, rfl, n3, e3, p3⟩ := h5.one
  obtain ⟨r, r1, r2⟩ := cmpB_ok (X := X) D.units h1
  obtain ⟨r', r3, r4⟩ := cmpB_ok (X := X) D.units h2
  exact ⟨s_chain r1 r3 r2 r4 p1 p2 p3 (last_ok h3), t_val (pt_chain r1 r3 p1 p2 p3 (last_ok h3)) fun σ H Q z => chain_run r1 r3 r2 r4 σ H Q z⟩
/-- the parts of a comprehension -/
structure LcP (X : Cx) (C : Cal) (elt tg iter : Expr) (ifs : List Expr) (scope : Scope) (ws : List Nat) (t : Tg) (ik : IK) (ies cs : List T) (τ : T) : Prop where
  own : ∃ own : List (Str × Nat), ws = own.map (·.2) ∧ BlkOk X.N X.env.scope scope own
  it : PI X tg iter (tI X.K C ik ies)
  tg : ∀ (s : Shared) (H : Hp) (B : Addr) (cl : List (Str × Addr)) (fp : List Addr), PG (X.blk s H scope (compEnvC scope cl B X.env) fp) tg (gS X.K t)
  ifs : ∀ (s : Shared) (H : Hp) (B : Addr) (cl : List (Str × Addr)) (fp : List Addr), PTs (X.blk s H scope (compEnvC scope cl B X.env) fp) ifs (tBs X.K C cs)
  elt : ∀ (s : Shared) (H : Hp) (B : Addr) (cl : List (Str × Addr)) (fp : List Addr), PE (X.blk s H scope (compEnvC scope cl B X.env) fp) elt (tS X.K C τ)
  st : noset iter = true
  sl : ∀ i ∈ tgSlots t, i ∈ ws
theorem LcP.se {X : Cx} (D : Gd X g C k) {elt tg iter : Expr} {ifs : List Expr} {scope : Scope} {ws : List Nat} {t : Tg} {ik : IK} {ies cs : List T} {τ : T} {pos : Pos} (L : LcP X C elt tg iter ifs scope ws t ik ies cs τ) :
    SE X C (.ListComp elt [⟨tg, iter, ifs, 0⟩] scope pos) (.lc ws t ik ies cs τ) := by
  obtain ⟨⟨own, rfl, ok⟩, it, tgp, ip, ep, st, sl⟩ := L
  exact s_lc D.calm D.nd it ok tgp ip ep (fold_ok st) sl
mutual
theorem ckE_ok : ∀ (τ : T) {X : Cx} {c : Cc} (e : Expr), At X c → Gd X g C k → ckE g τ c e = true → SE X C e τ ∧ SO X C e τ
  | .c d, X, c, e, A, D, h => by
    simp only [ckE] at h
    exact so_se rfl (ckC_ok A D h)
  | .nm i, X, c, e, A, D, h => by
    simp only [ckE] at h
    exact ⟨s_nm (ckN_ok A h), so_nm (ckN_ok A h)⟩
  | .mv i, X, c, e, A, D, h => by
    simp only [ckE] at h
    exact so_se rfl (s_mv (ckN_ok A h))
  | .tup ts, X, c, e, A, D, h => by
    simp only [ckE] at h
    split at h
    · exact so_se rfl (s_tup (ckEs_ok ts _ A D h).ss)
    · cases h
  | .tupo ts, X, c, e, A, D, h => by
    simp only [ckE] at h
    split at h
    · exact so_se rfl (s_tupo (ckEs_ok ts _ A D h).ss)
    · cases h
  | .lst ts, X, c, e, A, D, h => by
    simp only [ckE] at h
    split at h
    · exact so_se rfl (s_lst (ckEs_ok ts _ A D h).ss)
    · cases h
  | .op o ts, X, c, e, A, D, h => by
    simp only [ckE] at h
    split at h
    · rename_i es he
      exact so_se rfl (ckOp_ok A D he (ckEs_ok ts _ A D h))
    · cases h
  | .mth o t ts, X, c, e, A, D, h => by
    simp only [ckE] at h
    split at h
    · rw [Bool.and_eq_true, Bool.and_eq_true, Bool.and_eq_true, Bool.and_eq_true, Bool.and_eq_true] at h
      obtain ⟨⟨⟨⟨⟨h1, h2⟩, h3⟩, h4⟩, h5⟩, h6⟩ := h
      exact so_se rfl (mth_ok (c := c) D (ckE_ok t _ A D h1).2 (ckEs_ok ts _ A D h2) h3 (of_decide_eq_true h4) h5 h6)
    · cases h
  | .prj t j, X, c, e, A, D, h => by
    simp only [ckE] at h
    split at h
    · rw [Bool.and_eq_true] at h
      have e1 := of_decide_eq_true h.2
      subst e1
      exact so_se rfl (s_prj (ckE_ok t _ A D h.1).1)
    · cases h
  | .sl ts los his, X, c, e, A, D, h => by
    simp only [ckE] at h
    split at h
    · rw [Bool.and_eq_true, Bool.and_eq_true] at h
      obtain ⟨τ, rfl, n1, e1, o1⟩ := (ckEs_ok ts _ A D h.1.1).one
      exact so_se rfl (s_sl o1 (po_list (ckEs_ok los _ A D h.1.2)) (po_list (ckEs_ok his _ A D h.2)))
    · cases h
  | .and2 s t, X, c, e, A, D, h => by
    simp only [ckE] at h
    split at h
    · rw [Bool.and_eq_true] at h
      exact so_se rfl (s_and (ckE_ok s _ A D h.1).1 (s_one (ckE_ok t _ A D h.2).1))
    · rw [Bool.and_eq_true] at h
      exact so_se rfl (s_and (ckE_ok s _ A D h.1).1 (ckE_ok t _ A D h.2).1)
    · cases h
  | .or2 s t, X, c, e, A, D, h => by
    simp only [ckE] at h
    split at h
    · rw [Bool.and_eq_true] at h
      exact so_se rfl (s_or (ckE_ok s _ A D h.1).1 (s_one (ckE_ok t _ A D h.2).1))
    · rw [Bool.and_eq_true] at h
      exact so_se rfl (s_or (ckE_ok s _ A D h.1).1 (ckE_ok t _ A D h.2).1)
    · cases h
  | .ite s t u, X, c, e, A, D, h => by
    simp only [ckE] at h
    split at h
    · rw [Bool.and_eq_true, Bool.and_eq_true] at h
      exact so_se rfl (s_ite (ckT_ok s _ A D h.1.1).1 (ckE_ok t _ A D h.1.2).1 (ckE_ok u _ A D h.2).1)
    · cases h
  | .chain o l ts us, X, c, e, A, D, h => by
    simp only [ckE] at h
    split at h
    · rw [Bool.and_eq_true, Bool.and_eq_true, Bool.and_eq_true, Bool.and_eq_true] at h
      obtain ⟨⟨⟨⟨h1, h2⟩, h3⟩, h4⟩, h5⟩ := h
      exact so_se rfl (chain_ok D h1 h2 h3 (ckEs_ok ts _ A D h4) (ckEs_ok us _ A D h5)).1
    · cases h
  | .tt _, X, c, e, A, D, h => by
    simp only [ckE] at h
    cases h
  | .tn _, X, c, e, A, D, h => by
    simp only [ckE] at h
    cases h
  | .call j ts, X, c, e, A, D, h => by
    simp only [ckE] at h
    split at h
    · rw [Bool.and_eq_true, Bool.and_eq_true, Bool.and_eq_true, Bool.not_eq_true'] at h
      obtain ⟨⟨⟨h1, h2⟩, h3⟩, h4⟩ := h
      exact so_se rfl (call_ok A D h1 h2 h3 (ckEs_ok ts _ A D h4))
    · cases h
  | .lc ws tg ik ies cs t, X, c, e, A, D, h => by
    simp only [ckE] at h
    split at h
    · rename_i elt tg' iter ifs ia scope pos
      rw [Bool.and_eq_true, Bool.and_eq_true, Bool.and_eq_true, Bool.and_eq_true, Bool.and_eq_true, Bool.and_eq_true, Bool.and_eq_true, Bool.and_eq_true] at h
      obtain ⟨⟨⟨⟨⟨⟨⟨⟨h0, h1⟩, h2⟩, h3⟩, h4⟩, h5⟩, h6⟩, h7⟩, h8⟩ := h
      have h0 := of_decide_eq_true h0
      subst h0
      refine so_se rfl (LcP.se D (g := g) (k := k) ⟨⟨ownOf c.N ws, of_decide_eq_true h1, ?_⟩, ?_, fun s H B cl fp => ?_, fun s H B cl fp => ?_, fun s H B cl fp => ?_, h7, fun i hi => ?_⟩)
      · rw [A.N, A.sc]
        exact blkOk_by h2
      · split at h4
        · rename_i es he
          exact itA_ok A D he (ckEs_ok ies _ A D h4)
        · cases h4
      · exact ckTg_ok (A.blk s H scope cl B fp) (D.blk s H scope _ fp) tg _ h3
      · exact ckTs_ok cs _ (A.blk s H scope cl B fp) (D.blk s H scope _ fp) h5
      · exact (ckE_ok t _ (A.blk s H scope cl B fp) (D.blk s H scope _ fp) h6).1
      · have := List.all_eq_true.mp h8 i hi
        exact List.contains_iff_mem.mp this
    · cases h
  | .callk j ts pm, X, c, e, A, D, h => by
    simp only [ckE] at h
    split at h
    · rw [Bool.and_eq_true, Bool.and_eq_true, Bool.and_eq_true, Bool.and_eq_true, Bool.and_eq_true, Bool.not_eq_true'] at h
      obtain ⟨⟨⟨⟨⟨h1, h2⟩, h3⟩, h4⟩, h5⟩, h6⟩ := h
      exact so_se rfl (callk_ok A D h1 h2 h3 (ckEs_ok ts _ A D h4) h5 h6)
    · cases h
  | .app i t, X, c, e, A, D, h => by
    simp only [ckE] at h
    split at h
    · rw [Bool.and_eq_true, Bool.and_eq_true, Bool.and_eq_true, Bool.and_eq_true, Bool.and_eq_true] at h
      obtain ⟨⟨⟨⟨⟨h1, h2⟩, h3⟩, h4⟩, h5⟩, h6⟩ := h
      have h1 := of_decide_eq_true h1
      subst h1
      exact so_se rfl (s_app (ckN_ok A h2) (ckE_ok t _ A D h6).1 h4 h3 h5)
    · cases h
  | .ext i ts, X, c, e, A, D, h => by
    simp only [ckE] at h
    split at h
    · rw [Bool.and_eq_true, Bool.and_eq_true, Bool.and_eq_true, Bool.and_eq_true] at h
      obtain ⟨⟨⟨⟨h1, h2⟩, h3⟩, h5⟩, h6⟩ := h
      have h1 := of_decide_eq_true h1
      subst h1
      obtain ⟨τ, rfl, n1, e1, o1⟩ := (ckEs_ok ts _ A D h6).one
      exact so_se rfl (s_ext (ckN_ok A h2) o1 n1 h3 h5)
    · cases h
  | .popl i, X, c, e, A, D, h => by
    simp only [ckE] at h
    split at h
    · rw [Bool.and_eq_true, Bool.and_eq_true, Bool.and_eq_true] at h
      obtain ⟨⟨⟨h1, h2⟩, h3⟩, h5⟩ := h
      have h1 := of_decide_eq_true h1
      subst h1
      exact so_se rfl (s_popl (ckN_ok A h2) h3 h5)
    · cases h
  | .fz t, X, c, e, A, D, h => by
    simp only [ckE] at h
    exact so_se rfl (s_fz (ckE_ok t _ A D h).1)
theorem ckEs_ok : ∀ (τs : List T) {X : Cx} {c : Cc} (es : List Expr), At X c → Gd X g C k → ckEs g τs c es = true → SOl X C es τs
  | [], X, c, es, A, D, h => by
    simp only [ckEs] at h
    cases es with
    | nil => exact rfl
    | cons _ _ => cases h
  | t :: ts, X, c, es, A, D, h => by
    simp only [ckEs] at h
    split at h
    · rw [Bool.and_eq_true, Bool.and_eq_true] at h
      obtain ⟨q1, q2⟩ := ckE_ok t _ A D h.1.2
      exact ⟨t, ts, rfl, h.1.1, q1, q2, ckEs_ok ts _ A D h.2⟩
    · cases h
theorem ckT_ok : ∀ (τ : T) {X : Cx} {c : Cc} (e : Expr), At X c → Gd X g C k → ckT g τ c e = true → STW X C e τ
  | .op o ts, X, c, e, A, D, h => by
    simp only [ckT] at h
    split at h
    · split at h
      · rename_i es he
        exact stw (ckOp_test A D he (ckEs_ok ts _ A D h)) (fun _ _ _ q => by cases q)
      · cases h
    · cases h
  | .and2 s t, X, c, e, A, D, h => by
    simp only [ckT] at h
    split at h
    · rw [Bool.and_eq_true] at h
      exact ⟨PW.pt (t_and (ckT_ok s _ A D h.1).1 (t_and1 (ckT_ok t _ A D h.2).1)), fun _ _ _ _ => t_and (ckT_ok s _ A D h.1).1 (t_and1 (ckT_ok t _ A D h.2).1)⟩
    · rw [Bool.and_eq_true] at h
      exact ⟨PW.pt (t_and (ckT_ok s _ A D h.1).1 ((ckT_ok t _ A D h.2).2 _ _ _ rfl)), fun _ _ _ _ => t_and (ckT_ok s _ A D h.1).1 ((ckT_ok t _ A D h.2).2 _ _ _ rfl)⟩
    · cases h
  | .or2 s t, X, c, e, A, D, h => by
    simp only [ckT] at h
    split at h
    · rw [Bool.and_eq_true] at h
      exact ⟨PW.pt (t_or (ckT_ok s _ A D h.1).1 (t_or1 (ckT_ok t _ A D h.2).1)), fun _ _ _ _ => t_or (ckT_ok s _ A D h.1).1 (t_or1 (ckT_ok t _ A D h.2).1)⟩
    · rw [Bool.and_eq_true] at h
      exact ⟨PW.pt (t_or (ckT_ok s _ A D h.1).1 ((ckT_ok t _ A D h.2).2 _ _ _ rfl)), fun _ _ _ _ => t_or (ckT_ok s _ A D h.1).1 ((ckT_ok t _ A D h.2).2 _ _ _ rfl)⟩
    · cases h
  | .chain o l ts us, X, c, e, A, D, h => by
    simp only [ckT] at h
    split at h
    · rw [Bool.and_eq_true, Bool.and_eq_true, Bool.and_eq_true, Bool.and_eq_true] at h
      obtain ⟨⟨⟨⟨h1, h2⟩, h3⟩, h4⟩, h5⟩ := h
      exact stw (chain_ok D h1 h2 h3 (ckEs_ok ts _ A D h4) (ckEs_ok us _ A D h5)).2 (fun _ _ _ q => by cases q)
    · cases h
  | .tt t, X, c, e, A, D, h => by
    simp only [ckT] at h
    rw [Bool.and_eq_true] at h
    exact stw (t_tt (ckE_ok t _ A D h.2).2 (plainT_ok h.1)) (fun _ _ _ q => by rw [q] at h; cases h.1)
  | .tn t, X, c, e, A, D, h => by
    simp only [ckT] at h
    split at h
    · exact stw (t_not (ckT_ok t _ A D h).1) (fun _ _ _ q => by cases q)
    · cases h
  | .c _, X, c, e, A, D, h => by simp only [ckT] at h; cases h
  | .nm _, X, c, e, A, D, h => by simp only [ckT] at h; cases h
  | .mv _, X, c, e, A, D, h => by simp only [ckT] at h; cases h
  | .tup _, X, c, e, A, D, h => by simp only [ckT] at h; cases h
  | .tupo _, X, c, e, A, D, h => by simp only [ckT] at h; cases h
  | .lst _, X, c, e, A, D, h => by simp only [ckT] at h; cases h
  | .mth _ _ _, X, c, e, A, D, h => by simp only [ckT] at h; cases h
  | .prj _ _, X, c, e, A, D, h => by simp only [ckT] at h; cases h
  | .sl _ _ _, X, c, e, A, D, h => by simp only [ckT] at h; cases h
  | .ite _ _ _, X, c, e, A, D, h => by simp only [ckT] at h; cases h
  | .call _ _, X, c, e, A, D, h => by simp only [ckT] at h; cases h
  | .lc _ _ _ _ _ _, X, c, e, A, D, h => by simp only [ckT] at h; cases h
  | .callk _ _ _, X, c, e, A, D, h => by simp only [ckT] at h; cases h
  | .app _ _, X, c, e, A, D, h => by simp only [ckT] at h; cases h
  | .ext _ _, X, c, e, A, D, h => by simp only [ckT] at h; cases h
  | .popl _, X, c, e, A, D, h => by simp only [ckT] at h; cases h
  | .fz _, X, c, e, A, D, h => by simp only [ckT] at h; cases h
theorem ckTs_ok : ∀ (τs : List T) {X : Cx} {c : Cc} (es : List Expr), At X c → Gd X g C k → ckTs g τs c es = true → PTs X es (tBs X.K C τs)
  | [], X, c, es, A, D, h => by
    simp only [ckTs] at h
    cases es with
    | nil => exact ts_nil
    | cons _ _ => cases h
  | t :: ts, X, c, es, A, D, h => by
    simp only [ckTs] at h
    split at h
    · rw [Bool.and_eq_true] at h
      cases ts with
      | nil => exact ts_one (ckT_ok t _ A D h.1).1
      | cons _ _ => cases h.2
    · cases h
end
end
end Qv
end
section
set_option Elab.async false
set_option linter.all false
set_option maxRecDepth 100000
set_option maxHeartbeats 4000000
/-! Q17: statements held against terms. -/
namespace Qv
open PySem PySem.Spec PyProof.Rows L2

def fnk (sc : Scope) : Bool := match sc.kind with | .function => true | _ => false
theorem fnk_ok {sc : Scope} (h : fnk sc = true) : sc.kind = .function := by
  unfold fnk at h
  split at h
  · assumption
  · cases h
def swNames (sc : Scope) (ts : List Expr) : List Str :=
  ts.filterMap fun
    | .Name id pos => if sc.names.lookup id == some .local && pos.line == (ts.head?.map (·.pos.line)).getD 0 then some id else none
    | _ => none
def swM (sc : Scope) (ts vs : List Expr) : Option (Option (List Str)) :=
  if (!(ts.length == 2 || ts.length == 3) || vs.length != ts.length) = true then some none
  else if (vs.any fun | .Starred .. => true | _ => false) = true then some none
  else if ((swNames sc ts).length != ts.length || (swNames sc ts).eraseDups.length != (swNames sc ts).length) = true then some none
  else if vs.all (foldedForSure 8) = true then some none
  else if vs.all (constantsAlone 8) = true then none
  else some (some (swNames sc ts))
theorem bk_ok {env : PySem.Env} (h : env.scope.kind = .function) : env.blockKind = .function := by
  unfold Env.blockKind
  rw [h]
  rfl
theorem swM_ok {env : PySem.Env} {ts vs : List Expr} {k k2 : Nat} {p p2 : Pos} {r : Option (List Str)} (hk : env.scope.kind = .function) (h : swM env.scope ts vs = some r) : swappedStores [.Tuple ts k p] (.Tuple vs k2 p2) env = pure r := by
  unfold swM at h
  unfold swappedStores
  have hb := bk_ok hk
  have he : (env.blockKind != ScopeKind.function) = false := by rw [hb]; rfl
  dsimp only
  rw [he, Bool.or_false]
  split at h
  · rename_i q
    cases h
    exact if_pos q
  · rename_i q
    refine (if_neg q).trans ?_
    split at h
    · rename_i q
      cases h
      exact if_pos q
    · rename_i q
      refine (if_neg q).trans ?_
      split at h
      · rename_i q
        cases h
        exact if_pos q
      · rename_i q
        refine (if_neg q).trans ?_
        split at h
        · rename_i q
          cases h
          exact if_pos q
        · rename_i q
          refine (if_neg q).trans ?_
          split at h
          · cases h
          · rename_i q
            cases h
            exact if_neg q
/-- the plain way of storing -/
def swN (sc : Scope) : Expr → Expr → Bool
  | .Tuple ts _ _, .Tuple vs _ _ => fnk sc && (match swM sc ts vs with | some none => true | _ => false)
  | .List _ _, .Tuple _ _ _ => false
  | _, _ => true
theorem swN_ok {env : PySem.Env} {t v : Expr} (h : swN env.scope t v = true) : swappedStores [t] v env = pure none := by
  unfold swN at h
  split at h
  · rw [Bool.and_eq_true] at h
    obtain ⟨h1, h2⟩ := h
    split at h2
    · rename_i q
      exact swM_ok (fnk_ok h1) q
    · cases h2
  · cases h
  · rename_i n1 n2
    unfold swappedStores
    split
    · rename_i q
      split at q
      · rename_i e1
        injection e1 with e1 _
        exact (n1 _ _ _ _ _ _ e1 rfl).elim
      · rename_i e1
        injection e1 with e1 _
        exact (n2 _ _ _ _ _ e1 rfl).elim
      · cases q
    · rfl
/-- a comprehension's value goes into a name on its line -/
def swLc (sc : Scope) (t : Expr) (scope : Scope) (vline : Nat) : Bool := match t with
  | .Name y py => fnk sc && (sc.names.lookup y == some .local) && py.line == vline && !(scope.names.any fun (n, k) => n == y && (k == .local || k == .cell))
  | _ => false
mutual
def ckTa (g : Pg) (c : Cc) : Ta → Expr → Bool
  | .nm i, e => match e with
    | .Name x _ => ckLoc c i x
    | _ => false
  | .tp ts, e => match e with
    | .Tuple es _ _ => ckTas g c ts es
    | _ => false
  | .st i t, e => match e with
    | .Subscript o x _ => ckN c i o && ckE g t c x && noslice x
    | _ => false
def ckTas (g : Pg) (c : Cc) : List Ta → List Expr → Bool
  | [], es => es.isEmpty
  | t :: ts, es => match es with
    | e :: es => nostar e && ckTa g c t e && ckTas g c ts es
    | [] => false
end
def isComp : Expr → Option Scope
  | .ListComp _ _ s _ => some s
  | _ => none
def okRhs (sc : Scope) (ta : Ta) (t v : Expr) : Bool :=
  nocomp v || (match isComp v with
    | some s => if fnk sc then (match ta with
      | .nm _ => true
      | _ => !(swLc sc t s v.pos.line)) else false
    | none => false)
def nofz : T → Bool
  | .fz _ => false
  | _ => true
mutual
def ckS (g : Pg) (c : Cc) (kp : List Nat) : S → Stmt → Bool
  | .asg ta e, st => match st with
    | .Assign [t] v _ => ckTa g c ta t && (taSlots ta).all (fun i => !kp.contains i) && swN c.sc t v && ckE g e c v && okRhs c.sc ta t v && (nocomp v || nofz e)
    | _ => false
  | .par is es, st => match st with
    | .Assign [.Tuple [.Name x px, .Name y py] kt pt] (.Tuple [a, b] k2 pt2) _ => (match is with
      | [i, j] => decide (c.N[i]? = some x) && decide (c.N[j]? = some y) && decide (i ≠ j) && decide (c.sc.names.lookup x = some .local) && decide (c.sc.names.lookup y = some .local) && fnk c.sc &&
        decide (swM c.sc [.Name x px, .Name y py] [a, b] = some (some [x, y])) && ckEs g es c [a, b] && !kp.contains i && !kp.contains j
      | _ => false)
    | .Assign [.Tuple [.Name x px, .Name y py, .Name z pz] kt pt] (.Tuple [a, b, d] k2 pt2) _ => (match is with
      | [i, j, l] => decide (c.N[i]? = some x) && decide (c.N[j]? = some y) && decide (c.N[l]? = some z) && decide (i ≠ j) && decide (i ≠ l) && decide (j ≠ l) && decide (c.sc.names.lookup x = some .local) && decide (c.sc.names.lookup y = some .local) &&
        decide (c.sc.names.lookup z = some .local) && fnk c.sc && decide (swM c.sc [.Name x px, .Name y py, .Name z pz] [a, b, d] = some (some [x, y, z])) && ckEs g es c [a, b, d] && !kp.contains i && !kp.contains j && !kp.contains l
      | _ => false)
    | _ => false
  | .ex e, st => match st with
    | .Expr v _ => nocomp v && ckE g e c v
    | _ => false
  | .ite q a b, st => match st with
    | .If x y z _ => ckT g q c x && ckSs g c kp a y && ckSs g c kp b z
    | _ => false
  | .wh q b, st => match st with
    | .While x y [] _ => ckT g q c x && ckSs g c kp b y
    | _ => false
  | .fr t ik ies b, st => match st with
    | .For tg iter y [] _ => ckTg c t tg && (match itA c tg ik iter with | some es => ckEs g ies c es | none => false) && ckSs g c kp b y && noset iter && (tgSlots t).all (fun i => !kp.contains i)
    | _ => false
  | .ret e, st => match st with
    | .Return (some v) _ => ckE g e c v
    | _ => false
  | .pass, st => match st with
    | .Pass _ => true
    | _ => false
  | .brk, st => match st with
    | .Break _ => true
    | _ => false
  | .cont, st => match st with
    | .Continue _ => true
    | _ => false
  | .raise, _ => true
  | .augs i t u, st => match st with
    | .AugAssign (.Subscript o x _) .Add v _ => ckN c i o && ckE g t c x && noslice x && ckE g u c v
    | _ => false
def ckSs (g : Pg) (c : Cc) (kp : List Nat) : List S → List Stmt → Bool
  | [], sts => sts.isEmpty
  | s :: ss, sts => match sts with
    | st :: sts => ckS g c kp s st && ckSs g c kp ss sts
    | [] => false
end
section
variable {C : Cal} {g : Pg} {k : Nat} {X : Cx} {c : Cc} {kp : List Nat}
theorem lcP_ok {ws : List Nat} {tg : Tg} {ik : IK} {ies cs : List T} {t : T} {elt tg' iter : Expr} {ifs : List Expr} {scope : Scope} {ia : Int} {pos : Pos} (A : At X c) (D : Gd X g C k) (h : ckE g (.lc ws tg ik ies cs t) c (.ListComp elt [⟨tg', iter, ifs, ia⟩] scope pos) = true) :
    ia = 0 ∧ LcP X C elt tg' iter ifs scope ws tg ik ies cs t := by
  simp only [ckE] at h
  rw [Bool.and_eq_true, Bool.and_eq_true, Bool.and_eq_true, Bool.and_eq_true, Bool.and_eq_true, Bool.and_eq_true, Bool.and_eq_true, Bool.and_eq_true] at h
  obtain ⟨⟨⟨⟨⟨⟨⟨⟨h0, h1⟩, h2⟩, h3⟩, h4⟩, h5⟩, h6⟩, h7⟩, h8⟩ := h
  refine ⟨of_decide_eq_true h0, ⟨ownOf c.N ws, of_decide_eq_true h1, ?_⟩, ?_, fun s H B cl fp => ?_, fun s H B cl fp => ?_, fun s H B cl fp => ?_, h7, fun i hi => ?_⟩
  · rw [A.N, A.sc]
    exact blkOk_by h2
  · split at h4
    · rename_i es he
      exact itA_ok A D he (ckEs_ok ies _ A D h4)
    · cases h4
  · exact ckTg_ok (A.blk s H scope cl B fp) (D.blk s H scope _ fp) tg _ h3
  · exact ckTs_ok cs _ (A.blk s H scope cl B fp) (D.blk s H scope _ fp) h5
  · exact (ckE_ok t _ (A.blk s H scope cl B fp) (D.blk s H scope _ fp) h6).1
  · have := List.all_eq_true.mp h8 i hi
    exact List.contains_iff_mem.mp this
mutual
theorem ckTa_ok (A : At X c) (D : Gd X g C k) : ∀ (t : Ta) (e : Expr), ckTa g c t e = true → PG X e (gA X.K C t)
  | .nm i, e, h => by
    simp only [ckTa] at h
    split at h
    · obtain ⟨h1, h2, h3⟩ := ckLoc_ok A h
      exact a_name D.nd h1 h2 h3
    · cases h
  | .tp ts, e, h => by
    simp only [ckTa] at h
    split at h
    · obtain ⟨q1, q2, q3⟩ := ckTas_ok A D ts _ h
      obtain ⟨l1, l2⟩ := assign_len (env := X.env) q2
      exact a_tup D.calm q1 (by rw [l1, q3]) l2
    · cases h
  | .st i t, e, h => by
    simp only [ckTa] at h
    split at h
    · rw [Bool.and_eq_true, Bool.and_eq_true] at h
      exact a_st (ckN_ok A h.1.1) (ckE_ok t _ A D h.1.2).2 (sub_ok h.2)
    · cases h
theorem ckTas_ok (A : At X c) (D : Gd X g C k) : ∀ (t : List Ta) (e : List Expr), ckTas g c t e = true → PGs X e (gAs X.K C t) ∧ e.all nostar = true ∧ e.length = t.length
  | [], e, h => by
    simp only [ckTas] at h
    cases e with
    | nil => exact ⟨a_nil, rfl, rfl⟩
    | cons _ _ => cases h
  | t :: ts, e, h => by
    simp only [ckTas] at h
    split at h
    · simp only [Bool.and_eq_true] at h
      obtain ⟨⟨h1, h2⟩, h3⟩ := h
      obtain ⟨q1, q2, q3⟩ := ckTas_ok A D ts _ h3
      refine ⟨a_cons (ckTa_ok A D t _ h2) q1 (by rw [assign1 h1]; rfl), by rw [List.all_cons, h1, q2]; rfl, by rw [List.length_cons, List.length_cons, q3]⟩
    · cases h
end
theorem aug_ok {x : Expr} (h : noslice x = true) (ov iv new : Value) : augStore x ov iv new = (do holding [new, ov, iv] (setItem ov iv new); release [new, ov, iv] []; pure .next) := by
  cases x <;> first | rfl | cases h
theorem ckTa_star {ta : Ta} {t : Expr} (h : ckTa g c ta t = true) : nostar t = true := by
  cases ta <;> cases t <;> first | rfl | (simp only [ckTa] at h; cases h)
theorem kp_ok {is : List Nat} (h : is.all (fun i => !kp.contains i) = true) : ∀ i ∈ is, i ∉ kp := fun i hi m => by
  have q := List.all_eq_true.mp h i hi
  rw [List.contains_iff_mem.mpr m] at q
  cases q
theorem kp1 {i : Nat} (h : (!kp.contains i) = true) : i ∉ kp := fun m => by
  rw [List.contains_iff_mem.mpr m] at h
  cases h
theorem asg_ok (A : At X c) (D : Gd X g C k) {ta : Ta} {e : T} {t v : Expr} {pos : Pos} (h1 : ckTa g c ta t = true) (h2 : (taSlots ta).all (fun i => !kp.contains i) = true) (h3 : swN c.sc t v = true) (h4 : ckE g e c v = true) (h5 : okRhs c.sc ta t v = true) (h6 : (nocomp v || nofz e) = true) :
    SS X C kp (.Assign [t] v pos) (.asg ta e) := by
  have hN : (assignEach [t] X.env).map (·.2) = [assign t X.env] := by rw [assign1 (ckTa_star h1)]; rfl
  have hw : swappedStores [t] v X.env = pure none := swN_ok (by rw [A.sc]; exact h3)
  have plain : swapsWith v (some t) pos.line X.env = pure false → SS X C kp (.Assign [t] v pos) (.asg ta e) := fun hs =>
    ss_asg (ckE_ok e _ A D h4).1 (ckTa_ok A D ta _ h1) hs hw hN (kp_ok h2)
  unfold okRhs at h5
  rw [Bool.or_eq_true] at h5
  rcases h5 with h5 | h5
  · exact plain (swaps_ok h5)
  · split at h5
    · rename_i s hs
      split at h5
      · rename_i hf
        have hk := fnk_ok hf
        have hb : X.env.blockKind = .function := bk_ok (by rw [A.sc]; exact hk)
        cases v with
        | ListComp elt gens s2 p2 =>
          cases hs
          have val : ∀ y py, swapsWith (.ListComp elt gens s p2) (some (.Name y py)) pos.line X.env = pure (swLc c.sc (.Name y py) s p2.line) := fun y py => by
            unfold swapsWith swLc
            dsimp only
            rw [hb, hf]
            show pure _ = _
            rw [show X.env.kindOf y = c.sc.names.lookup y by rw [← A.sc]; rfl]
            rfl
          have other : (∀ y py, t ≠ .Name y py) → swapsWith (.ListComp elt gens s p2) (some t) pos.line X.env = pure false := fun n => by
            unfold swapsWith
            cases t <;> first | rfl | exact absurd rfl (n _ _)
          cases ta with
          | nm i =>
            cases t with
            | Name y py =>
              cases q : swLc c.sc (.Name y py) s p2.line with
              | false => exact plain (by rw [val, q])
              | true =>
                have hsw := val y py
                rw [q] at hsw
                obtain ⟨l1, l2, l3⟩ := ckLoc_ok A (show ckLoc c i y = true by simpa only [ckTa] using h1)
                have hl : X.env.scope.names.lookup y = some .local := by
                  unfold swLc at q
                  simp only [Bool.and_eq_true] at q
                  rw [A.sc]
                  exact eq_of_beq q.1.1.2
                cases e with
                | lc ws tg ik ies cs τ =>
                  match gens, h4 with
                  | [⟨tg', iter, ifs, ia⟩], h4 =>
                    obtain ⟨rfl, ⟨⟨own, rfl, ok⟩, it, tgp, ip, ep, st, sl⟩⟩ := lcP_ok A D h4
                    exact ss_setLc D.calm D.nd l1 hl hsw it ok tgp ip ep (fold_ok st) sl (kp_ok h2 i (by simp only [taSlots]; exact List.mem_cons_self))
                  | [], h4 => simp only [ckE] at h4; cases h4
                  | ⟨_, _, _, _⟩ :: _ :: _, h4 => simp only [ckE] at h4; cases h4
                | c d => simp only [ckE] at h4; cases h4
                | nm j => simp only [ckE] at h4; cases h4
                | mv j => simp only [ckE] at h4; cases h4
                | op o ts => simp only [ckE, ckOp] at h4; cases h4
                | fz τ =>
                  rw [Bool.or_eq_true] at h6
                  rcases h6 with h6 | h6
                  · exact plain (swaps_ok h6)
                  · cases h6
                | _ => simp only [ckE] at h4; cases h4
            | _ => exact plain (other fun y py e => by cases e)
          | tp ts => 
            cases t with
            | Name y py => simp only [ckTa] at h1; cases h1
            | _ => exact plain (other fun y py e => by cases e)
          | st i j =>
            cases t with
            | Name y py => simp only [ckTa] at h1; cases h1
            | _ => exact plain (other fun y py e => by cases e)
        | _ => cases hs
      · cases h5
    · cases h5
mutual
theorem ckS_ok (A : At X c) (D : Gd X g C k) : ∀ (s : S) (st : Stmt), ckS g c kp s st = true → SS X C kp st s
  | .asg ta e, st, h => by
    simp only [ckS] at h
    split at h
    · rw [Bool.and_eq_true, Bool.and_eq_true, Bool.and_eq_true, Bool.and_eq_true, Bool.and_eq_true] at h
      obtain ⟨⟨⟨⟨⟨h1, h2⟩, h3⟩, h4⟩, h5⟩, h6⟩ := h
      exact asg_ok A D h1 h2 h3 h4 h5 h6
    · cases h
  | .par is es, st, h => by
    simp only [ckS] at h
    split at h
    · split at h
      · simp only [Bool.and_eq_true, decide_eq_true_eq] at h
        obtain ⟨⟨⟨⟨⟨⟨⟨⟨⟨h1, h2⟩, h3⟩, h4⟩, h5⟩, h6⟩, h7⟩, h8⟩, h9⟩, h10⟩ := h
        have q := ckEs_ok es _ A D h8
        obtain ⟨τ, τ', rfl, _⟩ := q.two
        have ss := q.ss
        exact ss_par2 D.calm D.nd (by rw [A.N]; exact h1) (by rw [A.N]; exact h2) h3 (by rw [A.sc]; exact h4) (by rw [A.sc]; exact h5) ss (swM_ok (by rw [A.sc]; exact fnk_ok h6) (by rw [A.sc]; exact h7)) rfl ⟨kp1 h9, kp1 h10⟩
      · cases h
    · split at h
      · simp only [Bool.and_eq_true, decide_eq_true_eq] at h
        obtain ⟨⟨⟨⟨⟨⟨⟨⟨⟨⟨⟨⟨⟨⟨h1, h2⟩, h3⟩, h4⟩, h5⟩, h6⟩, h7⟩, h8⟩, h9⟩, h10⟩, h11⟩, h12⟩, h13⟩, h14⟩, h15⟩ := h
        have q := ckEs_ok es _ A D h12
        obtain ⟨τ, r, rfl, _, _, _, q2⟩ := id q
        obtain ⟨τ', τ2, rfl, _⟩ := q2.two
        have ss := q.ss
        exact ss_par3 D.calm D.nd (by rw [A.N]; exact h1) (by rw [A.N]; exact h2) (by rw [A.N]; exact h3) h4 h5 h6 (by rw [A.sc]; exact h7) (by rw [A.sc]; exact h8) (by rw [A.sc]; exact h9) ss (swM_ok (by rw [A.sc]; exact fnk_ok h10) (by rw [A.sc]; exact h11)) rfl ⟨kp1 h13, kp1 h14, kp1 h15⟩
      · cases h
    · cases h
  | .ex e, st, h => by
    simp only [ckS] at h
    split at h
    · rw [Bool.and_eq_true] at h
      exact ss_ex (ckE_ok e _ A D h.2).1 (swaps_ok h.1)
    · cases h
  | .ite q a b, st, h => by
    simp only [ckS] at h
    split at h
    · rw [Bool.and_eq_true, Bool.and_eq_true] at h
      exact ss_if (ckT_ok q _ A D h.1.1).1 (ckSs_ok A D a _ h.1.2) (ckSs_ok A D b _ h.2)
    · cases h
  | .wh q b, st, h => by
    simp only [ckS] at h
    split at h
    · rw [Bool.and_eq_true] at h
      exact ss_while D.xe (ckT_ok q _ A D h.1).1 (ckSs_ok A D b _ h.2)
    · cases h
  | .fr t ik ies b, st, h => by
    simp only [ckS] at h
    split at h
    · rw [Bool.and_eq_true, Bool.and_eq_true, Bool.and_eq_true, Bool.and_eq_true] at h
      obtain ⟨⟨⟨⟨h1, h2⟩, h3⟩, h4⟩, h5⟩ := h
      refine ss_for D.xe D.calm ?_ (ckTg_ok A D t _ h1) (ckSs_ok A D b _ h3) (fold_ok h4) (kp_ok h5)
      split at h2
      · rename_i es he
        exact itA_ok A D he (ckEs_ok ies _ A D h2)
      · cases h2
    · cases h
  | .ret e, st, h => by
    simp only [ckS] at h
    split at h
    · exact ss_ret (ckE_ok e _ A D h).1
    · cases h
  | .pass, st, h => by
    simp only [ckS] at h
    split at h
    · exact ss_pass
    · cases h
  | .brk, st, h => by
    simp only [ckS] at h
    split at h
    · exact ss_brk
    · cases h
  | .cont, st, h => by
    simp only [ckS] at h
    split at h
    · exact ss_cont
    · cases h
  | .raise, st, h => ss_raise
  | .augs i t u, st, h => by
    simp only [ckS] at h
    split at h
    · rw [Bool.and_eq_true, Bool.and_eq_true, Bool.and_eq_true] at h
      obtain ⟨⟨⟨h1, h2⟩, h3⟩, h4⟩ := h
      exact ss_augs (ckN_ok A h1) (ckE_ok t _ A D h2).2 (ckE_ok u _ A D h4).1 (aug_ok h3)
    · cases h
theorem ckSs_ok (A : At X c) (D : Gd X g C k) : ∀ (s : List S) (st : List Stmt), ckSs g c kp s st = true → SB X C kp st s
  | [], st, h => by
    simp only [ckSs] at h
    cases st with
    | nil => exact b_nil
    | cons _ _ => cases h
  | s :: ss, st, h => by
    simp only [ckSs] at h
    split at h
    · rw [Bool.and_eq_true] at h
      exact b_cons (ckS_ok A D s _ h.1) (ckSs_ok A D ss _ h.2)
    · cases h
end
end
end Qv
end
section
set_option Elab.async false
set_option linter.all false
set_option maxRecDepth 100000
set_option maxHeartbeats 4000000
/-! Q18: a def's body keeps the def's promise. -/
namespace Qv
open PySem PySem.Spec PyProof.Rows L2

theorem heldAll_len : ∀ {os : List O} {i : Nat} {as : List Nat} {ρ : Env} {os2 : List O}, heldAll i as os ρ = some os2 → os2.length = os.length
  | [], i, as, ρ, os2, h => by
    simp only [heldAll] at h
    cases h
    rfl
  | o :: os, i, as, ρ, os2, h => by
    simp only [heldAll] at h
    split at h
    · cases h
    · rename_i r hr
      have q := heldAll_len hr
      split at h
      · cases h
        rw [List.length_cons, List.length_cons, q]
      · split at h
        · cases h
          rw [List.length_cons, List.length_cons, q]
        · cases h
theorem runF_fair {P : List Fd} : ∀ k, Fair (runF P k)
  | 0 => fun f os o os2 h => by simp only [runF] at h; cases h
  | k + 1 => fun f os o os2 h => by
    simp only [runF] at h
    split at h
    · cases h
    · split at h
      · split at h
        · rw [Option.map_eq_some_iff] at h
          obtain ⟨r, h1, h2⟩ := h
          cases h2
          exact heldAll_len h1
        · rw [Option.map_eq_some_iff] at h
          obtain ⟨r, h1, h2⟩ := h
          cases h2
          exact heldAll_len h1
        · cases h
      · cases h

section
variable {K : Frag} {H : Hp} {L M T : List En} {ρ : Env} {σ : L2.St}
/-- what is kept of the parameters that change -/
def aEns : Nat → List Nat → List O → List V → List En
  | i, as, o :: os, v :: vs => (if as.contains i then [(some (.sh o.d), v)] else []) ++ aEns (i + 1) as os vs
  | _, _, _, _ => []
theorem live_nones : ∀ n : Nat, live (List.replicate n none) (List.replicate n none) = []
  | 0 => rfl
  | n + 1 => live_nones n
theorem cov_nones : ∀ n : Nat, Cov (List.replicate n none) (List.replicate n none)
  | 0 => trivial
  | n + 1 => cov_nones n
theorem start_run {n : Nat} {as : List Nat} : ∀ {os : List O} {vs : List V} {i : Nat} {L : List En}, os.length = vs.length → Wd K H (ens os vs ++ L) →
    Cov (startAll i as os ++ List.replicate n none) (vs.map some ++ List.replicate n none) ∧ Wd K H (aEns i as os vs ++ (live (startAll i as os ++ List.replicate n none) (vs.map some ++ List.replicate n none) ++ L))
  | [], [], i, L, _, w => by
    refine ⟨cov_nones n, ?_⟩
    show Wd K H ([] ++ (live (List.replicate n none) (List.replicate n none) ++ L))
    rw [live_nones]
    exact w
  | o :: os, v :: vs, i, L, l, w => by
    have w : Wd K H ((some o, v) :: (ens os vs ++ L)) := w
    have l : os.length = vs.length := by simpa using l
    by_cases q : as.contains i = true
    · have w2 : Wd K H (ens os vs ++ ((some (.sh o.d), v) :: (some (.sh o.d), v) :: L)) := by
        refine w.fz.dup.perm ?_
        exact (List.Perm.cons _ List.perm_middle.symm).trans List.perm_middle.symm
      obtain ⟨c, w3⟩ := start_run (n := n) (as := as) (i := i + 1) l w2
      simp only [startAll, aEns, q, if_true]
      refine ⟨c, w3.perm ?_⟩
      show (aEns (i + 1) as os vs ++ (live (startAll (i + 1) as os ++ List.replicate n none) (vs.map some ++ List.replicate n none) ++ ((some (.sh o.d), v) :: (some (.sh o.d), v) :: L))).Perm
        ((some (.sh o.d), v) :: (aEns (i + 1) as os vs ++ ((some (.sh o.d), v) :: (live (startAll (i + 1) as os ++ List.replicate n none) (vs.map some ++ List.replicate n none) ++ L))))
      generalize aEns (i + 1) as os vs = X1
      generalize live (startAll (i + 1) as os ++ List.replicate n none) (vs.map some ++ List.replicate n none) = X2
      have p1 : (X2 ++ ((some (O.sh o.d), v) :: (some (O.sh o.d), v) :: L)).Perm ((some (O.sh o.d), v) :: (some (O.sh o.d), v) :: (X2 ++ L)) := List.perm_middle.trans (List.Perm.cons _ List.perm_middle)
      exact (p1.append_left X1).trans List.perm_middle
    · have w2 : Wd K H (ens os vs ++ ((some o, v) :: L)) := w.perm List.perm_middle.symm
      obtain ⟨c, w3⟩ := start_run (n := n) (as := as) (i := i + 1) l w2
      have q : as.contains i = false := by simpa using q
      simp only [startAll, aEns, q, Bool.false_eq_true, if_false, List.nil_append]
      refine ⟨c, w3.perm ?_⟩
      refine List.Perm.append_left _ ?_
      exact List.perm_middle
  | [], _ :: _, _, _, l, _ => by cases l
  | _ :: _, [], _, _, l, _ => by cases l
theorem heldAll_set {as : List Nat} : ∀ {os : List O} {i j : Nat} {ρ : Env}, j < i → heldAll i as os (ρ.set j none) = heldAll i as os ρ
  | [], i, j, ρ, _ => rfl
  | o :: os, i, j, ρ, h => by
    simp only [heldAll]
    rw [heldAll_set (by omega), List.getElem?_set_ne (by omega)]
theorem end_run {as : List Nat} : ∀ {os : List O} {vs : List V} {i : Nat} {ρ : Env} {T : List En} {os2 : List O}, os.length = vs.length → heldAll i as os ρ = some os2 → (∀ j v, vs[j]? = some v → as.contains (i + j) = false → σ[i + j]? = some (some v)) →
    Ws K H (aEns i as os vs ++ T) ρ σ → ∃ ρ', Ws K H (ens os2 vs ++ T) ρ' σ
  | [], [], i, ρ, T, os2, _, h, _, w => by
    simp only [heldAll] at h
    cases h
    exact ⟨ρ, w⟩
  | o :: os, v :: vs, i, ρ, T, os2, l, h, hs, w => by
    have l : os.length = vs.length := by simpa using l
    have hs2 : ∀ j u, vs[j]? = some u → as.contains (i + 1 + j) = false → σ[i + 1 + j]? = some (some u) := fun j u e c => by
      have e1 : i + 1 + j = i + (j + 1) := by omega
      rw [e1] at c ⊢
      exact hs (j + 1) u (by simpa using e) c
    simp only [heldAll] at h
    split at h
    · cases h
    · rename_i r hr
      split at h
      · rename_i q
        cases h
        simp only [aEns, q, if_true, List.cons_append, List.nil_append] at w
        have w2 : Ws K H (aEns (i + 1) as os vs ++ ((some (.sh o.d), v) :: T)) ρ σ := w.mono List.perm_middle.symm
        obtain ⟨ρ', w3⟩ := end_run l hr hs2 w2
        exact ⟨ρ', w3.mono List.perm_middle⟩
      · rename_i q
        have q : as.contains i = false := by simpa using q
        split at h
        · rename_i o2 h2
          cases h
          simp only [aEns, q, Bool.false_eq_true, if_false, List.nil_append] at w
          obtain ⟨u, hu, w2⟩ := w.take h2
          have hv := hs 0 v rfl q
          rw [Nat.add_zero, hu] at hv
          cases hv
          have w3 : Ws K H (aEns (i + 1) as os vs ++ ((some o2, v) :: T)) (ρ.set i none) σ := w2.mono List.perm_middle.symm
          obtain ⟨ρ', w4⟩ := end_run l (by rw [heldAll_set (Nat.lt_succ_self i)]; exact hr) hs2 w3
          exact ⟨ρ', w4.mono List.perm_middle⟩
        · cases h
  | [], _ :: _, _, _, _, _, l, _, _, _ => by cases l
  | _ :: _, [], _, _, _, _, l, _, _, _ => by cases l
theorem Ws.unlive (h : Ws K H M ρ σ) : Wd K H M := by
  have q := h.2.perm (List.perm_append_comm)
  exact Wd.dropL _ q
end

/-- the context of a body in which nothing is raised -/
def cxF (P : Program) (w : World) (K : Frag) (mg : Str → Option Value) (base : Heap) (N : List Str) (qual : Str) (scope : Scope) (f : Addr) (cd : Value) (A : Around) (outer : List PySem.Env) (s : Shared) (H : Hp) : Cx :=
  { cxOf (fun _ _ _ _ _ _ => False) P w K mg base N qual scope f cd A outer s H (fun _ _ _ => False) with xe := fun _ _ => False }
def kpOf (fd : Fd) : List Nat := (List.range fd.np).filter fun i => !fd.asgd.contains i
theorem startSt {N : List Str} {vs : List V} {n : Nat} (h : n = N.length - vs.length) : start N vs = vs.map some ++ List.replicate n none := by
  rw [h]
  rfl
theorem fnG_of {P : Program} {w : World} {K : Frag} {mg : Str → Option Value} {base : Heap} {k j : Nat} {f : Addr} {name qual : Str} {params : Arguments} {body : List Stmt} {scope : Scope} {dV kV doc pm cdv ct oc : Value} {an od : Option Addr}
    {osl : Array (Option Value)} {N ps : List Str} {pgm : List Fd} {fd : Fd} {g : Pg} (lk : K.lookup f = some ⟨oc, od, .func (PySem.W.fnOf name qual params body scope dV kV doc pm an cdv ct), osl⟩) (hcd : PySem.W.codeIn K cdv qual = true) (S : FnScope N ps scope)
    (hj : pgm[j]? = some fd) (hnp : fd.np = ps.length) (hns : fd.ns = N.length) (hck : ckSs g ⟨N, scope, fun _ => true⟩ (kpOf fd) fd.body body = true)
    (hgd : ∀ (A : Around) (outer : List PySem.Env) (s : Shared) (H : Hp), Room k (A.deeper (envOfC qual scope s.heap.objs.size f cdv)) → A.guards = some [] → Gd (cxF P w K mg base N qual scope f cdv A outer s H) g (runF pgm k) k) :
    FnG P w K mg base (k + 1) f (PySem.W.fnOf name qual params body scope dV kV doc pm an cdv ct) ps (spF K (runF pgm (k + 1) j)) := by
  have len : ∀ vs H Q E, spF K (runF pgm (k + 1) j) vs H Q E → vs.length = ps.length := fun vs H Q E h => by
    obtain ⟨os, o, os2, L, h1, h2, _, _⟩ := h
    simp only [runF, hj] at h1
    split at h1
    · rename_i q
      rw [← h2, q, hnp]
    · cases h1
  refine ⟨len, fun A outer s H args us vs Q E hr hgu e0 hb r hsp => ?_⟩
  have hl := len _ _ _ _ hsp
  obtain ⟨os, o, os2, L, h1, h2, wd, z⟩ := hsp
  simp only [runF, hj] at h1
  split at h1
  case isFalse => cases h1
  rename_i hnl
  have KX : K.In s.heap := e0.mod.kin.keeps fun b u e => (e0.bs b u e).1
  have lim : s.heap.NoLimit := e0.mod.nolimit.keeps fun b u e => (e0.bs b u e).1
  have hkind : ∀ y ∈ ps.zip us, scope.names.lookup y.1 = some .local ∨ (scope.names.lookup y.1 = some .cell ∧ ((cellsFrom (s.heap.objs.size + 1) scope.names []).lookup y.1).isSome = true) := fun ⟨n, u⟩ hy => by
    cases S.par n (List.of_mem_zip hy).1 with
    | inl q => exact .inl q
    | inr q => exact .inr ⟨q, PySem.W.cellsFrom_some _ _ _ (.inl q)⟩
  have pend := hb (model P w) A.in1
  refine codeAny_call_function (hr.depth) (KX _ _ lk) rfl (S.co) S.gen rfl (PySem.W.codeRec_of KX hcd) (pend _ _ ?_)
  refine wpAny_newFunctionEnv_cells (S.kind) hkind fun env he s1 x => ?_
  subst he
  refine ⟨lim.keeps x.toInCall.keep, codeAny_func ?_⟩
  have I0 := inv_start (CX := fun _ _ _ _ _ _ => False) (P := P) (w := w) (K := K) (mg := mg) (base := base) (qual := qual) (f := f) (cd := cdv) (outer := outer) (E := fun _ _ _ => False) S hr.hd e0 hl r x
  have I : Inv (cxF P w K mg base N qual scope f cdv A outer s H) [] (start N vs) H s1 :=
    ⟨⟨I0.ok.1, I0.ok.2, I0.ok.3, I0.ok.4, I0.ok.5, I0.ok.6, I0.ok.7, I0.ok.8, I0.ok.9, I0.ok.10, I0.ok.11, I0.ok.12, I0.ok.13, I0.ok.14, I0.ok.15, I0.ok.16, I0.ok.17, I0.ok.18⟩, I0.2, I0.3, I0.4, I0.5, I0.6, I0.7, I0.8, I0.9, I0.10, I0.11⟩
  have D := hgd A outer s H (hr.deeper _) hgu
  have ht : SB (cxF P w K mg base N qual scope f cdv A outer s H) (runF pgm k) (kpOf fd) body fd.body := ckSs_ok ⟨rfl, rfl, rfl⟩ D fd.body body hck
  have hnn : fd.ns - fd.np = N.length - vs.length := by rw [hns, hnp, hl]
  have st := startSt (N := N) (vs := vs) hnn
  obtain ⟨cov, w0⟩ := start_run (n := fd.ns - fd.np) (as := fd.asgd) (i := 0) h2 wd
  have w1 : Ws K H (aEns 0 fd.asgd os vs ++ L) (startAll 0 fd.asgd os ++ List.replicate (fd.ns - fd.np) none) (start N vs) := by
    rw [st]
    refine ⟨cov, w0.perm ?_⟩
    rw [List.append_assoc]
    exact List.perm_append_comm.append_left _
  have atKp : ∀ σ' : L2.St, Kp (kpOf fd) (start N vs) σ' → ∀ j v, vs[j]? = some v → fd.asgd.contains (0 + j) = false → σ'[0 + j]? = some (some v) := fun σ' kk j v e c => by
    rw [Nat.zero_add] at c ⊢
    have hjl : j < vs.length := by
      rcases Nat.lt_or_ge j vs.length with q | q
      · exact q
      · rw [List.getElem?_eq_none q] at e
        cases e
    have hm : j ∈ kpOf fd := by
      unfold kpOf
      rw [List.mem_filter, List.mem_range, c, hnp, ← hl]
      exact ⟨hjl, rfl⟩
    rw [kk.2 j hm, st, List.getElem?_append_left (by simpa using hjl), List.getElem?_map, e]
    rfl
  have fin : ∀ {σ' : L2.St} {H' : Hp} {v : V} {u : Value} {s' : Shared}, Inv (cxF P w K mg base N qual scope f cdv A outer s H) [] σ' H' s' → RelV v u → Q v H' → CE outer P w H s Q u s' :=
    fun {σ' H' v u s'} J rv q => ⟨v, H', J.os, J.bare, J.base, J.hok, rv, q⟩
  have hq : tSB K (runF pgm k) (kpOf fd) fd.body { nx := fun _ H' => Q .non H', rt := Q } (start N vs) H := by
    split at h1
    · rename_i o1 ρ1 hev
      rw [Option.map_eq_some_iff] at h1
      obtain ⟨os3, h3, h4⟩ := h1
      cases h4
      refine ⟨_, _, _, hev, w1, fun σ' v H' kk w2 => z v H' ?_⟩
      have w3 : Ws K H' (aEns 0 fd.asgd os vs ++ ((some o, v) :: L)) ρ1 σ' := w2.mono List.perm_middle.symm
      obtain ⟨ρ', w4⟩ := end_run h2 h3 (atKp σ' kk) w3
      exact w4.unlive
    · rename_i ρ1 hev
      rw [Option.map_eq_some_iff] at h1
      obtain ⟨os3, h3, h4⟩ := h1
      cases h4
      refine ⟨_, _, _, hev, w1, fun σ' H' kk w2 => z .non H' ?_⟩
      have w2' := w2.flat (d := .none) (v := .non) fun _ => by simp only [Sh]
      have w3 : Ws K H' (aEns 0 fd.asgd os vs ++ ((some (.sh .none), .non) :: L)) ρ1 σ' := w2'.mono List.perm_middle.symm
      obtain ⟨ρ', w4⟩ := end_run h2 h3 (atKp σ' kk) w3
      exact w4.unlive
    · cases h1
  refine wpAny_mono (ht.run [] s1 (start N vs) H _ I hq) (fun fl s' hs => ?_) fun e s' hs => hs.elim
  cases fl with
  | ret u =>
    obtain ⟨v, σ', H', J, rv, q⟩ := hs
    exact fin J rv q
  | next =>
    obtain ⟨σ', H', J, q⟩ := hs
    exact fin (v := V.non) J rfl q
  | brk =>
    obtain ⟨_, _, _, q⟩ := hs
    exact q.elim
  | cont =>
    obtain ⟨_, _, _, q⟩ := hs
    exact q.elim
end Qv
end
section
set_option Elab.async false
set_option linter.all false
set_option maxRecDepth 100000
set_option maxHeartbeats 4000000
/-! Q19: all defs of a text. -/
namespace Qv
open PySem PySem.Spec PyProof.Rows L2

/-- what is known of the texts' defs, and of what the top bound -/
structure Ax (K : Frag) (mg : Str → Option Value) (g : Pg) (pgm : List Fd) (fA : Nat → Addr) (fD : Nat → FuncData) : Prop where
  blt : ∀ x ∈ bnames, mg x = none
  cs : ∀ x d, (x, d) ∈ g.cs → ∃ u v, mg x = some u ∧ RelV v u ∧ ∀ G, Sh K G d v
  fs : ∀ j x ps, g.fs[j]? = some (x, ps) → mg x = some (.ref (fA j)) ∧ PySem.W.keepIn K (.ref (fA j)) = true ∧ (∀ (s : Shared) (us : List Value), us.length = ps.length → BindsTo s (fD j) ⟨us, []⟩ (ps.zip us)) ∧
    (∀ ks n pm, (j, ks, n, pm) ∈ g.kw → KwB (fD j) ps ks n pm) ∧
    ∃ (name qual : Str) (params : Arguments) (body : List Stmt) (scope : Scope) (dV kV doc pm cdv ct oc : Value) (an od : Option Addr) (osl : Array (Option Value)) (N : List Str) (fd : Fd),
      fD j = PySem.W.fnOf name qual params body scope dV kV doc pm an cdv ct ∧ K.lookup (fA j) = some ⟨oc, od, .func (fD j), osl⟩ ∧ PySem.W.codeIn K cdv qual = true ∧ FnScope N ps scope ∧ pgm[j]? = some fd ∧ fd.np = ps.length ∧ fd.ns = N.length ∧
      ckSs g ⟨N, scope, fun _ => true⟩ (kpOf fd) fd.body body = true
theorem spF_none {K : Frag} {pgm : List Fd} {j : Nat} {vs : List V} {H : Hp} {Q : VK} {E : XK} (h : spF K (runF pgm 0 j) vs H Q E) : False := by
  obtain ⟨os, o, os2, L, h1, _⟩ := h
  simp only [runF] at h1
  cases h1
theorem all_fn {P : Program} {w : World} {K : Frag} {mg : Str → Option Value} {base : Heap} {g : Pg} {pgm : List Fd} {fA : Nat → Addr} {fD : Nat → FuncData} (ax : Ax K mg g pgm fA fD) :
    ∀ (k j : Nat) (x : Str) (ps : List Str), g.fs[j]? = some (x, ps) → FnG P w K mg base k (fA j) (fD j) ps (spF K (runF pgm k j))
  | 0, j, x, ps, _ => ⟨fun vs H Q E h => (spF_none h).elim, fun A outer s H args us vs Q E _ _ _ _ _ h => (spF_none h).elim⟩
  | k + 1, j, x, ps, hj => by
    obtain ⟨m1, m2, m3, m4, name, qual, params, body, scope, dV, kV, doc, pm, cdv, ct, oc, an, od, osl, N, fd, e, lk, hcd, S, hp, hnp, hns, hck⟩ := ax.fs j x ps hj
    rw [e] at lk ⊢
    refine fnG_of lk hcd S hp hnp hns hck fun A outer s H hr hg => ⟨rfl, S.nd, hr, hg, hr.units, rfl, ax.blt, ax.cs, fun i y qs hi => ?_, runF_fair k⟩
    obtain ⟨n1, n2, n3, n4, _⟩ := ax.fs i y qs hi
    exact ⟨fA i, fD i, n1, n2, n3, n4, all_fn ax k i y qs hi⟩
/-- what was frozen stays so -/
theorem FnG.frz {P : Program} {w : World} {K : Frag} {mg : Str → Option Value} {base : Heap} {k : Nat} {f : Addr} {fd : FuncData} {ps : List Str} {sp : Sp} (F : FnG P w K mg base k f fd ps sp) :
    FnG P w K mg base k f fd ps (fun vs H Q E => sp vs H (fun v H' => (∀ b o u, H b = some (.frz o u) → H' b = some (.frz o u)) → Q v H') E) := by
  refine ⟨fun vs H Q E h => F.len _ _ _ _ h, fun A outer s H args us vs Q E hr hg e0 hb r h => ?_⟩
  refine codeAny_mono (F.run A outer s H args us vs _ E hr hg e0 hb r h) fun r s' hq => ?_
  cases r with
  | error e => exact hq
  | ok fl =>
    cases fl with
    | ret u =>
      obtain ⟨v, H', c1, c2, c3, c4, c5, q⟩ := hq
      exact ⟨v, H', c1, c2, c3, c4, c5, q fun b o u z => c3.frzs b o u z⟩
    | next => exact hq
    | brk => exact hq
    | cont => exact hq
theorem FnG.ofOk {P : Program} {w : World} {K : Frag} {mg : Str → Option Value} {base : Heap} {k : Nat} {f : Addr} {fd : FuncData} {ps : List Str} {sp : Sp} (F : FnOk P w K mg base CX0 k f fd ps sp) : FnG P w K mg base k f fd ps sp :=
  ⟨F.len, fun A outer s H args us vs Q E hr _ e0 hb r h => F.run A outer s H args us vs Q E hr e0 hb r h⟩
end Qv
end
section
set_option Elab.async false
set_option linter.all false
set_option maxRecDepth 100000
set_option maxHeartbeats 4000000
/-! Q20: a body by hand; the end of a law's row. -/
namespace Qv
open PySem PySem.Spec PyProof.Rows L2

/-- a def whose body is walked by hand -/
theorem fnG_body {P : Program} {w : World} {K : Frag} {mg : Str → Option Value} {base : Heap} {k : Nat} {f : Addr} {name qual : Str} {params : Arguments} {body : List Stmt} {scope : Scope} {dV kV doc pm cdv ct oc : Value} {an od : Option Addr}
    {osl : Array (Option Value)} {N ps : List Str} {sp : Sp} (lk : K.lookup f = some ⟨oc, od, .func (PySem.W.fnOf name qual params body scope dV kV doc pm an cdv ct), osl⟩) (hcd : PySem.W.codeIn K cdv qual = true) (S : FnScope N ps scope)
    (len : ∀ vs H Q E, sp vs H Q E → vs.length = ps.length)
    (hb : ∀ (A : Around) (outer : List PySem.Env) (s : Shared) (H : Hp) (vs : List V) (Q : VK) (E : XK), Room k (A.deeper (envOfC qual scope s.heap.objs.size f cdv)) → A.guards = some [] → sp vs H Q E →
      ∃ t, PSs (cxF P w K mg base N qual scope f cdv A outer s H) body t ∧ t { nx := fun _ H' => Q .non H', rt := Q } (start N vs) H) :
    FnG P w K mg base (k + 1) f (PySem.W.fnOf name qual params body scope dV kV doc pm an cdv ct) ps sp := by
  refine ⟨len, fun A outer s H args us vs Q E hr hgu e0 bd r hsp => ?_⟩
  have hl := len _ _ _ _ hsp
  have kIn : K.In s.heap := e0.mod.kin.keeps fun b u e => (e0.bs b u e).1
  have free : s.heap.NoLimit := e0.mod.nolimit.keeps fun b u e => (e0.bs b u e).1
  have kinds : ∀ y ∈ ps.zip us, scope.names.lookup y.1 = some .local ∨ (scope.names.lookup y.1 = some .cell ∧ ((cellsFrom (s.heap.objs.size + 1) scope.names []).lookup y.1).isSome = true) := fun ⟨n, u⟩ hy =>
    (S.par n (List.of_mem_zip hy).1).imp id fun q => ⟨q, PySem.W.cellsFrom_some _ _ _ (.inl q)⟩
  have pend := bd (model P w) A.in1
  refine codeAny_call_function (hr.depth) (kIn _ _ lk) rfl (S.co) S.gen rfl (PySem.W.codeRec_of kIn hcd) (pend _ _ ?_)
  refine wpAny_newFunctionEnv_cells (S.kind) kinds fun env he s1 x => ?_
  subst he
  refine ⟨free.keeps x.toInCall.keep, codeAny_func ?_⟩
  have I0 := inv_start (CX := fun _ _ _ _ _ _ => False) (P := P) (w := w) (K := K) (mg := mg) (base := base) (qual := qual) (f := f) (cd := cdv) (outer := outer) (E := fun _ _ _ => False) S hr.hd e0 hl r x
  have I : Inv (cxF P w K mg base N qual scope f cdv A outer s H) [] (start N vs) H s1 :=
    ⟨⟨I0.ok.1, I0.ok.2, I0.ok.3, I0.ok.4, I0.ok.5, I0.ok.6, I0.ok.7, I0.ok.8, I0.ok.9, I0.ok.10, I0.ok.11, I0.ok.12, I0.ok.13, I0.ok.14, I0.ok.15, I0.ok.16, I0.ok.17, I0.ok.18⟩, I0.2, I0.3, I0.4, I0.5, I0.6, I0.7, I0.8, I0.9, I0.10, I0.11⟩
  obtain ⟨t, ht, hq⟩ := hb A outer s H vs Q E (hr.deeper _) hgu hsp
  have fin : ∀ {σ' : L2.St} {H' : Hp} {v : V} {u : Value} {s' : Shared}, Inv (cxF P w K mg base N qual scope f cdv A outer s H) [] σ' H' s' → RelV v u → Q v H' → CE outer P w H s Q u s' :=
    fun {σ' H' v u s'} J rv q => ⟨v, H', J.os, J.bare, J.base, J.hok, rv, q⟩
  refine wpAny_mono (ht.run [] s1 (start N vs) H _ I hq) (fun fl s' hs => ?_) fun e s' hs => hs.elim
  cases fl with
  | ret u =>
    obtain ⟨v, σ', H', J, rv, q⟩ := hs
    exact fin J rv q
  | next =>
    obtain ⟨σ', H', J, q⟩ := hs
    exact fin (v := V.non) J rfl q
  | brk =>
    obtain ⟨_, _, _, q⟩ := hs
    exact q.elim
  | cont =>
    obtain ⟨_, _, _, q⟩ := hs
    exact q.elim

/-! ### the script -/
def Scr (K : Frag) (H : Hp) (a : Addr) (xs : List V) : Prop := (∃ o, H a = some (.frz o (.lst xs))) ∨
    ∃ (o : Obj) (its : Array Value) (n : Nat), K.lookup a = some o ∧ o.cls = .type "list" ∧ o.dict = none ∧ o.data = .seq its n ∧ its.size ≤ sizeLine ∧ Vals xs its.toList
theorem Scr.seq {K : Frag} {H : Hp} {a : Addr} {xs : List V} (h : Scr K H a xs) : SqL K H a xs := by
  rcases h with h | h
  · exact .inl (.inr h)
  · exact .inr h
theorem Scr.of {K : Frag} {H : Hp} {a : Addr} {xs : List V} (n : Only H) (h : SqL K H a xs) : Scr K H a xs := by
  rcases h with (h | h) | h
  · rcases n a with q | ⟨o, ys, q⟩
    · rw [h] at q
      cases q
    · rw [h] at q
      cases q
  · exact .inl h
  · exact .inr h
theorem Scr.keep {K : Frag} {H H' : Hp} {a : Addr} {xs : List V} (h : Scr K H a xs) (k : ∀ b o u, H b = some (.frz o u) → H' b = some (.frz o u)) : Scr K H' a xs := by
  rcases h with ⟨o, h⟩ | h
  · exact .inl ⟨o, k _ _ _ h⟩
  · exact .inr h
theorem frz_upd {H : Hp} {p : Addr} {u : HO} (n : H p = none) : ∀ b o x, H b = some (.frz o x) → (upd H p u) b = some (.frz o x) := fun b o x e => by
  have : b ≠ p := fun z => by
    rw [z, n] at e
    cases e
  rw [upd_ne this]
  exact e
theorem frz_upd2 {H : Hp} {p : Addr} {u : HO} {ys : List V} (n : H p = some (.lst ys)) : ∀ b o x, H b = some (.frz o x) → (upd H p u) b = some (.frz o x) := fun b o x e => by
  have : b ≠ p := fun z => by
    rw [z, n] at e
    cases e
  rw [upd_ne this]
  exact e

/-! ### the head -/
theorem lawG_call {P : Program} {w : World} {K : Frag} {mg mb : Str → Option Value} {k : Nat} {fa a : Addr} {fd : FuncData} {x : Str} {sp : Sp} {s₁ : Shared} {us : List Value} {ns : List Int}
    (kIn : K.In s₁.heap) (gns : s₁.heap.Ns mainGlobals mg) (bns : s₁.heap.Ns builtinsNs mb) (bb : ∀ x : Str, x ≠ "__name__" → mb x = bootBuiltins x) (nol : s₁.heap.NoLimit) (ge : s₁.gens = #[])
    (ha : s₁.heap.get? a = some { cls := .type "list", data := .seq us.toArray }) (ii : IntsAre us ns) (il : ns.length ≤ sizeLine) (room : Room k callerA)
    (F : ∀ base : Heap, K.In base → base.Ns mainGlobals mg → FnG P w K mg base k fa fd [x] sp) (bd : ∀ (s : Shared) (u : Value), BindsTo s fd ⟨[u], []⟩ [(x, u)])
    (pr : ∀ H : Hp, Only H → SqL K H a (ns.map V.int) → sp [.ref a] H (fun v _ => v = .bl true) fun _ _ _ => False) :
    codeAny (model P w) callerA (.call (.ref fa) ⟨[.ref a], []⟩) (fun r s' => r = .ok (.ret (.bool true)) ∧ OldK s₁.heap s'.heap ∧ s'.os = s₁.os ∧ AllBare s'.gens) s₁ := by
  have rel := vals_ints ii
  have lens := ii.length
  have main : ∀ H : Hp, Only H → SqL K H a (ns.map V.int) → HOk P w H s₁.heap → (∀ b, H b ≠ none → b = a) → (H a ≠ none → K.lookup a = none) →
      codeAny (model P w) callerA (.call (.ref fa) ⟨[.ref a], []⟩) (fun r s' => r = .ok (.ret (.bool true)) ∧ OldK s₁.heap s'.heap ∧ s'.os = s₁.os ∧ AllBare s'.gens) s₁ := by
    intro H only hS hok one wrt
    have at_ : ∀ {b : Addr} {o : Obj}, s₁.heap.get? b = some o → H b = none → (hidT s₁.heap H).get? b = some o := fun e n => hidT_get e n
    have dict_free : ∀ {b : Addr} {o : Obj} {es : Array DictEntry} {ep : Nat}, s₁.heap.get? b = some o → o.data = .dict es ep → H b = none := fun {b o es ep} e d => by
      cases z : H b with
      | none => rfl
      | some v =>
        have e' : b = a := one b (by rw [z]; simp)
        subst e'
        rw [ha] at e
        cases e
        have d' : Data.seq us.toArray _ = Data.dict es ep := d
        cases d'
    have ns_ : ∀ {b : Addr} {m : Str → Option Value}, s₁.heap.Ns b m → (hidT s₁.heap H).Ns b m := fun {b m} ⟨o, es, ep, e, d, r⟩ => ⟨o, es, ep, at_ e (dict_free e d), d, r⟩
    have kb : K.In (hidT s₁.heap H) := fun b o e => at_ (kIn b o e) (by
      cases z : H b with
      | none => rfl
      | some v =>
        have e' : b = a := one b (by rw [z]; simp)
        subst e'
        rw [wrt (by rw [z]; simp)] at e
        cases e)
    have mod : Mod K mg (hidT s₁.heap H) := ⟨kb, ns_ gns, ⟨mb, ns_ bns, bb⟩, let ⟨mc, h1, h2⟩ := nol; ⟨mc, ns_ h1, h2⟩⟩
    have none_in : ∀ b : Addr, b ∉ ([] : List Addr) := fun b z => by cases z
    have e0 : Env0 P w K mg (hidT s₁.heap H) callerA [] s₁ H := ⟨rfl, mod, fun b o e => of_hidT e, Nat.le_of_eq (hidT_size _ _), trivial, fun b z => absurd z (none_in b), hok, .of_eq ge⟩
    have go := (F _ kb (ns_ gns)).run callerA [] s₁ H ⟨[.ref a], []⟩ [.ref a] [.ref a] _ _ room rfl e0 (bd s₁ (.ref a)) (.cons rfl .nil) (pr H only hS)
    refine codeAny_mono go fun r s' h => ?_
    cases r with
    | error e => exact h.elim
    | ok fl =>
      cases fl with
      | next => exact h.elim
      | brk => exact h.elim
      | cont => exact h.elim
      | ret u =>
        obtain ⟨v, H', os, bare, un, hok', r', q⟩ := h
        have ev : v = .bl true := q
        subst ev
        obtain rfl : u = Value.bool true := r'
        refine ⟨rfl, OldK.of_keep fun b o e => ?_, os, bare⟩
        cases z : H b with
        | none => exact un.keep b o e z (none_in b) (none_in b)
        | some v =>
          rcases only b with y | ⟨ob, xs, y⟩
          · rw [z] at y
            cases y
          · obtain ⟨e1, _⟩ := hok b _ y
            obtain ⟨e2, _⟩ := hok' b _ (un.frzs b ob _ y)
            rw [e] at e1
            cases e1
            exact e2
  cases hk : K.lookup a with
  | some o =>
    have e := kIn a o hk
    rw [ha] at e
    cases e
    have w : SqL K (fun _ => none) a (ns.map V.int) := .inr ⟨_, us.toArray, _, hk, rfl, rfl, rfl, by rw [List.size_toArray, lens]; exact il, by simpa using rel⟩
    exact main (fun _ => none) (fun _ => .inl rfl) w (fun b u z => by cases (show (none : Option HO) = some u from z)) (fun b z => absurd rfl z) fun z => absurd rfl z
  | none =>
    have here : ∀ {b : Addr} {u : HO}, (if b = a then some (HO.frz { cls := .type "list", data := .seq us.toArray } (.lst (ns.map V.int))) else none) = some u → b = a ∧ u = HO.frz { cls := .type "list", data := .seq us.toArray } (.lst (ns.map V.int)) := fun {b u} z => by
      split at z
      · rename_i e
        cases z
        exact ⟨e, rfl⟩
      · cases z
    refine main (fun b => if b = a then some (.frz { cls := .type "list", data := .seq us.toArray } (.lst (ns.map V.int))) else none) (fun b => ?_) (.inl (.inr ⟨{ cls := .type "list", data := .seq us.toArray }, if_pos rfl⟩)) (fun b u z => ?_) (fun b z => ?_) fun _ => hk
    · by_cases e : b = a
      · exact .inr ⟨_, _, if_pos e⟩
      · exact .inl (if_neg e)
    · obtain ⟨rfl, rfl⟩ := here z
      exact ⟨ha, by rw [List.length_map]; exact il, us, _, rel, ha⟩
    · by_cases e : b = a
      · exact e
      · exact absurd (if_neg e) z
/-- what k_head's kin leave, from the law's promise -/
theorem walk_ofG {l : PySem.W.OpenLaw} {n k : Nat} {q : Program} {loose : List Str} {XP : (Str → Option Value) → Heap → Prop} {YP : World → Heap → Prop} {d : DefRec} {x : Str}
    (hn : l.most = some n) (hn2 : n ≤ sizeLine) (hdf : d.params.defaults = []) (room : Room k callerA)
    (F : ∀ (w : World) (mg : Str → Option Value) (fa : Addr) (h : Heap), YP w h → h.Ns mainGlobals mg → mg d.name = some (.ref fa) →
      ∃ (K : Frag) (fd : FuncData) (sp : Sp), K.In h ∧ (∀ (s : Shared) (u : Value), BindsTo s fd ⟨[u], []⟩ [(x, u)]) ∧
        (∀ (H : Hp) (a : Addr) (ns : List Int), ns.length ≤ n → (∀ z ∈ ns, Builtin.Int.intBits z ≤ 1048576) → Only H → SqL K H a (ns.map V.int) → sp [.ref a] H (fun v _ => v = .bl true) fun _ _ _ => False) ∧
        ∀ base : Heap, K.In base → base.Ns mainGlobals mg → FnG l.prog w K mg base k fa fd [x] sp) :
    PySem.W.WalkO q loose XP YP l.row.toRowW d [] (fun f vs => PySem.call f vs) := by
  refine Att.attach_callB hn hdf fun w s₀ s₁ mg mb fa o pm cd doc a us ns G Y ho hd hcd hmg hobj hints hlen hbits hg => ?_
  obtain ⟨K, fd, sp, kIn, bd, pr, hF⟩ := F w mg fa _ Y G.T.g hmg
  exact lawG_call kIn G.T.g G.T.b G.T.builtins G.T.nolimit hg hobj hints (Nat.le_trans hlen hn2) room hF bd fun H hO hS => pr H a ns hlen hbits hO hS
end Qv
end
section
set_option Elab.async false
set_option linter.all false
set_option maxRecDepth 100000
set_option maxHeartbeats 4000000
/-! Q21: the defs of a law that read the script. -/
namespace Qv
open PySem PySem.Spec PyProof.Rows L2

/-! ### what is drawn from the script -/
def spPot (K : Frag) : Sp := fun vs H Q _ => ∃ (a : Addr) (ns : List Int) (k : Nat), vs = [.ref a, .int (k : Int)] ∧ SqL K H a (ns.map V.int) ∧ k ≤ 100 ∧ ns.length ≤ 63 ∧
  ∀ p x y, H p = none → 0 ≤ x → 1 ≤ y → y ≤ 4294967296 → Q (.ref p) (upd H p (.lst [.int x, .int y]))
section
variable {X : Cx} {pos : Pos}
theorem pot_body {sc : Scope} {p1 p2 p3 p4 p5 p6 p7 p8 p9 p10 p11 p12 p13 p14 p15 p16 p17 p18 p19 p20 p21 p22 p23 p24 p25 p26 p27 p28 p29 p30 p31 p32 p33 p34 p35 p36 p37 p38 p39 p40 p41 p42 p43 p44 p45 p46 p47 : Pos} {k1 k2 k3 k4 k5 k6 k7 k8 k9 k10 k11 : Nat} {c0 c1 m1 c2 c3 c4 m2 : Int}
    (hN : X.N = (["script", "k", "cell"] : List Str)) (hs : X.env.scope = sc) (hc : X.calm = true)
    (l0 : sc.names.lookup ("script" : Str) = some .local) (l1 : sc.names.lookup ("k" : Str) = some .local) (l2 : sc.names.lookup ("cell" : Str) = some .local)
    (g1 : sc.names.lookup ("len" : Str) = some .globalImplicit) (g2 : sc.names.lookup ("abs" : Str) = some .globalImplicit) (g3 : sc.names.lookup ("max" : Str) = some .globalImplicit) (g4 : sc.names.lookup ("int" : Str) = some .globalImplicit)
    (m : ∀ x ∈ bnames, X.mg x = none) (hm1 : 0 < m1 ∧ m1 ≤ 4294967295) (hm2 : 0 < m2 ∧ m2 ≤ 4294967295) (h0 : 0 ≤ c0 ∧ c0 ≤ 4294967295) (h2 : 0 ≤ c2 ∧ c2 ≤ 4294967295) (h3 : 0 ≤ c3 ∧ c3 ≤ 4294967295) :
    ∃ t, PSs X [.Assign [.Name "cell" p1] (.IfExp (.Compare (.Name "k" p2) [.Lt] [.Call (.Name "len" p3) [.Name "script" p4] [] p5] p6) (.Call (.Name "abs" p7) [.Subscript (.Name "script" p8) (.Name "k" p9) p10] [] p11)
        (.BinOp (.BinOp (.Constant (.int c0) k1 p12) .Mult (.Name "k" p13) p14) .Add (.Constant (.int c1) k2 p15) p16) p17) p18,
      .Return (some (.List [.Call (.Name "max" p19) [.Constant (.int 0) k3 p20, .BinOp (.Name "cell" p21) .Sub (.BinOp (.Constant (.int 10) k4 p22) .Pow (.Constant (.int 18) k5 p23) p24) p25] [] p26,
        .BinOp (.BinOp (.Call (.Name "int" p27) [.BinOp (.BinOp (.BinOp (.BinOp (.Call (.Name "int" p28) [.Name "cell" p29] [] p30) .Mod (.Constant (.int m1) k6 p31) p32) .Mult (.Constant (.int c2) k7 p33) p34) .Add (.BinOp (.Constant (.int c3) k8 p35) .Mult (.Name "k" p36) p37) p38) .Add (.Constant (.int c4) k9 p39) p40] [] p41)
          .Mod (.Constant (.int m2) k10 p42) p43) .Add (.Constant (.int 1) k11 p44) p45] p46)) p47] t ∧
      ∀ vs H Q E, spPot X.K vs H Q E → t { nx := fun _ H' => Q .non H', rt := Q } (start ["script", "k", "cell"] vs) H := by
  subst hs
  have nd : X.N.Nodup := by
    rw [hN]
    decide +kernel
  have n0 : X.N[0]? = some ("script" : Str) := by rw [hN]; rfl
  have n1 : X.N[1]? = some ("k" : Str) := by rw [hN]; rfl
  have n2 : X.N[2]? = some ("cell" : Str) := by rw [hN]; rfl
  have v0 : ∀ p, PE X (.Name "script" p) (tVar 0) := fun p => pe_var n0 (.inl l0)
  have v1 : ∀ p, PE X (.Name "k" p) (tVar 1) := fun p => pe_var n1 (.inl l1)
  have v2 : ∀ p, PE X (.Name "cell" p) (tVar 2) := fun p => pe_var n2 (.inl l2)
  refine ⟨_, pss_cons (ps_set (i := 2) nd n2 (.inl l2) (pe_ifExp (pt_cmpR op_lt (v1 _) (pe_callB call_len_seq g1 (m _ (by decide)) PySem.boot_len (pa_cons (v0 _) pa_nil)) (nomark _))
      (pe_callB call_abs g2 (m _ (by decide)) rfl (pa_cons (pe_ix ix_seq (v0 _) (v1 _) (fun _ _ => rfl)) pa_nil)) (pe_op op_add (pe_op op_mul pe_int (v1 _)) pe_int)) (hf := .inr l2))
    (pss_one (ps_ret (pe_lst (pa_cons (pe_callB (call_max2 hc) g3 (m _ (by decide)) rfl (pa_cons pe_int (pa_cons (pe_op op_sub (v2 _) (pe_op op_pow pe_int pe_int)) pa_nil)))
      (pa_cons (pe_op op_add (pe_op op_modN (pe_callTy call_int1 g4 (m _ (by decide)) rfl (pa_cons (pe_op op_add (pe_op op_add (pe_op op_mul (pe_op op_modN (pe_callTy call_int1 g4 (m _ (by decide)) rfl (pa_cons (v2 _) pa_nil)) pe_int) pe_int) (pe_op op_mul pe_int (v1 _))) pe_int) pa_nil)) pe_int) pe_int) pa_nil))))), ?_⟩
  intro vs H Q E h
  obtain ⟨a, ns, k, rfl, hS, hk, hl, z⟩ := h
  have two : (2 : Nat) ≤ sizeLine := by decide
  have bk : CMul c0 (k : Int) := .inl ⟨by omega, by omega⟩
  have bk3 : CMul c3 (k : Int) := .inl ⟨by omega, by omega⟩
  refine ⟨.int k, rfl, .ref a, rfl, a, ns.map V.int, rfl, .inl hS, k, _, rfl, rfl, _, rfl, ite2 (fun hlt => ?_) (fun hge => ?_)⟩
  · have hlt : (k : Int) < ((ns.map V.int).length : Int) := of_decide_eq_true hlt
    rw [List.length_map] at hlt
    have hk2 : k < ns.length := by omega
    have e : (ns.map V.int)[k]? = some (.int ns[k]) := by
      rw [List.getElem?_map, List.getElem?_eq_getElem hk2]
      rfl
    refine ⟨.ref a, rfl, .int k, rfl, .inl ⟨a, ns.map V.int, k, .int ns[k], rfl, rfl, hS, atI_nat e, ns[k], rfl, ?_⟩⟩
    generalize (if ns[k] < 0 then -ns[k] else ns[k]) = cell
    have b1 : 0 ≤ cell.fmod m1 := Int.fmod_nonneg_of_pos _ hm1.1
    have b2 : cell.fmod m1 < m1 := Int.fmod_lt_of_pos _ hm1.1
    refine ⟨.int cell, rfl, 10, 18, rfl, rfl, ⟨by decide, by decide, by decide⟩, _, _, rfl, rfl, _, _, rfl, ?_⟩
    refine ⟨.int cell, rfl, .inl ⟨cell, rfl, _, _, rfl, rfl, (by omega : m1 ≠ 0), _, _, rfl, rfl, .inl ⟨by omega, by omega⟩, .int k, rfl, _, _, rfl, rfl, bk3, _, _, rfl, rfl, _, _, rfl, rfl, .inl ⟨_, rfl, _, _, rfl, rfl, (by omega : m2 ≠ 0), _, _, rfl, rfl, ?_⟩⟩⟩
    refine ⟨two, fun p hp => z p _ _ hp ?_ ?_ ?_⟩
    · split <;> omega
    · have := Int.fmod_nonneg_of_pos (cell.fmod m1 * c2 + c3 * (k : Int) + c4) hm2.1
      omega
    · have := Int.fmod_lt_of_pos (cell.fmod m1 * c2 + c3 * (k : Int) + c4) hm2.1
      omega
  · refine ⟨.int k, rfl, _, _, rfl, rfl, bk, _, _, rfl, rfl, ?_⟩
    dsimp only
    generalize c0 * (k : Int) + c1 = cell
    have b1 : 0 ≤ cell.fmod m1 := Int.fmod_nonneg_of_pos _ hm1.1
    have b2 : cell.fmod m1 < m1 := Int.fmod_lt_of_pos _ hm1.1
    refine ⟨.int cell, rfl, 10, 18, rfl, rfl, ⟨by decide, by decide, by decide⟩, _, _, rfl, rfl, _, _, rfl, ?_⟩
    refine ⟨.int cell, rfl, .inl ⟨cell, rfl, _, _, rfl, rfl, (by omega : m1 ≠ 0), _, _, rfl, rfl, .inl ⟨by omega, by omega⟩, .int k, rfl, _, _, rfl, rfl, bk3, _, _, rfl, rfl, _, _, rfl, rfl, .inl ⟨_, rfl, _, _, rfl, rfl, (by omega : m2 ≠ 0), _, _, rfl, rfl, ?_⟩⟩⟩
    refine ⟨two, fun p hp => z p _ _ hp ?_ ?_ ?_⟩
    · split <;> omega
    · have := Int.fmod_nonneg_of_pos (cell.fmod m1 * c2 + c3 * (k : Int) + c4) hm2.1
      omega
    · have := Int.fmod_lt_of_pos (cell.fmod m1 * c2 + c3 * (k : Int) + c4) hm2.1
      omega

/-! ### the law -/
def spLaw (K : Frag) : Sp := fun vs H Q _ => ∃ (a : Addr) (ns : List Int), vs = [.ref a] ∧ Scr K H a (ns.map V.int) ∧ ns.length ≤ 63 ∧ ∀ H', Q (.bl true) H'
theorem flat_trues {K : Frag} {H : Hp} {D : Addr} {L : List En} {n : Nat} (h : Wd K H ((some (.ol (List.replicate n (shB true))), .ref D) :: L)) : H D = some (.lst (List.replicate n (.bl true))) := by
  obtain ⟨G, A, s, ⟨B, C, q1, q2, rfl⟩, nd, f⟩ := h
  simp only [OwE, Ow] at q1
  obtain ⟨a, vs, B', e, ha, q, rfl⟩ := q1
  cases e
  have all : ∀ (n : Nat) (vs : List V) (A : List Addr), OwL K G H (List.replicate n (shB true)) vs A → vs = List.replicate n (.bl true) := by
    intro n
    induction n with
    | zero =>
      intro vs A h
      simp only [List.replicate_zero, OwL] at h
      exact h.1
    | succ n ih =>
      intro vs A h
      simp only [List.replicate_succ, OwL, shB, Ow, Sh] at h
      obtain ⟨v, r, B, C, rfl, ⟨_, rfl⟩, h2, _⟩ := h
      rw [ih r C h2]
      rfl
  rw [ha, all n vs _ q]
def tElt (K : Frag) (F : List O → Option (O × List O)) : TE := fun σ H Q => tCons (fun σ H Q => tCons (tVar 0) (tCons (tVar 1) tNil) σ H fun vs H1 => spPot K vs H1 Q E0) tNil σ H fun vs H1 =>
  spF K F vs H1 (fun v H' => (∀ b o u, H1 b = some (.frz o u) → H' b = some (.frz o u)) → Q v H') E0
theorem law_body {sc scope : Scope} {p1 p2 p3 p4 p5 p6 p7 p8 p9 p10 p11 p12 p13 p14 p15 p16 p17 p18 p19 p20 p21 p22 : Pos} {k1 k2 : Nat} {c1 c2 : Int} {k : Nat} {fR fP : Addr} {dR dP : FuncData} {F : List O → Option (O × List O)}
    (hN : X.N = (["script", "k"] : List Str)) (hs : X.env.scope = sc) (hc : X.calm = true) (hr : Room k X.A) (hg : X.A.guards = some []) (l0 : sc.names.lookup ("script" : Str) = some .cell)
    (g1 : sc.names.lookup ("all" : Str) = some .globalImplicit) (g2 : sc.names.lookup ("range" : Str) = some .globalImplicit) (g3 : sc.names.lookup ("max" : Str) = some .globalImplicit) (g4 : sc.names.lookup ("min" : Str) = some .globalImplicit)
    (g5 : sc.names.lookup ("len" : Str) = some .globalImplicit) (ok : blkC ["script", "k"] sc scope [("k", 1)] = true) (b0 : (relS scope sc).names.lookup ("script" : Str) = some .cell) (b1 : (relS scope sc).names.lookup ("k" : Str) = some .local)
    (b2 : (relS scope sc).names.lookup ("_law_right" : Str) = some .globalImplicit) (b3 : (relS scope sc).names.lookup ("_law_pot" : Str) = some .globalImplicit)
    (m : ∀ x ∈ bnames, X.mg x = none) (FR : FnG X.prog X.w X.K X.mg X.base k fR dR ["pot"] (spF X.K F)) (mR : X.mg "_law_right" = some (.ref fR)) (kR : PySem.W.keepIn X.K (.ref fR) = true) (bR : ∀ (s : Shared) (us : List Value), us.length = 1 → BindsTo s dR ⟨us, []⟩ ((["pot"] : List Str).zip us))
    (FP : FnG X.prog X.w X.K X.mg X.base k fP dP ["script", "k"] (spPot X.K)) (mP : X.mg "_law_pot" = some (.ref fP)) (kP : PySem.W.keepIn X.K (.ref fP) = true) (bP : ∀ (s : Shared) (us : List Value), us.length = 2 → BindsTo s dP ⟨us, []⟩ ((["script", "k"] : List Str).zip us))
    (hF : ∀ x y : Int, 0 ≤ x → 1 ≤ y → y ≤ 4294967296 → ∃ o2, F [.ol [shI x, shI y]] = some (.sh (.bool true), [o2])) (hc1 : 0 ≤ c1 ∧ c1 ≤ 50) (hc2 : 0 ≤ c2 ∧ c2 ≤ 50) :
    ∃ t, PSs X [.Return (some (.Call (.Name "all" p1) [.ListComp (.Call (.Name "_law_right" p2) [.Call (.Name "_law_pot" p3) [.Name "script" p4, .Name "k" p5] [] p6] [] p7) [⟨.Name "k" p8, .Call (.Name "range" p9) [.Call (.Name "max" p10) [.Constant (.int c1) k1 p11,
        .Call (.Name "min" p12) [.Constant (.int c2) k2 p13, .Call (.Name "len" p14) [.Name "script" p15] [] p16] [] p17] [] p18] [] p19, [], 0⟩] scope p20] [] p21)) p22] t ∧
      ∀ vs H Q E, spLaw X.K vs H Q E → t { nx := fun _ H' => Q .non H', rt := Q } (start ["script", "k"] vs) H := by
  subst hs
  have nd : X.N.Nodup := by
    rw [hN]
    decide +kernel
  have n0 : X.N[0]? = some ("script" : Str) := by rw [hN]; rfl
  have n1 : X.N[1]? = some ("k" : Str) := by rw [hN]; rfl
  have okB : BlkOk X.N X.env.scope scope [("k", 1)] := by
    rw [hN]
    exact blkOk_by ok
  have vb0 : ∀ (s : Shared) (H : Hp) (B : Addr) (cl : List (Str × Addr)) (fp : List Addr) (p : Pos), PE (X.blk s H scope (compEnvC scope cl B X.env) fp) (.Name "script" p) (tVar 0) := fun s H B cl fp p => pe_var n0 (.inr (.inl b0))
  have vb1 : ∀ (s : Shared) (H : Hp) (B : Addr) (cl : List (Str × Addr)) (fp : List Addr) (p : Pos), PE (X.blk s H scope (compEnvC scope cl B X.env) fp) (.Name "k" p) (tVar 1) := fun s H B cl fp p => pe_var n1 (.inl b1)
  have elt : ∀ (s : Shared) (H : Hp) (B : Addr) (cl : List (Str × Addr)) (fp : List Addr), PE (X.blk s H scope (compEnvC scope cl B X.env) fp) (.Call (.Name "_law_right" p2) [.Call (.Name "_law_pot" p3) [.Name "script" p4, .Name "k" p5] [] p6] [] p7) (tElt X.K F) := fun s H B cl fp =>
    pe_callG (X := X.blk s H scope (compEnvC scope cl B X.env) fp) FR.frz hr hg b2 mR kR bR
      (pa_cons (X := X.blk s H scope (compEnvC scope cl B X.env) fp) (pe_callG (X := X.blk s H scope (compEnvC scope cl B X.env) fp) FP hr hg b3 mP kP bP (pa_cons (vb0 s H B cl fp _) (pa_cons (vb1 s H B cl fp _) pa_nil)) (by decide) rfl rfl) pa_nil) (by decide) rfl rfl
  refine ⟨_, pss_one (ps_ret (pe_callB (cr_all hc) g1 (m _ (by decide)) rfl (pa_cons (pe_lc (own := [("k", 1)]) hc nd
      (pi_range1 g2 (m _ (by decide)) (pa_cons (pe_callB (call_max2 hc) g3 (m _ (by decide)) rfl (pa_cons pe_int (pa_cons (pe_callB (call_min2 hc) g4 (m _ (by decide)) rfl (pa_cons pe_int (pa_cons (pe_callB call_len_seq g5 (m _ (by decide)) PySem.boot_len (pa_cons (pe_var n0 (.inr (.inl l0))) pa_nil)) pa_nil))) pa_nil))) pa_nil))
      okB (fun s H B cl fp => pg_name (i := 1) nd n1 (.inl b1) (.inr b1)) (fun s H B cl fp => pts_nil)
      elt (fun _ => rfl)) pa_nil))), ?_⟩
  intro vs H Q E h
  obtain ⟨a, ns, rfl, hS, hl, z⟩ := h
  refine ⟨.ref a, rfl, a, ns.map V.int, rfl, .inl hS.seq, c2, _, rfl, c1, _, rfl, _, rfl, ?_, ?_, ?_⟩
  · have : 0 ≤ ((ns.map V.int).length : Int) := Int.natCast_nonneg _
    split <;> split <;> omega
  · rw [List.length_map]
    split <;> split <;> omega
  generalize hj : (if (if ((ns.map V.int).length : Int) < c2 then ((ns.map V.int).length : Int) else c2) > c1 then (if ((ns.map V.int).length : Int) < c2 then ((ns.map V.int).length : Int) else c2) else c1) = j
  have hj2 : j.toNat ≤ 100 := by
    rw [List.length_map] at hj
    subst hj
    split <;> split <;> omega
  intro D hD
  refine ⟨fun i mm H1 => mm = j.toNat - i ∧ i ≤ j.toNat ∧ Scr X.K H1 a (ns.map V.int) ∧ Wd X.K H1 [(some (.ol (List.replicate i (shB true))), .ref D)], ⟨j.toNat, rfl, Nat.zero_le _, hS.keep (frz_upd hD), ?_⟩, ?_⟩
  · have w0 : Wd X.K H ([] : List En) := ⟨H, [], fun _ _ e => e, rfl, List.nodup_nil, fun _ z => by cases z⟩
    exact Wd.list (os := []) (vs := []) (L := []) w0 rfl hD
  · rintro i mm H1 ⟨rfl, hi, hS1, w1⟩
    by_cases hlt : i < j.toNat
    · refine .inr ⟨hlt, fun H' => Scr X.K H' a (ns.map V.int) ∧ Wd X.K H' [(some (.ol (List.replicate (i + 1) (shB true))), .ref D)], fun H' hn => ⟨j.toNat - (i + 1), by omega, rfl, hlt, hn.1, hn.2⟩, fun x H' y => ?_⟩
      obtain ⟨rfl, rfl⟩ := y
      refine ⟨rfl, ?_⟩
      refine iteT (B := Scr X.K H' a (ns.map V.int) ∧ Wd X.K H' [(some (.ol (List.replicate (i + 1) (shB true))), .ref D)]) ?_
      refine ⟨.ref a, rfl, .int (0 + (i : Int)), rfl, a, ns, i, by rw [Int.zero_add], hS1.seq, by omega, hl, fun p x y hp h1 h2 h3 => ?_⟩
      obtain ⟨o2, hFe⟩ := hF x y h1 h2 h3
      have wp : Wd X.K (upd H' p (.lst [.int x, .int y])) ((some (.ol [shI x, shI y]), .ref p) :: [(some (.ol (List.replicate i (shB true))), .ref D)]) := by
        have w2 := (w1.flat (d := .int y) (v := .int y) fun _ => by simp only [Sh]).flat (d := .int x) (v := .int x) fun _ => by simp only [Sh]
        exact Wd.list (os := [shI x, shI y]) (vs := [.int x, .int y]) w2 rfl hp
      refine ⟨[.ol [shI x, shI y]], .sh (.bool true), [o2], [(some (.ol (List.replicate i (shB true))), .ref D)], hFe, rfl, wp, fun v H2 w2 kz => ?_⟩
      have w3 : Wd X.K H2 ((some (.sh (.bool true)), v) :: [(some (.ol (List.replicate i (shB true))), .ref D)]) := Wd.drop (e := (some o2, .ref p)) w2
      obtain ⟨G, sG, hv, _⟩ := sub_wd w3
      have hv : v = .bl true := by simpa only [Sh] using hv
      subst hv
      have hD2 := flat_trues w3.drop
      refine ⟨List.replicate i (.bl true), hD2, ?_, ((hS1.keep (frz_upd hp)).keep kz).keep (frz_upd2 hD2), ?_⟩
      · rw [List.length_replicate]
        exact Nat.lt_of_lt_of_le (show i < 1000 by omega) (by decide)
      · have w4 := w3.perm (.swap ..)
        obtain ⟨b, vs, e1, e2, l, w5⟩ := Wd.open w4
        cases e1
        rw [hD2] at e2
        cases e2
        have l2 : (List.replicate i (shB true) ++ [shB true]).length = (List.replicate i (V.bl true) ++ [V.bl true]).length := by simp
        rw [List.replicate_succ']
        refine Wd.close (L := []) ?_ l2
        rw [ens_append l, List.append_assoc]
        exact w5
    · have e : i = j.toNat := by omega
      subst e
      refine .inl ⟨Nat.le_refl _, ?_⟩
      refine ⟨D, List.replicate j.toNat true, rfl, .inl (.inl ?_), ?_⟩
      · rw [List.map_replicate]
        exact flat_trues w1
      · have e : (List.replicate j.toNat true).all id = true := by simp
        rw [e]
        exact z _
end
end Qv
end
section
set_option Elab.async false
set_option linter.all false
set_option maxRecDepth 100000
set_option maxHeartbeats 4000000
/-! Q22: from the head's facts to all defs. -/
namespace Qv
open PySem PySem.Spec PyProof.Rows L2

def mkD (x : Str) (st : Stmt) : He.DefD := ⟨(x, none), x, x, defArgs st, defBody st, defScope st, [], []⟩
abbrev Rw : Type := Nat × List Str × Fd
def fnL (top : Nat → Stmt) (g : Pg) (rows : List Rw) : List He.DefD := (g.fs.zip rows).map fun p => mkD p.1.1 (top p.2.1)
def cFa (q : Str × PyData) : He.Fa := match q.2 with
  | .str z => .str q.1 z
  | .int i => .int q.1 i
  | _ => .glo q.1
def faL (g : Pg) : List He.Fa := g.fs.map (fun p => .glo p.1) ++ (bnames.map .free ++ g.cs.map cFa)
def csB (g : Pg) : Bool := g.cs.all fun q => match q.2 with
  | .str _ => true
  | .int _ => true
  | _ => false
def fsB (N ps : List Str) (sc : Scope) : Bool := fnk sc && !sc.isCoroutine && !sc.isGenerator && decide N.Nodup && decide (N.take ps.length = ps) && (ps.all fun x => decide (sc.names.lookup x = some .local) || decide (sc.names.lookup x = some .cell)) && sc.names.all fun y => decide (y.2 ≠ .free)
theorem fsB_ok {N ps : List Str} {sc : Scope} (h : fsB N ps sc = true) : FnScope N ps sc := by
  unfold fsB at h
  simp only [Bool.and_eq_true, Bool.not_eq_true', decide_eq_true_eq, List.all_eq_true, Bool.or_eq_true] at h
  obtain ⟨⟨⟨⟨⟨⟨h1, h2⟩, h3⟩, h4⟩, h5⟩, h6⟩, h7⟩ := h
  exact ⟨fnk_ok h1, h2, h3, h4, h5, h6, h7⟩
def rowB (top : Nat → Stmt) (g : Pg) (p : (Str × List Str) × Rw) : Bool := decide (p.2.2.2.np = p.1.2.length) && decide (p.2.2.2.ns = p.2.2.1.length) && fsB p.2.2.1 p.1.2 (defScope (top p.2.1)) && ckSs g ⟨p.2.2.1, defScope (top p.2.1), fun _ => true⟩ (kpOf p.2.2.2) p.2.2.2.body (defBody (top p.2.1))
def allB (top : Nat → Stmt) (g : Pg) (rows : List Rw) : Bool := decide (g.fs.length = rows.length) && (g.fs.zip rows).all (rowB top g) && csB g
/-- how each def's arguments bind -/
def HB (top : Nat → Stmt) (p : (Str × List Str) × Rw) : Prop := ∀ (kV doc pm : Value) (an : Option Addr) (cdv ct : Value) (us : List Value), us.length = p.1.2.length →
  bindArgs (PySem.W.fnOf p.1.1 p.1.1 (defArgs (top p.2.1)) (defBody (top p.2.1)) (defScope (top p.2.1)) .none kV doc pm an cdv ct) ⟨us, []⟩ = pure (p.1.2.zip us)
def AllHB (top : Nat → Stmt) : List ((Str × List Str) × Rw) → Prop
  | [] => True
  | p :: ps => HB top p ∧ AllHB top ps
theorem AllHB.get {top : Nat → Stmt} : ∀ {l : List ((Str × List Str) × Rw)} {p : (Str × List Str) × Rw}, AllHB top l → p ∈ l → HB top p
  | q :: l, p, h, m => (List.mem_cons.mp m).elim (fun e => e ▸ h.1) fun m => AllHB.get h.2 m
def HK (top : Nat → Stmt) (g : Pg) (rows : List Rw) (q : Nat × List Str × Nat × List Nat) : Prop := ∀ p, (g.fs.zip rows)[q.1]? = some p → ∀ (kV doc pm : Value) (an : Option Addr) (cdv ct : Value) (us ws : List Value), us.length = q.2.2.1 → ws.length = q.2.1.length →
  bindArgs (PySem.W.fnOf p.1.1 p.1.1 (defArgs (top p.2.1)) (defBody (top p.2.1)) (defScope (top p.2.1)) .none kV doc pm an cdv ct) ⟨us, q.2.1.zip ws⟩ = pure (p.1.2.zip (permL q.2.2.2 (us ++ ws)))
def AllHK (top : Nat → Stmt) (g : Pg) (rows : List Rw) : List (Nat × List Str × Nat × List Nat) → Prop
  | [] => True
  | p :: ps => HK top g rows p ∧ AllHK top g rows ps
theorem AllHK.get {top : Nat → Stmt} {g : Pg} {rows : List Rw} : ∀ {l : List (Nat × List Str × Nat × List Nat)} {p : Nat × List Str × Nat × List Nat}, AllHK top g rows l → p ∈ l → HK top g rows p
  | q :: l, p, h, m => (List.mem_cons.mp m).elim (fun e => e ▸ h.1) fun m => AllHK.get h.2 m
section
variable {K : Frag} {h : Heap} {mg : Str → Option Value} {top : Nat → Stmt} {g : Pg} {rows : List Rw} {fa : List He.Fa} {fn : List He.DefD}
theorem fact_mem (c : He.SaysD fa fn K) {f : He.Fa} (m : f ∈ fa) : f.ok K = true := by
  obtain ⟨i, hi⟩ := List.mem_iff_getElem?.mp m
  exact c.fact i hi
theorem def_mem (c : He.SaysD fa fn K) {d : He.DefD} (m : d ∈ fn) : ∃ fd, FunD K d.name d.qual d.params d.body d.scope (d.dvs K) (d.kws K) (He.fAd K d.at_) fd := by
  obtain ⟨i, hi⟩ := List.mem_iff_getElem?.mp m
  exact c.def_ i hi
/-- a def that stands there -/
theorem mk_fun (c : He.SaysD fa fn K) {x : Str} {st : Stmt} (m : mkD x st ∈ fn) : ∃ (oc : Value) (od : Option Addr) (kV doc pm : Value) (an : Option Addr) (cdv ct : Value) (osl : Array (Option Value)),
    K.lookup (He.ga K x) = some ⟨oc, od, .func (PySem.W.fnOf x x (defArgs st) (defBody st) (defScope st) .none kV doc pm an cdv ct), osl⟩ ∧ PySem.W.codeIn K cdv x = true ∧ PySem.W.keepIn K (.ref (He.ga K x)) = true := by
  obtain ⟨fd, F⟩ := def_mem c m
  obtain ⟨oc, od, dV, kV, doc, pm, an, cdv, ct, osl, rfl, lk, hcd, hD, hK⟩ := F.ex
  have hd : dV = .none := by
    rcases hD with ⟨_, e⟩ | ⟨e, _⟩
    · exact e
    · exact absurd rfl e
  subst hd
  exact ⟨oc, od, kV, doc, pm, an, cdv, ct, osl, lk, hcd, F.kp⟩
theorem zip_get {α β : Type} : ∀ {xs : List α} {ys : List β} {j : Nat} {x : α}, xs.length = ys.length → xs[j]? = some x → ∃ y, ys[j]? = some y ∧ (xs.zip ys)[j]? = some (x, y)
  | [], _, _, _, _, h => by simp at h
  | x :: xs, y :: ys, 0, z, _, h => by
    simp at h
    subst h
    exact ⟨y, rfl, rfl⟩
  | x :: xs, y :: ys, j + 1, z, l, h => by
    obtain ⟨u, h1, h2⟩ := zip_get (xs := xs) (ys := ys) (j := j) (x := z) (by simpa using l) (by simpa using h)
    exact ⟨u, by simpa using h1, by simpa using h2⟩
  | _ :: _, [], _, _, l, _ => by cases l
theorem ax_of (X : K.In h) (G : h.Ns mainGlobals mg) (c : He.SaysD (faL g ++ fa) (fnL top g rows ++ fn) K) (hr : allB top g rows = true) (hb : AllHB top (g.fs.zip rows)) (hk : AllHK top g rows g.kw) :
    ∃ fA fD, Ax K mg g (rows.map (·.2.2)) fA fD := by
  unfold allB at hr
  simp only [Bool.and_eq_true, decide_eq_true_eq] at hr
  obtain ⟨⟨hl, hrow⟩, hcs⟩ := hr
  have per : ∀ j : Nat, ∃ (a : Addr) (fd : FuncData), ∀ x ps, g.fs[j]? = some (x, ps) → mg x = some (.ref a) ∧ PySem.W.keepIn K (.ref a) = true ∧ (∀ (s : Shared) (us : List Value), us.length = ps.length → BindsTo s fd ⟨us, []⟩ (ps.zip us)) ∧
    (∀ ks n pm, (j, ks, n, pm) ∈ g.kw → KwB fd ps ks n pm) ∧
    ∃ (name qual : Str) (params : Arguments) (body : List Stmt) (scope : Scope) (dV kV doc pm cdv ct oc : Value) (an od : Option Addr) (osl : Array (Option Value)) (N : List Str) (fd' : Fd),
      fd = PySem.W.fnOf name qual params body scope dV kV doc pm an cdv ct ∧ K.lookup a = some ⟨oc, od, .func fd, osl⟩ ∧ PySem.W.codeIn K cdv qual = true ∧ FnScope N ps scope ∧ (rows.map (·.2.2))[j]? = some fd' ∧ fd'.np = ps.length ∧ fd'.ns = N.length ∧
      ckSs g ⟨N, scope, fun _ => true⟩ (kpOf fd') fd'.body body = true := by
    intro j
    cases hj : g.fs[j]? with
    | none => exact ⟨0, default, fun x ps e => by cases e⟩
    | some q =>
      obtain ⟨x, ps⟩ := q
      obtain ⟨r, h1, h2⟩ := zip_get hl hj
      have hz := List.mem_of_getElem? h2
      have ck := List.all_eq_true.mp hrow _ hz
      unfold rowB at ck
      simp only [Bool.and_eq_true, decide_eq_true_eq] at ck
      obtain ⟨⟨⟨c1, c2⟩, c3⟩, c4⟩ := ck
      have md : mkD x (top r.1) ∈ fnL top g rows ++ fn := List.mem_append_left _ (List.mem_map.mpr ⟨_, hz, rfl⟩)
      obtain ⟨oc, od, kV, doc, pm, an, cdv, ct, osl, lk, hcd, kp⟩ := mk_fun c md
      have mgx : mg x = some (.ref (He.ga K x)) := He.glo_ok X G (fact_mem c (List.mem_append_left _ (List.mem_append_left _ (List.mem_map.mpr ⟨_, List.mem_of_getElem? hj, rfl⟩))))
      refine ⟨He.ga K x, PySem.W.fnOf x x (defArgs (top r.1)) (defBody (top r.1)) (defScope (top r.1)) .none kV doc pm an cdv ct, fun x' ps' e => ?_⟩
      cases e
      refine ⟨mgx, kp, fun s us l => .of_eq (hb.get hz kV doc pm an cdv ct us l), fun ks n pm' m s us ws l1 l2 => .of_eq (hk.get m _ h2 kV doc pm an cdv ct us ws l1 l2), ?_⟩
      exact ⟨_, _, _, _, _, _, kV, doc, pm, cdv, ct, oc, an, od, osl, r.2.1, r.2.2, rfl, lk, hcd, fsB_ok c3, by rw [List.getElem?_map, h1]; rfl, c1, c2, c4⟩
  refine ⟨fun j => Classical.choose (per j), fun j => Classical.choose (Classical.choose_spec (per j)), fun x m => ?_, fun x d m => ?_, fun j x ps e => Classical.choose_spec (Classical.choose_spec (per j)) x ps e⟩
  · exact He.free_ok X G (fact_mem c (List.mem_append_left _ (List.mem_append_right _ (List.mem_append_left _ (List.mem_map.mpr ⟨_, m, rfl⟩)))))
  · have f : (cFa (x, d)).ok K = true := fact_mem c (List.mem_append_left _ (List.mem_append_right _ (List.mem_append_right _ (List.mem_map.mpr ⟨_, m, rfl⟩))))
    have q := List.all_eq_true.mp hcs _ m
    cases d with
    | str z =>
      obtain ⟨t, ht⟩ := He.str_ok X G (x := x) (z := z) f
      exact ⟨_, .str z, ht, ⟨t, rfl⟩, fun _ => by simp only [Sh]⟩
    | int z =>
      obtain ⟨t, ht⟩ := He.int_ok X G (x := x) (i := z) f
      exact ⟨_, .int z, ht, ⟨t, rfl⟩, fun _ => by simp only [Sh]⟩
    | _ => cases q
end
end Qv
end
section
set_option Elab.async false
set_option linter.all false
set_option maxRecDepth 100000
/-! Q23: computing with terms. -/
namespace Qv
open PySem PySem.Spec PyProof.Rows L2

section
variable {C : Cal} {ρ ρ1 ρ2 : Env}
@[simp] theorem isNm_nm {i : Nat} : isNm (.nm i) = some i := rfl
@[simp] theorem evs_nil : evs C [] ρ = some ([], ρ) := by simp only [evs]
@[simp] theorem evs_cons {e : T} {es : List T} : evs C (e :: es) ρ = (ev C e ρ).bind fun a => (evs C es a.2).bind fun b => some (a.1 :: b.1, b.2) := by
  simp only [evs]
  cases ev C e ρ with
  | none => rfl
  | some a =>
    obtain ⟨o, ρ1⟩ := a
    simp only [Option.bind_some]
    cases evs C es ρ1 with
    | none => rfl
    | some b => rfl
@[simp] theorem evOs_nil : evOs C [] ρ = some ([], ρ) := by simp only [evOs]
theorem evOs_cons {e : T} {es : List T} : evOs C (e :: es) ρ = match isNm e with
    | some i => (rdO ρ (.sl i)).bind fun _ => (evOs C es ρ).bind fun b => some (.sl i :: b.1, b.2)
    | none => (ev C e ρ).bind fun a => (evOs C es a.2).bind fun b => some (.tv a.1 :: b.1, b.2) := by
  simp only [evOs]
  cases isNm e with
  | some i =>
    simp only
    cases rdO ρ (.sl i) with
    | none => rfl
    | some a =>
      simp only [Option.bind_some]
      cases evOs C es ρ with
      | none => rfl
      | some b => rfl
  | none =>
    simp only
    cases ev C e ρ with
    | none => rfl
    | some a =>
      obtain ⟨o, ρ1⟩ := a
      simp only [Option.bind_some]
      cases evOs C es ρ1 with
      | none => rfl
      | some b => rfl
@[simp] theorem evOs_nm {i : Nat} {es : List T} : evOs C (.nm i :: es) ρ = (rdO ρ (.sl i)).bind fun _ => (evOs C es ρ).bind fun b => some (.sl i :: b.1, b.2) := by
  rw [evOs_cons]
  rfl
theorem evOs_tv {e : T} {es : List T} (h : isNm e = none) : evOs C (e :: es) ρ = (ev C e ρ).bind fun a => (evOs C es a.2).bind fun b => some (.tv a.1 :: b.1, b.2) := by
  rw [evOs_cons, h]
@[simp] theorem evOs_c {d : PyData} {es : List T} : evOs C (.c d :: es) ρ = (evOs C es ρ).bind fun b => some (.tv (.sh d) :: b.1, b.2) := by
  rw [evOs_tv rfl]
  simp only [ev, Option.bind_some]
@[simp] theorem evOs_op {k : OpK} {as : List T} {es : List T} : evOs C (.op k as :: es) ρ = (ev C (.op k as) ρ).bind fun a => (evOs C es a.2).bind fun b => some (.tv a.1 :: b.1, b.2) := evOs_tv rfl
@[simp] theorem evOs_tup {as : List T} {es : List T} : evOs C (.tup as :: es) ρ = (ev C (.tup as) ρ).bind fun a => (evOs C es a.2).bind fun b => some (.tv a.1 :: b.1, b.2) := evOs_tv rfl
@[simp] theorem evOs_lst {as : List T} {es : List T} : evOs C (.lst as :: es) ρ = (ev C (.lst as) ρ).bind fun a => (evOs C es a.2).bind fun b => some (.tv a.1 :: b.1, b.2) := evOs_tv rfl
@[simp] theorem evOs_call {f : Nat} {as : List T} {es : List T} : evOs C (.call f as :: es) ρ = (ev C (.call f as) ρ).bind fun a => (evOs C es a.2).bind fun b => some (.tv a.1 :: b.1, b.2) := evOs_tv rfl
@[simp] theorem evOs_callk {f : Nat} {as : List T} {pm : List Nat} {es : List T} : evOs C (.callk f as pm :: es) ρ = (ev C (.callk f as pm) ρ).bind fun a => (evOs C es a.2).bind fun b => some (.tv a.1 :: b.1, b.2) := evOs_tv rfl
@[simp] theorem evOs_lc {ws : List Nat} {tg : Tg} {ik : IK} {ies cs : List T} {e : T} {es : List T} : evOs C (.lc ws tg ik ies cs e :: es) ρ = (ev C (.lc ws tg ik ies cs e) ρ).bind fun a => (evOs C es a.2).bind fun b => some (.tv a.1 :: b.1, b.2) := evOs_tv rfl
@[simp] theorem evOs_ite {a b c : T} {es : List T} : evOs C (.ite a b c :: es) ρ = (ev C (.ite a b c) ρ).bind fun a => (evOs C es a.2).bind fun b => some (.tv a.1 :: b.1, b.2) := evOs_tv rfl
@[simp] theorem evOs_sl {a b c : List T} {es : List T} : evOs C (.sl a b c :: es) ρ = (ev C (.sl a b c) ρ).bind fun a => (evOs C es a.2).bind fun b => some (.tv a.1 :: b.1, b.2) := evOs_tv rfl
@[simp] theorem evOs_mth {k : OpK} {a : T} {b : List T} {es : List T} : evOs C (.mth k a b :: es) ρ = (ev C (.mth k a b) ρ).bind fun a => (evOs C es a.2).bind fun b => some (.tv a.1 :: b.1, b.2) := evOs_tv rfl
@[simp] theorem evOs_prj {a : T} {j : Nat} {es : List T} : evOs C (.prj a j :: es) ρ = (ev C (.prj a j) ρ).bind fun a => (evOs C es a.2).bind fun b => some (.tv a.1 :: b.1, b.2) := evOs_tv rfl

@[simp] theorem ev_c {d : PyData} : ev C (.c d) ρ = some (.sh d, ρ) := by simp only [ev]
@[simp] theorem ev_nm {i : Nat} : ev C (.nm i) ρ = rdV i ρ := by simp only [ev]
@[simp] theorem ev_mv {i : Nat} : ev C (.mv i) ρ = mvV i ρ := by simp only [ev]
@[simp] theorem ev_fz {e : T} : ev C (.fz e) ρ = (ev C e ρ).bind fun a => some (.sh a.1.d, a.2) := by
  simp only [ev]
  cases ev C e ρ <;> rfl
@[simp] theorem evOs_fz {a : T} {es : List T} : evOs C (.fz a :: es) ρ = (ev C (.fz a) ρ).bind fun a => (evOs C es a.2).bind fun b => some (.tv a.1 :: b.1, b.2) := evOs_tv rfl
def szd {α : Type} (n : Nat) (x : α) : Option α := if n ≤ sizeLine then some x else none
theorem szd_ok {α : Type} {n : Nat} {x : α} (h : n ≤ sizeLine) : szd n x = some x := if_pos h
theorem sz_le {n : Nat} (h : n ≤ 1000000) : n ≤ sizeLine := by
  rw [sizeLine_eq]
  omega
@[simp] theorem szd0 {α : Type} {x : α} : szd 0 x = some x := szd_ok (sz_le (by decide))
@[simp] theorem szd1 {α : Type} {x : α} : szd 1 x = some x := szd_ok (sz_le (by decide))
@[simp] theorem szd2 {α : Type} {x : α} : szd 2 x = some x := szd_ok (sz_le (by decide))
@[simp] theorem szd3 {α : Type} {x : α} : szd 3 x = some x := szd_ok (sz_le (by decide))
@[simp] theorem szd4 {α : Type} {x : α} : szd 4 x = some x := szd_ok (sz_le (by decide))
@[simp] theorem szd5 {α : Type} {x : α} : szd 5 x = some x := szd_ok (sz_le (by decide))
@[simp] theorem ev_tup {es : List T} : ev C (.tup es) ρ = (evs C es ρ).bind fun a => szd a.1.length (.sh (.tuple (O.dL a.1)), a.2) := by
  simp only [ev]
  cases evs C es ρ with
  | none => rfl
  | some a => rfl
@[simp] theorem ev_tupo {es : List T} : ev C (.tupo es) ρ = (evs C es ρ).bind fun a => szd a.1.length (.ot a.1, a.2) := by
  simp only [ev]
  cases evs C es ρ with
  | none => rfl
  | some a => rfl
@[simp] theorem ev_lst {es : List T} : ev C (.lst es) ρ = (evs C es ρ).bind fun a => szd a.1.length (olOf (O.dL a.1), a.2) := by
  simp only [ev]
  cases evs C es ρ with
  | none => rfl
  | some a => rfl
@[simp] theorem ev_op {k : OpK} {es : List T} : ev C (.op k es) ρ = (evOs C es ρ).bind fun a => (rdOs a.2 a.1).bind fun os => (prim k os).bind fun o => some (o, a.2) := by
  simp only [ev]
  cases evOs C es ρ with
  | none => rfl
  | some a =>
    obtain ⟨xs, ρ1⟩ := a
    simp only [Option.bind_some]
    cases rdOs ρ1 xs with
    | none => rfl
    | some os =>
      simp only [Option.bind_some]
      cases prim k os <;> rfl
/-- what a value of truth leads to -/
def onB {α : Type} (x : Option (O × Env)) (f g : Env → Option α) : Option α := match x with
  | some (.sh (.bool true), ρ) => f ρ
  | some (.sh (.bool false), ρ) => g ρ
  | _ => none
@[simp] theorem onB_t {α : Type} {f g : Env → Option α} : onB (some (.sh (.bool true), ρ)) f g = f ρ := rfl
@[simp] theorem onB_f {α : Type} {f g : Env → Option α} : onB (some (.sh (.bool false), ρ)) f g = g ρ := rfl
theorem onB_b {α : Type} {f g : Env → Option α} {b : Bool} : onB (some (.sh (.bool b), ρ)) f g = if b then f ρ else g ρ := by cases b <;> rfl
@[simp] theorem ev_and {a b : T} : ev C (.and2 a b) ρ = onB (ev C a ρ) (fun ρ => ev C b ρ) fun ρ => some (.sh (.bool false), ρ) := by
  simp only [ev]
  unfold onB
  split <;> simp_all
@[simp] theorem ev_or {a b : T} : ev C (.or2 a b) ρ = onB (ev C a ρ) (fun ρ => some (.sh (.bool true), ρ)) fun ρ => ev C b ρ := by
  simp only [ev]
  unfold onB
  split <;> simp_all
@[simp] theorem ev_ite {a b c : T} : ev C (.ite c a b) ρ = onB (ev C c ρ) (fun ρ => ev C a ρ) fun ρ => ev C b ρ := by
  simp only [ev]
  unfold onB
  split <;> simp_all
@[simp] theorem ev_tn {a : T} : ev C (.tn a) ρ = onB (ev C a ρ) (fun ρ => some (.sh (.bool false), ρ)) fun ρ => some (.sh (.bool true), ρ) := by
  simp only [ev]
  unfold onB
  split <;> simp_all
  · rename_i b ρ1 h
    cases b <;> simp_all <;> rfl
theorem ev_tt {a : T} (h : isNm a = none) : ev C (.tt a) ρ = (ev C a ρ).bind fun q => (rdOs q.2 [.tv q.1]).bind fun os => match os with
    | [o] => (truth o).bind fun b => some (shB b, q.2)
    | _ => none := by
  simp only [ev, h]
  cases ev C a ρ with
  | none => rfl
  | some q =>
    obtain ⟨o, ρ1⟩ := q
    simp only [Option.bind_some]
    cases rdOs ρ1 [.tv o] with
    | none => rfl
    | some os =>
      simp only [Option.bind_some]
      match os with
      | [o] =>
        simp only
        cases truth o <;> rfl
      | [] => rfl
      | _ :: _ :: _ => rfl
@[simp] theorem ev_tt_call {f : Nat} {es : List T} : ev C (.tt (.call f es)) ρ = (ev C (.call f es) ρ).bind fun q => (rdOs q.2 [.tv q.1]).bind fun os => match os with
    | [o] => (truth o).bind fun b => some (shB b, q.2)
    | _ => none := ev_tt rfl
@[simp] theorem ev_tt_op {f : OpK} {es : List T} : ev C (.tt (.op f es)) ρ = (ev C (.op f es) ρ).bind fun q => (rdOs q.2 [.tv q.1]).bind fun os => match os with
    | [o] => (truth o).bind fun b => some (shB b, q.2)
    | _ => none := ev_tt rfl
@[simp] theorem ev_call {f : Nat} {es : List T} : ev C (.call f es) ρ = (evOs C es ρ).bind fun a => (lend a.1 a.2).bind fun b => (C f b.1).bind fun r => some (r.1, back a.1 r.2 b.2) := by
  simp only [ev]
  cases evOs C es ρ with
  | none => rfl
  | some a =>
    obtain ⟨xs, ρ1⟩ := a
    simp only [Option.bind_some]
    cases lend xs ρ1 with
    | none => rfl
    | some b =>
      obtain ⟨os, ρ2⟩ := b
      simp only [Option.bind_some]
      cases C f os with
      | none => rfl
      | some r => rfl
@[simp] theorem ev_callk {f : Nat} {es : List T} {pm : List Nat} : ev C (.callk f es pm) ρ = (evOs C es ρ).bind fun a => (lend (permL pm a.1) a.2).bind fun b => (C f b.1).bind fun r => some (r.1, back (permL pm a.1) r.2 b.2) := by
  simp only [ev]
  cases evOs C es ρ with
  | none => rfl
  | some a =>
    obtain ⟨xs, ρ1⟩ := a
    simp only [Option.bind_some]
    cases lend (permL pm xs) ρ1 with
    | none => rfl
    | some b =>
      obtain ⟨os, ρ2⟩ := b
      simp only [Option.bind_some]
      cases C f os with
      | none => rfl
      | some r => rfl
@[simp] theorem rdO_tv {o : O} : rdO ρ (.tv o) = some o := rfl
@[simp] theorem rdOs_nil : rdOs ρ [] = some [] := rfl
@[simp] theorem rdOs_cons {x : Opd} {xs : List Opd} : rdOs ρ (x :: xs) = (rdO ρ x).bind fun o => (rdOs ρ xs).bind fun os => if o.isFlat then some (o :: os) else none := by
  simp only [rdOs]
  cases rdO ρ x with
  | none => rfl
  | some o =>
    cases rdOs ρ xs with
    | none => rfl
    | some os => rfl
@[simp] theorem flat_sh {d : PyData} : (O.sh d).isFlat = true := rfl
@[simp] theorem flat_ol {ds : List PyData} : (olOf ds).isFlat = true := by
  show (allSh (ds.map O.sh)).isSome = true
  rw [allSh_map]
  rfl
@[simp] theorem list_ol {ds : List PyData} : (olOf ds).list? = some ds := allSh_map ds
@[simp] theorem list_sh {ds : List PyData} : (O.sh (.list ds)).list? = some ds := rfl
@[simp] theorem seq_ol {ds : List PyData} : (olOf ds).seq? = some ds := by
  unfold O.seq?
  rw [list_ol]
@[simp] theorem seq_sh {ds : List PyData} : (O.sh (.list ds)).seq? = some ds := rfl
@[simp] theorem seq_tp {ds : List PyData} : (O.sh (.tuple ds)).seq? = some ds := rfl
@[simp] theorem d_ol {ds : List PyData} : (olOf ds).d = .list ds := by
  show PyData.list (O.dL (ds.map O.sh)) = _
  rw [allSh_dL (allSh_map ds)]
@[simp] theorem d_sh {d : PyData} : (O.sh d).d = d := rfl
@[simp] theorem dL_nil : O.dL [] = [] := rfl
@[simp] theorem dL_cons {o : O} {os : List O} : O.dL (o :: os) = o.d :: O.dL os := rfl

/-! ### statements -/
def onO {α : Type} (x : Option (O × Env)) (f : O → Env → Option α) : Option α := x.bind fun a => f a.1 a.2
@[simp] theorem evSs_nil : evSs C [] ρ = some (.nx ρ) := by simp only [evSs]
/-- then -/
def thenS (x : Option Out) (f : Env → Option Out) : Option Out := match x with
  | some (.nx ρ1) => f ρ1
  | r => r
@[simp] theorem thenS_nx {f : Env → Option Out} : thenS (some (.nx ρ)) f = f ρ := rfl
@[simp] theorem thenS_rt {o : O} {f : Env → Option Out} : thenS (some (.rt o ρ)) f = some (.rt o ρ) := rfl
@[simp] theorem thenS_ct {f : Env → Option Out} : thenS (some (.ct ρ)) f = some (.ct ρ) := rfl
@[simp] theorem thenS_bk {f : Env → Option Out} : thenS (some (.bk ρ)) f = some (.bk ρ) := rfl
@[simp] theorem evSs_cons {s : S} {ss : List S} : evSs C (s :: ss) ρ = thenS (evS C s ρ) fun ρ => evSs C ss ρ := by
  simp only [evSs]
  unfold thenS
  split <;> simp_all
@[simp] theorem evS_ret {e : T} : evS C (.ret e) ρ = (ev C e ρ).bind fun a => some (.rt a.1 a.2) := by
  simp only [evS]
  cases ev C e ρ <;> rfl
@[simp] theorem evS_ex {e : T} : evS C (.ex e) ρ = (ev C e ρ).bind fun a => some (.nx a.2) := by
  simp only [evS]
  cases ev C e ρ <;> rfl
@[simp] theorem evS_asg {t : Ta} {e : T} : evS C (.asg t e) ρ = (ev C e ρ).bind fun a => (bindTa C t a.1 a.2).bind fun ρ2 => some (.nx ρ2) := by
  simp only [evS]
  cases ev C e ρ with
  | none => rfl
  | some a =>
    obtain ⟨o, ρ1⟩ := a
    simp only [Option.bind_some]
    cases bindTa C t o ρ1 <;> rfl
@[simp] theorem evS_par {is : List Nat} {es : List T} : evS C (.par is es) ρ = (evs C es ρ).bind fun a => if is.all (fun i => decide (i < a.2.length)) then some (.nx (putAll is a.1 a.2)) else none := by
  simp only [evS]
  cases evs C es ρ <;> rfl
@[simp] theorem evS_ite {c : T} {a b : List S} : evS C (.ite c a b) ρ = onB (ev C c ρ) (fun ρ => evSs C a ρ) fun ρ => evSs C b ρ := by
  simp only [evS]
  unfold onB
  split <;> simp_all
@[simp] theorem evS_pass : evS C .pass ρ = some (.nx ρ) := by simp only [evS]
@[simp] theorem evS_brk : evS C .brk ρ = some (.bk ρ) := by simp only [evS]
@[simp] theorem evS_cont : evS C .cont ρ = some (.ct ρ) := by simp only [evS]
@[simp] theorem bind_nm {i : Nat} {o : O} : bindTa C (.nm i) o ρ = if i < ρ.length then some (ρ.set i (some o)) else none := by simp only [bindTa]
theorem evS_fr {tg : Tg} {ik : IK} {ies : List T} {b : List S} : evS C (.fr tg ik ies b) ρ = (evs C ies ρ).bind fun a => (walk ik (a.1.map fun o => .sh o.d)).bind fun xs => frGo (fun x ρ2 => (bindTg tg x ρ2).bind fun ρ3 => evSs C b ρ3) xs a.2 := by
  simp only [evS]
  cases evs C ies ρ with
  | none => rfl
  | some a =>
    obtain ⟨os, ρ1⟩ := a
    simp only [Option.bind_some]
    cases walk ik (os.map fun o => .sh o.d) with
    | none => rfl
    | some xs =>
      refine congrArg (fun f => frGo f xs ρ1) ?_
      funext x ρ2
      cases bindTg tg x ρ2 <;> rfl
/-- one turn of a comprehension -/
def lcT (C : Cal) (ws : List Nat) (tg : Tg) (cs : List T) (e : T) (x : O) (ρ : Env) : Option (Option O × Env) := (bindTg tg x ρ).bind fun ρ3 => (evBs C cs ρ3).bind fun q => if q.1 then (ev C e q.2).bind fun r => some (some (.sh r.1.d), forget r.2 ws) else some (none, forget q.2 ws)
theorem ev_lc {ws : List Nat} {tg : Tg} {ik : IK} {ies cs : List T} {e : T} : ev C (.lc ws tg ik ies cs e) ρ = (evs C ies ρ).bind fun a => (walk ik (a.1.map fun o => .sh o.d)).bind fun xs => (lcGo (lcT C ws tg cs e) xs [] (forget a.2 ws)).bind fun r => some (.ol r.1, forget r.2 ws) := by
  simp only [ev]
  cases evs C ies ρ with
  | none => rfl
  | some a =>
    obtain ⟨os, ρ1⟩ := a
    simp only [Option.bind_some]
    cases walk ik (os.map fun o => .sh o.d) with
    | none => rfl
    | some xs =>
      have key : ∀ F : O → Env → Option (Option O × Env), F = lcT C ws tg cs e → (match lcGo F xs [] (forget ρ1 ws) with
          | some (os, ρ2) => some (O.ol os, forget ρ2 ws)
          | none => none) = (lcGo (lcT C ws tg cs e) xs [] (forget ρ1 ws)).bind fun r => some (.ol r.1, forget r.2 ws) := fun F h => by
        rw [h]
        cases lcGo (lcT C ws tg cs e) xs [] (forget ρ1 ws) <;> rfl
      refine key _ ?_
      funext x ρ2
      unfold lcT
      cases bindTg tg x ρ2 with
      | none => rfl
      | some ρ3 =>
        simp only [Option.bind_some]
        cases evBs C cs ρ3 with
        | none => rfl
        | some q =>
          obtain ⟨b, ρ4⟩ := q
          cases b with
          | false => rfl
          | true =>
            simp only [Option.bind_some, if_true]
            cases ev C e ρ4 <;> rfl
@[simp] theorem evBs_nil : evBs C [] ρ = some (true, ρ) := by simp only [evBs]
@[simp] theorem evBs_cons {e : T} {es : List T} : evBs C (e :: es) ρ = onB (ev C e ρ) (fun ρ => evBs C es ρ) fun ρ => some (false, ρ) := by
  simp only [evBs]
  unfold onB
  split <;> simp_all
/-- a comprehension whose turns leave the slots as they were -/
theorem lcGo_map {f : O → Env → Option (Option O × Env)} {xs : List O} {ρ : Env} {g : O → Option O} (h : ∀ x ∈ xs, f x ρ = some (g x, ρ)) : ∀ {acc : List O}, acc.length + xs.length ≤ 1000000 → lcGo f xs acc ρ = some (acc ++ xs.filterMap g, ρ) := by
  induction xs with
  | nil =>
    intro acc _
    simp [lcGo]
  | cons x xs ih =>
    intro acc hl
    have hx := h x List.mem_cons_self
    have ih := fun {acc} => ih (fun y hy => h y (List.mem_cons_of_mem _ hy)) (acc := acc)
    simp only [List.length_cons] at hl
    cases q : g x with
    | none =>
      rw [q] at hx
      simp only [lcGo, hx, List.filterMap_cons, q]
      exact ih (by omega)
    | some o =>
      rw [q] at hx
      simp only [lcGo, hx, List.filterMap_cons, q]
      rw [if_pos (Nat.lt_of_lt_of_le (show acc.length < acc.length + 1 by omega) (sz_le (by omega)))]
      rw [ih (by rw [List.length_append, List.length_singleton]; omega), List.append_assoc]
      rfl
/-- a for whose turns go on -/
theorem frGo_inv {f : O → Env → Option Out} {xs : List O} {ρ : Nat → Env} (h : ∀ i x, xs[i]? = some x → f x (ρ i) = some (.nx (ρ (i + 1))) ∨ f x (ρ i) = some (.ct (ρ (i + 1)))) : frGo f xs (ρ 0) = some (.nx (ρ xs.length)) := by
  induction xs generalizing ρ with
  | nil => rfl
  | cons x xs ih =>
    have h0 := h 0 x rfl
    have h1 := ih (ρ := fun i => ρ (i + 1)) fun i y hy => h (i + 1) y (by simpa using hy)
    rcases h0 with e | e <;> (simp only [frGo, e]; exact h1)
end
/-- a def's end -/
theorem run_rt {P : List Fd} {k f : Nat} {fd : Fd} {os os2 : List O} {o : O} {ρ : Env} (hf : P[f]? = some fd) (hl : os.length = fd.np) (hb : evSs (runF P k) fd.body (startAll 0 fd.asgd os ++ List.replicate (fd.ns - fd.np) none) = some (.rt o ρ))
    (hh : heldAll 0 fd.asgd os ρ = some os2) : runF P (k + 1) f os = some (o, os2) := by
  simp only [runF, hf, hl, if_true, hb, hh, Option.map_some]
theorem run_nx {P : List Fd} {k f : Nat} {fd : Fd} {os os2 : List O} {ρ : Env} (hf : P[f]? = some fd) (hl : os.length = fd.np) (hb : evSs (runF P k) fd.body (startAll 0 fd.asgd os ++ List.replicate (fd.ns - fd.np) none) = some (.nx ρ))
    (hh : heldAll 0 fd.asgd os ρ = some os2) : runF P (k + 1) f os = some (.sh .none, os2) := by
  simp only [runF, hf, hl, if_true, hb, hh, Option.map_some]
end Qv
end
section
set_option Elab.async false
set_option linter.all false
set_option maxRecDepth 100000
set_option maxHeartbeats 2000000
/-! Q24: what all laws' mathematics uses: steps, comprehensions, draws, bounds of what is shown. -/
namespace Qv
open PySem PySem.Spec PyProof.Rows L2

theorem posK {k n : Nat} (h : n + 1 ≤ k) : ∃ j, k = j + 1 ∧ n ≤ j := ⟨k - 1, by omega, by omega⟩
theorem seq1 {C : Cal} {s : S} {ss : List S} {ρ ρ1 : Qv.Env} (h : evS C s ρ = some (.nx ρ1)) : evSs C (s :: ss) ρ = evSs C ss ρ1 := by
  rw [evSs_cons, h, thenS_nx]
theorem seqR {C : Cal} {s : S} {ss : List S} {ρ ρ1 : Qv.Env} {o : O} (h : evS C s ρ = some (.rt o ρ1)) : evSs C (s :: ss) ρ = some (.rt o ρ1) := by
  rw [evSs_cons, h]
  rfl
theorem if_tt {C : Cal} {c : T} {a b : List S} {ρ ρ1 : Qv.Env} (h : ev C c ρ = some (.sh (.bool true), ρ1)) : evS C (.ite c a b) ρ = evSs C a ρ1 := by
  rw [evS_ite, h, onB_t]
theorem if_ff {C : Cal} {c : T} {a b : List S} {ρ ρ1 : Qv.Env} (h : ev C c ρ = some (.sh (.bool false), ρ1)) : evS C (.ite c a b) ρ = evSs C b ρ1 := by
  rw [evS_ite, h, onB_f]
theorem item_at {o : O} {ds : List PyData} {i : Nat} {d : PyData} (hs : o.seq? = some ds) (h : ds[i]? = some d) : pItem [o, .sh (.int (i : Int))] = some (.sh d) := by
  have key : (match o.seq? with
    | some ds => (atI ds (i : Int)).map O.sh
    | none => none) = some (.sh d) := by
    rw [hs]
    simp [atI_nat h]
  cases o with
  | sh e =>
    cases e with
    | str z => cases hs
    | _ => exact key
  | _ => exact key
theorem ext_of {C : Cal} {i : Nat} {e : T} {ρ ρ1 : Qv.Env} {os0 os : List O} {v : O} {ds : List PyData} (hn : isNm e = none) (h0 : ρ[i]? = some (some (.ol os0))) (h1 : ev C e ρ = some (v, ρ1)) (h2 : ρ1[i]? = some (some (.ol os))) (h3 : v.isFlat = true) (h4 : v.list? = some ds)
    (h5 : os.length + ds.length ≤ sizeLine) : ev C (.ext i [e]) ρ = some (.sh .none, ρ1.set i (some (.ol (os ++ ds.map O.sh)))) := by
  simp only [ev, rdO, h0, evOs, hn, h1, h2, rdOs, h3, if_true, h4, h5]
theorem app_of {C : Cal} {i : Nat} {e : T} {ρ ρ1 : Qv.Env} {os0 os : List O} {v : O} (h0 : ρ[i]? = some (some (.ol os0))) (h1 : ev C e ρ = some (v, ρ1)) (h2 : ρ1[i]? = some (some (.ol os))) (h5 : os.length < sizeLine) :
    ev C (.app i e) ρ = some (.sh .none, ρ1.set i (some (.ol (os ++ [.sh v.d])))) := by
  simp only [ev, rdO, h0, h1, h2, h5, if_true]
theorem len_ol (ds : List PyData) : pLen (olOf ds) = some (shI ds.length) := by
  show (olOf ds).seq?.map (fun ds => shI ds.length) = _
  rw [seq_ol]
  rfl
theorem fm_const {α β : Type} (b : β) : ∀ xs : List α, xs.filterMap (fun _ => some b) = List.replicate xs.length b
  | [] => rfl
  | x :: xs => by simp [List.filterMap_cons, fm_const b xs, List.replicate_succ]
theorem fm_some {α β : Type} (f : α → β) : ∀ xs : List α, xs.filterMap (fun x => some (f x)) = xs.map f
  | [] => rfl
  | x :: xs => by simp [List.filterMap_cons, fm_some f xs]
theorem lcGo_mapA {α : Type} {f : O → Qv.Env → Option (Option O × Qv.Env)} {ρ : Qv.Env} {F : α → O} {g : α → Option O} : ∀ {es : List α} (h : ∀ e ∈ es, f (F e) ρ = some (g e, ρ)) {acc : List O}, acc.length + es.length ≤ 1000000 → lcGo f (es.map F) acc ρ = some (acc ++ es.filterMap g, ρ)
  | [], _, acc, _ => by simp [lcGo]
  | x :: xs, h, acc, hl => by
    have hx := h x List.mem_cons_self
    simp only [List.length_cons] at hl
    have ih := fun acc q => lcGo_mapA (es := xs) (fun y hy => h y (List.mem_cons_of_mem _ hy)) (acc := acc) q
    cases q : g x with
    | none =>
      rw [q] at hx
      simp only [List.map_cons, lcGo, hx, List.filterMap_cons, q]
      exact ih _ (by omega)
    | some o =>
      rw [q] at hx
      simp only [List.map_cons, lcGo, hx, List.filterMap_cons, q]
      rw [if_pos (Nat.lt_of_lt_of_le (show acc.length < acc.length + 1 by omega) (sz_le (by omega)))]
      rw [ih _ (by rw [List.length_append, List.length_singleton]; omega), List.append_assoc]
      rfl
/-- a comprehension over what F shows, its turns leaving the slots -/
theorem lc_ofA {α : Type} {C : Cal} {ws : List Nat} {tg : Tg} {ik : IK} {ies cs : List T} {e : T} {ρ ρ1 : Qv.Env} {os : List O} (F : α → O) (g : α → Option O) (es : List α) (h1 : evs C ies ρ = some (os, ρ1)) (h2 : walk ik (os.map fun o => .sh o.d) = some (es.map F))
    (h3 : ∀ x ∈ es, lcT C ws tg cs e (F x) (forget ρ1 ws) = some (g x, forget ρ1 ws)) (hl : es.length ≤ 1000000) : ev C (.lc ws tg ik ies cs e) ρ = some (.ol (es.filterMap g), forget (forget ρ1 ws) ws) := by
  rw [ev_lc, h1]
  simp only [Option.bind_some, h2]
  rw [lcGo_mapA h3 (by simpa using hl)]
  rfl
theorem lc_any {C : Cal} {ws : List Nat} {tg : Tg} {ik : IK} {ies cs : List Qv.T} {e : Qv.T} {ρ ρ1 ρ2 : Qv.Env} {os xs acc : List O} (h1 : evs C ies ρ = some (os, ρ1)) (h2 : walk ik (os.map fun o => .sh o.d) = some xs) (h3 : lcGo (lcT C ws tg cs e) xs [] (forget ρ1 ws) = some (acc, ρ2)) :
    ev C (.lc ws tg ik ies cs e) ρ = some (.ol acc, forget ρ2 ws) := by
  rw [ev_lc, h1]
  simp only [Option.bind_some, h2, h3]
theorem ol_bools (bs : List Bool) : O.ol (bs.map shB) = olOf (bs.map .bool) := by
  unfold olOf
  rw [List.map_map]
  rfl
theorem allBl_map : ∀ bs : List Bool, allBl (bs.map .bool) = some bs
  | [] => rfl
  | b :: bs => by simp [allBl, allBl_map bs]
theorem pAll_bools (bs : List Bool) : pAll (olOf (bs.map .bool)) = some (shB (bs.all id)) := by
  unfold pAll
  rw [list_ol]
  simp [allBl_map]
theorem walk_n {n : Nat} (hn : n ≤ 1000000) : walk .rng [.sh (O.sh (.int (n : Int))).d] = some ((List.range n).map fun (i : Nat) => shI (0 + (i : Int))) := by
  have c : -(2 ^ 62) ≤ (n : Int) ∧ (n : Int) < 2 ^ 62 := by omega
  simp only [walk, d_sh, gd]
  rw [decide_eq_true c]
  simp

/-! ### draws -/
abbrev pot (x y : Int) : O := .ol [shI x, shI y]
structure PotOk (x y : Int) : Prop where
  a : 0 ≤ x
  b : 0 ≤ y
  c : y ≤ 4294967296
theorem pot0 {x y : Int} : pItem [pot x y, .sh (.int 0)] = some (shI x) := rfl
theorem pot1 {x y : Int} : pItem [pot x y, .sh (.int 1)] = some (shI y) := rfl
theorem potF {x y : Int} : (pot x y).isFlat = true := rfl
theorem st_pot0 {C : Cal} {x y z : Int} {ρ : Qv.Env} (h : ρ[0]? = some (some (pot x y))) : bindTa C (.st 0 (.c (.int 0))) (.sh (.int z)) ρ = some (ρ.set 0 (some (pot z y))) := by
  simp only [bindTa, rdO, h, evOs_c, evOs_nil, Option.bind_some, rdOs_cons, rdOs_nil, rdO_tv, flat_sh, if_true]
  rfl
theorem st_pot1 {C : Cal} {x y z : Int} {ρ : Qv.Env} (h : ρ[0]? = some (some (pot x y))) : bindTa C (.st 0 (.c (.int 1))) (.sh (.int z)) ρ = some (ρ.set 0 (some (pot x z))) := by
  simp only [bindTa, rdO, h, evOs_c, evOs_nil, Option.bind_some, rdOs_cons, rdOs_nil, rdO_tv, flat_sh, if_true]
  rfl
/-- the def that draws -/
def fDraw (a b m q d : Int) : Fd := ⟨2, 3, [], [.ite (.op .gt [.op .item [.nm 0, .c (.int 0)], .c (.int 0)]) [.asg (.tp [.st 0 (.c (.int 0)), .nm 2]) (.op .divmod [.op .item [.nm 0, .c (.int 0)], .nm 1]),
    .ret (.mv 2)] [],
    .asg (.st 0 (.c (.int 1))) (.op .mod [.op .int1 [.op .add [.op .mul [.op .item [.nm 0, .c (.int 1)], .c (.int a)], .c (.int b)]], .c (.int m)]),
    .ret (.op .mod [.op .int1 [.op .fdiv [.op .mod [.op .int1 [.op .mul [.op .item [.nm 0, .c (.int 1)], .op .item [.nm 0, .c (.int 1)]]], .c (.int q)], .c (.int d)]], .nm 1])]⟩
structure DrawOk (a b m q d : Int) : Prop where
  m0 : 0 < m
  m1 : m ≤ 4294967296
  q0 : 0 < q
  d0 : 0 < d
  d1 : d < 1073741824
theorem draw_ev {C : Cal} {a b m q d : Int} (H : DrawOk a b m q d) {x y : Int} (hp : PotOk x y) {many : Nat} (h1 : 1 ≤ many) (h2 : many ≤ 100000) :
    ∃ (r : Nat) (x' y' : Int) (s : Option O), r < many ∧ PotOk x' y' ∧ evSs C (fDraw a b m q d).body [some (pot x y), some (.sh (.int many)), none] = some (.rt (.sh (.int r)) [some (pot x' y'), some (.sh (.int many)), s]) := by
  obtain ⟨p1, p2, p3⟩ := hp
  obtain ⟨g1, g2, g3, g4, g5⟩ := H
  have i0 : ev C (.op .item [.nm 0, .c (.int 0)]) [some (pot x y), some (.sh (.int many)), none] = some (shI x, [some (pot x y), some (.sh (.int many)), none]) := by
    simp [rdO, prim, pot0, potF]
  have c : ev C (.op .gt [.op .item [.nm 0, .c (.int 0)], .c (.int 0)]) [some (pot x y), some (.sh (.int many)), none] = some (.sh (.bool (decide (0 < x))), [some (pot x y), some (.sh (.int many)), none]) := by
    rw [ev_op, evOs_op, i0]
    simp [prim, pCmp, shB, shI]
  by_cases hx : 0 < x
  · refine ⟨(x % (many : Int)).toNat, x / (many : Int), y, none, ?_, ⟨Int.ediv_nonneg p1 (by omega), p2, p3⟩, ?_⟩
    · have := Int.emod_lt_of_pos x (show (0 : Int) < many by omega)
      have := Int.emod_nonneg x (show (many : Int) ≠ 0 by omega)
      omega
    · have e0 : ((x % (many : Int)).toNat : Int) = x % (many : Int) := by
        have := Int.emod_nonneg x (show (many : Int) ≠ 0 by omega)
        omega
      rw [e0]
      have dm : ev C (.op .divmod [.op .item [.nm 0, .c (.int 0)], .nm 1]) [some (pot x y), some (.sh (.int many)), none] = some (.sh (.tuple [.int (x / (many : Int)), .int (x % (many : Int))]), [some (pot x y), some (.sh (.int many)), none]) := by
        have g : decide ((0 : Int) < many ∧ (many : Int) < 1073741824) = true := decide_eq_true ⟨by omega, by omega⟩
        rw [ev_op, evOs_op, i0]
        simp only [Option.bind_some, evOs_nm, evOs_nil, rdO, List.getElem?_cons_succ, List.getElem?_cons_zero, rdOs_cons, rdOs_nil, rdO_tv, flat_sh, if_true, shI, prim, i2, gd, g]
      unfold fDraw
      rw [evSs_cons, evS_ite, c, decide_eq_true hx, onB_t]
      rw [evSs_cons, evS_asg, dm]
      simp only [Option.bind_some]
      have bt : bindTa C (.tp [.st 0 (.c (.int 0)), .nm 2]) (.sh (.tuple [.int (x / (many : Int)), .int (x % (many : Int))])) [some (pot x y), some (.sh (.int many)), none] = some [some (pot (x / (many : Int)) y), some (.sh (.int many)), some (.sh (.int (x % (many : Int))))] := by
        simp only [bindTa, bindTas, List.map_cons, List.map_nil]
        have := st_pot0 (C := C) (x := x) (y := y) (z := x / (many : Int)) (ρ := [some (pot x y), some (.sh (.int many)), none]) rfl
        simp only [bindTa] at this
        rw [this]
        simp
      rw [bt]
      simp [mvV]
  · obtain ⟨y2, hy2⟩ : ∃ y2 : Int, (y * a + b).fmod m = y2 := ⟨_, rfl⟩
    have b1 : 0 ≤ y2 := hy2 ▸ Int.fmod_nonneg_of_pos _ (by omega)
    have b2 : y2 < m := hy2 ▸ Int.fmod_lt_of_pos _ (by omega)
    obtain ⟨r, hr⟩ : ∃ r : Int, (((y2 * y2).fmod q).fdiv d).fmod (many : Int) = r := ⟨_, rfl⟩
    have r1 : 0 ≤ r := hr ▸ Int.fmod_nonneg_of_pos _ (by omega)
    have r2 : r < many := hr ▸ Int.fmod_lt_of_pos _ (by omega)
    refine ⟨r.toNat, x, y2, none, by omega, ⟨p1, b1, by omega⟩, ?_⟩
    rw [show ((r.toNat : Nat) : Int) = r by omega]
    unfold fDraw
    rw [evSs_cons, evS_ite, c, decide_eq_false hx, onB_f, evSs_nil, thenS_nx]
    have i1 : ∀ z : Int, ev C (.op .item [.nm 0, .c (.int 1)]) [some (pot x z), some (.sh (.int many)), none] = some (.sh (.int z), [some (pot x z), some (.sh (.int many)), none]) := fun z => by
      simp [rdO, prim, pot1, potF, shI]
    have m1 : decide ((-(2 ^ 64) < y ∧ y < 2 ^ 64) ∨ (-(2 ^ 64) < a ∧ a < 2 ^ 64)) = true := decide_eq_true (.inl ⟨by omega, by omega⟩)
    have m0 : ¬ m = 0 := by omega
    have q0 : ¬ q = 0 := by omega
    have d0 : ¬ d = 0 := by omega
    have d1 : d.natAbs < 1073741824 := by omega
    have e1 : ev C (.op .mod [.op .int1 [.op .add [.op .mul [.op .item [.nm 0, .c (.int 1)], .c (.int a)], .c (.int b)]], .c (.int m)]) [some (pot x y), some (.sh (.int many)), none] = some (.sh (.int y2), [some (pot x y), some (.sh (.int many)), none]) := by
      have a1 : ev C (.op .mul [.op .item [.nm 0, .c (.int 1)], .c (.int a)]) [some (pot x y), some (.sh (.int many)), none] = some (.sh (.int (y * a)), [some (pot x y), some (.sh (.int many)), none]) := by
        rw [ev_op, evOs_op, i1]
        simp only [Option.bind_some, evOs_c, evOs_nil, rdOs_cons, rdOs_nil, rdO_tv, flat_sh, if_true, prim, pMul, gd, m1, shI]
      rw [ev_op, evOs_op, ev_op, evOs_op, ev_op, evOs_op, a1]
      simp [prim, pAdd, u1, pInt, i2, gd, shI, hy2, m0]
    refine (seq1 (ρ1 := [some (pot x y2), some (.sh (.int many)), none]) ?_).trans ?_
    · rw [evS_asg, e1]
      simp only [Option.bind_some]
      rw [st_pot1 (x := x) (y := y) (z := y2) rfl]
      rfl
    · have m2 : decide ((-(2 ^ 64) < y2 ∧ y2 < 2 ^ 64) ∨ (-(2 ^ 64) < y2 ∧ y2 < 2 ^ 64)) = true := decide_eq_true (.inl ⟨by omega, by omega⟩)
      have a1 : ev C (.op .mul [.op .item [.nm 0, .c (.int 1)], .op .item [.nm 0, .c (.int 1)]]) [some (pot x y2), some (.sh (.int many)), none] = some (.sh (.int (y2 * y2)), [some (pot x y2), some (.sh (.int many)), none]) := by
        rw [ev_op, evOs_op, i1]
        simp only [Option.bind_some]
        rw [evOs_op, i1]
        simp only [Option.bind_some, evOs_nil, rdOs_cons, rdOs_nil, rdO_tv, flat_sh, if_true, prim, pMul, gd, m2, shI]
      have e2 : ev C (.op .mod [.op .int1 [.op .fdiv [.op .mod [.op .int1 [.op .mul [.op .item [.nm 0, .c (.int 1)], .op .item [.nm 0, .c (.int 1)]]], .c (.int q)], .c (.int d)]], .nm 1]) [some (pot x y2), some (.sh (.int many)), none] = some (.sh (.int r), [some (pot x y2), some (.sh (.int many)), none]) := by
        have nz : (many : Int) ≠ 0 := by omega
        rw [ev_op, evOs_op, ev_op, evOs_op, ev_op, evOs_op, ev_op, evOs_op, ev_op, evOs_op, a1]
        have g3 : ¬ many = 0 := by omega
        simp [rdO, prim, u1, pInt, i2, gd, shI, g3, hr, q0, d0, d1]
      rw [evSs_cons, evS_ret, e2]
      rfl
/-- what drawing gives, as calls see it -/
structure DrawC (C : Cal) (f : Nat) : Prop where
  run : ∀ (x y : Int) (many : Nat), PotOk x y → 1 ≤ many → many ≤ 100000 → ∃ (r : Nat) (x' y' : Int), r < many ∧ PotOk x' y' ∧ C f [pot x y, .sh (.int many)] = some (.sh (.int r), [pot x' y', .sh (.int many)])
theorem draw_c {P : List Fd} {f : Nat} {a b m q d : Int} (hf : P[f]? = some (fDraw a b m q d)) (H : DrawOk a b m q d) {k : Nat} (h : 1 ≤ k) : DrawC (runF P k) f := ⟨fun x y many hp h1 h2 => by
  obtain ⟨k, rfl, _⟩ := posK h
  obtain ⟨r, x', y', s, hr, hp', e⟩ := draw_ev (C := runF P k) H hp h1 h2
  exact ⟨r, x', y', hr, hp', run_rt (fd := fDraw a b m q d) hf rfl e rfl⟩⟩
/-- the def that picks -/
def fPick (g : Nat) : Fd := ⟨2, 2, [], [.ret (.op .item [.nm 1, .call g [.nm 0, .op .len [.nm 1]]])]⟩
structure PickC (C : Cal) (f : Nat) : Prop where
  lst : ∀ (x y : Int) (ds : List PyData), PotOk x y → ds ≠ [] → ds.length ≤ 100000 → ∃ (d : PyData) (x' y' : Int), d ∈ ds ∧ PotOk x' y' ∧ C f [pot x y, olOf ds] = some (.sh d, [pot x' y', olOf ds])
  lstS : ∀ (x y : Int) (ds : List PyData), PotOk x y → ds ≠ [] → ds.length ≤ 100000 → ∃ (d : PyData) (x' y' : Int), d ∈ ds ∧ PotOk x' y' ∧ C f [pot x y, .sh (.list ds)] = some (.sh d, [pot x' y', .sh (.list ds)])
  str : ∀ (x y : Int) (z : Str), PotOk x y → 1 ≤ z.length → z.length ≤ 100000 → ∃ (c : Nat) (x' y' : Int), c ∈ z.cps.toList ∧ PotOk x' y' ∧ C f [pot x y, .sh (.str z)] = some (shS ⟨#[c]⟩, [pot x' y', .sh (.str z)])
theorem pick_step {C : Cal} {g : Nat} (D : DrawC C g) {x y : Int} (hp : PotOk x y) {o : O} {n : Nat} (hf : o.isFlat = true) (hl : pLen o = some (shI n)) (h1 : 1 ≤ n) (h2 : n ≤ 100000) :
    ∃ (r : Nat) (x' y' : Int), r < n ∧ PotOk x' y' ∧ ∀ v, pItem [o, .sh (.int (r : Int))] = some v → evSs C (fPick g).body [some (pot x y), some o] = some (.rt v [some (pot x' y'), some o]) := by
  obtain ⟨r, x', y', hr, hp', q⟩ := D.run x y n hp h1 h2
  refine ⟨r, x', y', hr, hp', fun v hv => ?_⟩
  have ln : ev C (.op .len [.nm 1]) [some (pot x y), some o] = some (.sh (.int n), [some (pot x y), some o]) := by
    simp [rdO, prim, u1, hl, hf, shI]
  have ld : lend [.sl 0, .tv (.sh (.int n))] [some (pot x y), some o] = some ([pot x y, .sh (.int n)], [none, some o]) := rfl
  have cl : ev C (.call g [.nm 0, .op .len [.nm 1]]) [some (pot x y), some o] = some (.sh (.int r), [some (pot x' y'), some o]) := by
    simp only [ev_call, evOs_nm, rdO, List.getElem?_cons_zero, Option.bind_some]
    rw [evOs_op, ln]
    simp only [Option.bind_some, evOs_nil, ld, q]
    rfl
  unfold fPick
  rw [evSs_cons, evS_ret, ev_op]
  simp only [evOs_nm, rdO, List.getElem?_cons_succ, List.getElem?_cons_zero, Option.bind_some]
  rw [evOs_call, cl]
  simp [rdO, prim, hv, hf]
theorem pick_c {P : List Fd} {f g : Nat} (hf : P[f]? = some (fPick g)) {k : Nat} (D : ∀ j, 1 ≤ j → DrawC (runF P j) g) (h : 2 ≤ k) : PickC (runF P k) f := by
  obtain ⟨k, rfl, hk⟩ := posK h
  have D := D k hk
  refine ⟨fun x y ds hp h1 h2 => ?_, fun x y ds hp h1 h2 => ?_, fun x y z hp h1 h2 => ?_⟩
  · have hl : 1 ≤ ds.length := by
      cases ds with
      | nil => exact absurd rfl h1
      | cons _ _ => simp
    obtain ⟨r, x', y', hr, hp', q⟩ := pick_step D hp (o := olOf ds) (n := ds.length) (by simp) (len_ol ds) hl h2
    exact ⟨ds[r], x', y', List.getElem_mem hr, hp', run_rt (fd := fPick g) hf rfl (q _ (item_at seq_ol (List.getElem?_eq_getElem hr))) rfl⟩
  · have hl : 1 ≤ ds.length := by
      cases ds with
      | nil => exact absurd rfl h1
      | cons _ _ => simp
    obtain ⟨r, x', y', hr, hp', q⟩ := pick_step D hp (o := .sh (.list ds)) (n := ds.length) (by simp) (by simp [pLen]) hl h2
    exact ⟨ds[r], x', y', List.getElem_mem hr, hp', run_rt (fd := fPick g) hf rfl (q _ (item_at seq_sh (List.getElem?_eq_getElem hr))) rfl⟩
  · have zl : z.length = z.cps.toList.length := by simp [Str.length]
    have z1 : z.length ≤ sizeLine := sz_le (by omega)
    obtain ⟨r, x', y', hr, hp', q⟩ := pick_step D hp (o := .sh (.str z)) (n := z.length) (by simp) (by simp [pLen, gd, z1]) h1 h2
    rw [zl] at hr
    refine ⟨z.cps.toList[r], x', y', List.getElem_mem hr, hp', run_rt (fd := fPick g) hf rfl (q _ ?_) rfl⟩
    simp only [pItem, z1, if_true]
    rw [atI_nat (List.getElem?_eq_getElem hr)]
    rfl
/-- a comprehension whose turns draw -/
theorem lcGo_pot {f : O → Qv.Env → Option (Option O × Qv.Env)} {Good : PyData → Prop} {r : Qv.Env} (h : ∀ (o : O) (x y : Int), PotOk x y → ∃ (d : PyData) (x' y' : Int), Good d ∧ PotOk x' y' ∧ f o (some (pot x y) :: r) = some (some (.sh d), some (pot x' y') :: r)) :
    ∀ (xs : List O) (acc : List PyData) (x y : Int), PotOk x y → acc.length + xs.length ≤ 1000000 → ∃ (ds : List PyData) (x' y' : Int), ds.length = xs.length ∧ (∀ d ∈ ds, Good d) ∧ PotOk x' y' ∧ lcGo f xs (acc.map O.sh) (some (pot x y) :: r) = some ((acc ++ ds).map O.sh, some (pot x' y') :: r) := by
  intro xs
  induction xs with
  | nil => exact fun acc x y hp _ => ⟨[], x, y, rfl, (fun z m => by cases m), hp, by simp [lcGo]⟩
  | cons o xs ih =>
    intro acc x y hp hl
    simp only [List.length_cons] at hl
    obtain ⟨d, x1, y1, hd, hp1, q⟩ := h o x y hp
    obtain ⟨ds, x2, y2, e1, e2, e3, e4⟩ := ih (acc ++ [d]) x1 y1 hp1 (by rw [List.length_append, List.length_singleton]; omega)
    refine ⟨d :: ds, x2, y2, by rw [List.length_cons, List.length_cons, e1], fun z m => (List.mem_cons.mp m).elim (fun e => e ▸ hd) (e2 z), e3, ?_⟩
    have e0 : acc.map O.sh ++ [.sh d] = (acc ++ [d]).map O.sh := by simp
    have c0 : (acc.map O.sh).length < sizeLine := Nat.lt_of_lt_of_le (show _ < 1000001 by simp; omega) (by decide)
    simp only [lcGo, q]
    rw [if_pos c0, e0, e4]
    simp
/-- .. over the numbers below n -/
theorem lc_pot {C : Cal} {ws : List Nat} {tg : Tg} {ies : List T} {e : T} {ρ : Qv.Env} {n : Nat} (Good : PyData → Prop) {r0 r : Qv.Env} {x y : Int} (hp : PotOk x y) (hn : n ≤ 1000000) (h1 : evs C ies ρ = some ([.sh (.int n)], some (pot x y) :: r0))
    (hfo : ∀ x y : Int, forget (some (pot x y) :: r0) ws = some (pot x y) :: r) (hfo2 : ∀ x y : Int, forget (some (pot x y) :: r) ws = some (pot x y) :: r)
    (h : ∀ (o : O) (x y : Int), PotOk x y → ∃ (d : PyData) (x' y' : Int), Good d ∧ PotOk x' y' ∧ lcT C ws tg [] e o (some (pot x y) :: r) = some (some (.sh d), some (pot x' y') :: r)) :
    ∃ (ds : List PyData) (x' y' : Int), ds.length = n ∧ (∀ d ∈ ds, Good d) ∧ PotOk x' y' ∧ ev C (.lc ws tg .rng ies [] e) ρ = some (olOf ds, some (pot x' y') :: r) := by
  obtain ⟨ds, x', y', e1, e2, e3, e4⟩ := lcGo_pot h ((List.range n).map fun (i : Nat) => shI (0 + (i : Int))) [] x y hp (by rw [List.length_nil, List.length_map, List.length_range]; omega)
  refine ⟨ds, x', y', by rw [e1, List.length_map, List.length_range], e2, e3, ?_⟩
  have w : walk .rng ([O.sh (.int (n : Int))].map fun o => O.sh o.d) = some ((List.range n).map fun (i : Nat) => shI (0 + (i : Int))) := walk_n hn
  rw [lc_any h1 w (by rw [hfo]; exact e4), hfo2]
  rfl
/-- the body of a comprehension's turn -/
theorem lcT_nm {C : Cal} {ws : List Nat} {i : Nat} {e : T} {x : O} {ρ ρ2 ρ3 : Qv.Env} {v : O} (h0 : bindTg (.nm i) x ρ = some ρ2) (h1 : ev C e ρ2 = some (v, ρ3)) : lcT C ws (.nm i) [] e x ρ = some (some (.sh v.d), forget ρ3 ws) := by
  simp only [lcT, h0, Option.bind_some, evBs_nil, if_true, h1]

/-! ### what can be shown -/
structure Rp (N D : Nat) (d : PyData) : Prop where
  sh : d.showable = true
  hd : d.hasDict = false
  lf : d.leavesShort 13 = true
  wt : d.weight ≤ N
  dp : d.depth ≤ D
structure RpA (N D : Nat) (ds : List PyData) : Prop where
  sh : PyData.showableAll ds = true
  hd : PyData.hasDictAll ds = false
  lf : PyData.leavesShortAll 13 ds = true
  wt : PyData.weightAll ds ≤ N
  dp : PyData.depthAll ds ≤ D
theorem RpA.nil {N D : Nat} : RpA N D [] := ⟨by simp [PyData.showableAll], by simp [PyData.hasDictAll], by simp [PyData.leavesShortAll], by simp [PyData.weightAll], by simp [PyData.depthAll]⟩
theorem RpA.cons {N M D : Nat} {d : PyData} {ds : List PyData} (h : Rp N D d) (hs : RpA M D ds) : RpA (N + 1 + M) D (d :: ds) := by
  obtain ⟨a1, a2, a3, a4, a5⟩ := h
  obtain ⟨b1, b2, b3, b4, b5⟩ := hs
  refine ⟨by simp [PyData.showableAll, a1, b1], by simp [PyData.hasDictAll, a2, b2], by simp [PyData.leavesShortAll, a3, b3], ?_, ?_⟩
  · simp only [PyData.weightAll]
    omega
  · simp only [PyData.depthAll]
    omega
theorem RpA.list {N D : Nat} {ds : List PyData} (h : RpA N D ds) : Rp N (D + 1) (.list ds) := ⟨by simpa only [PyData.showable] using h.sh, by simpa only [PyData.hasDict] using h.hd, by simpa only [PyData.leavesShort] using h.lf, by simpa only [PyData.weight] using h.wt, by have := h.dp; simp only [PyData.depth]; omega⟩
theorem RpA.tuple {N D : Nat} {ds : List PyData} (h : RpA N D ds) : Rp N (D + 1) (.tuple ds) := ⟨by simpa only [PyData.showable] using h.sh, by simpa only [PyData.hasDict] using h.hd, by simpa only [PyData.leavesShort] using h.lf, by simpa only [PyData.weight] using h.wt, by have := h.dp; simp only [PyData.depth]; omega⟩
theorem Rp.mono {N M D E : Nat} {d : PyData} (h : Rp N D d) (h1 : N ≤ M) (h2 : D ≤ E) : Rp M E d := ⟨h.sh, h.hd, h.lf, Nat.le_trans h.wt h1, Nat.le_trans h.dp h2⟩
theorem RpA.mono {N M D E : Nat} {d : List PyData} (h : RpA N D d) (h1 : N ≤ M) (h2 : D ≤ E) : RpA M E d := ⟨h.sh, h.hd, h.lf, Nat.le_trans h.wt h1, Nat.le_trans h.dp h2⟩
theorem RpA.map {α : Type} {f : α → PyData} {N D : Nat} : ∀ {xs : List α}, (∀ x ∈ xs, Rp N D (f x)) → RpA (xs.length * (N + 1)) D (xs.map f)
  | [], _ => RpA.nil.mono (Nat.zero_le _) (Nat.le_refl _)
  | x :: xs, h => by
    have q := RpA.cons (h x List.mem_cons_self) (RpA.map (xs := xs) fun y m => h y (List.mem_cons_of_mem _ m))
    refine q.mono ?_ (Nat.le_refl _)
    rw [List.length_cons, Nat.add_mul, Nat.one_mul]
    omega
theorem Rp.repr {N : Nat} {o : O} (h : Rp N 60 o.d) (hN : N ≤ 2 ^ 20) : pRepr o = some (shS o.d.shown) := by
  have l := PyData.shown_fits (B := 13) (by decide) (by decide) h.lf (Nat.le_trans h.wt hN)
  unfold pRepr
  rw [h.sh, h.hd, decide_eq_true l, decide_eq_true h.dp]
  rfl
theorem rp_none : Rp 0 0 .none := ⟨by decide, by decide, by decide, by decide, by decide⟩
theorem rp_bool (b : Bool) : Rp 0 0 (.bool b) := by cases b <;> exact ⟨by decide, by decide, by decide, by decide, by decide⟩
theorem rp_str {x : Str} {N : Nat} (h : ∀ c ∈ x.cps.toList, c < 128) (hl : x.length ≤ N) : Rp N 0 (.str x) := by
  have c : x.cps.toList.all (fun c => decide (c < 16 ^ 8)) = true := by
    rw [List.all_eq_true]
    exact fun c m => decide_eq_true (Nat.lt_trans (h c m) (by decide))
  exact ⟨by simp [PyData.showable], by simp [PyData.hasDict], by simpa only [PyData.leavesShort] using c, (by simp only [PyData.weight]; exact hl), by simp [PyData.depth]⟩
theorem ints_ok : ((List.range 4001).all fun n => PyData.showable (.int (n : Int)) && PyData.leavesShort 13 (.int (n : Int)) && decide (PyData.weight (.int (n : Int)) ≤ 13)) = true := by decide +kernel
theorem rp_int {n : Nat} (h : n ≤ 4000) : Rp 13 0 (.int (n : Int)) := by
  have q := List.all_eq_true.mp ints_ok n (by simp; omega)
  simp only [Bool.and_eq_true, decide_eq_true_eq] at q
  exact ⟨q.1.1, by simp [PyData.hasDict], q.1.2, q.2, by simp [PyData.depth]⟩
end Qv
end
section
set_option Elab.async false
set_option linter.all false
set_option maxRecDepth 100000
set_option maxHeartbeats 2000000
/-! Q25: terms that leave the slots as they are. -/
namespace Qv
open PySem PySem.Spec PyProof.Rows L2

/-! loops -/
section
variable {C : Cal} {c : T} {b : List S} {ρ ρ1 ρ2 : Qv.Env} {o : O}
theorem wh_f (h : ev C c ρ = some (.sh (.bool false), ρ1)) : evS C (.wh c b) ρ = some (.nx ρ1) := by
  simp only [evS]
  rw [loopO_eq, h]
theorem wh_t (h : ev C c ρ = some (.sh (.bool true), ρ1)) (hb : evSs C b ρ1 = some (.nx ρ2)) : evS C (.wh c b) ρ = evS C (.wh c b) ρ2 := by
  simp only [evS]
  rw [loopO_eq, h]
  simp only [hb]
theorem wh_r (h : ev C c ρ = some (.sh (.bool true), ρ1)) (hb : evSs C b ρ1 = some (.rt o ρ2)) : evS C (.wh c b) ρ = some (.rt o ρ2) := by
  simp only [evS]
  rw [loopO_eq, h]
  simp only [hb]
end
/-- e has the value o, the slots stay -/
def Ev (C : Cal) (ρ : Qv.Env) (e : T) (o : O) : Prop := ev C e ρ = some (o, ρ)
/-- operands that are looked at -/
def Ov (C : Cal) (ρ : Qv.Env) (es : List T) (os : List O) : Prop := ∃ xs, evOs C es ρ = some (xs, ρ) ∧ rdOs ρ xs = some os
/-- what a call is given -/
def Lx (ρ : Qv.Env) : Opd → O → Prop
  | .sl i, o => ∃ d, o = .sh d ∧ ρ[i]? = some (some (.sh d))
  | .tv v, o => o = v
def Lxs (ρ : Qv.Env) : List Opd → List O → Prop
  | [], os => os = []
  | x :: xs, os => ∃ o r, os = o :: r ∧ Lx ρ x o ∧ Lxs ρ xs r
def La (C : Cal) (ρ : Qv.Env) (es : List T) (os : List O) : Prop := ∃ xs, evOs C es ρ = some (xs, ρ) ∧ Lxs ρ xs os
/-- parts of a display -/
def Es (C : Cal) (ρ : Qv.Env) (es : List T) (os : List O) : Prop := evs C es ρ = some (os, ρ)
section
variable {C : Cal} {ρ : Qv.Env} {e a b c : T} {es : List T} {o : O} {os : List O} {d : PyData} {i f : Nat} {k : OpK} {x y : Bool}
theorem e_c : Ev C ρ (.c d) (.sh d) := ev_c
theorem e_nm (h : ρ[i]? = some (some (.sh d))) : Ev C ρ (.nm i) (.sh d) := by
  unfold Ev
  rw [ev_nm]
  simp only [rdV, h]
theorem ov_nil : Ov C ρ [] [] := ⟨[], evOs_nil, rfl⟩
theorem ov_sl (h : ρ[i]? = some (some o)) (hf : o.isFlat = true) (t : Ov C ρ es os) : Ov C ρ (.nm i :: es) (o :: os) := by
  obtain ⟨xs, h1, h2⟩ := t
  refine ⟨.sl i :: xs, ?_, ?_⟩
  · rw [evOs_nm]
    simp only [rdO, h, Option.bind_some, h1]
  · simp only [rdOs_cons, rdO, h, Option.bind_some, h2, hf, if_true]
theorem ov_s (h : ρ[i]? = some (some (.sh d))) (t : Ov C ρ es os) : Ov C ρ (.nm i :: es) (.sh d :: os) := ov_sl h rfl t
theorem ov_v (hn : isNm e = none) (h : Ev C ρ e o) (hf : o.isFlat = true) (t : Ov C ρ es os) : Ov C ρ (e :: es) (o :: os) := by
  obtain ⟨xs, h1, h2⟩ := t
  refine ⟨.tv o :: xs, ?_, ?_⟩
  · rw [evOs_tv hn, h]
    simp only [Option.bind_some, h1]
  · simp only [rdOs_cons, rdO_tv, Option.bind_some, h2, hf, if_true]
theorem ov_d (hn : isNm e = none) (h : Ev C ρ e (.sh d)) (t : Ov C ρ es os) : Ov C ρ (e :: es) (.sh d :: os) := ov_v hn h rfl t
theorem ov_c (t : Ov C ρ es os) : Ov C ρ (.c d :: es) (.sh d :: os) := ov_d rfl e_c t
theorem Lxs.lend : ∀ {xs : List Opd} {os : List O}, Lxs ρ xs os → lend xs ρ = some (os, ρ) ∧ ∀ os2, back xs os2 ρ = ρ
  | [], os, h => by
    cases (show os = [] from h)
    exact ⟨rfl, fun _ => by unfold back; rfl⟩
  | .sl i :: xs, os, h => by
    obtain ⟨o, r, rfl, ⟨d, rfl, hd⟩, h2⟩ := h
    obtain ⟨q1, q2⟩ := Lxs.lend h2
    refine ⟨by simp only [Qv.lend, q1, hd], fun os2 => ?_⟩
    cases os2 with
    | nil => unfold back; rfl
    | cons o2 os2 =>
      simp only [back, hd]
      exact q2 os2
  | .tv v :: xs, os, h => by
    obtain ⟨o, r, rfl, e, h2⟩ := h
    cases (show o = v from e)
    obtain ⟨q1, q2⟩ := Lxs.lend h2
    refine ⟨by simp only [Qv.lend, q1], fun os2 => ?_⟩
    cases os2 with
    | nil => unfold back; rfl
    | cons o2 os2 =>
      simp only [back]
      exact q2 os2
theorem la_nil : La C ρ [] [] := ⟨[], evOs_nil, rfl⟩
theorem la_s (h : ρ[i]? = some (some (.sh d))) (t : La C ρ es os) : La C ρ (.nm i :: es) (.sh d :: os) := by
  obtain ⟨xs, h1, h2⟩ := t
  refine ⟨.sl i :: xs, ?_, _, _, rfl, ⟨d, rfl, h⟩, h2⟩
  rw [evOs_nm]
  simp only [rdO, h, Option.bind_some, h1]
theorem la_v (hn : isNm e = none) (h : Ev C ρ e o) (t : La C ρ es os) : La C ρ (e :: es) (o :: os) := by
  obtain ⟨xs, h1, h2⟩ := t
  refine ⟨.tv o :: xs, ?_, _, _, rfl, rfl, h2⟩
  rw [evOs_tv hn, h]
  simp only [Option.bind_some, h1]
theorem la_c (t : La C ρ es os) : La C ρ (.c d :: es) (.sh d :: os) := la_v rfl e_c t
theorem es_nil : Es C ρ [] [] := evs_nil
theorem es_cons (h : Ev C ρ e o) (t : Es C ρ es os) : Es C ρ (e :: es) (o :: os) := by
  unfold Es at *
  rw [evs_cons, h]
  simp only [Option.bind_some, t]
theorem e_op (h : Ov C ρ es os) (hp : prim k os = some o) : Ev C ρ (.op k es) o := by
  obtain ⟨xs, h1, h2⟩ := h
  unfold Ev
  rw [ev_op, h1]
  simp only [Option.bind_some, h2, hp]
theorem e_call {os2 : List O} (h : La C ρ es os) (hc : C f os = some (o, os2)) : Ev C ρ (.call f es) o := by
  obtain ⟨xs, h1, h2⟩ := h
  obtain ⟨q1, q2⟩ := h2.lend
  unfold Ev
  rw [ev_call, h1]
  simp only [Option.bind_some, q1, hc, q2]
/-- f(second, first) by names -/
theorem e_callk2 {o1 o2 : O} {os2 : List O} (h : La C ρ es [o1, o2]) (hc : C f [o2, o1] = some (o, os2)) : Ev C ρ (.callk f es [1, 0]) o := by
  obtain ⟨xs, h1, h2⟩ := h
  match xs, h2 with
  | [], h2 => cases (show [o1, o2] = [] from h2)
  | x :: xs, h2 =>
    obtain ⟨o3, r, e, h3, h4⟩ := h2
    cases e
    match xs, h4 with
    | [], h4 => cases (show [o2] = [] from h4)
    | y :: ys, h4 =>
      obtain ⟨o3, r, e, h5, h6⟩ := h4
      cases e
      match ys, h6 with
      | _ :: _, ⟨_, _, e, _⟩ => cases e
      | [], _ =>
        have l : Lxs ρ (permL [1, 0] [x, y]) [o2, o1] := ⟨_, _, rfl, h5, _, _, rfl, h3, rfl⟩
        obtain ⟨q1, q2⟩ := l.lend
        unfold Ev
        rw [ev_callk, h1]
        simp only [Option.bind_some, q1, hc, q2]
/-- f(third, second, first) by names -/
theorem e_callk3 {o1 o2 o3 : O} {os2 : List O} (h : La C ρ es [o1, o2, o3]) (hc : C f [o3, o2, o1] = some (o, os2)) : Ev C ρ (.callk f es [2, 1, 0]) o := by
  obtain ⟨xs, h1, h2⟩ := h
  match xs, h2 with
  | [], h2 => cases (show [o1, o2, o3] = [] from h2)
  | x :: xs, h2 =>
    obtain ⟨_, _, e, h3, h4⟩ := h2
    cases e
    match xs, h4 with
    | [], h4 => cases (show [o2, o3] = [] from h4)
    | y :: ys, h4 =>
      obtain ⟨_, _, e, h5, h6⟩ := h4
      cases e
      match ys, h6 with
      | [], h6 => cases (show [o3] = [] from h6)
      | z :: zs, h6 =>
        obtain ⟨_, _, e, h7, h8⟩ := h6
        cases e
        match zs, h8 with
        | _ :: _, ⟨_, _, e, _⟩ => cases e
        | [], _ =>
          have l : Lxs ρ (permL [2, 1, 0] [x, y, z]) [o3, o2, o1] := ⟨_, _, rfl, h7, _, _, rfl, h5, _, _, rfl, h3, rfl⟩
          obtain ⟨q1, q2⟩ := l.lend
          unfold Ev
          rw [ev_callk, h1]
          simp only [Option.bind_some, q1, hc, q2]
theorem e_tn (h : Ev C ρ a (.sh (.bool x))) : Ev C ρ (.tn a) (.sh (.bool (!x))) := by
  unfold Ev at *
  rw [ev_tn, h]
  cases x <;> rfl
theorem e_tt (hn : isNm a = none) (h : Ev C ρ a (.sh (.bool x))) : Ev C ρ (.tt a) (.sh (.bool x)) := by
  unfold Ev at *
  rw [ev_tt hn, h]
  simp [truth, shB]
theorem e_ttn (h0 : ρ[i]? = some (some (.sh (.bool x)))) : Ev C ρ (.tt (.nm i)) (.sh (.bool x)) := by
  have r : rdOs ρ [.sl i] = some [.sh (.bool x)] := by simp [rdO, h0]
  unfold Ev
  simp only [ev, isNm, r, truth, shB]
theorem e_or (h : Ev C ρ a (.sh (.bool x))) (h' : x = false → Ev C ρ b (.sh (.bool y))) : Ev C ρ (.or2 a b) (.sh (.bool (x || y))) := by
  unfold Ev at *
  rw [ev_or, h]
  cases x with
  | true => rfl
  | false => rw [onB_f, h' rfl]; rfl
theorem e_and (h : Ev C ρ a (.sh (.bool x))) (h' : x = true → Ev C ρ b (.sh (.bool y))) : Ev C ρ (.and2 a b) (.sh (.bool (x && y))) := by
  unfold Ev at *
  rw [ev_and, h]
  cases x with
  | false => rfl
  | true => rw [onB_t, h' rfl]; rfl
theorem e_ite (h : Ev C ρ c (.sh (.bool x))) (h1 : x = true → Ev C ρ a o) (h2 : x = false → Ev C ρ b o) : Ev C ρ (.ite c a b) o := by
  unfold Ev at *
  rw [ev_ite, h]
  cases x with
  | false => rw [onB_f, h2 rfl]
  | true => rw [onB_t, h1 rfl]
theorem e_fz (h : Ev C ρ a o) : Ev C ρ (.fz a) (.sh o.d) := by
  unfold Ev at *
  rw [ev_fz, h]
  rfl
theorem e_tup (h : Es C ρ es os) (hl : os.length ≤ 1000000) : Ev C ρ (.tup es) (.sh (.tuple (O.dL os))) := by
  unfold Ev Es at *
  rw [ev_tup, h]
  exact szd_ok (sz_le hl)
theorem e_lst (h : Es C ρ es os) (hl : os.length ≤ 1000000) : Ev C ρ (.lst es) (olOf (O.dL os)) := by
  unfold Ev Es at *
  rw [ev_lst, h]
  exact szd_ok (sz_le hl)
theorem forget_none : ∀ {ws : List Nat}, (∀ w ∈ ws, w < ρ.length ∧ ρ[w]? = some none) → forget ρ ws = ρ
  | [], _ => rfl
  | w :: ws, h => by
    show (forget ρ ws).set w none = ρ
    rw [forget_none fun v m => h v (List.mem_cons_of_mem _ m)]
    obtain ⟨h1, h2⟩ := h w List.mem_cons_self
    refine List.ext_getElem? fun m => ?_
    rw [List.getElem?_set]
    split
    · rename_i e
      subst e
      rw [h2]
    · rfl
/-- a comprehension over a row, told by F -/
theorem e_lcA {α : Type} {ws : List Nat} {tg : Tg} {ik : IK} {ies cs : List T} {os : List O} (F : α → O) (g : α → Option O) (xs : List α) (h1 : Es C ρ ies os) (h2 : walk ik (os.map fun o => .sh o.d) = some (xs.map F)) (hw : forget ρ ws = ρ)
    (h3 : ∀ x ∈ xs, lcT C ws tg cs e (F x) ρ = some (g x, ρ)) (hl : xs.length ≤ 1000000) : Ev C ρ (.lc ws tg ik ies cs e) (.ol (xs.filterMap g)) := by
  have q := lc_ofA (C := C) (ws := ws) (tg := tg) (ik := ik) (ies := ies) (cs := cs) (e := e) F g xs h1 h2 (fun x m => by rw [hw]; exact h3 x m) hl
  rw [hw, hw] at q
  exact q
/-- one name, no tests -/
theorem lcT_1 {w : Nat} {v : O} {r : O} (hw : w < ρ.length) (hn : ρ[w]? = some none) (h : ev C e (ρ.set w (some v)) = some (r, ρ.set w (some v))) : lcT C [w] (.nm w) [] e v ρ = some (some (.sh r.d), ρ) := by
  rw [lcT_nm (ρ2 := ρ.set w (some v)) (by simp [bindTg, hw]) h]
  have : forget (ρ.set w (some v)) [w] = ρ := by
    show (ρ.set w _).set w none = ρ
    rw [List.set_set]
    exact forget_none (ws := [w]) fun z m => by rw [List.mem_singleton.mp m]; exact ⟨hw, hn⟩
  rw [this]
/-- one name, one test -/
theorem lcT_t {w : Nat} {v : O} {r : O} {t : T} (hw : w < ρ.length) (hn : ρ[w]? = some none) (ht : ev C t (ρ.set w (some v)) = some (.sh (.bool x), ρ.set w (some v))) (h : x = true → ev C e (ρ.set w (some v)) = some (r, ρ.set w (some v))) :
    lcT C [w] (.nm w) [t] e v ρ = some (if x = true then some (.sh r.d) else none, ρ) := by
  have bt : bindTg (.nm w) v ρ = some (ρ.set w (some v)) := by simp [bindTg, hw]
  have fg : forget (ρ.set w (some v)) [w] = ρ := by
    show (ρ.set w _).set w none = ρ
    rw [List.set_set]
    exact forget_none (ws := [w]) fun z m => by rw [List.mem_singleton.mp m]; exact ⟨hw, hn⟩
  simp only [lcT, bt, Option.bind_some, evBs_cons, ht, evBs_nil]
  cases x with
  | true =>
    rw [onB_t]
    simp only [Option.bind_some, if_true, h rfl, fg]
  | false =>
    rw [onB_f]
    simp only [Option.bind_some, Bool.false_eq_true, if_false, fg]
theorem e_all {α : Type} {xs : List α} {p : α → Bool} (hn : isNm e = none) (h : Ev C ρ e (.ol (xs.filterMap fun z => some (shB (p z))))) : Ev C ρ (.op .all [e]) (.sh (.bool (xs.all p))) := by
  have q : O.ol (xs.filterMap fun z => some (shB (p z))) = olOf ((xs.map p).map .bool) := by
    rw [fm_some, ← ol_bools, List.map_map]
    rfl
  rw [q] at h
  have r : prim .all [olOf ((xs.map p).map .bool)] = some (.sh (.bool (xs.all p))) := by
    show pAll _ = _
    rw [pAll_bools, List.all_map]
    rfl
  exact e_op (ov_v hn h flat_ol ov_nil) r
theorem s_ret (h : Ev C ρ e o) {ss : List S} : evSs C (.ret e :: ss) ρ = some (.rt o ρ) := by
  rw [evSs_cons, evS_ret, h]
  rfl
theorem s_asg (h : Ev C ρ e o) (hi : i < ρ.length) {ss : List S} : evSs C (.asg (.nm i) e :: ss) ρ = evSs C ss (ρ.set i (some o)) := by
  rw [evSs_cons, evS_asg, h]
  simp [hi]
theorem s_ex (h : Ev C ρ e o) {ss : List S} : evSs C (.ex e :: ss) ρ = evSs C ss ρ := by
  rw [evSs_cons, evS_ex, h]
  rfl
/-- if c: return r -/
theorem s_ift {r : T} {ss : List S} (h : Ev C ρ c (.sh (.bool true))) (hr : Ev C ρ r o) : evSs C (.ite c [.ret r] [] :: ss) ρ = some (.rt o ρ) := by
  rw [evSs_cons, if_tt h, s_ret hr]
  rfl
theorem s_iff {A : List S} {ss : List S} (h : Ev C ρ c (.sh (.bool false))) : evSs C (.ite c A [] :: ss) ρ = evSs C ss ρ := by
  rw [evSs_cons, if_ff h, evSs_nil]
  rfl
end
section
variable {C : Cal} {ρ : Qv.Env} {e e1 e2 e3 : T} {i j l : Nat} {o1 o2 o3 : O} {acc ds : List PyData} {d : PyData}
theorem x_ext (h : ρ[i]? = some (some (olOf acc))) (hn : isNm e = none) (hv : Ev C ρ e (olOf ds)) (hl : acc.length + ds.length ≤ 1000000) : ev C (.ext i [e]) ρ = some (.sh .none, ρ.set i (some (olOf (acc ++ ds)))) := by
  rw [ext_of (os0 := acc.map O.sh) (os := acc.map O.sh) hn h hv h flat_ol list_ol (by rw [List.length_map]; exact sz_le hl)]
  have e5 : acc.map O.sh ++ ds.map O.sh = (acc ++ ds).map O.sh := List.map_append.symm
  rw [e5]
  rfl
theorem x_app (h : ρ[i]? = some (some (olOf acc))) (hv : Ev C ρ e (.sh d)) (hl : acc.length < 1000000) : ev C (.app i e) ρ = some (.sh .none, ρ.set i (some (olOf (acc ++ [d])))) := by
  rw [app_of (os0 := acc.map O.sh) (os := acc.map O.sh) h hv h (Nat.lt_of_lt_of_le (show _ < 1000001 by rw [List.length_map]; omega) (by decide))]
  have e5 : acc.map O.sh ++ [O.sh (O.sh d).d] = (acc ++ [d]).map O.sh := by simp
  rw [e5]
  rfl
theorem s_exv {ρ1 : Qv.Env} {o : O} (h : ev C e ρ = some (o, ρ1)) {ss : List S} : evSs C (.ex e :: ss) ρ = evSs C ss ρ1 := by
  rw [evSs_cons, evS_ex, h]
  rfl
theorem s_par2 (h1 : Ev C ρ e1 o1) (h2 : Ev C ρ e2 o2) (hi : i < ρ.length) (hj : j < ρ.length) {ss : List S} : evSs C (.par [i, j] [e1, e2] :: ss) ρ = evSs C ss ((ρ.set i (some o1)).set j (some o2)) := by
  have e : evs C [e1, e2] ρ = some ([o1, o2], ρ) := es_cons h1 (es_cons h2 es_nil)
  rw [evSs_cons, evS_par, e]
  simp [hi, hj, putAll]
theorem s_par3 (h1 : Ev C ρ e1 o1) (h2 : Ev C ρ e2 o2) (h3 : Ev C ρ e3 o3) (hi : i < ρ.length) (hj : j < ρ.length) (hl : l < ρ.length) {ss : List S} : evSs C (.par [i, j, l] [e1, e2, e3] :: ss) ρ = evSs C ss (((ρ.set i (some o1)).set j (some o2)).set l (some o3)) := by
  have e : evs C [e1, e2, e3] ρ = some ([o1, o2, o3], ρ) := es_cons h1 (es_cons h2 (es_cons h3 es_nil))
  rw [evSs_cons, evS_par, e]
  simp [hi, hj, hl, putAll]
/-- the first of two ways -/
theorem s_if1 {c : T} {A B ss : List S} {out : Out} (h : Ev C ρ c (.sh (.bool true))) (hb : evSs C A ρ = some out) (hx : ∀ ρ', out ≠ .nx ρ') : evSs C (.ite c A B :: ss) ρ = some out := by
  rw [evSs_cons, if_tt h, hb]
  cases out with
  | nx ρ' => exact absurd rfl (hx ρ')
  | _ => rfl
theorem s_ift2 {c : T} {A B ss : List S} {ρ1 : Qv.Env} (h : Ev C ρ c (.sh (.bool true))) (hb : evSs C A ρ = some (.nx ρ1)) : evSs C (.ite c A B :: ss) ρ = evSs C ss ρ1 := by
  rw [evSs_cons, if_tt h, hb]
  rfl
theorem s_iff2 {c : T} {A B ss : List S} {ρ1 : Qv.Env} (h : Ev C ρ c (.sh (.bool false))) (hb : evSs C B ρ = some (.nx ρ1)) : evSs C (.ite c A B :: ss) ρ = evSs C ss ρ1 := by
  rw [evSs_cons, if_ff h, hb]
  rfl
end
theorem rdV_ol {i : Nat} {ρ : Qv.Env} {ds : List PyData} (h : ρ[i]? = some (some (olOf ds))) : rdV i ρ = some (.sh (.list ds), ρ.set i (some (.sh (.list ds)))) := by
  have e : (O.ol (ds.map O.sh)).d = .list ds := d_ol
  have h : ρ[i]? = some (some (O.ol (ds.map O.sh))) := h
  simp only [rdV, h, e]
/-- return of a list of one's own: frozen -/
theorem s_retol {C : Cal} {i : Nat} {ρ : Qv.Env} {ds : List PyData} (h : ρ[i]? = some (some (olOf ds))) {ss : List S} : evSs C (.ret (.nm i) :: ss) ρ = some (.rt (.sh (.list ds)) (ρ.set i (some (.sh (.list ds))))) := by
  rw [evSs_cons, evS_ret, ev_nm, rdV_ol h]
  rfl
/-- a def's run, its arguments as they were -/
theorem run_is {P : List Fd} {k f : Nat} {fd : Fd} {os : List O} {o : O} {ρ : Qv.Env} (hf : P[f]? = some fd) (hl : os.length = fd.np) (hb : evSs (runF P k) fd.body (startAll 0 fd.asgd os ++ List.replicate (fd.ns - fd.np) none) = some (.rt o ρ)) (hh : heldAll 0 fd.asgd os ρ = some os) : runF P (k + 1) f os = some (o, os) := run_rt hf hl hb hh
end Qv
end
section
set_option Elab.async false
set_option linter.all false
set_option maxRecDepth 100000
namespace L83
open PySem PySem.Spec PyProof.Rows L2 Qv
def top (i : Nat) : Stmt := PySem.Challenge.pw_formscountry_k83_any_value_as_patch_or_l.main.body.getD i (.Pass ⟨0, 0, 0, 0⟩)
/-- is_integer -/
def f0 : Fd := ⟨1, 1, [], [.ret (.and2 (.op (.isinst ["int"]) [.nm 0]) (.op .nt [.op (.isinst ["bool"]) [.nm 0]]))]⟩
/-- is_count -/
def f1 : Fd := ⟨1, 1, [], [.ret (.and2 (.call 0 [.nm 0]) (.op .ge [.nm 0, .c (.int 0)]))]⟩
/-- is_list -/
def f2 : Fd := ⟨1, 1, [], [.ret (.op (.isinst ["list", "tuple"]) [.nm 0])]⟩
/-- is_tuple -/
def f3 : Fd := ⟨2, 2, [], [.ret (.and2 (.op (.isinst ["tuple"]) [.nm 0]) (.op .eq [.op .len [.nm 0], .nm 1]))]⟩
/-- is_line_any -/
def f4 : Fd := ⟨1, 1, [], [.ret (.and2 (.op (.isinst ["str"]) [.nm 0]) (.op .le [.op .len [.nm 0], .c (.int 2000)]))]⟩
/-- are_lines_any -/
def f5 : Fd := ⟨1, 2, [], [.ret (.and2 (.call 2 [.nm 0]) (.and2 (.op .le [.op .len [.nm 0], .c (.int 200)]) (.op .all [.lc [1] (.nm 1) .sq [.nm 0] [] (.call 4 [.nm 1])])))]⟩
/-- is_edit_any -/
def f6 : Fd := ⟨1, 2, [], [.ite (.or2 (.tn (.tt (.call 3 [.nm 0, .c (.int 2)]))) (.tn (.tt (.op (.isinst ["str"]) [.op .item [.nm 0, .c (.int 0)]])))) [.ret (.c (.bool false))] [],
    .ite (.op .eq [.op .item [.nm 0, .c (.int 0)], .c (.str "put")]) [.ret (.and2 (.op (.isinst ["tuple"]) [.op .item [.nm 0, .c (.int 1)]]) (.and2 (.op .ne [.op .item [.nm 0, .c (.int 1)], .tup []]) (.op .all [.lc [1] (.nm 1) .sq [.op .item [.nm 0, .c (.int 1)]] [] (.call 4 [.nm 1])])))] [],
    .ret (.and2 (.op .isin [.op .item [.nm 0, .c (.int 0)], .tup [.c (.str "keep"), .c (.str "take")]]) (.and2 (.call 1 [.op .item [.nm 0, .c (.int 1)]]) (.op .gt [.op .item [.nm 0, .c (.int 1)], .c (.int 0)])))]⟩
/-- is_patch_of -/
def f7 : Fd := ⟨2, 5, [], [.ite (.or2 (.tn (.tt (.op (.isinst ["tuple"]) [.nm 1]))) (.or2 (.op .gt [.op .len [.nm 1], .c (.int 400)]) (.tn (.tt (.op .all [.lc [3] (.nm 3) .sq [.nm 1] [] (.call 6 [.nm 3])]))))) [.ret (.c (.bool false))] [],
    .ite (.op .ne [.op .sum [.lc [4] (.nm 4) .sq [.nm 1] [.op .ne [.op .item [.nm 4, .c (.int 0)], .c (.str "put")]] (.op .item [.nm 4, .c (.int 1)])], .op .len [.nm 0]]) [.ret (.c (.bool false))] [],
    .asg (.nm 2) (.op .sum [.lc [4] (.nm 4) .sq [.nm 1] [] (.ite (.op .eq [.op .item [.nm 4, .c (.int 0)], .c (.str "put")]) (.op .len [.op .item [.nm 4, .c (.int 1)]]) (.ite (.op .eq [.op .item [.nm 4, .c (.int 0)], .c (.str "keep")]) (.op .item [.nm 4, .c (.int 1)]) (.c (.int 0))))]),
    .ret (.op .le [.nm 2, .c (.int 200)])]⟩
/-- want_lines -/
def f8 : Fd := ⟨1, 1, [], [.ite (.tn (.tt (.call 5 [.nm 0]))) [.raise] []]⟩
/-- want_other_lines -/
def f9 : Fd := ⟨1, 1, [], [.ite (.tn (.tt (.call 5 [.nm 0]))) [.raise] []]⟩
/-- want_patch -/
def f10 : Fd := ⟨2, 2, [], [.ex (.call 8 [.nm 0]),
    .ite (.tn (.tt (.call 7 [.nm 0, .nm 1]))) [.raise] []]⟩
/-- trace_of -/
def f11 : Fd := ⟨2, 8, [], [.par [2, 3] [.lst [], .c (.int 0)],
    .fr (.tp [.nm 4, .nm 5]) .sq [.nm 1] [.ite (.op .eq [.nm 4, .c (.str "put")]) [.ex (.ext 2 [.lc [6] (.nm 6) .sq [.nm 5] [] (.tup [.nm 6, .c (.none)])]),
    .cont] [],
    .ite (.op .eq [.nm 4, .c (.str "keep")]) [.ex (.ext 2 [.lc [7] (.nm 7) .rng [.nm 3, .op .add [.nm 3, .nm 5]] [] (.tup [.op .item [.nm 0, .nm 7], .nm 7])])] [],
    .asg (.nm 3) (.op .add [.nm 3, .nm 5])],
    .ret (.nm 2)]⟩
/-- edits_put_together -/
def f12 : Fd := ⟨1, 4, [], [.asg (.nm 1) (.lst []),
    .fr (.tp [.nm 2, .nm 3]) .sq [.nm 0] [.ite (.and2 (.op .ne [.nm 1, .lst []]) (.op .eq [.op .item [.op .item [.nm 1, .op .neg [.c (.int 1)]], .c (.int 0)], .nm 2])) [.asg (.st 1 (.op .neg [.c (.int 1)])) (.tup [.nm 2, .op .add [.op .item [.op .item [.nm 1, .op .neg [.c (.int 1)]], .c (.int 1)], .nm 3]])] [.ex (.app 1 (.tup [.nm 2, .nm 3]))]],
    .ret (.op .tuple1 [.nm 1])]⟩
/-- patch_of_trace -/
def f13 : Fd := ⟨2, 7, [], [.par [2, 3, 4] [.lst [], .c (.int 0), .lst []],
    .fr (.tp [.nm 5, .nm 6]) .sq [.op .add [.nm 1, .lst [.tup [.c (.str ""), .nm 0]]]] [.ite (.op .isnone [.nm 6]) [.ex (.app 4 (.nm 5)),
    .cont] [],
    .ex (.ext 2 [.ite (.op .gt [.nm 6, .nm 3]) (.lst [.tup [.c (.str "take"), .op .sub [.nm 6, .nm 3]]]) (.lst [])]),
    .ex (.ext 2 [.ite (.op .ne [.nm 4, .lst []]) (.lst [.tup [.c (.str "put"), .op .tuple1 [.nm 4]]]) (.lst [])]),
    .ex (.ext 2 [.ite (.op .lt [.nm 6, .nm 0]) (.lst [.tup [.c (.str "keep"), .c (.int 1)]]) (.lst [])]),
    .par [3, 4] [.op .add [.nm 6, .c (.int 1)], .lst []]],
    .ret (.call 12 [.nm 2])]⟩
/-- lines_patched -/
def f14 : Fd := ⟨2, 4, [], [.ret (.fz (.lc [2, 3] (.tp [.nm 2, .nm 3]) .sq [.call 11 [.nm 0, .nm 1]] [] (.nm 2)))]⟩
/-- cost_of_patch -/
def f15 : Fd := ⟨1, 3, [], [.ret (.op .sum [.lc [1, 2] (.tp [.nm 1, .nm 2]) .sq [.nm 0] [.op .ne [.nm 1, .c (.str "keep")]] (.ite (.op .eq [.nm 1, .c (.str "put")]) (.op .len [.nm 2]) (.nm 2))])]⟩
/-- table_of_common -/
def f16 : Fd := ⟨2, 7, [], [.asg (.nm 2) (.lst [.op .mul [.lst [.c (.int 0)], .op .add [.op .len [.nm 1], .c (.int 1)]]]),
    .fr (.nm 3) .sq [.nm 0] [.asg (.nm 4) (.lst [.c (.int 0)]),
    .fr (.tp [.nm 5, .nm 6]) .en [.nm 1] [.ex (.app 4 (.ite (.op .eq [.nm 3, .nm 6]) (.op .add [.op .item [.op .item [.nm 2, .op .neg [.c (.int 1)]], .nm 5], .c (.int 1)]) (.op .max2 [.op .item [.op .item [.nm 2, .op .neg [.c (.int 1)]], .op .add [.nm 5, .c (.int 1)]], .op .item [.nm 4, .nm 5]])))],
    .ex (.app 2 (.nm 4))],
    .ret (.nm 2)]⟩
/-- trace_by_table -/
def f17 : Fd := ⟨3, 6, [], [.par [3, 4, 5] [.lst [], .op .len [.nm 0], .op .len [.nm 1]],
    .wh (.op .gt [.nm 5, .c (.int 0)]) [.ite (.and2 (.op .gt [.nm 4, .c (.int 0)]) (.op .eq [.op .item [.nm 0, .op .sub [.nm 4, .c (.int 1)]], .op .item [.nm 1, .op .sub [.nm 5, .c (.int 1)]]])) [.ex (.app 3 (.tup [.op .item [.nm 1, .op .sub [.nm 5, .c (.int 1)]], .op .sub [.nm 4, .c (.int 1)]])),
    .par [4, 5] [.op .sub [.nm 4, .c (.int 1)], .op .sub [.nm 5, .c (.int 1)]]] [.ite (.and2 (.op .gt [.nm 4, .c (.int 0)]) (.op .ge [.op .item [.op .item [.nm 2, .op .sub [.nm 4, .c (.int 1)]], .nm 5], .op .item [.op .item [.nm 2, .nm 4], .op .sub [.nm 5, .c (.int 1)]]])) [.asg (.nm 4) (.op .sub [.nm 4, .c (.int 1)])] [.ex (.app 3 (.tup [.op .item [.nm 1, .op .sub [.nm 5, .c (.int 1)]], .c (.none)])),
    .asg (.nm 5) (.op .sub [.nm 5, .c (.int 1)])]]],
    .ret (.fz (.op .back [.nm 3]))]⟩
/-- patch_least -/
def f18 : Fd := ⟨2, 2, [], [.ret (.call 13 [.op .len [.nm 0], .call 17 [.nm 0, .nm 1, .call 16 [.nm 0, .nm 1]]])]⟩
/-- is_common_table -/
def f19 : Fd := ⟨3, 5, [], [.ite (.or2 (.tn (.tt (.call 2 [.nm 2]))) (.op .ne [.op .len [.nm 2], .op .add [.op .len [.nm 0], .c (.int 1)]])) [.ret (.c (.bool false))] [],
    .ite (.tn (.tt (.op .all [.lc [3] (.nm 3) .sq [.nm 2] [] (.and2 (.call 2 [.nm 3]) (.and2 (.op .eq [.op .len [.nm 3], .op .add [.op .len [.nm 1], .c (.int 1)]]) (.op .all [.lc [4] (.nm 4) .sq [.nm 3] [] (.call 1 [.nm 4])])))]))) [.ret (.c (.bool false))] [],
    .ret (.op .eq [.lc [3] (.nm 3) .sq [.nm 2] [] (.op .list1 [.nm 3]), .call 16 [.nm 0, .nm 1]])]⟩
/-- is_patch -/
def f20 : Fd := ⟨2, 2, [], [.ex (.call 8 [.nm 0]),
    .ret (.call 7 [.nm 0, .nm 1])]⟩
/-- patched -/
def f21 : Fd := ⟨2, 2, [], [.ex (.call 10 [.nm 0, .nm 1]),
    .ret (.call 14 [.op .list1 [.nm 0], .nm 1])]⟩
/-- cost_between -/
def f22 : Fd := ⟨2, 2, [], [.ex (.call 8 [.nm 0]),
    .ex (.call 9 [.nm 1]),
    .ret (.op .sub [.op .add [.op .len [.nm 0], .op .len [.nm 1]], .op .mul [.c (.int 2), .op .item [.op .item [.call 16 [.nm 0, .nm 1], .op .neg [.c (.int 1)]], .op .neg [.c (.int 1)]]]])]⟩
/-- least_patch -/
def f23 : Fd := ⟨2, 2, [], [.ex (.call 8 [.nm 0]),
    .ex (.call 9 [.nm 1]),
    .ret (.call 18 [.nm 0, .nm 1])]⟩
/-- least_paper -/
def f24 : Fd := ⟨2, 2, [], [.ex (.call 8 [.nm 0]),
    .ex (.call 9 [.nm 1]),
    .ret (.tup [.c (.str "least"), .call 18 [.nm 0, .nm 1], .call 16 [.nm 0, .nm 1]])]⟩
/-- is_least_paper -/
def f25 : Fd := ⟨3, 3, [], [.ex (.call 8 [.nm 0]),
    .ex (.call 9 [.nm 1]),
    .ite (.or2 (.tn (.tt (.call 3 [.nm 2, .c (.int 3)]))) (.or2 (.tn (.tt (.op (.isinst ["str"]) [.op .item [.nm 2, .c (.int 0)]]))) (.op .ne [.op .item [.nm 2, .c (.int 0)], .c (.str "least")]))) [.ret (.c (.bool false))] [],
    .ite (.or2 (.tn (.tt (.call 7 [.nm 0, .op .item [.nm 2, .c (.int 1)]]))) (.tn (.tt (.call 19 [.nm 0, .nm 1, .op .item [.nm 2, .c (.int 2)]])))) [.ret (.c (.bool false))] [],
    .ite (.op .ne [.call 14 [.op .list1 [.nm 0], .op .item [.nm 2, .c (.int 1)]], .op .list1 [.nm 1]]) [.ret (.c (.bool false))] [],
    .ret (.op .eq [.call 15 [.op .item [.nm 2, .c (.int 1)]], .op .sub [.op .add [.op .len [.nm 0], .op .len [.nm 1]], .op .mul [.c (.int 2), .op .item [.op .item [.op .item [.nm 2, .c (.int 2)], .op .neg [.c (.int 1)]], .op .neg [.c (.int 1)]]]]])]⟩
/-- _law_draw -/
def f26 : Fd := ⟨2, 3, [], [.ite (.op .gt [.op .item [.nm 0, .c (.int 0)], .c (.int 0)]) [.asg (.tp [.st 0 (.c (.int 0)), .nm 2]) (.op .divmod [.op .item [.nm 0, .c (.int 0)], .nm 1]),
    .ret (.mv 2)] [],
    .asg (.st 0 (.c (.int 1))) (.op .mod [.op .int1 [.op .add [.op .mul [.op .item [.nm 0, .c (.int 1)], .c (.int 39373)], .c (.int 733)]], .c (.int 2147483587)]),
    .ret (.op .mod [.op .int1 [.op .fdiv [.op .mod [.op .int1 [.op .mul [.op .item [.nm 0, .c (.int 1)], .op .item [.nm 0, .c (.int 1)]]], .c (.int 2147483563)], .c (.int 29)]], .nm 1])]⟩
/-- _law_pick -/
def f27 : Fd := ⟨2, 2, [], [.ret (.op .item [.nm 1, .call 26 [.nm 0, .op .len [.nm 1]]])]⟩
/-- _law_lines_drawn -/
def f28 : Fd := ⟨2, 3, [], [.ret (.fz (.lc [2] (.nm 2) .rng [.nm 1] [] (.call 27 [.nm 0, .lst [.c (.str "a"), .c (.str "b"), .c (.str "c"), .c (.str "d")]])))]⟩
/-- _law_common -/
def f29 : Fd := ⟨2, 7, [], [.asg (.nm 2) (.lst [.op .mul [.lst [.c (.int 0)], .op .add [.op .len [.nm 1], .c (.int 1)]]]),
    .fr (.nm 3) .sq [.nm 0] [.asg (.nm 4) (.lst [.c (.int 0)]),
    .fr (.tp [.nm 5, .nm 6]) .en [.nm 1] [.ex (.app 4 (.ite (.op .eq [.nm 3, .nm 6]) (.op .add [.op .item [.op .item [.nm 2, .op .neg [.c (.int 1)]], .nm 5], .c (.int 1)]) (.op .max2 [.op .item [.op .item [.nm 2, .op .neg [.c (.int 1)]], .op .add [.nm 5, .c (.int 1)]], .op .item [.nm 4, .nm 5]])))],
    .ex (.app 2 (.nm 4))],
    .ret (.nm 2)]⟩
/-- _law_is_count -/
def f30 : Fd := ⟨2, 2, [], [.ret (.and2 (.op (.isinst ["int"]) [.nm 0]) (.and2 (.op .nt [.op (.isinst ["bool"]) [.nm 0]]) (.op .ge [.nm 0, .nm 1])))]⟩
/-- _law_is_line -/
def f31 : Fd := ⟨1, 1, [], [.ret (.and2 (.op (.isinst ["str"]) [.nm 0]) (.op .le [.op .len [.nm 0], .c (.int 2000)]))]⟩
/-- _law_patch_look -/
def f32 : Fd := ⟨2, 8, [], [.ite (.or2 (.tn (.tt (.op (.isinst ["tuple"]) [.nm 1]))) (.or2 (.op .gt [.op .len [.nm 1], .c (.int 400)]) (.tn (.tt (.op .all [.lc [7] (.nm 7) .sq [.nm 1] [] (.and2 (.op (.isinst ["tuple"]) [.nm 7]) (.and2 (.op .eq [.op .len [.nm 7], .c (.int 2)]) (.op (.isinst ["str"]) [.op .item [.nm 7, .c (.int 0)]])))]))))) [.ret (.tup [.c (.bool false), .lst [], .c (.int 0)])] [],
    .par [2, 3, 4] [.lst [], .c (.int 0), .c (.int 0)],
    .fr (.tp [.nm 5, .nm 6]) .sq [.nm 1] [.ite (.op .eq [.nm 5, .c (.str "put")]) [.ite (.or2 (.tn (.tt (.op (.isinst ["tuple"]) [.nm 6]))) (.or2 (.op .eq [.nm 6, .tup []]) (.tn (.tt (.op .all [.lc [7] (.nm 7) .sq [.nm 6] [] (.call 31 [.nm 7])]))))) [.ret (.tup [.c (.bool false), .lst [], .c (.int 0)])] [],
    .ex (.ext 2 [.op .list1 [.nm 6]]),
    .asg (.nm 4) (.op .add [.nm 4, .op .len [.nm 6]]),
    .cont] [],
    .ite (.or2 (.op .notin [.nm 5, .tup [.c (.str "keep"), .c (.str "take")]]) (.or2 (.tn (.tt (.call 30 [.nm 6, .c (.int 1)]))) (.op .gt [.op .add [.nm 3, .nm 6], .op .len [.nm 0]]))) [.ret (.tup [.c (.bool false), .lst [], .c (.int 0)])] [],
    .ex (.ext 2 [.ite (.op .eq [.nm 5, .c (.str "keep")]) (.sl [.nm 0] [.nm 3] [.op .add [.nm 3, .nm 6]]) (.lst [])]),
    .par [3, 4] [.op .add [.nm 3, .nm 6], .op .add [.nm 4, .ite (.op .eq [.nm 5, .c (.str "take")]) (.nm 6) (.c (.int 0))]]],
    .ret (.tup [.and2 (.op .eq [.nm 3, .op .len [.nm 0]]) (.op .le [.op .len [.nm 2], .c (.int 200)]), .nm 2, .nm 4])]⟩
/-- _law_is_paper -/
def f33 : Fd := ⟨3, 8, [], [.ite (.or2 (.tn (.tt (.op (.isinst ["tuple"]) [.nm 2]))) (.or2 (.op .ne [.op .len [.nm 2], .c (.int 3)]) (.op .ne [.op .repr [.op .item [.nm 2, .c (.int 0)]], .c (.str "'least'")]))) [.ret (.c (.bool false))] [],
    .asg (.tp [.nm 3, .nm 4, .nm 5]) (.call 32 [.nm 0, .op .item [.nm 2, .c (.int 1)]]),
    .asg (.nm 6) (.call 29 [.nm 0, .nm 1]),
    .ite (.or2 (.tn (.tt (.nm 3))) (.or2 (.op .ne [.nm 4, .nm 1]) (.or2 (.tn (.tt (.op (.isinst ["list", "tuple"]) [.op .item [.nm 2, .c (.int 2)]]))) (.tn (.tt (.op .all [.lc [7] (.nm 7) .sq [.op .item [.nm 2, .c (.int 2)]] [] (.op (.isinst ["list", "tuple"]) [.nm 7])])))))) [.ret (.c (.bool false))] [],
    .ret (.and2 (.op .eq [.op .repr [.lc [7] (.nm 7) .sq [.op .item [.nm 2, .c (.int 2)]] [] (.op .list1 [.nm 7])], .op .repr [.nm 6]]) (.op .eq [.nm 5, .op .sub [.op .add [.op .len [.nm 0], .op .len [.nm 1]], .op .mul [.c (.int 2), .op .item [.op .item [.nm 6, .op .neg [.c (.int 1)]], .op .neg [.c (.int 1)]]]]]))]⟩
/-- _law_bends -/
def f34 : Fd := ⟨2, 13, [], [.asg (.tp [.nm 2, .nm 3, .nm 4]) (.nm 1),
    .asg (.nm 5) (.call 26 [.nm 0, .op .len [.nm 4]]),
    .asg (.nm 6) (.op .list1 [.op .item [.nm 4, .nm 5]]),
    .augs 6 (.call 26 [.nm 0, .op .len [.nm 6]]) (.call 27 [.nm 0, .lst [.c (.int 1), .op .neg [.c (.int 1)]]]),
    .asg (.nm 7) (.lc [10] (.nm 10) .sq [.nm 4] [] (.op .list1 [.nm 10])),
    .asg (.st 7 (.nm 5)) (.nm 6),
    .asg (.nm 8) (.lst [.tup [.nm 2, .nm 3, .nm 7], .tup [.nm 2, .nm 3, .op .tuple1 [.lc [10] (.nm 10) .sq [.nm 4] [] (.op .tuple1 [.nm 10])]], .tup [.nm 2, .nm 3, .sl [.nm 4] [] [.op .neg [.c (.int 1)]]], .tup [.nm 2, .nm 3, .c (.none)]]),
    .ex (.ext 8 [.lst [.tup [.nm 2, .sl [.nm 3] [.c (.int 1)] [], .nm 4], .tup [.nm 2, .op .add [.nm 3, .tup [.tup [.c (.str "put"), .tup [.c (.str "a")]]]], .nm 4]]]),
    .ex (.ext 8 [.lst [.tup [.nm 2, .op .add [.nm 3, .tup [.tup [.c (.str "put"), .tup [.c (.str "a")]], .tup [.c (.str "take"), .c (.int 1)]]], .nm 4], .op .add [.tup [.c (.str "Least")], .sl [.nm 1] [.c (.int 1)] []], .op .list1 [.nm 1], .sl [.nm 1] [] [.c (.int 2)], .op .add [.nm 1, .tup [.c (.int 0)]], .tup [.nm 2, .op .list1 [.nm 3], .nm 4], .c (.none), .c (.int 0), .tup [], .lst [.c (.bool true)]]]),
    .asg (.nm 9) (.op .list1 [.nm 4]),
    .asg (.st 9 (.nm 5)) (.lc [10] (.nm 10) .sq [.op .item [.nm 4, .nm 5]] [] (.ite (.op .lt [.nm 10, .c (.int 2)]) (.op .eq [.nm 10, .c (.int 1)]) (.nm 10))),
    .ret (.fz (.op .add [.nm 8, .lst [.tup [.nm 2, .nm 3, .nm 9], .tup [.nm 2, .op .tuple1 [.lc [11, 12] (.tp [.nm 11, .nm 12]) .sq [.nm 3] [] (.ite (.op .eq [.nm 11, .c (.str "take")]) (.tup [.c (.str "keep"), .nm 12]) (.tup [.nm 11, .nm 12]))], .nm 4]]]))]⟩
/-- _law_paper_right -/
def f35 : Fd := ⟨3, 11, [], [.asg (.nm 3) (.op .sub [.op .add [.op .len [.nm 1], .op .len [.nm 2]], .op .mul [.c (.int 2), .op .item [.op .item [.call 29 [.nm 1, .nm 2], .op .neg [.c (.int 1)]], .op .neg [.c (.int 1)]]]]),
    .ite (.or2 (.op .ne [.op .reprl [.call 22 [.nm 1, .nm 2], .callk 22 [.op .tuple1 [.nm 2], .nm 1] [1, 0], .call 22 [.nm 2, .nm 1]], .op .repr [.op .mul [.lst [.nm 3], .c (.int 3)]]]) (.op .ne [.op .eq [.nm 3, .c (.int 0)], .op .eq [.nm 1, .nm 2]])) [.ret (.c (.bool false))] [],
    .fr (.nm 4) .sq [.tup [.call 23 [.nm 1, .nm 2], .callk 23 [.nm 2, .nm 1] [1, 0]]] [.ite (.or2 (.op .ne [.call 32 [.nm 1, .nm 4], .tup [.c (.bool true), .nm 2, .nm 3]]) (.op .ne [.call 21 [.nm 1, .nm 4], .nm 2])) [.ret (.c (.bool false))] []],
    .asg (.nm 5) (.callk 24 [.nm 2, .nm 1] [1, 0]),
    .ite (.tn (.tt (.call 33 [.nm 1, .nm 2, .nm 5]))) [.ret (.c (.bool false))] [],
    .fr (.tp [.nm 6, .nm 7]) .en [.op .add [.lst [.nm 5, .call 24 [.nm 1, .nm 2]], .call 34 [.nm 0, .nm 5]]] [.par [8, 9] [.call 33 [.nm 1, .nm 2, .nm 7], .op .repr [.nm 7]],
    .asg (.nm 10) (.ite (.op .eq [.op .mod [.op .int1 [.nm 6], .c (.int 2)], .c (.int 0)]) (.call 25 [.nm 1, .nm 2, .nm 7]) (.callk 25 [.nm 7, .nm 2, .nm 1] [2, 1, 0])),
    .ite (.or2 (.op .ne [.op .repr [.nm 10], .op .repr [.nm 8]]) (.op .ne [.op .repr [.nm 7], .nm 9])) [.ret (.c (.bool false))] []],
    .ret (.c (.bool true))]⟩
/-- _law_edges_right -/
def f36 : Fd := ⟨0, 6, [], [.par [0, 1] [.op .mul [.lst [.c (.str "x")], .c (.int 200)], .op .mul [.c (.str "y"), .c (.int 2000)]],
    .asg (.nm 2) (.lst [.tup [.nm 0, .tup [.tup [.c (.str "keep"), .c (.int 200)]]], .tup [.nm 0, .tup [.tup [.c (.str "keep"), .c (.int 200)], .tup [.c (.str "put"), .tup [.c (.str "a")]]]], .tup [.nm 0, .tup [.tup [.c (.str "take"), .c (.int 1)], .tup [.c (.str "keep"), .c (.int 199)], .tup [.c (.str "put"), .tup [.c (.str "a")]]]]]),
    .ex (.ext 2 [.lst [.tup [.lst [.nm 1], .tup [.tup [.c (.str "keep"), .c (.int 1)], .tup [.c (.str "put"), .tup [.nm 1]]]], .tup [.lst [], .tup [.tup [.c (.str "put"), .tup [.op .add [.nm 1, .c (.str "y")]]]]]]]),
    .ex (.ext 2 [.lst [.tup [.lst [], .tup [.tup [.c (.str "put"), .op .mul [.tup [.c (.str "a")], .c (.int 200)]]]], .tup [.lst [], .tup [.tup [.c (.str "put"), .op .mul [.tup [.c (.str "a")], .c (.int 201)]]]], .tup [.nm 0, .op .mul [.tup [.tup [.c (.str "take"), .c (.int 1)], .tup [.c (.str "put"), .tup [.c (.str "b")]]], .c (.int 200)]]]]),
    .ex (.app 2 (.tup [.nm 0, .op .add [.op .mul [.tup [.tup [.c (.str "take"), .c (.int 1)], .tup [.c (.str "put"), .tup [.c (.str "b")]]], .c (.int 200)], .tup [.tup [.c (.str "put"), .tup [.c (.str "c")]]]]])),
    .ex (.ext 2 [.lst [.tup [.lst [.c (.str "a")], .tup [.tup [.c (.str "keep"), .c (.bool true)]]], .tup [.lst [.c (.str "a")], .tup [.tup [.c (.str "keep"), .c (.int 0)], .tup [.c (.str "keep"), .c (.int 1)]]], .tup [.lst [.c (.str "a")], .tup []], .tup [.lst [], .tup []], .tup [.lst [.c (.str "a")], .tup [.lst [.c (.str "keep"), .c (.int 1)]]]]]),
    .ex (.ext 2 [.lst [.tup [.lst [.c (.str "a")], .tup [.tup [.c (.str "take"), .c (.int 2)]]], .tup [.lst [.c (.str "a")], .tup [.tup [.c (.str "keep"), .c (.int 1)], .tup [.c (.str "put"), .tup []]]], .tup [.lst [.c (.str "a")], .tup [.tup [.c (.str "keep"), .c (.int 1)], .tup [.c (.str "put"), .lst [.c (.str "b")]]]]]]),
    .fr (.tp [.nm 3, .nm 4]) .sq [.nm 2] [.asg (.nm 5) (.prj (.call 32 [.nm 3, .nm 4]) 0),
    .ite (.op .ne [.op .reprl [.call 20 [.nm 3, .nm 4], .callk 20 [.nm 4, .nm 3] [1, 0]], .op .reprl [.nm 5, .nm 5]]) [.ret (.c (.bool false))] []],
    .ret (.c (.bool true))]⟩
/-- _law_right -/
def f37 : Fd := ⟨1, 5, [], [.ite (.tn (.tt (.call 36 []))) [.ret (.c (.bool false))] [],
    .fr (.nm 1) .rng [.c (.int 3)] [.asg (.nm 2) (.call 28 [.nm 0, .call 26 [.nm 0, .c (.int 10)]]),
    .asg (.nm 3) (.call 27 [.nm 0, .lst [.call 28 [.nm 0, .call 26 [.nm 0, .c (.int 10)]], .op .back [.nm 2], .op .add [.sl [.nm 2] [.c (.int 1)] [], .sl [.nm 2] [] [.c (.int 1)]], .op .list1 [.nm 2]]]),
    .asg (.nm 4) (.call 28 [.nm 0, .call 26 [.nm 0, .c (.int 10)]]),
    .ite (.or2 (.tn (.tt (.call 35 [.nm 0, .nm 2, .nm 3]))) (.op .gt [.call 22 [.nm 2, .nm 4], .op .add [.call 22 [.nm 2, .nm 3], .call 22 [.nm 3, .nm 4]]])) [.ret (.c (.bool false))] []],
    .ret (.c (.bool true))]⟩
def pgm : List Fd := [f0, f1, f2, f3, f4, f5, f6, f7, f8, f9, f10, f11, f12, f13, f14, f15, f16, f17, f18, f19, f20, f21, f22, f23, f24, f25, f26, f27, f28, f29, f30, f31, f32, f33, f34, f35, f36, f37]
def pgfs0 : List (Str × List Str) := [("is_integer", ["value"]), ("is_count", ["value"]), ("is_list", ["value"]), ("is_tuple", ["value", "many"]), ("is_line_any", ["value"]), ("are_lines_any", ["value"]), ("is_edit_any", ["value"]), ("is_patch_of", ["lines", "value"]), ("want_lines", ["lines"]), ("want_other_lines", ["other"]), ("want_patch", ["lines", "patch"]), ("trace_of", ["lines", "patch"]), ("edits_put_together", ["edits"]), ("patch_of_trace", ["many", "trace"]), ("lines_patched", ["lines", "patch"]), ("cost_of_patch", ["patch"]), ("table_of_common", ["lines", "other"]), ("trace_by_table", ["lines", "other", "table"]), ("patch_least", ["lines", "other"]), ("is_common_table", ["lines", "other", "value"]), ("is_patch", ["lines", "value"]), ("patched", ["lines", "patch"]), ("cost_between", ["lines", "other"]), ("least_patch", ["lines", "other"])]
def pgfs1 : List (Str × List Str) := [("least_paper", ["lines", "other"]), ("is_least_paper", ["lines", "other", "value"]), ("_law_draw", ["pot", "many"]), ("_law_pick", ["pot", "some"]), ("_law_lines_drawn", ["pot", "many"]), ("_law_common", ["lines", "other"]), ("_law_is_count", ["value", "least"]), ("_law_is_line", ["value"]), ("_law_patch_look", ["lines", "value"]), ("_law_is_paper", ["lines", "other", "value"]), ("_law_bends", ["pot", "paper"]), ("_law_paper_right", ["pot", "lines", "other"]), ("_law_edges_right", []), ("_law_right", ["pot"])]
def pgfs : List (Str × List Str) := pgfs0 ++ pgfs1
def pgcs : List (Str × PyData) := [("KEEP", .str "keep"), ("TAKE", .str "take"), ("PUT", .str "put"), ("LEAST", .str "least"), ("MOST_LINES", .int 200), ("MOST_LINE", .int 2000), ("MOST_EDITS", .int 400)]
def pgkw : List (Nat × List Str × Nat × List Nat) := [(22, ["other", "lines"], 0, [1, 0]), (23, ["other", "lines"], 0, [1, 0]), (24, ["other", "lines"], 0, [1, 0]), (25, ["value", "other", "lines"], 0, [2, 1, 0]), (20, ["value", "lines"], 0, [1, 0])]
def pg : Pg := ⟨pgfs, pgcs, pgkw⟩
def rows0 : List (Nat × List Str × Fd) := [(1, ["value"], f0),
  (2, ["value"], f1),
  (3, ["value"], f2),
  (4, ["value", "many"], f3),
  (18, ["value"], f4),
  (19, ["value", "one"], f5),
  (20, ["value", "one"], f6),
  (21, ["lines", "value", "late", "one", "edit"], f7),
  (22, ["lines"], f8),
  (23, ["other"], f9),
  (24, ["lines", "patch"], f10),
  (25, ["lines", "patch", "found", "at", "word", "told", "line", "place"], f11),
  (26, ["edits", "found", "word", "told"], f12),
  (27, ["many", "trace", "edits", "at", "new", "line", "place"], f13),
  (28, ["lines", "patch", "line", "place"], f14),
  (29, ["patch", "word", "told"], f15),
  (30, ["lines", "other", "found", "line", "row", "at", "far"], f16),
  (31, ["lines", "other", "table", "found", "at", "to"], f17),
  (32, ["lines", "other"], f18),
  (33, ["lines", "other", "value", "row", "one"], f19),
  (34, ["lines", "value"], f20),
  (35, ["lines", "patch"], f21),
  (36, ["lines", "other"], f22),
  (37, ["lines", "other"], f23)]
def rows1 : List (Nat × List Str × Fd) := [(38, ["lines", "other"], f24),
  (39, ["lines", "other", "value"], f25),
  (42, ["pot", "many", "digit"], f26),
  (43, ["pot", "some"], f27),
  (44, ["pot", "many", "turn"], f28),
  (45, ["lines", "other", "found", "line", "row", "at", "far"], f29),
  (46, ["value", "least"], f30),
  (47, ["value"], f31),
  (48, ["lines", "value", "found", "at", "cost", "word", "told", "one"], f32),
  (49, ["lines", "other", "value", "is_one", "found", "cost", "due", "row"], f33),
  (50, ["pot", "paper", "word", "patch", "table", "at", "row", "bent", "values", "more", "one", "edit", "told"], f34),
  (51, ["pot", "lines", "other", "cost", "patch", "paper", "turn", "value", "due", "kept", "seen"], f35),
  (52, ["many", "wide", "pairs", "lines", "value", "due"], f36),
  (53, ["pot", "turn", "lines", "other", "third"], f37)]
def rows : List (Nat × List Str × Fd) := rows0 ++ rows1
end L83
end
section
set_option Elab.async false
set_option linter.all false
set_option maxRecDepth 100000
set_option maxHeartbeats 2000000
namespace L83
open PySem PySem.Spec PyProof.Rows L2 Qv
abbrev PG : List Fd := rows.map (·.2.2)
noncomputable abbrev RF (k : Nat) : Cal := runF PG k
def intB : PyData → Bool
  | .int _ => true
  | _ => false
def cntB : PyData → Bool
  | .int i => decide (0 ≤ i)
  | _ => false
def seqB : PyData → Bool
  | .list _ => true
  | .tuple _ => true
  | _ => false
def tup2 : PyData → Bool
  | .tuple [_, _] => true
  | _ => false
def lineB : PyData → Bool
  | .str x => decide (x.length ≤ 2000)
  | _ => false
def shortB : PyData → Bool
  | .str x => decide (x.length ≤ 100000)
  | .tuple ds => decide (ds.length ≤ 100000)
  | .list ds => decide (ds.length ≤ 100000)
  | _ => true
theorem f0_ok {k : Nat} (h : 1 ≤ k) (d : PyData) : RF k 0 [.sh d] = some (shB (intB d), [.sh d]) := by
  obtain ⟨k, rfl, _⟩ := posK h
  refine run_rt (fd := f0) (ρ := [some (.sh d)]) rfl rfl ?_ rfl
  show evSs (RF k) f0.body [some (.sh d)] = _
  generalize RF k = C
  cases d <;> simp [f0, rdO, prim, u1, isAny, isT, shB, truth, intB]
theorem f1_ok {k : Nat} (h : 2 ≤ k) (d : PyData) : RF k 1 [.sh d] = some (shB (cntB d), [.sh d]) := by
  obtain ⟨k, rfl, h1⟩ := posK h
  refine run_rt (fd := f1) (ρ := [some (.sh d)]) rfl rfl ?_ rfl
  show evSs (RF k) f1.body [some (.sh d)] = _
  have q := f0_ok h1 d
  generalize RF k = C at q
  unfold f1
  have e1 : Ev C [some (.sh d)] (.call 0 [.nm 0]) (.sh (.bool (intB d))) := e_call (la_s rfl la_nil) q
  have e2 : intB d = true → Ev C [some (.sh d)] (.op .ge [.nm 0, .c (.int 0)]) (.sh (.bool (cntB d))) := fun hi => by
    cases d with
    | int i => exact e_op (ov_s rfl (ov_c ov_nil)) rfl
    | _ => cases hi
  rw [s_ret (e_and e1 e2)]
  cases d <;> rfl
theorem f2_ok {k : Nat} (h : 1 ≤ k) (d : PyData) : RF k 2 [.sh d] = some (shB (seqB d), [.sh d]) := by
  obtain ⟨k, rfl, _⟩ := posK h
  refine run_rt (fd := f2) (ρ := [some (.sh d)]) rfl rfl ?_ rfl
  show evSs (RF k) f2.body [some (.sh d)] = _
  generalize RF k = C
  cases d <;> simp [f2, rdO, prim, u1, isAny, isT, shB, truth, seqB]
theorem len_is {ds : List PyData} : prim .len [.sh (.tuple ds)] = some (.sh (.int ds.length)) := rfl
theorem len_li {ds : List PyData} : prim .len [.sh (.list ds)] = some (.sh (.int ds.length)) := rfl
theorem eq_ii (i j : Int) : prim .eq [.sh (.int i), .sh (.int j)] = some (.sh (.bool (decide (i = j)))) := by
  show some (shB (PyData.eqv (.int i) (.int j))) = _
  have : PyData.eqv (.int i) (.int j) = decide (i = j) := by
    show (i == j) = _
    by_cases q : i = j
    · subst q; simp
    · rw [decide_eq_false q]; exact beq_eq_false_iff_ne.mpr q
  rw [this]
  rfl
theorem ne_ii (i j : Int) : prim .ne [.sh (.int i), .sh (.int j)] = some (.sh (.bool (!decide (i = j)))) := by
  have h := eq_ii i j
  show (pEq [.sh (.int i), .sh (.int j)]).map (fun b => shB !b) = _
  have h : (pEq [.sh (.int i), .sh (.int j)]).map shB = _ := h
  cases q : pEq [.sh (.int i), .sh (.int j)] with
  | none => rw [q] at h; cases h
  | some b =>
    rw [q] at h
    simp only [Option.map_some, shB, Option.some.injEq, O.sh.injEq, PyData.bool.injEq] at h ⊢
    rw [h]
def tupN (n : Nat) : PyData → Bool
  | .tuple ds => decide (ds.length = n)
  | _ => false
theorem tup2_is (d : PyData) : tup2 d = tupN 2 d := by
  cases d with
  | tuple ds =>
    match ds with
    | [] => rfl
    | [_] => rfl
    | [_, _] => rfl
    | _ :: _ :: _ :: _ => simp [tup2, tupN]
  | _ => rfl
theorem f3_ok {k : Nat} (h : 1 ≤ k) (d : PyData) (n : Nat) : RF k 3 [.sh d, .sh (.int n)] = some (shB (tupN n d), [.sh d, .sh (.int n)]) := by
  obtain ⟨k, rfl, _⟩ := posK h
  refine run_rt (fd := f3) (ρ := [some (.sh d), some (.sh (.int n))]) rfl rfl ?_ rfl
  show evSs (RF k) f3.body [some (.sh d), some (.sh (.int n))] = _
  generalize RF k = C
  unfold f3
  cases d with
  | tuple ds =>
    have e1 : Ev C [some (.sh (.tuple ds)), some (.sh (.int n))] (.op (.isinst ["tuple"]) [.nm 0]) (.sh (.bool true)) := e_op (ov_s rfl ov_nil) rfl
    have e2 : Ev C [some (.sh (.tuple ds)), some (.sh (.int n))] (.op .eq [.op .len [.nm 0], .nm 1]) (.sh (.bool (decide ((ds.length : Int) = n)))) := e_op (ov_d rfl (e_op (ov_s rfl ov_nil) len_is) (ov_s rfl ov_nil)) (eq_ii _ _)
    rw [s_ret (e_and e1 fun _ => e2)]
    have : decide ((ds.length : Int) = n) = decide (ds.length = n) := decide_eq_decide.mpr (by omega)
    rw [this]
    rfl
  | _ =>
    refine (s_ret (e_and (x := false) (y := false) (e_op (ov_s rfl ov_nil) rfl) (fun e => by cases e))).trans ?_
    rfl
theorem len_st {x : Str} (h : x.length ≤ 100000) : prim .len [.sh (.str x)] = some (.sh (.int x.length)) := by
  show gd (decide (x.length ≤ sizeLine)) (shI x.length) = _
  rw [decide_eq_true (sz_le (by omega))]
  rfl
theorem le_ii (i j : Int) : prim .le [.sh (.int i), .sh (.int j)] = some (.sh (.bool (decide (i ≤ j)))) := rfl
theorem gt_ii (i j : Int) : prim .gt [.sh (.int i), .sh (.int j)] = some (.sh (.bool (decide (j < i)))) := rfl
theorem lt_ii (i j : Int) : prim .lt [.sh (.int i), .sh (.int j)] = some (.sh (.bool (decide (i < j)))) := rfl
theorem ge_ii (i j : Int) : prim .ge [.sh (.int i), .sh (.int j)] = some (.sh (.bool (decide (j ≤ i)))) := rfl
theorem f4_ok {k : Nat} (h : 1 ≤ k) (d : PyData) (hd : shortB d = true) : RF k 4 [.sh d] = some (shB (lineB d), [.sh d]) := by
  obtain ⟨k, rfl, _⟩ := posK h
  refine run_rt (fd := f4) (ρ := [some (.sh d)]) rfl rfl ?_ rfl
  show evSs (RF k) f4.body [some (.sh d)] = _
  generalize RF k = C
  unfold f4
  cases d with
  | str x =>
    have hd : x.length ≤ 100000 := of_decide_eq_true hd
    refine (s_ret (e_and (e_op (ov_s rfl ov_nil) rfl) fun _ => e_op (ov_d rfl (e_op (ov_s rfl ov_nil) (len_st hd)) (ov_c ov_nil)) (le_ii _ _))).trans ?_
    have : decide ((x.length : Int) ≤ 2000) = decide (x.length ≤ 2000) := decide_eq_decide.mpr (by omega)
    rw [this]
    rfl
  | _ =>
    refine (s_ret (e_and (x := false) (y := false) (e_op (ov_s rfl ov_nil) rfl) (fun e => by cases e))).trans ?_
    rfl
/-! ### edits -/
def sL (ls : List Str) : List PyData := ls.map .str
inductive Ed where
  | put (ls : List Str)
  | keep (n : Nat)
  | take (n : Nat)
def Ed.d : Ed → PyData
  | .put ls => .tuple [.str "put", .tuple (sL ls)]
  | .keep n => .tuple [.str "keep", .int n]
  | .take n => .tuple [.str "take", .int n]
def Ed.ok : Ed → Prop
  | .put ls => ls ≠ [] ∧ ls.length ≤ 100000 ∧ ∀ l ∈ ls, l.length ≤ 2000
  | .keep n => 0 < n
  | .take n => 0 < n
def posB : PyData → Bool
  | .int i => decide (0 < i)
  | _ => false
def editB : PyData → Bool
  | .tuple [.str w, x] => if w = "put" then (match x with
      | .tuple ds => !ds.isEmpty && ds.all lineB
      | _ => false) else (decide (w = "keep") || decide (w = "take")) && posB x
  | _ => false
/-- a value that can be looked at as an edit -/
def editT : PyData → Bool
  | .tuple [.str _, .tuple ds] => SeqAt.shaped (.tuple ds) && ds.all shortB && decide (ds.length ≤ 1000)
  | d => shortB d
theorem lines_of : ∀ {ds : List PyData}, ds.all lineB = true → ∃ ls : List Str, ds = sL ls ∧ ∀ l ∈ ls, l.length ≤ 2000
  | [], _ => ⟨[], rfl, fun _ m => by cases m⟩
  | d :: ds, h => by
    rw [List.all_cons, Bool.and_eq_true] at h
    obtain ⟨ls, rfl, hl⟩ := lines_of h.2
    cases d with
    | str x => exact ⟨x :: ls, rfl, fun l m => (List.mem_cons.mp m).elim (fun e => by rw [e]; exact of_decide_eq_true h.1) (hl l)⟩
    | _ => cases h.1
theorem ed_of {d : PyData} (h : editB d = true) (ht : editT d = true) : ∃ e : Ed, d = e.d ∧ e.ok := by
  unfold editB at h
  split at h
  · rename_i w x
    split at h
    · rename_i hw
      subst hw
      split at h
      · rename_i ds
        rw [Bool.and_eq_true, Bool.not_eq_true'] at h
        obtain ⟨ls, rfl, hl⟩ := lines_of h.2
        simp only [editT, Bool.and_eq_true, decide_eq_true_eq] at ht
        refine ⟨.put ls, rfl, fun e => ?_, by have := ht.2; simp only [sL, List.length_map] at this; omega, hl⟩
        subst e
        simp [sL] at h
      · cases h
    · rw [Bool.and_eq_true, Bool.or_eq_true, decide_eq_true_eq, decide_eq_true_eq] at h
      obtain ⟨hw, hx⟩ := h
      cases x with
      | int i =>
        have hi : 0 < i := of_decide_eq_true hx
        have e : (i.toNat : Int) = i := by omega
        rcases hw with rfl | rfl
        · exact ⟨.keep i.toNat, by show _ = PyData.tuple [_, .int (i.toNat : Int)]; rw [e], by show 0 < i.toNat; omega⟩
        · exact ⟨.take i.toNat, by show _ = PyData.tuple [_, .int (i.toNat : Int)]; rw [e], by show 0 < i.toNat; omega⟩
      | _ => cases hx
  · cases h
theorem item0 {a b : PyData} : prim .item [.sh (.tuple [a, b]), .sh (.int 0)] = some (.sh a) := rfl
theorem item1 {a b : PyData} : prim .item [.sh (.tuple [a, b]), .sh (.int 1)] = some (.sh b) := rfl
theorem eq_ss (x y : Str) : prim .eq [.sh (.str x), .sh (.str y)] = some (.sh (.bool (decide (x = y)))) := by
  show some (shB (PyData.eqv (.str x) (.str y))) = _
  have : PyData.eqv (.str x) (.str y) = decide (x = y) := by
    show (x == y) = _
    by_cases q : x = y
    · subst q; simp
    · rw [decide_eq_false q]; exact beq_eq_false_iff_ne.mpr q
  rw [this]
  rfl
theorem ne_ss (x y : Str) : prim .ne [.sh (.str x), .sh (.str y)] = some (.sh (.bool (!decide (x = y)))) := by
  show some (shB (!PyData.eqv (.str x) (.str y))) = _
  have : PyData.eqv (.str x) (.str y) = decide (x = y) := by
    show (x == y) = _
    by_cases q : x = y
    · subst q; simp
    · rw [decide_eq_false q]; exact beq_eq_false_iff_ne.mpr q
  rw [this]
  rfl
theorem in_kt (x : Str) : prim .isin [.sh (.str x), .sh (.tuple [.str "keep", .str "take"])] = some (.sh (.bool (decide (x = "keep") || decide (x = "take")))) := by
  have e : ∀ y : Str, PyData.eqv (.str y) (.str x) = decide (x = y) := fun y => by
    show (y == x) = _
    by_cases q : x = y
    · subst q; simp
    · rw [decide_eq_false q]; exact beq_eq_false_iff_ne.mpr (fun z => q z.symm)
  show (pIn [.sh (.str x), .sh (.tuple [.str "keep", .str "take"])]).map shB = _
  simp only [pIn, seq_tp, gd, isFlatD, List.all_cons, List.all_nil, scalD, d_sh, Bool.and_self, if_true, List.any_cons, List.any_nil, Bool.or_false, e, Option.map_some]
  rfl
end L83
end
section
set_option Elab.async false
set_option linter.all false
set_option maxRecDepth 100000
set_option maxHeartbeats 2000000
namespace L83
open PySem PySem.Spec PyProof.Rows L2 Qv
theorem ne_tn {ds : List PyData} (h : SeqAt.shaped (.tuple ds) = true) : prim .ne [.sh (.tuple ds), .sh (.tuple [])] = some (.sh (.bool (!ds.isEmpty))) := by
  show (pEq [.sh (.tuple ds), .sh (.tuple [])]).map (fun b => shB !b) = _
  have s0 : SeqAt.shaped (.tuple []) = true := by decide
  simp only [pEq, d_sh, scalD, h, s0, gd, Bool.and_self, if_true]
  cases ds <;> rfl
theorem eq_tn {ds : List PyData} (h : SeqAt.shaped (.tuple ds) = true) : prim .eq [.sh (.tuple ds), .sh (.tuple [])] = some (.sh (.bool ds.isEmpty)) := by
  show (pEq [.sh (.tuple ds), .sh (.tuple [])]).map shB = _
  have s0 : SeqAt.shaped (.tuple []) = true := by decide
  simp only [pEq, d_sh, scalD, h, s0, gd, Bool.and_self, if_true]
  cases ds <;> rfl
theorem f6_ok {k : Nat} (h : 3 ≤ k) (d : PyData) (hd : editT d = true) : RF k 6 [.sh d] = some (shB (editB d), [.sh d]) := by
  obtain ⟨k, rfl, h1⟩ := posK h
  refine run_rt (fd := f6) (ρ := [some (.sh d), none]) rfl rfl ?_ rfl
  show evSs (RF k) f6.body [some (.sh d), none] = _
  have c3 := f3_ok (k := k) (by omega) d 2
  have c4 := fun x hx => f4_ok (k := k) (by omega) x hx
  have c1 := fun x => f1_ok (k := k) (by omega) x
  generalize RF k = C at *
  have e3 : Ev C [some (.sh d), none] (.tn (.tt (.call 3 [.nm 0, .c (.int 2)]))) (.sh (.bool (!tupN 2 d))) := e_tn (e_tt rfl (e_call (la_s rfl (la_c la_nil)) c3))
  unfold f6
  simp only
  cases ht : tupN 2 d with
  | false =>
    rw [ht] at e3
    have eb : editB d = false := by
      unfold editB
      split
      · cases ht
      · rfl
    rw [s_ift (e_or (y := false) e3 fun e => by cases e) e_c, eb]
    rfl
  | true =>
    rw [ht] at e3
    obtain ⟨a, b, rfl⟩ : ∃ a b, d = .tuple [a, b] := by
      rw [← tup2_is] at ht
      unfold tup2 at ht
      split at ht
      · exact ⟨_, _, rfl⟩
      · cases ht
    have i0 : Ev C [some (.sh (.tuple [a, b])), none] (.op .item [.nm 0, .c (.int 0)]) (.sh a) := e_op (ov_s rfl (ov_c ov_nil)) item0
    have i1 : Ev C [some (.sh (.tuple [a, b])), none] (.op .item [.nm 0, .c (.int 1)]) (.sh b) := e_op (ov_s rfl (ov_c ov_nil)) item1
    cases a with
    | str w =>
      have e4 : Ev C [some (.sh (.tuple [.str w, b])), none] (.tn (.tt (.op (.isinst ["str"]) [.op .item [.nm 0, .c (.int 0)]]))) (.sh (.bool (!true))) := e_tn (e_tt rfl (e_op (ov_d rfl i0 ov_nil) rfl))
      rw [s_iff (e_or e3 fun _ => e4)]
      have ep : Ev C [some (.sh (.tuple [.str w, b])), none] (.op .eq [.op .item [.nm 0, .c (.int 0)], .c (.str "put")]) (.sh (.bool (decide (w = "put")))) := e_op (ov_d rfl i0 (ov_c ov_nil)) (eq_ss _ _)
      by_cases hw : w = "put"
      · rw [decide_eq_true hw] at ep
        cases b with
        | tuple ds =>
          have hd2 : SeqAt.shaped (.tuple ds) = true ∧ ds.all shortB = true ∧ ds.length ≤ 100000 := by
            simp only [editT, Bool.and_eq_true, decide_eq_true_eq] at hd
            exact ⟨hd.1.1, hd.1.2, by omega⟩
          have t1 : Ev C [some (.sh (.tuple [.str w, .tuple ds])), none] (.op (.isinst ["tuple"]) [.op .item [.nm 0, .c (.int 1)]]) (.sh (.bool true)) := e_op (ov_d rfl i1 ov_nil) rfl
          have t2 : Ev C [some (.sh (.tuple [.str w, .tuple ds])), none] (.op .ne [.op .item [.nm 0, .c (.int 1)], .tup []]) (.sh (.bool (!ds.isEmpty))) := e_op (ov_d rfl i1 (ov_d rfl (e_tup es_nil (by simp)) ov_nil)) (ne_tn hd2.1)
          have t3 : Ev C [some (.sh (.tuple [.str w, .tuple ds])), none] (.op .all [.lc [1] (.nm 1) .sq [.op .item [.nm 0, .c (.int 1)]] [] (.call 4 [.nm 1])]) (.sh (.bool (ds.all lineB))) :=
            e_all rfl (e_lcA O.sh (fun x => some (shB (lineB x))) ds (es_cons i1 es_nil) rfl rfl (fun x hx => lcT_1 (by simp) rfl (e_call (la_s rfl la_nil) (c4 x (List.all_eq_true.mp hd2.2.1 x hx)))) (by omega))
          rw [s_ift ep (e_and t1 fun _ => e_and t2 fun _ => t3)]
          simp only [editB, if_pos hw, Bool.true_and]
          rfl
        | _ =>
          refine (s_ift ep (e_and (x := false) (y := false) (e_op (ov_d rfl i1 ov_nil) rfl) (fun e => by cases e))).trans ?_
          simp only [editB, if_pos hw]
          rfl
      · rw [decide_eq_false hw] at ep
        rw [s_iff ep]
        have t1 : Ev C [some (.sh (.tuple [.str w, b])), none] (.op .isin [.op .item [.nm 0, .c (.int 0)], .tup [.c (.str "keep"), .c (.str "take")]]) (.sh (.bool (decide (w = "keep") || decide (w = "take")))) :=
          e_op (ov_d rfl i0 (ov_d rfl (e_tup (es_cons e_c (es_cons e_c es_nil)) (by simp)) ov_nil)) (in_kt w)
        have t2 : Ev C [some (.sh (.tuple [.str w, b])), none] (.call 1 [.op .item [.nm 0, .c (.int 1)]]) (.sh (.bool (cntB b))) := e_call (la_v rfl i1 la_nil) (c1 b)
        have t3 : cntB b = true → Ev C [some (.sh (.tuple [.str w, b])), none] (.op .gt [.op .item [.nm 0, .c (.int 1)], .c (.int 0)]) (.sh (.bool (posB b))) := fun hb => by
          cases b with
          | int i => exact e_op (ov_d rfl i1 (ov_c ov_nil)) (gt_ii _ _)
          | _ => cases hb
        rw [s_ret (e_and t1 fun _ => e_and t2 t3)]
        have : (cntB b && posB b) = posB b := by
          cases b with
          | int i =>
            simp only [cntB, posB]
            by_cases q : 0 < i
            · rw [decide_eq_true q, decide_eq_true (by omega)]; rfl
            · rw [decide_eq_false q, Bool.and_false]
          | _ => rfl
        simp only [editB, if_neg hw, this]
        rfl
    | _ =>
      refine (s_ift (e_or e3 fun _ => e_tn (x := false) (e_tt rfl (e_op (ov_d rfl i0 ov_nil) rfl))) e_c).trans ?_
      rfl
/-! ### patches -/
def Ed.span : Ed → Nat
  | .put _ => 0
  | .keep n => n
  | .take n => n
def Ed.late : Ed → Nat
  | .put ls => ls.length
  | .keep n => n
  | .take _ => 0
def span (es : List Ed) : Nat := (es.map Ed.span).sum
def late (es : List Ed) : Nat := (es.map Ed.late).sum
structure IsPatch (n : Nat) (d : PyData) (es : List Ed) : Prop where
  is : d = .tuple (es.map Ed.d)
  len : es.length ≤ 400
  each : ∀ e ∈ es, e.ok
  sp : span es = n
  lt : late es ≤ 200
theorem v_pk : (Str.ofString "put") ≠ (Str.ofString "keep") := by decide
theorem v_pt : (Str.ofString "put") ≠ (Str.ofString "take") := by decide
theorem v_kt : (Str.ofString "keep") ≠ (Str.ofString "take") := by decide
theorem sL_inj : ∀ {xs ys : List Str}, sL xs = sL ys → xs = ys
  | [], [], _ => rfl
  | [], _ :: _, h => by simp [sL] at h
  | _ :: _, [], h => by simp [sL] at h
  | x :: xs, y :: ys, h => by
    simp only [sL, List.map_cons, List.cons.injEq, PyData.str.injEq] at h
    rw [h.1, sL_inj (xs := xs) (ys := ys) h.2]
theorem Ed.inj {e f : Ed} (h : e.d = f.d) : e = f := by
  cases e <;> cases f <;> simp only [Ed.d, PyData.tuple.injEq, List.cons.injEq, PyData.str.injEq, PyData.int.injEq, and_true] at h
  · rw [sL_inj h.2]
  · exact absurd h.1 v_pk
  · exact absurd h.1 v_pt
  · exact absurd h.1.symm v_pk
  · rw [Int.ofNat_inj.mp h.2]
  · exact absurd h.1 v_kt
  · exact absurd h.1.symm v_pt
  · exact absurd h.1.symm v_kt
  · rw [Int.ofNat_inj.mp h.2]
theorem eds_inj : ∀ {es fs : List Ed}, es.map Ed.d = fs.map Ed.d → es = fs
  | [], [], _ => rfl
  | [], _ :: _, h => by simp at h
  | _ :: _, [], h => by simp at h
  | e :: es, f :: fs, h => by
    simp only [List.map_cons, List.cons.injEq] at h
    rw [Ed.inj h.1, eds_inj h.2]
theorem lineB_all : ∀ {ls : List Str}, (∀ l ∈ ls, l.length ≤ 2000) → (sL ls).all lineB = true
  | [], _ => rfl
  | l :: ls, h => by
    show (decide (l.length ≤ 2000) && (sL ls).all lineB) = true
    rw [decide_eq_true (h l List.mem_cons_self), lineB_all fun x m => h x (List.mem_cons_of_mem _ m)]
    rfl
theorem Ed.editB {e : Ed} (h : e.ok) : L83.editB e.d = true := by
  cases e with
  | put ls =>
    have h : ls ≠ [] ∧ _ ∧ _ := h
    simp only [Ed.d, L83.editB, if_true, lineB_all h.2.2, Bool.and_true]
    cases ls with
    | nil => exact absurd rfl h.1
    | cons _ _ => rfl
  | keep n =>
    have h : 0 < n := h
    have h2 : posB (.int (n : Int)) = true := decide_eq_true (by omega)
    simp only [Ed.d, L83.editB, if_neg (Ne.symm v_pk), h2, decide_true, Bool.true_or, Bool.and_true]
  | take n =>
    have h : 0 < n := h
    have h2 : posB (.int (n : Int)) = true := decide_eq_true (by omega)
    simp only [Ed.d, L83.editB, if_neg (Ne.symm v_pt), h2, decide_true, Bool.or_true, Bool.and_true]
theorem eds_of : ∀ {ds : List PyData}, ds.all editB = true → ds.all editT = true → ∃ es : List Ed, ds = es.map Ed.d ∧ ∀ e ∈ es, e.ok
  | [], _, _ => ⟨[], rfl, fun _ m => by cases m⟩
  | d :: ds, h, ht => by
    rw [List.all_cons, Bool.and_eq_true] at h ht
    obtain ⟨e, rfl, he⟩ := ed_of h.1 ht.1
    obtain ⟨es, rfl, hes⟩ := eds_of h.2 ht.2
    exact ⟨e :: es, rfl, fun f m => (List.mem_cons.mp m).elim (fun z => z ▸ he) (hes f)⟩
def valT : PyData → Bool
  | .tuple ds => decide (ds.length ≤ 100000) && ds.all editT
  | d => shortB d
def gSpan : Ed → Option O
  | .put _ => none
  | .keep n => some (shI n)
  | .take n => some (shI n)
def iSpan : Ed → Option Int
  | .put _ => none
  | .keep n => some n
  | .take n => some n
theorem span_ol : ∀ es : List Ed, O.ol (es.filterMap gSpan) = olOf ((es.filterMap iSpan).map PyData.int)
  | [] => rfl
  | e :: es => by
    have ih := span_ol es
    simp only [olOf, O.ol.injEq] at ih ⊢
    cases e <;> simp [gSpan, iSpan, List.filterMap_cons, shI, ih]
theorem allIn_map : ∀ ns : List Int, allIn (ns.map PyData.int) = some ns
  | [] => rfl
  | n :: ns => by simp [allIn, allIn_map ns]
theorem span_sum : ∀ es : List Ed, (es.filterMap iSpan).sum = (span es : Int)
  | [] => rfl
  | e :: es => by
    have ih := span_sum es
    unfold span at ih ⊢
    cases e <;> simp [iSpan, List.filterMap_cons, Ed.span, ih]
theorem pSum_ints {ns : List Int} : prim .sum [olOf (ns.map PyData.int)] = some (.sh (.int ns.sum)) := by
  show pSum _ = _
  unfold pSum
  simp [allIn_map, shI]
def lts (es : List Ed) : List Int := es.map fun e => (e.late : Int)
theorem lateI : ∀ es : List Ed, (lts es).sum = (late es : Int)
  | [] => rfl
  | e :: es => by
    have ih := lateI es
    unfold late lts at ih ⊢
    simp [ih]
theorem ed_w0 {C : Cal} {ρ : Qv.Env} {i : Nat} {e : Ed} (h : ρ[i]? = some (some (.sh e.d))) : ∃ w x, e.d = .tuple [.str w, x] ∧ Ev C ρ (.op .item [.nm i, .c (.int 0)]) (.sh (.str w)) ∧ Ev C ρ (.op .item [.nm i, .c (.int 1)]) (.sh x) := by
  cases e <;> exact ⟨_, _, rfl, e_op (ov_s h (ov_c ov_nil)) item0, e_op (ov_s h (ov_c ov_nil)) item1⟩
theorem f7_ok {k : Nat} (h : 4 ≤ k) (a d : PyData) (n : Nat) (hn : prim .len [.sh a] = some (.sh (.int n))) (hd : valT d = true) : ∃ b, RF k 7 [.sh a, .sh d] = some (shB b, [.sh a, .sh d]) ∧ (b = true ↔ ∃ es, IsPatch n d es) := by
  obtain ⟨k, rfl, h1⟩ := posK h
  suffices h : ∃ (b : Bool) (s2 : Option O), evSs (RF k) f7.body [some (.sh a), some (.sh d), none, none, none] = some (.rt (.sh (.bool b)) [some (.sh a), some (.sh d), s2, none, none]) ∧ (b = true ↔ ∃ es, IsPatch n d es) by
    obtain ⟨b, s2, e, hb⟩ := h
    exact ⟨b, run_rt (fd := f7) rfl rfl e rfl, hb⟩
  have c6 := fun x hx => f6_ok (k := k) h1 x hx
  generalize RF k = C at *
  unfold f7
  simp only
  have no : ∀ x, Ev C [some (.sh a), some (.sh d), none, none, none] (.or2 (.tn (.tt (.op (.isinst ["tuple"]) [.nm 1]))) (.or2 (.op .gt [.op .len [.nm 1], .c (.int 400)]) (.tn (.tt (.op .all [.lc [3] (.nm 3) .sq [.nm 1] [] (.call 6 [.nm 3])]))))) (.sh (.bool x)) → x = true → (¬ ∃ es, IsPatch n d es) →
      ∃ (b : Bool) (s2 : Option O), evSs C [.ite (.or2 (.tn (.tt (.op (.isinst ["tuple"]) [.nm 1]))) (.or2 (.op .gt [.op .len [.nm 1], .c (.int 400)]) (.tn (.tt (.op .all [.lc [3] (.nm 3) .sq [.nm 1] [] (.call 6 [.nm 3])]))))) [.ret (.c (.bool false))] [],
    .ite (.op .ne [.op .sum [.lc [4] (.nm 4) .sq [.nm 1] [.op .ne [.op .item [.nm 4, .c (.int 0)], .c (.str "put")]] (.op .item [.nm 4, .c (.int 1)])], .op .len [.nm 0]]) [.ret (.c (.bool false))] [],
    .asg (.nm 2) (.op .sum [.lc [4] (.nm 4) .sq [.nm 1] [] (.ite (.op .eq [.op .item [.nm 4, .c (.int 0)], .c (.str "put")]) (.op .len [.op .item [.nm 4, .c (.int 1)]]) (.ite (.op .eq [.op .item [.nm 4, .c (.int 0)], .c (.str "keep")]) (.op .item [.nm 4, .c (.int 1)]) (.c (.int 0))))]),
    .ret (.op .le [.nm 2, .c (.int 200)])] [some (.sh a), some (.sh d), none, none, none] = some (.rt (.sh (.bool b)) [some (.sh a), some (.sh d), s2, none, none]) ∧ (b = true ↔ ∃ es, IsPatch n d es) := fun x hx ht hN => by
    subst ht
    exact ⟨false, none, s_ift hx e_c, fun e => (by cases e), fun e => absurd e hN⟩
  by_cases hT : ∃ ds, d = .tuple ds
  · obtain ⟨ds, rfl⟩ := hT
    have hd : ds.length ≤ 100000 ∧ ds.all editT = true := by
      simp only [valT, Bool.and_eq_true, decide_eq_true_eq] at hd
      exact hd
    have t1 : Ev C [some (.sh a), some (.sh (.tuple ds)), none, none, none] (.tn (.tt (.op (.isinst ["tuple"]) [.nm 1]))) (.sh (.bool (!true))) := e_tn (e_tt rfl (e_op (ov_s rfl ov_nil) rfl))
    have t2 : Ev C [some (.sh a), some (.sh (.tuple ds)), none, none, none] (.op .gt [.op .len [.nm 1], .c (.int 400)]) (.sh (.bool (decide ((400 : Int) < ds.length)))) := e_op (ov_d rfl (e_op (ov_s rfl ov_nil) len_is) (ov_c ov_nil)) (gt_ii _ _)
    have t3 : Ev C [some (.sh a), some (.sh (.tuple ds)), none, none, none] (.tn (.tt (.op .all [.lc [3] (.nm 3) .sq [.nm 1] [] (.call 6 [.nm 3])]))) (.sh (.bool (!ds.all editB))) :=
      e_tn (e_tt rfl (e_all rfl (e_lcA O.sh (fun x => some (shB (editB x))) ds (es_cons (e_nm rfl) es_nil) rfl rfl (fun x hx => lcT_1 (by simp) rfl (e_call (la_s rfl la_nil) (c6 x (List.all_eq_true.mp hd.2 x hx)))) (by omega))))
    have t4 := e_or t1 fun _ => e_or t2 fun _ => t3
    by_cases hl : ds.length ≤ 400
    · rw [decide_eq_false (show ¬ (400 : Int) < ds.length by omega)] at t4
      cases he : ds.all editB with
      | false =>
        rw [he] at t4
        refine no _ t4 rfl fun ⟨es, hp⟩ => ?_
        have e := hp.is
        simp only [PyData.tuple.injEq] at e
        subst e
        rw [List.all_map] at he
        have : es.all (editB ∘ Ed.d) = true := List.all_eq_true.mpr fun z hz => Ed.editB (hp.each z hz)
        rw [this] at he
        cases he
      | true =>
        rw [he] at t4
        have t4 : Ev C [some (.sh a), some (.sh (.tuple ds)), none, none, none] (.or2 (.tn (.tt (.op (.isinst ["tuple"]) [.nm 1]))) (.or2 (.op .gt [.op .len [.nm 1], .c (.int 400)]) (.tn (.tt (.op .all [.lc [3] (.nm 3) .sq [.nm 1] [] (.call 6 [.nm 3])]))))) (.sh (.bool false)) := t4
        obtain ⟨es, rfl, hes⟩ := eds_of he hd.2
        rw [List.length_map] at hl
        have l1 : Ev C [some (.sh a), some (.sh (.tuple (es.map Ed.d))), none, none, none] (.lc [4] (.nm 4) .sq [.nm 1] [.op .ne [.op .item [.nm 4, .c (.int 0)], .c (.str "put")]] (.op .item [.nm 4, .c (.int 1)])) (.ol (es.filterMap gSpan)) := by
          refine e_lcA (fun e : Ed => O.sh e.d) gSpan es (es_cons (e_nm rfl) es_nil) (by simp [walk]) rfl (fun e _ => ?_) (by omega)
          cases e with
          | put ls => exact lcT_t (x := false) (r := .sh .none) (by simp) rfl (e_op (ov_d rfl (e_op (ov_s rfl (ov_c ov_nil)) item0) (ov_c ov_nil)) ((ne_ss _ _).trans (by simp))) (fun e => by cases e)
          | keep m => exact lcT_t (x := true) (by simp) rfl (e_op (ov_d rfl (e_op (ov_s rfl (ov_c ov_nil)) item0) (ov_c ov_nil)) ((ne_ss _ _).trans (by rw [decide_eq_false (Ne.symm v_pk)]; rfl))) (fun _ => e_op (ov_s rfl (ov_c ov_nil)) item1)
          | take m => exact lcT_t (x := true) (by simp) rfl (e_op (ov_d rfl (e_op (ov_s rfl (ov_c ov_nil)) item0) (ov_c ov_nil)) ((ne_ss _ _).trans (by rw [decide_eq_false (Ne.symm v_pt)]; rfl))) (fun _ => e_op (ov_s rfl (ov_c ov_nil)) item1)
        rw [span_ol] at l1
        have n1 := e_op (ov_d rfl (e_op (ov_v rfl l1 flat_ol ov_nil) pSum_ints) (ov_d rfl (e_op (ov_s (i := 0) rfl ov_nil) hn) ov_nil)) (ne_ii _ _)
        rw [span_sum] at n1
        have l2 : Ev C [some (.sh a), some (.sh (.tuple (es.map Ed.d))), none, none, none] (.lc [4] (.nm 4) .sq [.nm 1] [] (.ite (.op .eq [.op .item [.nm 4, .c (.int 0)], .c (.str "put")]) (.op .len [.op .item [.nm 4, .c (.int 1)]]) (.ite (.op .eq [.op .item [.nm 4, .c (.int 0)], .c (.str "keep")]) (.op .item [.nm 4, .c (.int 1)]) (.c (.int 0))))) (.ol (es.filterMap fun e => some (shI e.late))) := by
          refine e_lcA (fun e : Ed => O.sh e.d) (fun e => some (shI e.late)) es (es_cons (e_nm rfl) es_nil) (by simp [walk]) rfl (fun e _ => ?_) (by omega)
          cases e with
          | put ls =>
            refine lcT_1 (r := .sh (.int ls.length)) (by simp) rfl (e_ite (x := true) (e_op (ov_d rfl (e_op (ov_s rfl (ov_c ov_nil)) item0) (ov_c ov_nil)) ((eq_ss _ _).trans (by simp))) (fun _ => ?_) (fun e => by cases e))
            refine e_op (ov_d rfl (e_op (ov_s rfl (ov_c ov_nil)) item1) ov_nil) (len_is.trans ?_)
            simp [sL]
          | keep m => exact lcT_1 (by simp) rfl (e_ite (x := false) (e_op (ov_d rfl (e_op (ov_s rfl (ov_c ov_nil)) item0) (ov_c ov_nil)) ((eq_ss _ _).trans (by rw [decide_eq_false (Ne.symm v_pk)]))) (fun e => by cases e) (fun _ =>
              e_ite (x := true) (e_op (ov_d rfl (e_op (ov_s rfl (ov_c ov_nil)) item0) (ov_c ov_nil)) ((eq_ss _ _).trans (by simp))) (fun _ => e_op (ov_s rfl (ov_c ov_nil)) item1) (fun e => by cases e)))
          | take m => exact lcT_1 (by simp) rfl (e_ite (x := false) (e_op (ov_d rfl (e_op (ov_s rfl (ov_c ov_nil)) item0) (ov_c ov_nil)) ((eq_ss _ _).trans (by rw [decide_eq_false (Ne.symm v_pt)]))) (fun e => by cases e) (fun _ =>
              e_ite (x := false) (e_op (ov_d rfl (e_op (ov_s rfl (ov_c ov_nil)) item0) (ov_c ov_nil)) ((eq_ss _ _).trans (by rw [decide_eq_false (Ne.symm v_kt)]))) (fun e => by cases e) (fun _ => e_c)))
        have l2q : O.ol (es.filterMap fun e => some (shI e.late)) = olOf ((lts es).map .int) := by
          rw [fm_some]
          simp [olOf, lts, shI]
        rw [l2q] at l2
        have n2 := e_op (ov_v rfl l2 flat_ol ov_nil) pSum_ints
        rw [lateI] at n2
        have uniq : ∀ fs, IsPatch n (.tuple (es.map Ed.d)) fs → fs = es := fun fs hp => by
          have e := hp.is
          simp only [PyData.tuple.injEq] at e
          exact (eds_inj e).symm
        rw [s_iff t4]
        by_cases hs : span es = n
        · rw [decide_eq_true (by rw [hs])] at n1
          refine ⟨decide (late es ≤ 200), some (.sh (.int (late es))), ?_, ?_⟩
          · rw [s_iff n1, s_asg n2 (by simp)]
            refine (s_ret (e_op (ov_s rfl (ov_c ov_nil)) (le_ii _ _))).trans ?_
            rw [decide_eq_decide.mpr (show ((late es : Int) ≤ 200) ↔ late es ≤ 200 by omega)]
            rfl
          · rw [decide_eq_true_eq]
            exact ⟨fun q => ⟨es, rfl, hl, hes, hs, q⟩, fun ⟨fs, hp⟩ => by have := uniq fs hp; subst this; exact hp.lt⟩
        · rw [decide_eq_false (show ¬ (span es : Int) = n by omega)] at n1
          exact ⟨false, none, s_ift n1 e_c, fun e => (by cases e), fun ⟨fs, hp⟩ => by have := uniq fs hp; subst this; exact absurd hp.sp hs⟩
    · rw [decide_eq_true (show (400 : Int) < ds.length by omega)] at t4
      refine no _ t4 rfl fun ⟨es, hp⟩ => ?_
      have e := hp.is
      simp only [PyData.tuple.injEq] at e
      subst e
      rw [List.length_map] at hl
      exact hl hp.len
  · have t1 : Ev C [some (.sh a), some (.sh d), none, none, none] (.tn (.tt (.op (.isinst ["tuple"]) [.nm 1]))) (.sh (.bool (!false))) := by
      refine e_tn (e_tt rfl (e_op (ov_s rfl ov_nil) ?_))
      cases d with
      | tuple ds => exact absurd ⟨ds, rfl⟩ hT
      | _ => rfl
    exact no _ (e_or (y := false) t1 fun e => by cases e) rfl fun ⟨es, hp⟩ => hT ⟨_, hp.is⟩
end L83
end
section
set_option Elab.async false
set_option linter.all false
set_option maxRecDepth 100000
set_option maxHeartbeats 2000000
namespace L83
open PySem PySem.Spec PyProof.Rows L2 Qv
structure OkL (ls : List Str) : Prop where
  len : ls.length ≤ 200
  each : ∀ l ∈ ls, l.length ≤ 2000
def LinesD (ls : List Str) (a : PyData) : Prop := a = .list (sL ls) ∨ a = .tuple (sL ls)
theorem sL_len (ls : List Str) : (sL ls).length = ls.length := by simp [sL]
theorem LinesD.len {ls : List Str} {a : PyData} (h : LinesD ls a) : prim .len [.sh a] = some (.sh (.int ls.length)) := by
  rcases h with rfl | rfl
  · rw [len_li, sL_len]
  · rw [len_is, sL_len]
theorem short_all {ls : List Str} (h : ∀ l ∈ ls, l.length ≤ 2000) : ∀ d ∈ sL ls, shortB d = true := fun d m => by
  simp only [sL, List.mem_map] at m
  obtain ⟨l, hl, rfl⟩ := m
  have := h l hl
  exact decide_eq_true (by omega)
theorem f5_ok {k : Nat} (h : 2 ≤ k) {ls : List Str} (hl : OkL ls) {a : PyData} (ha : LinesD ls a) : RF k 5 [.sh a] = some (shB true, [.sh a]) := by
  obtain ⟨k, rfl, h1⟩ := posK h
  refine run_rt (fd := f5) (ρ := [some (.sh a), none]) rfl rfl ?_ rfl
  show evSs (RF k) f5.body [some (.sh a), none] = _
  have c2 := f2_ok (k := k) h1 a
  have c4 := fun x hx => f4_ok (k := k) h1 x hx
  generalize RF k = C at *
  unfold f5
  have t1 : Ev C [some (.sh a), none] (.call 2 [.nm 0]) (.sh (.bool true)) := by
    refine e_call (os2 := [.sh a]) (la_s rfl la_nil) (c2.trans ?_)
    rcases ha with rfl | rfl <;> rfl
  have t2 : Ev C [some (.sh a), none] (.op .le [.op .len [.nm 0], .c (.int 200)]) (.sh (.bool (decide ((ls.length : Int) ≤ 200)))) := e_op (ov_d rfl (e_op (ov_s rfl ov_nil) ha.len) (ov_c ov_nil)) (le_ii _ _)
  have w : walk .sq [.sh a] = some ((sL ls).map O.sh) := by rcases ha with rfl | rfl <;> rfl
  have t3 : Ev C [some (.sh a), none] (.op .all [.lc [1] (.nm 1) .sq [.nm 0] [] (.call 4 [.nm 1])]) (.sh (.bool ((sL ls).all lineB))) :=
    e_all rfl (e_lcA O.sh (fun x => some (shB (lineB x))) (sL ls) (es_cons (e_nm rfl) es_nil) w rfl (fun x hx => lcT_1 (by simp) rfl (e_call (la_s rfl la_nil) (c4 x (short_all hl.each x hx)))) (by have := hl.len; rw [sL_len]; omega))
  rw [s_ret (e_and t1 fun _ => e_and t2 fun _ => t3), lineB_all hl.each, decide_eq_true (by have := hl.len; omega)]
  rfl
theorem f8_ok {k : Nat} (h : 3 ≤ k) {ls : List Str} (hl : OkL ls) {a : PyData} (ha : LinesD ls a) : RF k 8 [.sh a] = some (.sh .none, [.sh a]) := by
  obtain ⟨k, rfl, h1⟩ := posK h
  refine run_nx (fd := f8) (ρ := [some (.sh a)]) rfl rfl ?_ rfl
  show evSs (RF k) f8.body [some (.sh a)] = _
  have c5 := f5_ok (k := k) h1 hl ha
  generalize RF k = C at *
  unfold f8
  rw [s_iff (e_tn (x := true) (e_tt rfl (e_call (la_s rfl la_nil) c5))), evSs_nil]
theorem f9_ok {k : Nat} (h : 3 ≤ k) {ls : List Str} (hl : OkL ls) {a : PyData} (ha : LinesD ls a) : RF k 9 [.sh a] = some (.sh .none, [.sh a]) := by
  obtain ⟨k, rfl, h1⟩ := posK h
  refine run_nx (fd := f9) (ρ := [some (.sh a)]) rfl rfl ?_ rfl
  show evSs (RF k) f9.body [some (.sh a)] = _
  have c5 := f5_ok (k := k) h1 hl ha
  generalize RF k = C at *
  unfold f9
  rw [s_iff (e_tn (x := true) (e_tt rfl (e_call (la_s rfl la_nil) c5))), evSs_nil]
theorem f10_ok {k : Nat} (h : 5 ≤ k) {ls : List Str} (hl : OkL ls) {a d : PyData} (ha : LinesD ls a) (hd : valT d = true) {es : List Ed} (hp : IsPatch ls.length d es) : RF k 10 [.sh a, .sh d] = some (.sh .none, [.sh a, .sh d]) := by
  obtain ⟨k, rfl, h1⟩ := posK h
  refine run_nx (fd := f10) (ρ := [some (.sh a), some (.sh d)]) rfl rfl ?_ rfl
  show evSs (RF k) f10.body [some (.sh a), some (.sh d)] = _
  have c8 := f8_ok (k := k) (by omega) hl ha
  obtain ⟨b, c7, hb⟩ := f7_ok (k := k) h1 a d ls.length ha.len hd
  rw [hb.mpr ⟨es, hp⟩] at c7
  generalize RF k = C at *
  unfold f10
  rw [s_ex (e_call (la_s rfl la_nil) c8), s_iff (e_tn (x := true) (e_tt rfl (e_call (la_s rfl (la_s rfl la_nil)) c7))), evSs_nil]
theorem f31_ok {k : Nat} (h : 1 ≤ k) (d : PyData) (hd : shortB d = true) : RF k 31 [.sh d] = some (shB (lineB d), [.sh d]) := by
  obtain ⟨k, rfl, _⟩ := posK h
  refine run_rt (fd := f31) (ρ := [some (.sh d)]) rfl rfl ?_ rfl
  show evSs (RF k) f31.body [some (.sh d)] = _
  generalize RF k = C
  unfold f31
  cases d with
  | str x =>
    have hd : x.length ≤ 100000 := of_decide_eq_true hd
    refine (s_ret (e_and (e_op (ov_s rfl ov_nil) rfl) fun _ => e_op (ov_d rfl (e_op (ov_s rfl ov_nil) (len_st hd)) (ov_c ov_nil)) (le_ii _ _))).trans ?_
    have : decide ((x.length : Int) ≤ 2000) = decide (x.length ≤ 2000) := decide_eq_decide.mpr (by omega)
    rw [this]
    rfl
  | _ =>
    refine (s_ret (e_and (x := false) (y := false) (e_op (ov_s rfl ov_nil) rfl) (fun e => by cases e))).trans ?_
    rfl
theorem f30_ok {k : Nat} (h : 1 ≤ k) (d : PyData) : RF k 30 [.sh d, .sh (.int 1)] = some (shB (posB d), [.sh d, .sh (.int 1)]) := by
  obtain ⟨k, rfl, _⟩ := posK h
  refine run_rt (fd := f30) (ρ := [some (.sh d), some (.sh (.int 1))]) rfl rfl ?_ rfl
  show evSs (RF k) f30.body [some (.sh d), some (.sh (.int 1))] = _
  generalize RF k = C
  unfold f30
  cases d with
  | int i =>
    refine (s_ret (e_and (x := true) (e_op (ov_s rfl ov_nil) rfl) fun _ => e_and (x := true) (e_op (ov_d rfl (e_op (o := .sh (.bool false)) (ov_s rfl ov_nil) rfl) ov_nil) rfl) fun _ => e_op (ov_s rfl (ov_s rfl ov_nil)) (ge_ii _ _))).trans ?_
    have : decide ((1 : Int) ≤ i) = decide (0 < i) := decide_eq_decide.mpr (by omega)
    rw [this]
    rfl
  | bool b =>
    refine (s_ret (e_and (x := true) (y := false) (e_op (ov_s rfl ov_nil) rfl) fun _ => e_and (x := false) (y := false) (e_op (ov_d rfl (e_op (o := .sh (.bool true)) (ov_s rfl ov_nil) rfl) ov_nil) rfl) fun e => by cases e)).trans ?_
    rfl
  | _ =>
    refine (s_ret (e_and (x := false) (y := false) (e_op (ov_s rfl ov_nil) rfl) (fun e => by cases e))).trans ?_
    rfl
/-! ### the law's look at a patch -/
def fnd (ls : List Str) : Nat → List Ed → List Str
  | _, [] => []
  | a, .put xs :: es => xs ++ fnd ls a es
  | a, .keep n :: es => (ls.drop a).take n ++ fnd ls (a + n) es
  | a, .take n :: es => fnd ls (a + n) es
def Ed.cost : Ed → Nat
  | .put ls => ls.length
  | .keep _ => 0
  | .take n => n
def cost (es : List Ed) : Nat := (es.map Ed.cost).sum
theorem fnd_len (ls : List Str) : ∀ (es : List Ed) (a : Nat), a + span es ≤ ls.length → (fnd ls a es).length = late es
  | [], _, _ => rfl
  | .put xs :: es, a, h => by
    have h : a + (0 + span es) ≤ ls.length := by simpa [span, Ed.span] using h
    have := fnd_len ls es a (by omega)
    simp [fnd, late, Ed.late] at this ⊢
    omega
  | .keep n :: es, a, h => by
    have h : a + (n + span es) ≤ ls.length := by simpa [span, Ed.span] using h
    have := fnd_len ls es (a + n) (by omega)
    simp [fnd, late, Ed.late] at this ⊢
    omega
  | .take n :: es, a, h => by
    have h : a + (n + span es) ≤ ls.length := by simpa [span, Ed.span] using h
    have := fnd_len ls es (a + n) (by omega)
    simp [fnd, late, Ed.late] at this ⊢
    omega
abbrev E32 (a d : PyData) (F : List Str) (p c : Nat) (s5 s6 : Option O) : Qv.Env := [some (.sh a), some (.sh d), some (olOf (sL F)), some (.sh (.int p)), some (.sh (.int c)), s5, s6, none]
def no32 : PyData := .tuple [.bool false, .list [], .int 0]
def body32 : List Qv.S := match f32.body with
  | [_, _, .fr _ _ _ b, _] => b
  | _ => []
theorem e_no {C : Cal} {ρ : Qv.Env} : Ev C ρ (.tup [.c (.bool false), .lst [], .c (.int 0)]) (.sh no32) := e_tup (es_cons e_c (es_cons (e_lst es_nil (by simp)) (es_cons e_c es_nil))) (by simp)
structure Lk (C : Cal) : Prop where
  c30 : ∀ d, C 30 [.sh d, .sh (.int 1)] = some (shB (posB d), [.sh d, .sh (.int 1)])
  c31 : ∀ d, shortB d = true → C 31 [.sh d] = some (shB (lineB d), [.sh d])
section
variable {C : Cal} {ls : List Str} {d : PyData} {F : List Str} {p c : Nat}
abbrev aL (ls : List Str) : PyData := .list (sL ls)
/-- an edit that is none -/
theorem bad32 (K : Lk C) {w : Str} {t : PyData} (ht : editT (.tuple [.str w, t]) = true) (hb : editB (.tuple [.str w, t]) = false) : evSs C body32 (E32 (aL ls) d F p c (some (.sh (.str w))) (some (.sh t))) = some (.rt (.sh no32) (E32 (aL ls) d F p c (some (.sh (.str w))) (some (.sh t)))) := by
  have ep : Ev C (E32 (aL ls) d F p c (some (.sh (.str w))) (some (.sh t))) (.op .eq [.nm 5, .c (.str "put")]) (.sh (.bool (decide (w = "put")))) := e_op (ov_s rfl (ov_c ov_nil)) (eq_ss _ _)
  unfold body32 f32
  simp only
  by_cases hw : w = "put"
  · rw [decide_eq_true hw] at ep
    simp only [editB, if_pos hw] at hb
    refine s_if1 ep (s_ift ?_ e_no) (fun _ e => by cases e)
    cases t with
    | tuple ds =>
      simp only at hb
      have hd2 : SeqAt.shaped (.tuple ds) = true ∧ ds.all shortB = true ∧ ds.length ≤ 100000 := by
        simp only [editT, Bool.and_eq_true, decide_eq_true_eq] at ht
        exact ⟨ht.1.1, ht.1.2, by omega⟩
      have t1 : Ev C (E32 (aL ls) d F p c (some (.sh (.str w))) (some (.sh (.tuple ds)))) (.tn (.tt (.op (.isinst ["tuple"]) [.nm 6]))) (.sh (.bool (!true))) := e_tn (e_tt rfl (e_op (ov_s rfl ov_nil) rfl))
      have t2 : Ev C (E32 (aL ls) d F p c (some (.sh (.str w))) (some (.sh (.tuple ds)))) (.op .eq [.nm 6, .tup []]) (.sh (.bool ds.isEmpty)) := e_op (ov_s rfl (ov_d rfl (e_tup es_nil (by simp)) ov_nil)) (eq_tn hd2.1)
      have t3 : Ev C (E32 (aL ls) d F p c (some (.sh (.str w))) (some (.sh (.tuple ds)))) (.tn (.tt (.op .all [.lc [7] (.nm 7) .sq [.nm 6] [] (.call 31 [.nm 7])]))) (.sh (.bool (!ds.all lineB))) :=
        e_tn (e_tt rfl (e_all rfl (e_lcA O.sh (fun x => some (shB (lineB x))) ds (es_cons (e_nm rfl) es_nil) rfl rfl (fun x hx => lcT_1 (by simp) rfl (e_call (la_s rfl la_nil) (K.c31 x (List.all_eq_true.mp hd2.2.1 x hx)))) (by omega))))
      have t4 := e_or t1 fun _ => e_or t2 fun _ => t3
      have e : (!true || (ds.isEmpty || !ds.all lineB)) = true := by
        cases q1 : ds.isEmpty <;> cases q2 : ds.all lineB <;> rw [q1, q2] at hb <;> first | rfl | cases hb
      rw [e] at t4
      exact t4
    | _ => exact e_or (x := true) (y := false) (e_tn (x := false) (e_tt rfl (e_op (ov_s rfl ov_nil) rfl))) (fun e => by cases e)
  · rw [decide_eq_false hw] at ep
    simp only [editB, if_neg hw] at hb
    rw [s_iff ep]
    refine s_ift ?_ e_no
    have t1 : Ev C (E32 (aL ls) d F p c (some (.sh (.str w))) (some (.sh t))) (.op .notin [.nm 5, .tup [.c (.str "keep"), .c (.str "take")]]) (.sh (.bool (!(decide (w = "keep") || decide (w = "take"))))) := by
      refine e_op (ov_s rfl (ov_d rfl (e_tup (es_cons e_c (es_cons e_c es_nil)) (by simp)) ov_nil)) ?_
      have q := in_kt w
      have q : (pIn [.sh (.str w), .sh (.tuple [.str "keep", .str "take"])]).map shB = _ := q
      show (pIn [.sh (.str w), .sh (.tuple [.str "keep", .str "take"])]).map (fun b => shB !b) = _
      cases z : pIn [.sh (.str w), .sh (.tuple [.str "keep", .str "take"])] with
      | none => rw [z] at q; cases q
      | some b =>
        rw [z] at q
        simp only [Option.map_some, shB, Option.some.injEq, O.sh.injEq, PyData.bool.injEq] at q ⊢
        rw [q]
    have t2 : Ev C (E32 (aL ls) d F p c (some (.sh (.str w))) (some (.sh t))) (.tn (.tt (.call 30 [.nm 6, .c (.int 1)]))) (.sh (.bool (!posB t))) := e_tn (e_tt rfl (e_call (la_s rfl (la_c la_nil)) (K.c30 t)))
    cases hk : (decide (w = "keep") || decide (w = "take")) with
    | false =>
      rw [hk] at t1
      exact e_or (y := false) t1 fun e => by cases e
    | true =>
      rw [hk] at t1 hb
      rw [Bool.true_and] at hb
      rw [hb] at t2
      exact e_or t1 fun _ => e_or (y := false) t2 fun e => by cases e
end
end L83
end
section
set_option Elab.async false
set_option linter.all false
set_option maxRecDepth 100000
set_option maxHeartbeats 2000000
namespace L83
open PySem PySem.Spec PyProof.Rows L2 Qv
section
variable {C : Cal} {ls : List Str} {d : PyData} {F : List Str} {p c : Nat}
theorem nin_kt (w : Str) : prim .notin [.sh (.str w), .sh (.tuple [.str "keep", .str "take"])] = some (.sh (.bool (!(decide (w = "keep") || decide (w = "take"))))) := by
  have q := in_kt w
  have q : (pIn [.sh (.str w), .sh (.tuple [.str "keep", .str "take"])]).map shB = _ := q
  show (pIn [.sh (.str w), .sh (.tuple [.str "keep", .str "take"])]).map (fun b => shB !b) = _
  cases z : pIn [.sh (.str w), .sh (.tuple [.str "keep", .str "take"])] with
  | none => rw [z] at q; cases q
  | some b =>
    rw [z] at q
    simp only [Option.map_some, shB, Option.some.injEq, O.sh.injEq, PyData.bool.injEq] at q ⊢
    rw [q]
theorem sL_app (xs ys : List Str) : sL xs ++ sL ys = sL (xs ++ ys) := List.map_append.symm
theorem ok_put32 (K : Lk C) {xs : List Str} (he : (Ed.put xs).ok) (ht : editT (Ed.put xs).d = true) (hF : F.length + xs.length ≤ 1000000) : evSs C body32 (E32 (aL ls) d F p c (some (.sh (.str "put"))) (some (.sh (.tuple (sL xs))))) =
    some (.ct (E32 (aL ls) d (F ++ xs) p (c + xs.length) (some (.sh (.str "put"))) (some (.sh (.tuple (sL xs)))))) := by
  have he : xs ≠ [] ∧ xs.length ≤ 100000 ∧ ∀ l ∈ xs, l.length ≤ 2000 := he
  have ep : Ev C (E32 (aL ls) d F p c (some (.sh (.str "put"))) (some (.sh (.tuple (sL xs))))) (.op .eq [.nm 5, .c (.str "put")]) (.sh (.bool true)) := e_op (ov_s rfl (ov_c ov_nil)) ((eq_ss _ _).trans (by simp))
  have sh : SeqAt.shaped (.tuple (sL xs)) = true := by
    have ht : (SeqAt.shaped (.tuple (sL xs)) && (sL xs).all shortB && decide ((sL xs).length ≤ 1000)) = true := ht
    simp only [Bool.and_eq_true] at ht
    exact ht.1.1
  have t1 : Ev C (E32 (aL ls) d F p c (some (.sh (.str "put"))) (some (.sh (.tuple (sL xs))))) (.tn (.tt (.op (.isinst ["tuple"]) [.nm 6]))) (.sh (.bool (!true))) := e_tn (e_tt rfl (e_op (ov_s rfl ov_nil) rfl))
  have ne : (sL xs).isEmpty = false := by
    cases xs with
    | nil => exact absurd rfl he.1
    | cons _ _ => rfl
  have t2 : Ev C (E32 (aL ls) d F p c (some (.sh (.str "put"))) (some (.sh (.tuple (sL xs))))) (.op .eq [.nm 6, .tup []]) (.sh (.bool false)) := by
    have q := eq_tn sh
    rw [ne] at q
    exact e_op (ov_s rfl (ov_d rfl (e_tup es_nil (by simp)) ov_nil)) q
  have t3 : Ev C (E32 (aL ls) d F p c (some (.sh (.str "put"))) (some (.sh (.tuple (sL xs))))) (.tn (.tt (.op .all [.lc [7] (.nm 7) .sq [.nm 6] [] (.call 31 [.nm 7])]))) (.sh (.bool (!(sL xs).all lineB))) :=
    e_tn (e_tt rfl (e_all rfl (e_lcA O.sh (fun x => some (shB (lineB x))) (sL xs) (es_cons (e_nm rfl) es_nil) rfl rfl (fun x hx => lcT_1 (by simp) rfl (e_call (la_s rfl la_nil) (K.c31 x (short_all he.2.2 x hx)))) (by rw [sL_len]; omega))))
  rw [lineB_all he.2.2] at t3
  have x1 := x_ext (C := C) (ρ := E32 (aL ls) d F p c (some (.sh (.str "put"))) (some (.sh (.tuple (sL xs))))) (i := 2) (e := .op .list1 [.nm 6]) (acc := sL F) (ds := sL xs) rfl rfl (e_op (ov_s rfl ov_nil) rfl) (by rw [sL_len, sL_len]; exact hF)
  rw [sL_app] at x1
  have a1 : Ev C (E32 (aL ls) d (F ++ xs) p c (some (.sh (.str "put"))) (some (.sh (.tuple (sL xs))))) (.op .add [.nm 4, .op .len [.nm 6]]) (.sh (.int ((c + xs.length : Nat) : Int))) := by
    refine e_op (ov_s rfl (ov_d rfl (e_op (ov_s rfl ov_nil) len_is) ov_nil)) ?_
    show some (shI _) = _
    rw [sL_len]
    rfl
  unfold body32 f32
  simp only
  refine s_if1 ep ?_ (fun _ e => by cases e)
  rw [s_iff (e_or t1 fun _ => e_or t2 fun _ => t3), s_exv x1]
  refine (s_asg a1 (by simp)).trans ?_
  rw [evSs_cons, evS_cont]
  rfl
/-- the second part, for keep and take -/
theorem ok_kt32 (K : Lk C) {w : Str} {n : Nat} (hw : w = "keep" ∨ w = "take") (hn : 0 < n) : evSs C body32 (E32 (aL ls) d F p c (some (.sh (.str w))) (some (.sh (.int n)))) =
    if p + n ≤ ls.length then evSs C [.ex (.ext 2 [.ite (.op .eq [.nm 5, .c (.str "keep")]) (.sl [.nm 0] [.nm 3] [.op .add [.nm 3, .nm 6]]) (.lst [])]),
    .par [3, 4] [.op .add [.nm 3, .nm 6], .op .add [.nm 4, .ite (.op .eq [.nm 5, .c (.str "take")]) (.nm 6) (.c (.int 0))]]] (E32 (aL ls) d F p c (some (.sh (.str w))) (some (.sh (.int n)))) else some (.rt (.sh no32) (E32 (aL ls) d F p c (some (.sh (.str w))) (some (.sh (.int n))))) := by
  have wp : w ≠ "put" := by rcases hw with rfl | rfl; exact Ne.symm v_pk; exact Ne.symm v_pt
  have ep : Ev C (E32 (aL ls) d F p c (some (.sh (.str w))) (some (.sh (.int n)))) (.op .eq [.nm 5, .c (.str "put")]) (.sh (.bool false)) := e_op (ov_s rfl (ov_c ov_nil)) ((eq_ss _ _).trans (by rw [decide_eq_false wp]))
  have t1 : Ev C (E32 (aL ls) d F p c (some (.sh (.str w))) (some (.sh (.int n)))) (.op .notin [.nm 5, .tup [.c (.str "keep"), .c (.str "take")]]) (.sh (.bool false)) := by
    refine e_op (ov_s rfl (ov_d rfl (e_tup (es_cons e_c (es_cons e_c es_nil)) (by simp)) ov_nil)) ?_
    refine (nin_kt w).trans ?_
    rcases hw with rfl | rfl
    · rw [decide_eq_true rfl]; rfl
    · rw [decide_eq_true (show (Str.ofString "take") = (Str.ofString "take") from rfl), Bool.or_true]; rfl
  have t2 : Ev C (E32 (aL ls) d F p c (some (.sh (.str w))) (some (.sh (.int n)))) (.tn (.tt (.call 30 [.nm 6, .c (.int 1)]))) (.sh (.bool (!true))) := by
    refine e_tn (e_tt rfl (e_call (os2 := [.sh (.int n), .sh (.int 1)]) (la_s rfl (la_c la_nil)) ((K.c30 _).trans ?_)))
    have : posB (.int (n : Int)) = true := decide_eq_true (by omega)
    rw [this]
    rfl
  have t3 : Ev C (E32 (aL ls) d F p c (some (.sh (.str w))) (some (.sh (.int n)))) (.op .gt [.op .add [.nm 3, .nm 6], .op .len [.nm 0]]) (.sh (.bool (decide ((ls.length : Int) < (p : Int) + (n : Int))))) := by
    refine e_op (ov_d rfl (e_op (ov_s rfl (ov_s rfl ov_nil)) rfl) (ov_d rfl (e_op (ov_s rfl ov_nil) len_li) ov_nil)) ?_
    rw [sL_len]
    rfl
  have t4 := e_or t1 fun _ => e_or t2 fun _ => t3
  unfold body32 f32
  simp only
  rw [s_iff ep]
  by_cases hp : p + n ≤ ls.length
  · rw [decide_eq_false (show ¬ (ls.length : Int) < (p : Int) + (n : Int) by omega)] at t4
    rw [if_pos hp, s_iff t4]
  · rw [decide_eq_true (show (ls.length : Int) < (p : Int) + (n : Int) by omega)] at t4
    rw [if_neg hp, s_ift t4 e_no]
theorem ok_keep32 (K : Lk C) {n : Nat} (hn : 0 < n) (hp : p + n ≤ ls.length) (hF : F.length + n ≤ 1000000) : evSs C body32 (E32 (aL ls) d F p c (some (.sh (.str "keep"))) (some (.sh (.int n)))) =
    some (.nx (E32 (aL ls) d (F ++ (ls.drop p).take n) (p + n) c (some (.sh (.str "keep"))) (some (.sh (.int n))))) := by
  rw [ok_kt32 K (.inl rfl) hn, if_pos hp]
  have e1 : Ev C (E32 (aL ls) d F p c (some (.sh (.str "keep"))) (some (.sh (.int n)))) (.op .eq [.nm 5, .c (.str "keep")]) (.sh (.bool true)) := e_op (ov_s rfl (ov_c ov_nil)) ((eq_ss _ _).trans (by simp))
  have ad : Ev C (E32 (aL ls) d F p c (some (.sh (.str "keep"))) (some (.sh (.int n)))) (.op .add [.nm 3, .nm 6]) (.sh (.int ((p + n : Nat) : Int))) := e_op (ov_s rfl (ov_s rfl ov_nil)) rfl
  have cut : Qv.cutD (sL ls) (some (p : Int)) (some ((p + n : Nat) : Int)) = sL ((ls.drop p).take n) := by
    unfold Qv.cutD
    rw [HT.sIx_nat, HT.sIx_nat, sL_len, Nat.min_eq_left (show p ≤ ls.length by omega), Nat.min_eq_left hp, Nat.add_sub_cancel_left]
    simp [sL]
  have sl : Ev C (E32 (aL ls) d F p c (some (.sh (.str "keep"))) (some (.sh (.int n)))) (.sl [.nm 0] [.nm 3] [.op .add [.nm 3, .nm 6]]) (olOf (sL ((ls.drop p).take n))) := by
    have q1 : evOs C [.nm 0] (E32 (aL ls) d F p c (some (.sh (.str "keep"))) (some (.sh (.int n)))) = some ([.sl 0], E32 (aL ls) d F p c (some (.sh (.str "keep"))) (some (.sh (.int n)))) := by simp [rdO]
    have q2 : evOs C [.nm 3] (E32 (aL ls) d F p c (some (.sh (.str "keep"))) (some (.sh (.int n)))) = some ([.sl 3], E32 (aL ls) d F p c (some (.sh (.str "keep"))) (some (.sh (.int n)))) := by simp [rdO]
    have q3 : evOs C [.op .add [.nm 3, .nm 6]] (E32 (aL ls) d F p c (some (.sh (.str "keep"))) (some (.sh (.int n)))) = some ([.tv (.sh (.int ((p + n : Nat) : Int)))], E32 (aL ls) d F p c (some (.sh (.str "keep"))) (some (.sh (.int n)))) := by
      rw [evOs_op, ad]
      rfl
    have r1 : partOf (E32 (aL ls) d F p c (some (.sh (.str "keep"))) (some (.sh (.int n)))) [.sl 3] = some (some (p : Int)) := rfl
    have r2 : partOf (E32 (aL ls) d F p c (some (.sh (.str "keep"))) (some (.sh (.int n)))) [.tv (.sh (.int ((p + n : Nat) : Int)))] = some (some ((p + n : Nat) : Int)) := rfl
    have r3 : rdOs (E32 (aL ls) d F p c (some (.sh (.str "keep"))) (some (.sh (.int n)))) [.sl 0] = some [.sh (aL ls)] := by simp [rdO]
    have r4 : pCut (.sh (aL ls)) (some (p : Int)) (some ((p + n : Nat) : Int)) = some (olOf (sL ((ls.drop p).take n))) := by
      show some (olOf (Qv.cutD (sL ls) _ _)) = _
      rw [cut]
    unfold Ev
    simp only [ev, q1, q2, q3, r1, r2, r3, r4]
  have x1 := x_ext (C := C) (i := 2) (acc := sL F) (ds := sL ((ls.drop p).take n)) (ρ := E32 (aL ls) d F p c (some (.sh (.str "keep"))) (some (.sh (.int n)))) (e := .ite (.op .eq [.nm 5, .c (.str "keep")]) (.sl [.nm 0] [.nm 3] [.op .add [.nm 3, .nm 6]]) (.lst [])) rfl rfl (e_ite e1 (fun _ => sl) (fun e => by cases e))
    (by rw [sL_len, sL_len, List.length_take]; omega)
  rw [sL_app] at x1
  have a1 : Ev C (E32 (aL ls) d (F ++ (ls.drop p).take n) p c (some (.sh (.str "keep"))) (some (.sh (.int n)))) (.op .add [.nm 3, .nm 6]) (.sh (.int ((p + n : Nat) : Int))) := e_op (ov_s rfl (ov_s rfl ov_nil)) rfl
  have e2 : Ev C (E32 (aL ls) d (F ++ (ls.drop p).take n) p c (some (.sh (.str "keep"))) (some (.sh (.int n)))) (.op .eq [.nm 5, .c (.str "take")]) (.sh (.bool false)) := e_op (ov_s rfl (ov_c ov_nil)) ((eq_ss _ _).trans (by rw [decide_eq_false v_kt]))
  have a2 : Ev C (E32 (aL ls) d (F ++ (ls.drop p).take n) p c (some (.sh (.str "keep"))) (some (.sh (.int n)))) (.op .add [.nm 4, .ite (.op .eq [.nm 5, .c (.str "take")]) (.nm 6) (.c (.int 0))]) (.sh (.int (c : Int))) := by
    refine e_op (ov_s rfl (ov_d rfl (e_ite e2 (fun e => by cases e) fun _ => e_c) ov_nil)) ?_
    show some (shI ((c : Int) + 0)) = _
    rw [Int.add_zero]
    rfl
  rw [s_exv x1]
  refine (s_par2 a1 a2 (by simp) (by simp)).trans ?_
  rfl
theorem ok_take32 (K : Lk C) {n : Nat} (hn : 0 < n) (hp : p + n ≤ ls.length) (hF : F.length ≤ 1000000) : evSs C body32 (E32 (aL ls) d F p c (some (.sh (.str "take"))) (some (.sh (.int n)))) =
    some (.nx (E32 (aL ls) d F (p + n) (c + n) (some (.sh (.str "take"))) (some (.sh (.int n))))) := by
  rw [ok_kt32 K (.inr rfl) hn, if_pos hp]
  have e1 : Ev C (E32 (aL ls) d F p c (some (.sh (.str "take"))) (some (.sh (.int n)))) (.op .eq [.nm 5, .c (.str "keep")]) (.sh (.bool false)) := e_op (ov_s rfl (ov_c ov_nil)) ((eq_ss _ _).trans (by rw [decide_eq_false (Ne.symm v_kt)]))
  have x1 := x_ext (C := C) (i := 2) (acc := sL F) (ds := []) (ρ := E32 (aL ls) d F p c (some (.sh (.str "take"))) (some (.sh (.int n)))) (e := .ite (.op .eq [.nm 5, .c (.str "keep")]) (.sl [.nm 0] [.nm 3] [.op .add [.nm 3, .nm 6]]) (.lst [])) rfl rfl (e_ite e1 (fun e => by cases e) (fun _ => e_lst es_nil (by simp)))
    (by rw [sL_len, List.length_nil]; omega)
  rw [List.append_nil] at x1
  have a1 : Ev C (E32 (aL ls) d F p c (some (.sh (.str "take"))) (some (.sh (.int n)))) (.op .add [.nm 3, .nm 6]) (.sh (.int ((p + n : Nat) : Int))) := e_op (ov_s rfl (ov_s rfl ov_nil)) rfl
  have e2 : Ev C (E32 (aL ls) d F p c (some (.sh (.str "take"))) (some (.sh (.int n)))) (.op .eq [.nm 5, .c (.str "take")]) (.sh (.bool true)) := e_op (ov_s rfl (ov_c ov_nil)) ((eq_ss _ _).trans (by simp))
  have a2 : Ev C (E32 (aL ls) d F p c (some (.sh (.str "take"))) (some (.sh (.int n)))) (.op .add [.nm 4, .ite (.op .eq [.nm 5, .c (.str "take")]) (.nm 6) (.c (.int 0))]) (.sh (.int ((c + n : Nat) : Int))) :=
    e_op (ov_s rfl (ov_d rfl (e_ite e2 (fun _ => e_nm rfl) (fun e => by cases e)) ov_nil)) rfl
  rw [s_exv x1]
  refine (s_par2 a1 a2 (by simp) (by simp)).trans ?_
  rfl
end
theorem preT {x : PyData} {w : Str} {t : PyData} (h : x = .tuple [.str w, t]) (ρ : Qv.Env) (s5 s6 : Option O) (a d : PyData) (F : List Str) (p c : Nat) : bindTg (.tp [.nm 5, .nm 6]) (.sh x) (E32 a d F p c s5 s6) = some (E32 a d F p c (some (.sh (.str w))) (some (.sh t))) := by
  subst h
  simp only [bindTg, bindTgs, List.map_cons, List.map_nil]
  rfl
def preB : PyData → Bool
  | .tuple [.str _, _] => true
  | _ => false
theorem pre_of {x : PyData} (h : preB x = true) : ∃ w t, x = .tuple [.str w, t] := by
  unfold preB at h
  split at h
  · exact ⟨_, _, rfl⟩
  · cases h
def Good32 (n p : Nat) (xs : List PyData) (es : List Ed) : Prop := xs = es.map Ed.d ∧ (∀ e ∈ es, e.ok) ∧ p + span es ≤ n
theorem span_cons (e : Ed) (es : List Ed) : span (e :: es) = e.span + span es := by simp [span]
theorem cost_cons (e : Ed) (es : List Ed) : cost (e :: es) = e.cost + cost es := by simp [cost]
theorem late_cons (e : Ed) (es : List Ed) : late (e :: es) = e.late + late es := by simp [late]
theorem edW {e : Ed} {w : Str} {t : PyData} (h : e.d = .tuple [.str w, t]) : (∃ xs, e = .put xs ∧ w = "put" ∧ t = .tuple (sL xs)) ∨ (∃ n, e = .keep n ∧ w = "keep" ∧ t = .int n) ∨ ∃ n, e = .take n ∧ w = "take" ∧ t = .int n := by
  cases e with
  | put xs =>
    simp only [Ed.d, PyData.tuple.injEq, List.cons.injEq, PyData.str.injEq, and_true] at h
    exact .inl ⟨xs, rfl, h.1.symm, h.2.symm⟩
  | keep n =>
    simp only [Ed.d, PyData.tuple.injEq, List.cons.injEq, PyData.str.injEq, and_true] at h
    exact .inr (.inl ⟨n, rfl, h.1.symm, h.2.symm⟩)
  | take n =>
    simp only [Ed.d, PyData.tuple.injEq, List.cons.injEq, PyData.str.injEq, and_true] at h
    exact .inr (.inr ⟨n, rfl, h.1.symm, h.2.symm⟩)
theorem loop32 {C : Cal} (K : Lk C) {ls : List Str} {d : PyData} (hls : ls.length ≤ 1000) : ∀ (xs : List PyData) (F : List Str) (p c : Nat) (s5 s6 : Option O), xs.all preB = true → xs.all editT = true → xs.length ≤ 400 → p ≤ ls.length →
    (∀ x ∈ xs, ∀ w ds, x = .tuple [.str w, .tuple ds] → ds.length ≤ 1000) → F.length + xs.length * 1000 ≤ 900000 →
    (∃ es, Good32 ls.length p xs es ∧ ∃ t5 t6, frGo (fun x ρ2 => (bindTg (.tp [.nm 5, .nm 6]) x ρ2).bind fun ρ3 => evSs C body32 ρ3) (xs.map O.sh) (E32 (aL ls) d F p c s5 s6) = some (.nx (E32 (aL ls) d (F ++ fnd ls p es) (p + span es) (c + cost es) t5 t6))) ∨
    ((¬ ∃ es, Good32 ls.length p xs es) ∧ ∃ ρ', frGo (fun x ρ2 => (bindTg (.tp [.nm 5, .nm 6]) x ρ2).bind fun ρ3 => evSs C body32 ρ3) (xs.map O.sh) (E32 (aL ls) d F p c s5 s6) = some (.rt (.sh no32) (some (.sh (aL ls)) :: some (.sh d) :: ρ')))
  | [], F, p, c, s5, s6, _, _, _, hp, _, _ => .inl ⟨[], ⟨rfl, (fun _ m => by cases m), by simpa [span] using hp⟩, s5, s6, by simp [frGo, fnd, span, cost]⟩
  | x :: xs, F, p, c, s5, s6, h1, h2, hl, hp, hsz, hF => by
    rw [List.all_cons, Bool.and_eq_true] at h1 h2
    simp only [List.length_cons] at hl hF
    obtain ⟨w, t, rfl⟩ := pre_of h1.1
    have bt := preT (x := .tuple [.str w, t]) rfl [] s5 s6 (aL ls) d F p c
    have ih := fun (F : List Str) (p c : Nat) (s5 s6 : Option O) (hp : p ≤ ls.length) (hF : F.length + xs.length * 1000 ≤ 900000) => loop32 K (d := d) hls xs F p c s5 s6 h1.2 h2.2 (by omega) hp (fun y m => hsz y (List.mem_cons_of_mem _ m)) hF
    simp only [List.map_cons, frGo, bt, Option.bind_some]
    cases he : editB (.tuple [.str w, t]) with
    | false =>
      refine .inr ⟨fun ⟨es, g1, g2, g3⟩ => ?_, ?_⟩
      · cases es with
        | nil => cases g1
        | cons e es =>
          simp only [List.map_cons, List.cons.injEq] at g1
          rw [g1.1, Ed.editB (g2 e List.mem_cons_self)] at he
          cases he
      · rw [bad32 K h2.1 he]
        exact ⟨_, rfl⟩
    | true =>
      obtain ⟨e, hd, hok⟩ := ed_of he h2.1
      rcases edW hd.symm with ⟨ys, rfl, rfl, rfl⟩ | ⟨n, rfl, rfl, rfl⟩ | ⟨n, rfl, rfl, rfl⟩
      · have hy : ys.length ≤ 1000 := by
          have := hsz _ List.mem_cons_self _ _ rfl
          rwa [sL_len] at this
        rw [ok_put32 K hok h2.1 (by omega)]
        rcases ih (F ++ ys) p (c + ys.length) (some (.sh (.str "put"))) (some (.sh (.tuple (sL ys)))) hp (by rw [List.length_append]; omega) with ⟨es, ⟨g1, g2, g3⟩, t5, t6, q⟩ | ⟨g, ρ', q⟩
        · refine .inl ⟨.put ys :: es, ⟨by rw [List.map_cons, ← g1]; rfl, fun f m => (List.mem_cons.mp m).elim (fun z => z ▸ hok) (g2 f), by rw [span_cons]; simpa [Ed.span] using g3⟩, t5, t6, q.trans ?_⟩
          rw [span_cons, cost_cons, fnd, List.append_assoc]
          simp only [Ed.span, Ed.cost, Nat.zero_add, Nat.add_assoc]
        · refine .inr ⟨fun ⟨es, g1, g2, g3⟩ => ?_, ρ', q⟩
          cases es with
          | nil => cases g1
          | cons e es =>
            simp only [List.map_cons, List.cons.injEq] at g1
            have : (Ed.put ys).d = e.d := g1.1
            have := Ed.inj this
            subst this
            rw [span_cons] at g3
            exact g ⟨es, g1.2, fun f m => g2 f (List.mem_cons_of_mem _ m), by simpa [Ed.span] using g3⟩
      · have hn : 0 < n := hok
        by_cases hpn : p + n ≤ ls.length
        · rw [ok_keep32 K hn hpn (by omega)]
          rcases ih (F ++ (ls.drop p).take n) (p + n) c (some (.sh (.str "keep"))) (some (.sh (.int n))) hpn (by rw [List.length_append, List.length_take]; omega) with ⟨es, ⟨g1, g2, g3⟩, t5, t6, q⟩ | ⟨g, ρ', q⟩
          · refine .inl ⟨.keep n :: es, ⟨by rw [List.map_cons, ← g1]; rfl, fun f m => (List.mem_cons.mp m).elim (fun z => z ▸ hok) (g2 f), by rw [span_cons]; simp only [Ed.span]; omega⟩, t5, t6, q.trans ?_⟩
            rw [span_cons, cost_cons, fnd, List.append_assoc]
            simp only [Ed.span, Ed.cost, Nat.zero_add, Nat.add_assoc]
          · refine .inr ⟨fun ⟨es, g1, g2, g3⟩ => ?_, ρ', q⟩
            cases es with
            | nil => cases g1
            | cons e es =>
              simp only [List.map_cons, List.cons.injEq] at g1
              have : (Ed.keep n).d = e.d := g1.1
              have := Ed.inj this
              subst this
              rw [span_cons] at g3
              simp only [Ed.span] at g3
              exact g ⟨es, g1.2, fun f m => g2 f (List.mem_cons_of_mem _ m), by omega⟩
        · refine .inr ⟨fun ⟨es, g1, g2, g3⟩ => ?_, ?_⟩
          · cases es with
            | nil => cases g1
            | cons e es =>
              simp only [List.map_cons, List.cons.injEq] at g1
              have : (Ed.keep n).d = e.d := g1.1
              have := Ed.inj this
              subst this
              rw [span_cons] at g3
              simp only [Ed.span] at g3
              omega
          · rw [ok_kt32 K (.inl rfl) hn, if_neg hpn]
            exact ⟨_, rfl⟩
      · have hn : 0 < n := hok
        by_cases hpn : p + n ≤ ls.length
        · rw [ok_take32 K hn hpn (by omega)]
          rcases ih F (p + n) (c + n) (some (.sh (.str "take"))) (some (.sh (.int n))) hpn (by omega) with ⟨es, ⟨g1, g2, g3⟩, t5, t6, q⟩ | ⟨g, ρ', q⟩
          · refine .inl ⟨.take n :: es, ⟨by rw [List.map_cons, ← g1]; rfl, fun f m => (List.mem_cons.mp m).elim (fun z => z ▸ hok) (g2 f), by rw [span_cons]; simp only [Ed.span]; omega⟩, t5, t6, q.trans ?_⟩
            rw [span_cons, cost_cons, fnd]
            simp only [Ed.span, Ed.cost, Nat.add_assoc]
          · refine .inr ⟨fun ⟨es, g1, g2, g3⟩ => ?_, ρ', q⟩
            cases es with
            | nil => cases g1
            | cons e es =>
              simp only [List.map_cons, List.cons.injEq] at g1
              have : (Ed.take n).d = e.d := g1.1
              have := Ed.inj this
              subst this
              rw [span_cons] at g3
              simp only [Ed.span] at g3
              exact g ⟨es, g1.2, fun f m => g2 f (List.mem_cons_of_mem _ m), by omega⟩
        · refine .inr ⟨fun ⟨es, g1, g2, g3⟩ => ?_, ?_⟩
          · cases es with
            | nil => cases g1
            | cons e es =>
              simp only [List.map_cons, List.cons.injEq] at g1
              have : (Ed.take n).d = e.d := g1.1
              have := Ed.inj this
              subst this
              rw [span_cons] at g3
              simp only [Ed.span] at g3
              omega
          · rw [ok_kt32 K (.inr rfl) hn, if_neg hpn]
            exact ⟨_, rfl⟩
end L83
end
section
set_option Elab.async false
set_option linter.all false
set_option maxRecDepth 100000
set_option maxHeartbeats 2000000
namespace L83
open PySem PySem.Spec PyProof.Rows L2 Qv
theorem pre_ed {x : PyData} (h : editB x = true) : preB x = true := by
  unfold editB at h
  split at h
  · rfl
  · cases h
abbrev E0 (a d : PyData) : Qv.Env := [some (.sh a), some (.sh d), none, none, none, none, none, none]
def c32 : Qv.T := .or2 (.tn (.tt (.op (.isinst ["tuple"]) [.nm 1]))) (.or2 (.op .gt [.op .len [.nm 1], .c (.int 400)]) (.tn (.tt (.op .all [.lc [7] (.nm 7) .sq [.nm 1] [] (.and2 (.op (.isinst ["tuple"]) [.nm 7]) (.and2 (.op .eq [.op .len [.nm 7], .c (.int 2)]) (.op (.isinst ["str"]) [.op .item [.nm 7, .c (.int 0)]])))]))))
theorem body_eq32 : f32.body = [.ite c32 [.ret (.tup [.c (.bool false), .lst [], .c (.int 0)])] [], .par [2, 3, 4] [.lst [], .c (.int 0), .c (.int 0)], .fr (.tp [.nm 5, .nm 6]) .sq [.nm 1] body32,
    .ret (.tup [.and2 (.op .eq [.nm 3, .op .len [.nm 0]]) (.op .le [.op .len [.nm 2], .c (.int 200)]), .nm 2, .nm 4])] := rfl
theorem pre32 {C : Cal} {a : PyData} {ds : List PyData} (hl : ds.length ≤ 100000) : Ev C (E0 a (.tuple ds)) c32 (.sh (.bool (decide ((400 : Int) < ds.length) || !ds.all preB))) := by
  have t1 : Ev C (E0 a (.tuple ds)) (.tn (.tt (.op (.isinst ["tuple"]) [.nm 1]))) (.sh (.bool false)) := e_tn (x := true) (e_tt rfl (e_op (ov_s rfl ov_nil) rfl))
  have t2 : Ev C (E0 a (.tuple ds)) (.op .gt [.op .len [.nm 1], .c (.int 400)]) (.sh (.bool (decide ((400 : Int) < ds.length)))) := e_op (ov_d rfl (e_op (ov_s rfl ov_nil) len_is) (ov_c ov_nil)) (gt_ii _ _)
  have t3 : Ev C (E0 a (.tuple ds)) (.tn (.tt (.op .all [.lc [7] (.nm 7) .sq [.nm 1] [] (.and2 (.op (.isinst ["tuple"]) [.nm 7]) (.and2 (.op .eq [.op .len [.nm 7], .c (.int 2)]) (.op (.isinst ["str"]) [.op .item [.nm 7, .c (.int 0)]])))]))) (.sh (.bool (!ds.all preB))) := by
    refine e_tn (e_tt rfl (e_all rfl (e_lcA O.sh (fun x => some (shB (preB x))) ds (es_cons (e_nm rfl) es_nil) rfl rfl (fun x hx => lcT_1 (w := 7) (r := shB (preB x)) (show 7 < 8 by omega) rfl ?_) (by omega))))
    have key : Ev C ((E0 a (.tuple ds)).set 7 (some (.sh x))) (.and2 (.op (.isinst ["tuple"]) [.nm 7]) (.and2 (.op .eq [.op .len [.nm 7], .c (.int 2)]) (.op (.isinst ["str"]) [.op .item [.nm 7, .c (.int 0)]]))) (.sh (.bool (preB x))) := by
      cases x with
      | tuple zs =>
        have e1 : Ev C ((E0 a (.tuple ds)).set 7 (some (.sh (.tuple zs)))) (.op (.isinst ["tuple"]) [.nm 7]) (.sh (.bool true)) := e_op (ov_s rfl ov_nil) rfl
        have e2 : Ev C ((E0 a (.tuple ds)).set 7 (some (.sh (.tuple zs)))) (.op .eq [.op .len [.nm 7], .c (.int 2)]) (.sh (.bool (decide ((zs.length : Int) = 2)))) := e_op (ov_d rfl (e_op (ov_s rfl ov_nil) len_is) (ov_c ov_nil)) (eq_ii _ _)
        match zs, e1, e2 with
        | [], e1, e2 => exact e_and e1 fun _ => e_and (x := false) (y := false) e2 fun e => by cases e
        | [p], e1, e2 =>
          have : preB (.tuple [p]) = false := by
            unfold preB
            split
            · rename_i h; simp at h
            · rfl
          rw [this]
          exact e_and e1 fun _ => e_and (x := false) (y := false) e2 fun e => by cases e
        | p :: q :: r :: s, e1, e2 =>
          have : decide (((p :: q :: r :: s).length : Int) = 2) = false := decide_eq_false (by simp only [List.length_cons]; omega)
          rw [this] at e2
          have : preB (.tuple (p :: q :: r :: s)) = false := by
            unfold preB
            split
            · rename_i h; simp at h
            · rfl
          rw [this]
          exact e_and e1 fun _ => e_and (x := false) (y := false) e2 fun e => by cases e
        | [p, q], e1, e2 =>
          have e3 : Ev C ((E0 a (.tuple ds)).set 7 (some (.sh (.tuple [p, q])))) (.op (.isinst ["str"]) [.op .item [.nm 7, .c (.int 0)]]) (.sh (.bool (preB (.tuple [p, q])))) := by
            refine e_op (ov_d rfl (e_op (ov_s rfl (ov_c ov_nil)) item0) ov_nil) ?_
            cases p <;> rfl
          exact e_and e1 fun _ => e_and (x := true) e2 fun _ => e3
      | _ => exact e_and (x := false) (y := false) (e_op (ov_s rfl ov_nil) rfl) (fun e => by cases e)
    exact key
  have q := e_or t1 fun _ => e_or t2 fun _ => t3
  exact q
theorem puts_small {ds : List PyData} (h : ds.all editT = true) : ∀ x ∈ ds, ∀ w es, x = .tuple [.str w, .tuple es] → es.length ≤ 1000 := fun x hx w es e => by
  have := List.all_eq_true.mp h x hx
  subst e
  simp only [editT, Bool.and_eq_true, decide_eq_true_eq] at this
  exact this.2
theorem f32_ok {k : Nat} (h : 2 ≤ k) {ls : List Str} (hls : ls.length ≤ 1000) {d : PyData} (hd : valT d = true) : ∃ r, RF k 32 [.sh (aL ls), .sh d] = some (.sh r, [.sh (aL ls), .sh d]) ∧
    ((∃ es, IsPatch ls.length d es ∧ r = .tuple [.bool true, .list (sL (fnd ls 0 es)), .int (cost es)]) ∨ ((¬ ∃ es, IsPatch ls.length d es) ∧ ∃ l c, r = .tuple [.bool false, l, c])) := by
  obtain ⟨k, rfl, h1⟩ := posK h
  suffices h : ∃ (r : PyData) (ρ' : Qv.Env), evSs (RF k) f32.body (E0 (aL ls) d) = some (.rt (.sh r) (some (.sh (aL ls)) :: some (.sh d) :: ρ')) ∧
    ((∃ es, IsPatch ls.length d es ∧ r = .tuple [.bool true, .list (sL (fnd ls 0 es)), .int (cost es)]) ∨ ((¬ ∃ es, IsPatch ls.length d es) ∧ ∃ l c, r = .tuple [.bool false, l, c])) by
    obtain ⟨r, ρ', e, hb⟩ := h
    exact ⟨r, run_rt (fd := f32) rfl rfl e rfl, hb⟩
  have K : Lk (RF k) := ⟨fun d => f30_ok (by omega) d, fun d hd => f31_ok (by omega) d hd⟩
  generalize RF k = C at *
  rw [body_eq32]
  have no : Ev C (E0 (aL ls) d) c32 (.sh (.bool true)) → (¬ ∃ es, IsPatch ls.length d es) → ∃ (r : PyData) (ρ' : Qv.Env), evSs C [.ite c32 [.ret (.tup [.c (.bool false), .lst [], .c (.int 0)])] [], .par [2, 3, 4] [.lst [], .c (.int 0), .c (.int 0)], .fr (.tp [.nm 5, .nm 6]) .sq [.nm 1] body32,
    .ret (.tup [.and2 (.op .eq [.nm 3, .op .len [.nm 0]]) (.op .le [.op .len [.nm 2], .c (.int 200)]), .nm 2, .nm 4])] (E0 (aL ls) d) = some (.rt (.sh r) (some (.sh (aL ls)) :: some (.sh d) :: ρ')) ∧
    ((∃ es, IsPatch ls.length d es ∧ r = .tuple [.bool true, .list (sL (fnd ls 0 es)), .int (cost es)]) ∨ ((¬ ∃ es, IsPatch ls.length d es) ∧ ∃ l c, r = .tuple [.bool false, l, c])) := fun hc hN =>
    ⟨no32, _, s_ift hc e_no, .inr ⟨hN, _, _, rfl⟩⟩
  by_cases hT : ∃ ds, d = .tuple ds
  · obtain ⟨ds, rfl⟩ := hT
    have hd : ds.length ≤ 100000 ∧ ds.all editT = true := by
      simp only [valT, Bool.and_eq_true, decide_eq_true_eq] at hd
      exact hd
    have pc := pre32 (C := C) (a := aL ls) hd.1
    by_cases hl : ds.length ≤ 400
    · rw [decide_eq_false (show ¬ (400 : Int) < ds.length by omega)] at pc
      cases hp : ds.all preB with
      | false =>
        rw [hp] at pc
        refine no pc fun ⟨es, q⟩ => ?_
        have e := q.is
        simp only [PyData.tuple.injEq] at e
        subst e
        have : (es.map Ed.d).all preB = true := List.all_eq_true.mpr fun x m => by
          simp only [List.mem_map] at m
          obtain ⟨e, he, rfl⟩ := m
          exact pre_ed (Ed.editB (q.each e he))
        rw [this] at hp
        cases hp
      | true =>
        rw [hp] at pc
        have pc : Ev C (E0 (aL ls) (.tuple ds)) c32 (.sh (.bool false)) := pc
        have s1 : evSs C [.par [2, 3, 4] [.lst [], .c (.int 0), .c (.int 0)], .fr (.tp [.nm 5, .nm 6]) .sq [.nm 1] body32,
            .ret (.tup [.and2 (.op .eq [.nm 3, .op .len [.nm 0]]) (.op .le [.op .len [.nm 2], .c (.int 200)]), .nm 2, .nm 4])] (E0 (aL ls) (.tuple ds)) = evSs C [.fr (.tp [.nm 5, .nm 6]) .sq [.nm 1] body32,
            .ret (.tup [.and2 (.op .eq [.nm 3, .op .len [.nm 0]]) (.op .le [.op .len [.nm 2], .c (.int 200)]), .nm 2, .nm 4])] (E32 (aL ls) (.tuple ds) [] 0 0 none none) :=
          s_par3 (e_lst es_nil (by simp)) e_c e_c (by simp) (by simp) (by simp)
        have fr : evS C (.fr (.tp [.nm 5, .nm 6]) .sq [.nm 1] body32) (E32 (aL ls) (.tuple ds) [] 0 0 none none) = frGo (fun x ρ2 => (bindTg (.tp [.nm 5, .nm 6]) x ρ2).bind fun ρ3 => evSs C body32 ρ3) (ds.map O.sh) (E32 (aL ls) (.tuple ds) [] 0 0 none none) := by
          have ex : evs C [.nm 1] (E32 (aL ls) (.tuple ds) [] 0 0 none none) = some ([.sh (.tuple ds)], E32 (aL ls) (.tuple ds) [] 0 0 none none) := es_cons (e_nm rfl) es_nil
          rw [evS_fr, ex]
          rfl
        rw [s_iff pc, s1, evSs_cons, fr]
        rcases loop32 (C := C) K (d := .tuple ds) hls ds [] 0 0 none none hp hd.2 hl (Nat.zero_le _) (puts_small hd.2) (by simp only [List.length_nil]; omega) with ⟨es, ⟨g1, g2, g3⟩, t5, t6, q⟩ | ⟨g, ρ', q⟩
        · rw [List.nil_append, Nat.zero_add, Nat.zero_add] at q
          rw [q, thenS_nx]
          have g1' := g1
          subst g1
          rw [List.length_map] at hl
          have uniq : ∀ fs, IsPatch ls.length (.tuple (es.map Ed.d)) fs → fs = es := fun fs hp => by
            have e := hp.is
            simp only [PyData.tuple.injEq] at e
            exact (eds_inj e).symm
          have fl := fnd_len ls es 0 g3
          have w1 : Ev C (E32 (aL ls) (.tuple (es.map Ed.d)) (fnd ls 0 es) (span es) (cost es) t5 t6) (.and2 (.op .eq [.nm 3, .op .len [.nm 0]]) (.op .le [.op .len [.nm 2], .c (.int 200)])) (.sh (.bool (decide (span es = ls.length) && decide (late es ≤ 200)))) := by
            have a1 : Ev C (E32 (aL ls) (.tuple (es.map Ed.d)) (fnd ls 0 es) (span es) (cost es) t5 t6) (.op .eq [.nm 3, .op .len [.nm 0]]) (.sh (.bool (decide ((span es : Int) = ((sL ls).length : Int))))) := e_op (ov_s rfl (ov_d rfl (e_op (ov_s rfl ov_nil) len_li) ov_nil)) (eq_ii _ _)
            have a2 : Ev C (E32 (aL ls) (.tuple (es.map Ed.d)) (fnd ls 0 es) (span es) (cost es) t5 t6) (.op .le [.op .len [.nm 2], .c (.int 200)]) (.sh (.bool (decide (((sL (fnd ls 0 es)).length : Int) ≤ 200)))) := e_op (ov_d rfl (e_op (ov_sl rfl flat_ol ov_nil) (len_ol _)) (ov_c ov_nil)) (le_ii _ _)
            have q1 : decide ((span es : Int) = ((sL ls).length : Int)) = decide (span es = ls.length) := decide_eq_decide.mpr (by rw [sL_len]; omega)
            have q2 : decide (((sL (fnd ls 0 es)).length : Int) ≤ 200) = decide (late es ≤ 200) := decide_eq_decide.mpr (by rw [sL_len, fl]; omega)
            rw [q1] at a1
            rw [q2] at a2
            exact e_and a1 fun _ => a2
          have w2 : evSs C [.ret (.tup [.and2 (.op .eq [.nm 3, .op .len [.nm 0]]) (.op .le [.op .len [.nm 2], .c (.int 200)]), .nm 2, .nm 4])] (E32 (aL ls) (.tuple (es.map Ed.d)) (fnd ls 0 es) (span es) (cost es) t5 t6) =
              some (.rt (.sh (.tuple [.bool (decide (span es = ls.length) && decide (late es ≤ 200)), .list (sL (fnd ls 0 es)), .int (cost es)])) [some (.sh (aL ls)), some (.sh (.tuple (es.map Ed.d))), some (.sh (.list (sL (fnd ls 0 es)))), some (.sh (.int (span es))), some (.sh (.int (cost es))), t5, t6, none]) := by
            have n2 : rdV 2 (E32 (aL ls) (.tuple (es.map Ed.d)) (fnd ls 0 es) (span es) (cost es) t5 t6) = some (.sh (.list (sL (fnd ls 0 es))), [some (.sh (aL ls)), some (.sh (.tuple (es.map Ed.d))), some (.sh (.list (sL (fnd ls 0 es)))), some (.sh (.int (span es))), some (.sh (.int (cost es))), t5, t6, none]) := by
              have e : (olOf (sL (fnd ls 0 es))).d = .list (sL (fnd ls 0 es)) := d_ol
              show some (O.sh (olOf (sL (fnd ls 0 es))).d, _) = _
              rw [e]
              rfl
            rw [evSs_cons, evS_ret, ev_tup, evs_cons, w1]
            simp only [Option.bind_some]
            rw [evs_cons, ev_nm, n2]
            simp only [Option.bind_some]
            rfl
          by_cases hs : span es = ls.length ∧ late es ≤ 200
          · rw [decide_eq_true hs.1, decide_eq_true hs.2] at w2
            exact ⟨_, _, w2, .inl ⟨es, ⟨rfl, hl, g2, hs.1, hs.2⟩, rfl⟩⟩
          · have : (decide (span es = ls.length) && decide (late es ≤ 200)) = false := by
              rw [Bool.and_eq_false_iff]
              by_cases z : span es = ls.length
              · exact .inr (decide_eq_false fun y => hs ⟨z, y⟩)
              · exact .inl (decide_eq_false z)
            rw [this] at w2
            exact ⟨_, _, w2, .inr ⟨fun ⟨fs, p⟩ => by have := uniq fs p; subst this; exact hs ⟨p.sp, p.lt⟩, _, _, rfl⟩⟩
        · refine ⟨no32, ρ', by rw [q]; rfl, .inr ⟨fun ⟨es, p⟩ => g ⟨es, ?_, p.each, ?_⟩, _, _, rfl⟩⟩
          · have e := p.is
            simp only [PyData.tuple.injEq] at e
            exact e
          · rw [p.sp]
            omega
    · rw [decide_eq_true (show (400 : Int) < ds.length by omega)] at pc
      refine no pc fun ⟨es, q⟩ => ?_
      have e := q.is
      simp only [PyData.tuple.injEq] at e
      subst e
      rw [List.length_map] at hl
      exact hl q.len
  · refine no ?_ fun ⟨es, hp⟩ => hT ⟨_, hp.is⟩
    unfold c32
    refine e_or (x := true) (y := false) (e_tn (x := false) (e_tt rfl (e_op (ov_s rfl ov_nil) ?_))) (fun e => by cases e)
    cases d with
    | tuple ds => exact absurd ⟨ds, rfl⟩ hT
    | _ => rfl
end L83
end
section
set_option Elab.async false
set_option linter.all false
set_option maxRecDepth 100000
set_option maxHeartbeats 2000000
namespace L83
open PySem PySem.Spec PyProof.Rows L2 Qv
@[simp] theorem it0 {a b : PyData} : pItem [.sh (.tuple [a, b]), .sh (.int 0)] = some (.sh a) := rfl
@[simp] theorem it1 {a b : PyData} : pItem [.sh (.tuple [a, b]), .sh (.int 1)] = some (.sh b) := rfl
def pD (es : List Ed) : PyData := .tuple (es.map Ed.d)
structure LineOk (x : Str) : Prop where
  len3 : x.length ≤ 3
  lay : PyData.canLay0 (.str x) = true
theorem LineOk.len {x : Str} (h : LineOk x) : x.length ≤ 2000 := Nat.le_trans h.len3 (by decide)
def Ed.okS : Ed → Prop
  | .put ls => ls ≠ [] ∧ ls.length ≤ 200 ∧ ∀ l ∈ ls, LineOk l
  | .keep n => 0 < n
  | .take n => 0 < n
structure OkS (many : Nat) (es : List Ed) : Prop where
  len : es.length ≤ 400
  each : ∀ e ∈ es, e.okS
  sp : span es = many
  lt : late es ≤ 200
@[simp] theorem w_pp : ((Str.ofString "put") == (Str.ofString "put")) = true := by decide
@[simp] theorem w_kk : ((Str.ofString "keep") == (Str.ofString "keep")) = true := by decide
@[simp] theorem w_tt : ((Str.ofString "take") == (Str.ofString "take")) = true := by decide
@[simp] theorem w_pk : ((Str.ofString "put") == (Str.ofString "keep")) = false := by decide
@[simp] theorem w_pt : ((Str.ofString "put") == (Str.ofString "take")) = false := by decide
@[simp] theorem w_kp : ((Str.ofString "keep") == (Str.ofString "put")) = false := by decide
@[simp] theorem w_kt : ((Str.ofString "keep") == (Str.ofString "take")) = false := by decide
@[simp] theorem w_tp : ((Str.ofString "take") == (Str.ofString "put")) = false := by decide
@[simp] theorem w_tk : ((Str.ofString "take") == (Str.ofString "keep")) = false := by decide
theorem canAll : ∀ {ls : List Str}, (∀ l ∈ ls, LineOk l) → PyData.canLayAll0 (ls.map .str) = true
  | [], _ => by simp [PyData.canLayAll0]
  | l :: ls, h => by
    simp only [List.map_cons, PyData.canLayAll0, Bool.and_eq_true]
    exact ⟨(h l List.mem_cons_self).lay, canAll fun x m => h x (List.mem_cons_of_mem _ m)⟩
theorem depthAll_str : ∀ ls : List Str, PyData.depthAll (ls.map .str) = 0
  | [] => by simp [PyData.depthAll]
  | l :: ls => by simp [PyData.depthAll, PyData.depth, depthAll_str ls]
theorem shapedT {ls : List Str} (h : ∀ l ∈ ls, LineOk l) : SeqAt.shaped (.tuple (ls.map .str)) = true := by
  unfold SeqAt.shaped
  rw [show PyData.canLay0 (.tuple (ls.map .str)) = true by simpa only [PyData.canLay0] using canAll h]
  simp [PyData.depth, depthAll_str]
theorem shapedL {ls : List Str} (h : ∀ l ∈ ls, LineOk l) : SeqAt.shaped (.list (ls.map .str)) = true := by
  unfold SeqAt.shaped
  rw [show PyData.canLay0 (.list (ls.map .str)) = true by simpa only [PyData.canLay0] using canAll h]
  simp [PyData.depth, depthAll_str]
@[simp] theorem shaped0 : SeqAt.shaped (.tuple []) = true := by decide
@[simp] theorem shapedN : SeqAt.shaped (.list []) = true := by decide
structure OkLS (ls : List Str) : Prop where
  len : ls.length ≤ 200
  each : ∀ l ∈ ls, LineOk l
abbrev Tr : Type := List (Str × Option Nat)
def optD : Option Nat → PyData
  | none => .none
  | some p => .int p
def itD (q : Str × Option Nat) : PyData := .tuple [.str q.1, optD q.2]
def TrD (t : Tr) : List PyData := t.map itD
def keepT (ls : List Str) (a n : Nat) : Tr := (List.range n).map fun i => (ls.getD (a + i) "", some (a + i))
theorem keepT_len (ls : List Str) (a n : Nat) : (keepT ls a n).length = n := by simp [keepT]
def putT (xs : List Str) : Tr := xs.map fun x => (x, none)
theorem putT_len (xs : List Str) : (putT xs).length = xs.length := by simp [putT]
def tr (ls : List Str) : Nat → List Ed → Tr
  | _, [] => []
  | a, .put xs :: es => putT xs ++ tr ls a es
  | a, .keep n :: es => keepT ls a n ++ tr ls (a + n) es
  | a, .take n :: es => tr ls (a + n) es
theorem tr_len (ls : List Str) : ∀ (a : Nat) (es : List Ed), (tr ls a es).length = late es
  | _, [] => rfl
  | a, .put xs :: es => by simp [tr, tr_len ls a es, late, Ed.late, putT_len]
  | a, .keep n :: es => by simp [tr, tr_len ls (a + n) es, late, Ed.late, keepT_len]
  | a, .take n :: es => by simp [tr, tr_len ls (a + n) es, late, Ed.late]
/-- the loop of both traces -/
theorem trace_loop {C : Cal} {body : List S} {o P : O} {ls : List Str} (hb1 : ∀ (xs : List Str) (acc : Tr) (a : Nat), acc.length + xs.length ≤ 1000000 → ∃ out, evSs C body [some o, some P, some (olOf (TrD acc)), some (O.sh (.int (a : Int))), some (.sh (.str "put")), some (.sh (.tuple (sL xs))), none, none] = some out ∧
      (out = .nx [some o, some P, some (olOf (TrD (acc ++ putT xs))), some (O.sh (.int (a : Int))), some (.sh (.str "put")), some (.sh (.tuple (sL xs))), none, none] ∨ out = .ct [some o, some P, some (olOf (TrD (acc ++ putT xs))), some (O.sh (.int (a : Int))), some (.sh (.str "put")), some (.sh (.tuple (sL xs))), none, none]))
    (hb2 : ∀ (n : Nat) (acc : Tr) (a : Nat), a + n ≤ ls.length → ls.length ≤ 100000 → acc.length + n ≤ 1000000 → evSs C body [some o, some P, some (olOf (TrD acc)), some (O.sh (.int (a : Int))), some (.sh (.str "keep")), some (O.sh (.int (n : Int))), none, none] =
      some (.nx [some o, some P, some (olOf (TrD (acc ++ keepT ls a n))), some (O.sh (.int ((a + n : Nat) : Int))), some (.sh (.str "keep")), some (O.sh (.int (n : Int))), none, none]))
    (hb3 : ∀ (n : Nat) (acc : Tr) (a : Nat), acc.length ≤ 1000000 → evSs C body [some o, some P, some (olOf (TrD acc)), some (O.sh (.int (a : Int))), some (.sh (.str "take")), some (O.sh (.int (n : Int))), none, none] =
      some (.nx [some o, some P, some (olOf (TrD acc)), some (O.sh (.int ((a + n : Nat) : Int))), some (.sh (.str "take")), some (O.sh (.int (n : Int))), none, none])) (hls : ls.length ≤ 100000) :
    ∀ (es : List Ed) (acc : Tr) (a : Nat) (s4 s5 : Option O), a + span es ≤ ls.length → acc.length + late es ≤ 1000000 →
      ∃ s4' s5', frGo (fun x ρ2 => (bindTg (.tp [.nm 4, .nm 5]) x ρ2).bind fun ρ3 => evSs C body ρ3) (es.map fun e => .sh e.d) [some o, some P, some (olOf (TrD acc)), some (O.sh (.int (a : Int))), s4, s5, none, none] =
        some (.nx [some o, some P, some (olOf (TrD (acc ++ tr ls a es))), some (O.sh (.int ((a + span es : Nat) : Int))), s4', s5', none, none])
  | [], acc, a, s4, s5, _, _ => ⟨s4, s5, by simp [frGo, tr, span]⟩
  | e :: es, acc, a, s4, s5, h1, h2 => by
    have sp : span (e :: es) = e.span + span es := by simp [span]
    have lt : late (e :: es) = e.late + late es := by simp [late]
    rw [sp] at h1
    rw [lt] at h2
    cases e with
    | put xs =>
      simp only [Ed.span, Ed.late] at h1 h2
      obtain ⟨out, ho, hc⟩ := hb1 xs acc a (by omega)
      obtain ⟨s4', s5', ih⟩ := trace_loop hb1 hb2 hb3 hls es (acc ++ putT xs) a (some (.sh (.str "put"))) (some (.sh (.tuple (sL xs)))) (by omega) (by simp [putT_len, keepT_len]; omega)
      refine ⟨s4', s5', ?_⟩
      rw [sp]
      simp only [Ed.span, Nat.zero_add, tr]
      rw [← List.append_assoc, ← ih]
      simp only [List.map_cons, Ed.d, frGo]
      have b : bindTg (.tp [.nm 4, .nm 5]) (.sh (.tuple [.str "put", .tuple (sL xs)])) [some o, some P, some (olOf (TrD acc)), some (O.sh (.int (a : Int))), s4, s5, none, none] = some [some o, some P, some (olOf (TrD acc)), some (O.sh (.int (a : Int))), some (.sh (.str "put")), some (.sh (.tuple (sL xs))), none, none] := by
        simp [bindTg, bindTgs, sL]
      rw [b]
      simp only [Option.bind_some, ho]
      rcases hc with rfl | rfl <;> rfl
    | keep n =>
      simp only [Ed.span, Ed.late] at h1 h2
      have ho := hb2 n acc a (by omega) hls (by omega)
      obtain ⟨s4', s5', ih⟩ := trace_loop hb1 hb2 hb3 hls es (acc ++ keepT ls a n) (a + n) (some (.sh (.str "keep"))) (some (O.sh (.int (n : Int)))) (by omega) (by simp [putT_len, keepT_len]; omega)
      refine ⟨s4', s5', ?_⟩
      rw [sp]
      simp only [Ed.span, tr]
      rw [← List.append_assoc, ← Nat.add_assoc, ← ih]
      simp only [List.map_cons, Ed.d, frGo]
      have b : bindTg (.tp [.nm 4, .nm 5]) (.sh (.tuple [.str "keep", .int n])) [some o, some P, some (olOf (TrD acc)), some (O.sh (.int (a : Int))), s4, s5, none, none] = some [some o, some P, some (olOf (TrD acc)), some (O.sh (.int (a : Int))), some (.sh (.str "keep")), some (O.sh (.int (n : Int))), none, none] := by
        simp [bindTg, bindTgs]
      rw [b]
      simp only [Option.bind_some, ho]
    | take n =>
      simp only [Ed.span, Ed.late] at h1 h2
      have ho := hb3 n acc a (by omega)
      obtain ⟨s4', s5', ih⟩ := trace_loop hb1 hb2 hb3 hls es acc (a + n) (some (.sh (.str "take"))) (some (O.sh (.int (n : Int)))) (by omega) (by omega)
      refine ⟨s4', s5', ?_⟩
      rw [sp]
      simp only [Ed.span, tr]
      rw [← Nat.add_assoc, ← ih]
      simp only [List.map_cons, Ed.d, frGo]
      have b : bindTg (.tp [.nm 4, .nm 5]) (.sh (.tuple [.str "take", .int n])) [some o, some P, some (olOf (TrD acc)), some (O.sh (.int (a : Int))), s4, s5, none, none] = some [some o, some P, some (olOf (TrD acc)), some (O.sh (.int (a : Int))), some (.sh (.str "take")), some (O.sh (.int (n : Int))), none, none] := by
        simp [bindTg, bindTgs]
      rw [b]
      simp only [Option.bind_some, ho]
end L83
end
section
set_option Elab.async false
set_option linter.all false
set_option maxRecDepth 100000
set_option maxHeartbeats 2000000
namespace L83
open PySem PySem.Spec PyProof.Rows L2 Qv
abbrev tenv (o P : O) (acc : Tr) (a : Nat) (w t : O) : Qv.Env := [some o, some P, some (olOf (TrD acc)), some (.sh (.int (a : Int))), some w, some t, none, none]
theorem TrD_app (s t : Tr) : TrD (s ++ t) = TrD s ++ TrD t := List.map_append
theorem olOf_app (s t : List PyData) : O.ol (s.map O.sh ++ t.map O.sh) = olOf (s ++ t) := by
  unfold olOf
  rw [List.map_append]
theorem olmap {α : Type} (f : α → PyData) (xs : List α) : O.ol (xs.map fun x => O.sh (f x)) = olOf (xs.map f) := by
  unfold olOf
  rw [List.map_map]
  rfl
section
variable {C : Cal} {o P : O} {acc : Tr} {a : Nat}
theorem lcPut (xs : List Str) (h : xs.length ≤ 1000000) : ev C (.lc [6] (.nm 6) .sq [.nm 5] [] (.tup [.nm 6, .c .none])) (tenv o P acc a (.sh (.str "put")) (.sh (.tuple (sL xs)))) = some (olOf (TrD (putT xs)), tenv o P acc a (.sh (.str "put")) (.sh (.tuple (sL xs)))) := by
  rw [lc_ofA (fun x : Str => .sh (.str x)) (fun x => some (.sh (itD (x, none)))) xs (ρ1 := tenv o P acc a (.sh (.str "put")) (.sh (.tuple (sL xs)))) (os := [.sh (.tuple (sL xs))]) (by simp [rdV]) (by simp [walk, sL, Function.comp_def]) (fun x hx => ?_) h, fm_some, olmap]
  · simp [forget, TrD, putT, keepT, Function.comp_def]
  · simp [lcT, bindTg, forget, rdV, itD, optD]
theorem lcKeep {ls : List Str} (ho : o.isFlat = true) (hs : o.seq? = some (sL ls)) (n : Nat) (h1 : a + n ≤ ls.length) (h2 : ls.length ≤ 100000) : ev C (.lc [7] (.nm 7) .rng [.nm 3, .op .add [.nm 3, .nm 5]] [] (.tup [.op .item [.nm 0, .nm 7], .nm 7])) (tenv o P acc a (.sh (.str "keep")) (.sh (.int n))) =
    some (olOf (TrD (keepT ls a n)), tenv o P acc a (.sh (.str "keep")) (.sh (.int n))) := by
  have w : walk .rng [.sh (O.sh (.int (a : Int))).d, .sh (O.sh (.int ((a + n : Nat) : Int))).d] = some ((List.range n).map fun (i : Nat) => shI ((a : Int) + (i : Int))) := by
    have e : (((a + n : Nat) : Int) - (a : Int)).toNat = n := by omega
    have c : -(2 ^ 62) ≤ (a : Int) ∧ (a : Int) < 2 ^ 62 ∧ -(2 ^ 62) ≤ ((a + n : Nat) : Int) ∧ ((a + n : Nat) : Int) < 2 ^ 62 := by omega
    simp only [walk, shI, d_sh, gd, e]
    rw [decide_eq_true c]
    rfl
  rw [lc_ofA (fun i : Nat => shI ((a : Int) + (i : Int))) (fun i => some (.sh (itD (ls.getD (a + i) "", some (a + i))))) (List.range n) (ρ1 := tenv o P acc a (.sh (.str "keep")) (.sh (.int n))) (os := [.sh (.int (a : Int)), .sh (.int ((a + n : Nat) : Int))]) ?_ w (fun i hi => ?_) (by simp; omega), fm_some, olmap]
  · simp [forget, TrD, putT, keepT, Function.comp_def]
  · simp [rdV, rdO, shI, prim, pAdd]
  · have hi : i < n := by simpa using hi
    have hat : (sL ls)[a + i]? = some (.str (ls.getD (a + i) "")) := by
      unfold sL
      rw [List.getElem?_map, List.getD_eq_getElem?_getD, List.getElem?_eq_getElem (by omega)]
      rfl
    have it := item_at hs hat
    rw [Int.natCast_add] at it
    simp [lcT, bindTg, forget, rdV, rdO, itD, optD, prim, ho, it, shI]
theorem f10_body1 (xs : List Str) (h : acc.length + xs.length ≤ 1000000) : ev C (.ext 2 [.lc [6] (.nm 6) .sq [.nm 5] [] (.tup [.nm 6, .c .none])]) (tenv o P acc a (.sh (.str "put")) (.sh (.tuple (sL xs)))) =
    some (.sh .none, tenv o P (acc ++ putT xs) a (.sh (.str "put")) (.sh (.tuple (sL xs)))) := by
  rw [ext_of (os0 := (TrD acc).map O.sh) (os := (TrD acc).map O.sh) rfl rfl (lcPut xs (by omega)) rfl (by simp) (list_ol (ds := TrD (putT xs))) (sz_le (by simp [TrD, putT_len]; omega))]
  rw [olOf_app, ← TrD_app]
  rfl
theorem ext_ol {e : T} {w t : O} {v : O} {t2 : Tr} (hn : isNm e = none) (h1 : ev C e (tenv o P acc a w t) = some (v, tenv o P acc a w t)) (hv : v = olOf (TrD t2)) (hl : acc.length + t2.length ≤ 1000000) :
    ev C (.ext 2 [e]) (tenv o P acc a w t) = some (.sh .none, tenv o P (acc ++ t2) a w t) := by
  subst hv
  rw [ext_of (os0 := (TrD acc).map O.sh) (os := (TrD acc).map O.sh) hn rfl h1 rfl (by simp) (list_ol (ds := TrD t2)) (sz_le (by simp [TrD]; omega))]
  rw [olOf_app, ← TrD_app]
  rfl
end
def body10 : List S := [.ite (.op .eq [.nm 4, .c (.str "put")]) [.ex (.ext 2 [.lc [6] (.nm 6) .sq [.nm 5] [] (.tup [.nm 6, .c (.none)])]),
      .cont] [],
    .ite (.op .eq [.nm 4, .c (.str "keep")]) [.ex (.ext 2 [.lc [7] (.nm 7) .rng [.nm 3, .op .add [.nm 3, .nm 5]] [] (.tup [.op .item [.nm 0, .nm 7], .nm 7])])] [],
    .asg (.nm 3) (.op .add [.nm 3, .nm 5])]
theorem body10_put {C : Cal} {o P : O} (xs : List Str) (acc : Tr) (a : Nat) (hx : acc.length + xs.length ≤ 1000000) : evSs C body10 (tenv o P acc a (.sh (.str "put")) (.sh (.tuple (sL xs)))) = some (.ct (tenv o P (acc ++ putT xs) a (.sh (.str "put")) (.sh (.tuple (sL xs))))) := by
  have q := f10_body1 (C := C) (o := o) (P := P) (acc := acc) (a := a) xs hx
  simp [body10, rdO, prim, pEq, scalD, PyData.eqv, shB, q]
theorem ext_keep {C : Cal} {o P : O} {ls : List Str} (ho : o.isFlat = true) (hs : o.seq? = some (sL ls)) (n : Nat) (acc : Tr) (a : Nat) (h1 : a + n ≤ ls.length) (h2 : ls.length ≤ 100000) (h3 : acc.length + n ≤ 1000000) :
    ev C (.ext 2 [.lc [7] (.nm 7) .rng [.nm 3, .op .add [.nm 3, .nm 5]] [] (.tup [.op .item [.nm 0, .nm 7], .nm 7])]) (tenv o P acc a (.sh (.str "keep")) (.sh (.int n))) = some (.sh .none, tenv o P (acc ++ keepT ls a n) a (.sh (.str "keep")) (.sh (.int n))) :=
  ext_ol (t2 := keepT ls a n) rfl (lcKeep ho hs n h1 h2) rfl (by rw [keepT_len]; exact h3)
theorem body10_keep {C : Cal} {o P : O} {ls : List Str} (ho : o.isFlat = true) (hs : o.seq? = some (sL ls)) (n : Nat) (acc : Tr) (a : Nat) (h1 : a + n ≤ ls.length) (h2 : ls.length ≤ 100000) (h3 : acc.length + n ≤ 1000000) :
    evSs C body10 (tenv o P acc a (.sh (.str "keep")) (.sh (.int n))) = some (.nx [some o, some P, some (olOf (TrD (acc ++ keepT ls a n))), some (.sh (.int ((a + n : Nat) : Int))), some (.sh (.str "keep")), some (.sh (.int (n : Int))), none, none]) := by
  have q := ext_keep (C := C) (P := P) ho hs n acc a h1 h2 h3
  have e1 : ev C (.op .eq [.nm 4, .c (.str "put")]) (tenv o P acc a (.sh (.str "keep")) (.sh (.int n))) = some (.sh (.bool false), tenv o P acc a (.sh (.str "keep")) (.sh (.int n))) := by simp [rdO, prim, pEq, scalD, PyData.eqv, shB]
  have e2 : ev C (.op .eq [.nm 4, .c (.str "keep")]) (tenv o P acc a (.sh (.str "keep")) (.sh (.int n))) = some (.sh (.bool true), tenv o P acc a (.sh (.str "keep")) (.sh (.int n))) := by simp [rdO, prim, pEq, scalD, PyData.eqv, shB]
  have e3 : ev C (.op .add [.nm 3, .nm 5]) (tenv o P (acc ++ keepT ls a n) a (.sh (.str "keep")) (.sh (.int n))) = some (.sh (.int ((a + n : Nat) : Int)), tenv o P (acc ++ keepT ls a n) a (.sh (.str "keep")) (.sh (.int n))) := by simp [rdO, prim, pAdd, shI]
  refine (seq1 (ρ1 := tenv o P acc a (.sh (.str "keep")) (.sh (.int n))) ?_).trans ((seq1 (ρ1 := tenv o P (acc ++ keepT ls a n) a (.sh (.str "keep")) (.sh (.int n))) ?_).trans ((seq1 (ρ1 := _) ?_).trans evSs_nil))
  · rw [evS_ite, e1]
    rfl
  · rw [evS_ite, e2, onB_t]
    rw [evSs_cons, evS_ex, q]
    rfl
  · rw [evS_asg, e3]
    rfl
theorem body10_take {C : Cal} {o P : O} (n : Nat) (acc : Tr) (a : Nat) : evSs C body10 (tenv o P acc a (.sh (.str "take")) (.sh (.int n))) = some (.nx [some o, some P, some (olOf (TrD acc)), some (.sh (.int ((a + n : Nat) : Int))), some (.sh (.str "take")), some (.sh (.int (n : Int))), none, none]) := by
  simp [body10, rdO, prim, pEq, scalD, PyData.eqv, shB, pAdd, shI]
theorem walk_p (es : List Ed) : walk .sq [.sh (pD es)] = some (es.map fun e => .sh e.d) := by simp [walk, pD]
theorem f11_ok {k : Nat} (h : 1 ≤ k) {o : O} {ls : List Str} (ho : o.isFlat = true) (hs : o.seq? = some (sL ls)) (hl : ls.length ≤ 1000) {es : List Ed} (h1 : span es = ls.length) (h2 : late es ≤ 1000) :
    RF k 11 [o, .sh (pD es)] = some (.sh (.list (TrD (tr ls 0 es))), [o, .sh (pD es)]) := by
  obtain ⟨k, rfl, _⟩ := posK h
  have hl2 : ls.length ≤ 100000 := Nat.le_trans hl (by omega)
  have h3 : ([] : Tr).length + late es ≤ 1000000 := by
    rw [List.length_nil]
    omega
  obtain ⟨s4, s5, q⟩ := trace_loop (C := RF k) (o := o) (P := .sh (pD es)) (ls := ls) (body := body10) (fun xs acc a hx => ⟨_, body10_put xs acc a hx, .inr rfl⟩) (fun n acc a h1 h2 h3 => body10_keep ho hs n acc a h1 h2 h3) (fun n acc a _ => body10_take n acc a) hl2 es [] 0 none none (by omega) h3
  refine run_rt (fd := f11) (ρ := [some o, some (.sh (pD es)), some (.sh (.list (TrD (tr ls 0 es)))), some (.sh (.int ((0 + span es : Nat) : Int))), s4, s5, none, none]) rfl rfl ?_ rfl
  refine (seq1 (ρ1 := [some o, some (.sh (pD es)), some (olOf (TrD [])), some (.sh (.int ((0 : Nat) : Int))), none, none, none, none]) ?_).trans ((seq1 (ρ1 := [some o, some (.sh (pD es)), some (olOf (TrD (tr ls 0 es))), some (.sh (.int ((0 + span es : Nat) : Int))), s4, s5, none, none]) ?_).trans ?_)
  · simp [f11, startAll, Qv.putAll, TrD]
  · rw [evS_fr]
    simp only [evs_cons, evs_nil, ev_nm, rdV, List.getElem?_cons_succ, List.getElem?_cons_zero, Option.bind_some, List.map_cons, List.map_nil, d_sh, walk_p]
    exact q
  · exact s_retol rfl
end L83
end
section
set_option Elab.async false
set_option linter.all false
set_option maxRecDepth 100000
set_option maxHeartbeats 2000000
namespace L83
open PySem PySem.Spec PyProof.Rows L2 Qv
/-- the lines of a trace -/
def lin (t : Tr) : List Str := t.map (·.1)
theorem bind2 {C : Cal} {i j : Nat} {q : Str × Option Nat} {ρ : Qv.Env} (hi : i < ρ.length) (hj : j < ρ.length) : bindTg (.tp [.nm i, .nm j]) (.sh (itD q)) ρ = some ((ρ.set i (some (.sh (.str q.1)))).set j (some (.sh (optD q.2)))) := by
  simp [bindTg, bindTgs, itD, hi, hj]
theorem f14_ok {k : Nat} (h : 2 ≤ k) {d : PyData} {ls : List Str} (hs : (O.sh d).seq? = some (sL ls)) (hl : ls.length ≤ 1000) {es : List Ed} (h1 : span es = ls.length) (h2 : late es ≤ 1000) (hd : ∃ ds, d = .list ds) :
    RF k 14 [.sh d, .sh (pD es)] = some (.sh (.list (sL (lin (tr ls 0 es)))), [.sh d, .sh (pD es)]) := by
  obtain ⟨k, rfl, hk⟩ := posK h
  have q := f11_ok (k := k) hk (o := .sh d) rfl hs hl h1 h2
  refine run_rt (fd := f14) (ρ := [some (.sh d), some (.sh (pD es)), none, none]) rfl rfl ?_ rfl
  have e1 : evs (RF k) [.call 11 [.nm 0, .nm 1]] [some (.sh d), some (.sh (pD es)), none, none] = some ([.sh (.list (TrD (tr ls 0 es)))], [some (.sh d), some (.sh (pD es)), none, none]) := by simp [rdO, lend, q, back]
  have lc : ev (RF k) (.lc [2, 3] (.tp [.nm 2, .nm 3]) .sq [.call 11 [.nm 0, .nm 1]] [] (.nm 2)) [some (.sh d), some (.sh (pD es)), none, none] = some (olOf (sL (lin (tr ls 0 es))), [some (.sh d), some (.sh (pD es)), none, none]) := by
    rw [lc_ofA (fun q : Str × Option Nat => .sh (itD q)) (fun q => some (.sh (.str q.1))) (tr ls 0 es) e1 (by simp [walk, TrD, Function.comp_def]) (fun q hq => ?_) (by rw [tr_len]; omega), fm_some, olmap]
    · simp [forget, sL, lin, Function.comp_def]
    · simp [lcT, forget, bindTg, bindTgs, itD, rdV]
  show evSs (RF k) [.ret (.fz (.lc [2, 3] (.tp [.nm 2, .nm 3]) .sq [.call 11 [.nm 0, .nm 1]] [] (.nm 2)))] [some (.sh d), some (.sh (pD es)), none, none] = _
  rw [evSs_cons, evS_ret, ev_fz, lc]
  simp
def Ed.costO : Ed → Option Int
  | .put ls => some ls.length
  | .keep _ => none
  | .take n => some n
def costs (es : List Ed) : List Int := es.filterMap Ed.costO
theorem cost_body {C : Cal} (es : List Ed) (hl : es.length ≤ 1000000) : evSs C f15.body [some (.sh (pD es)), none, none] = some (.rt (shI (costs es).sum) [some (.sh (pD es)), none, none]) := by
  have lc : ev C (.lc [1, 2] (.tp [.nm 1, .nm 2]) .sq [.nm 0] [.op .ne [.nm 1, .c (.str "keep")]] (.ite (.op .eq [.nm 1, .c (.str "put")]) (.op .len [.nm 2]) (.nm 2))) [some (.sh (pD es)), none, none] = some (olOf ((costs es).map PyData.int), [some (.sh (pD es)), none, none]) := by
    rw [lc_ofA (fun e : Ed => .sh e.d) (fun e => (e.costO).map shI) es (ρ1 := [some (.sh (pD es)), none, none]) (os := [.sh (pD es)]) (by simp [rdV]) (walk_p es) (fun e he => ?_) hl]
    · have : ∀ es : List Ed, O.ol (es.filterMap fun e => (e.costO).map shI) = olOf ((costs es).map PyData.int) := fun es => by
        induction es with
        | nil => rfl
        | cons e es ih =>
          unfold costs at ih ⊢
          simp only [olOf, O.ol.injEq] at ih ⊢
          cases e with
          | put l => exact congrArg (List.cons _) ih
          | keep n => exact ih
          | take n => exact congrArg (List.cons _) ih
      rw [this]
      simp [forget]
    · cases e <;> simp [lcT, forget, bindTg, bindTgs, Ed.d, rdV, rdO, prim, u1, pLen, pEq, scalD, PyData.eqv, shB, shI, Ed.costO, sL_len]
  show evSs C [.ret (.op .sum [.lc [1, 2] (.tp [.nm 1, .nm 2]) .sq [.nm 0] [.op .ne [.nm 1, .c (.str "keep")]] (.ite (.op .eq [.nm 1, .c (.str "put")]) (.op .len [.nm 2]) (.nm 2))])] _ = _
  rw [evSs_cons, evS_ret, ev_op, evOs_lc, lc]
  have q : pSum (olOf ((costs es).map PyData.int)) = some (shI (costs es).sum) := pSum_ints
  simp [prim, u1, q]
theorem f15_ok {k : Nat} (h : 1 ≤ k) (es : List Ed) (hl : es.length ≤ 1000000) : RF k 15 [.sh (pD es)] = some (shI (costs es).sum, [.sh (pD es)]) := by
  obtain ⟨k, rfl, _⟩ := posK h
  exact run_rt (fd := f15) rfl rfl (cost_body es hl) rfl
end L83
end
section
set_option Elab.async false
set_option linter.all false
set_option maxRecDepth 100000
set_option maxHeartbeats 2000000
namespace L83
open PySem PySem.Spec PyProof.Rows L2 Qv
/-! ### normal forms -/
def eL (es : List Ed) : List PyData := es.map Ed.d
def Ed.lay : Ed → Prop
  | .put ls => ∀ l ∈ ls, LineOk l
  | _ => True
theorem canEd {e : Ed} (h : e.lay) : PyData.canLay0 e.d = true := by
  cases e with
  | put ls =>
    have := canAll h
    change PyData.canLayAll0 (sL ls) = true at this
    have w : PyData.canLay0 (.str (Str.ofString "put")) = true := by decide +kernel
    simp [Ed.d, PyData.canLay0, PyData.canLayAll0, this] at w ⊢
    exact w
  | keep n =>
    have w : PyData.canLay0 (.str (Str.ofString "keep")) = true := by decide +kernel
    simp [Ed.d, PyData.canLay0, PyData.canLayAll0] at w ⊢
    exact w
  | take n =>
    have w : PyData.canLay0 (.str (Str.ofString "take")) = true := by decide +kernel
    simp [Ed.d, PyData.canLay0, PyData.canLayAll0] at w ⊢
    exact w
theorem canEs : ∀ {es : List Ed}, (∀ e ∈ es, e.lay) → PyData.canLayAll0 (eL es) = true
  | [], _ => by simp [eL, PyData.canLayAll0]
  | e :: es, h => by
    simp only [eL, List.map_cons, PyData.canLayAll0, Bool.and_eq_true]
    exact ⟨canEd (h e List.mem_cons_self), canEs fun x m => h x (List.mem_cons_of_mem _ m)⟩
theorem depthEd (e : Ed) : PyData.depth e.d ≤ 2 := by
  cases e <;> simp [Ed.d, sL, PyData.depth, PyData.depthAll, depthAll_str]
theorem depthEs : ∀ es : List Ed, PyData.depthAll (eL es) ≤ 2
  | [] => by simp [eL, PyData.depthAll]
  | e :: es => by
    have h1 := depthEd e
    have h2 := depthEs es
    simp only [eL, List.map_cons, PyData.depthAll] at h2 ⊢
    omega
theorem shapedE {es : List Ed} (h : ∀ e ∈ es, e.lay) : SeqAt.shaped (.list (eL es)) = true := by
  unfold SeqAt.shaped
  rw [show PyData.canLay0 (.list (eL es)) = true by simpa only [PyData.canLay0] using canEs h]
  have h2 := depthEs es
  have h3 : PyData.depth (.list (eL es)) ≤ 64 := by
    simp only [PyData.depth]
    omega
  rw [decide_eq_true h3]
  rfl
theorem eqv_nil {α : Type} (f : α → PyData) (xs : List α) : PyData.eqv (.list (xs.map f)) (.list []) = xs.isEmpty := by
  cases xs <;> simp [PyData.eqv, PyData.eqvAll]
/-- `x != []` -/
theorem ne_nil {C : Cal} {ρ : Qv.Env} {i : Nat} {α : Type} {f : α → PyData} {xs : List α} (h : ρ[i]? = some (some (olOf (xs.map f)))) (hs : SeqAt.shaped (.list (xs.map f)) = true) : ev C (.op .ne [.nm i, .lst []]) ρ = some (.sh (.bool (!xs.isEmpty)), ρ) := by
  have e0 : (olOf []).d = .list [] := by simp
  simp [rdO, h, prim, pEq, scalD, gd, hs, eqv_nil, shB]
abbrev nenv (many : Nat) (T : O) (es : List Ed) (a : Nat) (new : List Str) (x y : Option O) : Qv.Env := [some (.sh (.int many)), some T, some (olOf (eL es)), some (.sh (.int a)), some (olOf (sL new)), x, y]
section
variable {C : Cal} {many : Nat} {T : O} {es : List Ed} {a : Nat} {new : List Str} {x : Option O} {p : Nat}
theorem ext_ed {e : Qv.T} {y : Option O} {fs : List Ed} (hn : isNm e = none) (h1 : ev C e (nenv many T es a new x y) = some (olOf (eL fs), nenv many T es a new x y)) (hl : es.length + fs.length ≤ 1000000) :
    ev C (.ext 2 [e]) (nenv many T es a new x y) = some (.sh .none, nenv many T (es ++ fs) a new x y) := by
  rw [ext_of (os0 := (eL es).map O.sh) (os := (eL es).map O.sh) hn rfl h1 rfl (by simp) (list_ol (ds := eL fs)) (sz_le (by simp [eL]; omega))]
  rw [olOf_app, show eL es ++ eL fs = eL (es ++ fs) from (List.map_append).symm]
  rfl
def tk (a p : Nat) : List Ed := if a < p then [.take (p - a)] else []
def pt (new : List Str) : List Ed := if new = [] then [] else [.put new]
theorem tk_len (a p : Nat) : (tk a p).length ≤ 1 := by unfold tk; split <;> simp
theorem pt_len (new : List Str) : (pt new).length ≤ 1 := by unfold pt; split <;> simp
theorem ext_take (hl : es.length + 1 ≤ 1000000) : ev C (.ext 2 [.ite (.op .gt [.nm 6, .nm 3]) (.lst [.tup [.c (.str "take"), .op .sub [.nm 6, .nm 3]]]) (.lst [])]) (nenv many T es a new x (some (.sh (.int p)))) = some (.sh .none, nenv many T (es ++ tk a p) a new x (some (.sh (.int p)))) := by
  refine ext_ed rfl ?_ (by have := tk_len a p; omega)
  rw [ev_ite]
  have c : ev C (.op .gt [.nm 6, .nm 3]) (nenv many T es a new x (some (.sh (.int p)))) = some (.sh (.bool (decide (a < p))), nenv many T es a new x (some (.sh (.int p)))) := by
    simp [rdO, prim, pCmp, shB]
  rw [c, onB_b]
  unfold tk
  by_cases h : a < p
  · have e : ((p - a : Nat) : Int) = (p : Int) - (a : Int) := by omega
    simp [h, rdO, prim, i2, shI, eL, Ed.d, e]
  · simp [h, eL]
theorem ext_put (hn : ∀ l ∈ new, LineOk l) (hl : es.length + 1 ≤ 1000000) : ev C (.ext 2 [.ite (.op .ne [.nm 4, .lst []]) (.lst [.tup [.c (.str "put"), .op .tuple1 [.nm 4]]]) (.lst [])]) (nenv many T es a new x (some (.sh (.int p)))) = some (.sh .none, nenv many T (es ++ pt new) a new x (some (.sh (.int p)))) := by
  refine ext_ed rfl ?_ (by have := pt_len new; omega)
  rw [ev_ite, ne_nil (f := PyData.str) (xs := new) rfl (shapedL hn), onB_b]
  unfold pt
  by_cases h : new = []
  · subst h
    simp [eL]
  · have e : new.isEmpty = false := by cases new <;> simp_all
    simp [h, e, rdO, prim, u1, pTuple, eL, Ed.d, sL]
theorem ext_kp (hl : es.length + 1 ≤ 1000000) : ev C (.ext 2 [.ite (.op .lt [.nm 6, .nm 0]) (.lst [.tup [.c (.str "keep"), .c (.int 1)]]) (.lst [])]) (nenv many T es a new x (some (.sh (.int p)))) = some (.sh .none, nenv many T (es ++ if p < many then [.keep 1] else []) a new x (some (.sh (.int p)))) := by
  refine ext_ed rfl ?_ (by split <;> simp <;> omega)
  rw [ev_ite]
  have c : ev C (.op .lt [.nm 6, .nm 0]) (nenv many T es a new x (some (.sh (.int p)))) = some (.sh (.bool (decide (p < many))), nenv many T es a new x (some (.sh (.int p)))) := by
    simp [rdO, prim, pCmp, shB]
  rw [c, onB_b]
  by_cases h : p < many <;> simp [h, eL, Ed.d]
end
def body12 : List S := [.ite (.op .isnone [.nm 6]) [.ex (.app 4 (.nm 5)),
    .cont] [],
    .ex (.ext 2 [.ite (.op .gt [.nm 6, .nm 3]) (.lst [.tup [.c (.str "take"), .op .sub [.nm 6, .nm 3]]]) (.lst [])]),
    .ex (.ext 2 [.ite (.op .ne [.nm 4, .lst []]) (.lst [.tup [.c (.str "put"), .op .tuple1 [.nm 4]]]) (.lst [])]),
    .ex (.ext 2 [.ite (.op .lt [.nm 6, .nm 0]) (.lst [.tup [.c (.str "keep"), .c (.int 1)]]) (.lst [])]),
    .par [3, 4] [.op .add [.nm 6, .c (.int 1)], .lst []]]
section
variable {C : Cal} {many : Nat} {T : O} {es : List Ed} {a : Nat} {new : List Str} {x : Option O} {p : Nat}
theorem isn_int : ev C (.op .isnone [.nm 6]) (nenv many T es a new x (some (.sh (.int p)))) = some (.sh (.bool false), nenv many T es a new x (some (.sh (.int p)))) := by simp [rdO, prim, u1, isNon, shB]
theorem isn_non : ev C (.op .isnone [.nm 6]) (nenv many T es a new x (some (.sh .none))) = some (.sh (.bool true), nenv many T es a new x (some (.sh .none))) := by simp [rdO, prim, u1, isNon, shB]
theorem app_new (l : Str) (hl : new.length + 1 ≤ 1000000) : ev C (.app 4 (.nm 5)) (nenv many T es a new (some (.sh (.str l))) (some (.sh .none))) = some (.sh .none, nenv many T es a (new ++ [l]) (some (.sh (.str l))) (some (.sh .none))) := by
  rw [app_of (os0 := (sL new).map O.sh) (os := (sL new).map O.sh) (v := .sh (.str l)) (ρ1 := nenv many T es a new (some (.sh (.str l))) (some (.sh .none))) rfl (by simp [rdV]) rfl (Nat.lt_of_lt_of_le (show _ < 1000001 by simp [sL]; omega) (by decide))]
  simp [olOf, sL]
theorem body12_none (l : Str) (hl : new.length + 1 ≤ 1000000) : evSs C body12 (nenv many T es a new (some (.sh (.str l))) (some (.sh .none))) = some (.ct (nenv many T es a (new ++ [l]) (some (.sh (.str l))) (some (.sh .none)))) := by
  unfold body12
  rw [evSs_cons, evS_ite, isn_non, onB_t, evSs_cons, evS_ex, app_new l hl]
  simp only [Option.bind_some, thenS_nx, evSs_cons, evS_cont, thenS_ct]
theorem fin_par : evSs C [.par [3, 4] [.op .add [.nm 6, .c (.int 1)], .lst []]] (nenv many T es a new x (some (.sh (.int p)))) = some (.nx (nenv many T es (p + 1) [] x (some (.sh (.int p))))) := by
  simp [rdO, prim, pAdd, shI, Qv.putAll, sL]
theorem body12_some (hn : ∀ l ∈ new, LineOk l) (hl : es.length + 3 ≤ 1000000) : evSs C body12 (nenv many T es a new x (some (.sh (.int p)))) = some (.nx (nenv many T (es ++ tk a p ++ pt new ++ if p < many then [.keep 1] else []) (p + 1) [] x (some (.sh (.int p))))) := by
  have h1 := tk_len a p
  have h2 := pt_len new
  unfold body12
  refine (seq1 (ρ1 := nenv many T es a new x (some (.sh (.int p)))) (by rw [evS_ite, isn_int, onB_f, evSs_nil])).trans ?_
  refine (seq1 (ρ1 := _) (by rw [evS_ex, ext_take (by omega)]; rfl)).trans ?_
  refine (seq1 (ρ1 := _) (by rw [evS_ex, ext_put hn (by rw [List.length_append]; omega)]; rfl)).trans ?_
  refine (seq1 (ρ1 := _) (by rw [evS_ex, ext_kp (by rw [List.length_append, List.length_append]; omega)]; rfl)).trans ?_
  exact fin_par
end
end L83
end
section
set_option Elab.async false
set_option linter.all false
set_option maxRecDepth 100000
set_option maxHeartbeats 2000000
namespace L83
open PySem PySem.Spec PyProof.Rows L2 Qv
def Ed.word : Ed → Str
  | .put _ => "put"
  | .keep _ => "keep"
  | .take _ => "take"
def Ed.kind : Ed → Nat
  | .put _ => 1
  | .keep _ => 2
  | .take _ => 3
def Ed.told : Ed → PyData
  | .put ls => .tuple (sL ls)
  | .keep n => .int n
  | .take n => .int n
theorem Ed.d_eq (e : Ed) : e.d = .tuple [.str e.word, e.told] := by cases e <;> rfl
def addK (es : List Ed) : List Ed := match es.getLast? with
  | some (.keep n) => es.dropLast ++ [.keep (n + 1)]
  | _ => es ++ [.keep 1]
def addM (es : List Ed) (e : Ed) : List Ed := match es.getLast?, e with
  | some (.keep m), .keep n => es.dropLast ++ [.keep (m + n)]
  | _, _ => es ++ [e]
theorem addM_keep1 (es : List Ed) : addM es (.keep 1) = addK es := by
  unfold addM addK
  cases es.getLast? with
  | none => rfl
  | some e => cases e <;> rfl
theorem addM_put (es : List Ed) (ls : List Str) : addM es (.put ls) = es ++ [.put ls] := by
  unfold addM
  split <;> simp_all
theorem addM_take (es : List Ed) (n : Nat) : addM es (.take n) = es ++ [.take n] := by
  unfold addM
  split <;> simp_all
theorem item_ol {ds : List PyData} {i : Int} : pItem [olOf ds, .sh (.int i)] = (atI ds i).map O.sh := by
  show (match (olOf ds).seq? with
    | some ds => (atI ds i).map O.sh
    | none => none) = _
  rw [seq_ol]
section
variable {C : Cal} {ρ : Qv.Env} {i : Nat} {es : List Ed} {e : Ed}
theorem ev_last (h : ρ[i]? = some (some (olOf (eL (es ++ [e]))))) : ev C (.op .item [.nm i, .op .neg [.c (.int 1)]]) ρ = some (.sh e.d, ρ) := by
  have q : atI (eL (es ++ [e])) (-1) = some e.d := by
    unfold eL
    rw [List.map_append]
    exact atI_last _ _
  simp [rdO, h, prim, u1, pNeg, shI, item_ol, q]
theorem ev_last0 (h : ρ[i]? = some (some (olOf (eL (es ++ [e]))))) : ev C (.op .item [.op .item [.nm i, .op .neg [.c (.int 1)]], .c (.int 0)]) ρ = some (.sh (.str e.word), ρ) := by
  rw [ev_op, evOs_op, ev_last h, e.d_eq]
  simp [prim]
theorem ev_last1 (h : ρ[i]? = some (some (olOf (eL (es ++ [e]))))) : ev C (.op .item [.op .item [.nm i, .op .neg [.c (.int 1)]], .c (.int 1)]) ρ = some (.sh e.told, ρ) := by
  rw [ev_op, evOs_op, ev_last h, e.d_eq]
  simp [prim]
theorem st_last {f : Ed} (h : ρ[i]? = some (some (olOf (eL (es ++ [e]))))) : bindTa C (.st i (.op .neg [.c (.int 1)])) (.sh f.d) ρ = some (ρ.set i (some (olOf (eL (es ++ [f]))))) := by
  have l : ((eL (es ++ [e])).map O.sh).length = es.length + 1 := by simp [eL]
  have q : ixN (es.length + 1) (-1) = some es.length := by
    unfold ixN
    rw [if_neg (by omega)]
    simp
    omega
  have s : (((eL (es ++ [e])).map O.sh).set es.length (.sh f.d)) = (eL (es ++ [f])).map O.sh := by
    simp [eL]
  have h' : ρ[i]? = some (some (.ol ((eL (es ++ [e])).map O.sh))) := h
  simp only [bindTa, rdO, h', evOs_op, evOs_nil, ev_op, evOs_c, Option.bind_some, rdOs_cons, rdOs_nil, rdO_tv, flat_sh, if_true, prim, u1, pNeg, shI, l, q, d_sh, s]
  rfl
end
def body26 : List S := [.ite (.op .isnone [.nm 6]) [.ex (.app 4 (.nm 5))] [.ex (.ext 2 [.ite (.op .gt [.nm 6, .nm 3]) (.lst [.tup [.c (.str "take"), .op .sub [.nm 6, .nm 3]]]) (.lst [])]),
    .ex (.ext 2 [.ite (.op .ne [.nm 4, .lst []]) (.lst [.tup [.c (.str "put"), .op .tuple1 [.nm 4]]]) (.lst [])]),
    .ite (.and2 (.op .lt [.nm 6, .nm 0]) (.and2 (.op .ne [.nm 2, .lst []]) (.op .eq [.op .item [.op .item [.nm 2, .op .neg [.c (.int 1)]], .c (.int 0)], .c (.str "keep")]))) [.asg (.st 2 (.op .neg [.c (.int 1)])) (.tup [.c (.str "keep"), .op .add [.op .item [.op .item [.nm 2, .op .neg [.c (.int 1)]], .c (.int 1)], .c (.int 1)]])] [.ite (.op .lt [.nm 6, .nm 0]) [.ex (.app 2 (.tup [.c (.str "keep"), .c (.int 1)]))] []],
    .par [3, 4] [.op .add [.nm 6, .c (.int 1)], .lst []]]]
section
variable {C : Cal} {many : Nat} {T : O} {es : List Ed} {a : Nat} {new : List Str} {x : Option O} {p : Nat}
theorem lt_many : ev C (.op .lt [.nm 6, .nm 0]) (nenv many T es a new x (some (.sh (.int p)))) = some (.sh (.bool (decide (p < many))), nenv many T es a new x (some (.sh (.int p)))) := by
  simp [rdO, prim, pCmp, shB]
theorem app_keep (hl : es.length + 1 ≤ 1000000) : ev C (.app 2 (.tup [.c (.str "keep"), .c (.int 1)])) (nenv many T es a new x (some (.sh (.int p)))) = some (.sh .none, nenv many T (es ++ [.keep 1]) a new x (some (.sh (.int p)))) := by
  rw [app_of (os0 := (eL es).map O.sh) (os := (eL es).map O.sh) (v := .sh (Ed.keep 1).d) (ρ1 := nenv many T es a new x (some (.sh (.int p)))) rfl (by simp [Ed.d]) rfl (Nat.lt_of_lt_of_le (show _ < 1000001 by simp [eL]; omega) (by decide))]
  simp [olOf, eL]
theorem keep_step (hy : ∀ e ∈ es, e.lay) (hl : es.length + 1 ≤ 1000000) : evS C (.ite (.and2 (.op .lt [.nm 6, .nm 0]) (.and2 (.op .ne [.nm 2, .lst []]) (.op .eq [.op .item [.op .item [.nm 2, .op .neg [.c (.int 1)]], .c (.int 0)], .c (.str "keep")]))) [.asg (.st 2 (.op .neg [.c (.int 1)])) (.tup [.c (.str "keep"), .op .add [.op .item [.op .item [.nm 2, .op .neg [.c (.int 1)]], .c (.int 1)], .c (.int 1)]])] [.ite (.op .lt [.nm 6, .nm 0]) [.ex (.app 2 (.tup [.c (.str "keep"), .c (.int 1)]))] []])
    (nenv many T es a new x (some (.sh (.int p)))) = some (.nx (nenv many T (if p < many then addK es else es) a new x (some (.sh (.int p))))) := by
  rw [evS_ite, ev_and, lt_many]
  by_cases h : p < many
  · rw [decide_eq_true h, onB_t, ev_and, ne_nil (f := Ed.d) (xs := es) rfl (shapedE hy), if_pos h]
    rcases List.eq_nil_or_concat es with rfl | ⟨r, e, rfl⟩
    · have q := app_keep (C := C) (many := many) (T := T) (es := []) (a := a) (new := new) (x := x) (p := p) (by simp)
      rw [show (!([] : List Ed).isEmpty) = false from rfl, onB_f, onB_f, evSs_cons, evS_ite, lt_many, decide_eq_true h, onB_t, evSs_cons, evS_ex, q]
      simp [addK]
    · rw [List.concat_eq_append] at *
      have ne : (!(r ++ [e]).isEmpty) = true := by cases r <;> rfl
      have eq : ev C (.op .eq [.op .item [.op .item [.nm 2, .op .neg [.c (.int 1)]], .c (.int 0)], .c (.str "keep")]) (nenv many T (r ++ [e]) a new x (some (.sh (.int p)))) = some (.sh (.bool (e.word == "keep")), nenv many T (r ++ [e]) a new x (some (.sh (.int p)))) := by
        rw [ev_op, evOs_op, ev_last0 (es := r) (e := e) rfl]
        simp [prim, pEq, scalD, PyData.eqv, shB]
      rw [ne, onB_t, eq]
      have q := app_keep (C := C) (many := many) (T := T) (es := r ++ [e]) (a := a) (new := new) (x := x) (p := p) hl
      have other : (e.word == ("keep" : Str)) = false → addK (r ++ [e]) = r ++ [e] ++ [.keep 1] → onB (some (O.sh (.bool (e.word == "keep")), nenv many T (r ++ [e]) a new x (some (.sh (.int p))))) (fun ρ => evSs C [.asg (.st 2 (.op .neg [.c (.int 1)])) (.tup [.c (.str "keep"), .op .add [.op .item [.op .item [.nm 2, .op .neg [.c (.int 1)]], .c (.int 1)], .c (.int 1)]])] ρ)
          (fun ρ => evSs C [.ite (.op .lt [.nm 6, .nm 0]) [.ex (.app 2 (.tup [.c (.str "keep"), .c (.int 1)]))] []] ρ) = some (.nx (nenv many T (addK (r ++ [e])) a new x (some (.sh (.int p))))) := fun w k => by
        rw [w, k, onB_f, evSs_cons, evS_ite, lt_many, decide_eq_true h, onB_t, evSs_cons, evS_ex, q]
        rfl
      cases e with
      | put ls => exact other w_pk (by simp [addK])
      | take n => exact other w_tk (by simp [addK])
      | keep n =>
        rw [show ((Ed.keep n).word == ("keep" : Str)) = true from w_kk, onB_t, evSs_cons, evS_asg]
        have v : ev C (.tup [.c (.str "keep"), .op .add [.op .item [.op .item [.nm 2, .op .neg [.c (.int 1)]], .c (.int 1)], .c (.int 1)]]) (nenv many T (r ++ [.keep n]) a new x (some (.sh (.int p)))) = some (.sh (Ed.keep (n + 1)).d, nenv many T (r ++ [.keep n]) a new x (some (.sh (.int p)))) := by
          rw [ev_tup, evs_cons, ev_c]
          simp only [Option.bind_some]
          rw [evs_cons, ev_op, evOs_op, ev_last1 (es := r) (e := .keep n) rfl]
          simp [prim, pAdd, shI, Ed.told, Ed.d]
        rw [v]
        simp only [Option.bind_some]
        rw [st_last (es := r) (e := .keep n) (f := .keep (n + 1)) rfl]
        simp [addK]
  · rw [decide_eq_false h, onB_f, onB_f, if_neg h, evSs_cons, evS_ite, lt_many, decide_eq_false h, onB_f]
    rfl
theorem body26_none (l : Str) (hl : new.length + 1 ≤ 1000000) : evSs C body26 (nenv many T es a new (some (.sh (.str l))) (some (.sh .none))) = some (.nx (nenv many T es a (new ++ [l]) (some (.sh (.str l))) (some (.sh .none)))) := by
  unfold body26
  rw [evSs_cons, evS_ite, isn_non, onB_t, evSs_cons, evS_ex, app_new l hl]
  rfl
theorem body26_some (hn : ∀ l ∈ new, LineOk l) (hy : ∀ e ∈ es, e.lay) (hl : es.length + 3 ≤ 1000000) : evSs C body26 (nenv many T es a new x (some (.sh (.int p)))) =
    some (.nx (nenv many T (if p < many then addK (es ++ tk a p ++ pt new) else es ++ tk a p ++ pt new) (p + 1) [] x (some (.sh (.int p))))) := by
  have h1 := tk_len a p
  have h2 := pt_len new
  have hy2 : ∀ e ∈ es ++ tk a p ++ pt new, e.lay := fun e m => by
    rw [List.mem_append, List.mem_append] at m
    rcases m with (m | m) | m
    · exact hy e m
    · unfold tk at m
      split at m
      · rw [List.mem_singleton] at m
        subst m
        trivial
      · cases m
    · unfold pt at m
      split at m
      · cases m
      · rw [List.mem_singleton] at m
        subst m
        exact hn
  unfold body26
  refine (seq1 (ρ1 := nenv many T (if p < many then addK (es ++ tk a p ++ pt new) else es ++ tk a p ++ pt new) (p + 1) [] x (some (.sh (.int p)))) ?_).trans evSs_nil
  rw [evS_ite, isn_int, onB_f]
  refine (seq1 (ρ1 := _) (by rw [evS_ex, ext_take (by omega)]; rfl)).trans ?_
  refine (seq1 (ρ1 := _) (by rw [evS_ex, ext_put hn (by rw [List.length_append]; omega)]; rfl)).trans ?_
  refine (seq1 (ρ1 := _) (keep_step hy2 (by rw [List.length_append, List.length_append]; omega))).trans ?_
  exact fin_par
end
end L83
end
section
set_option Elab.async false
set_option linter.all false
set_option maxRecDepth 100000
set_option maxHeartbeats 2000000
namespace L83
open PySem PySem.Spec PyProof.Rows L2 Qv
def rawR (many : Nat) : Tr → List Ed → Nat → List Str → List Ed × Nat × List Str
  | [], es, a, new => (es, a, new)
  | (x, none) :: t, es, a, new => rawR many t es a (new ++ [x])
  | (_, some p) :: t, es, a, new => rawR many t (es ++ tk a p ++ pt new ++ if p < many then [.keep 1] else []) (p + 1) []
def nrmR (many : Nat) : Tr → List Ed → Nat → List Str → List Ed × Nat × List Str
  | [], es, a, new => (es, a, new)
  | (x, none) :: t, es, a, new => nrmR many t es a (new ++ [x])
  | (_, some p) :: t, es, a, new => nrmR many t (if p < many then addK (es ++ tk a p ++ pt new) else es ++ tk a p ++ pt new) (p + 1) []
def raw (many : Nat) (t : Tr) : List Ed := let s := rawR many t [] 0 []; s.1 ++ tk s.2.1 many ++ pt s.2.2
def nrm (many : Nat) (t : Tr) : List Ed := let s := nrmR many t [] 0 []; s.1 ++ tk s.2.1 many ++ pt s.2.2
theorem fold_tk (N : List Ed) (a p : Nat) : (tk a p).foldl addM N = N ++ tk a p := by
  unfold tk
  split
  · simp [addM_take]
  · simp
theorem fold_pt (N : List Ed) (new : List Str) : (pt new).foldl addM N = N ++ pt new := by
  unfold pt
  split
  · simp
  · simp [addM_put]
theorem nrm_raw (many : Nat) : ∀ (t : Tr) (R N : List Ed) (a : Nat) (new : List Str), N = R.foldl addM [] → (nrmR many t N a new).1 = (rawR many t R a new).1.foldl addM [] ∧ (nrmR many t N a new).2 = (rawR many t R a new).2
  | [], R, N, a, new, h => ⟨h, rfl⟩
  | (x, none) :: t, R, N, a, new, h => nrm_raw many t R N a (new ++ [x]) h
  | (x, some p) :: t, R, N, a, new, h => by
    simp only [nrmR, rawR]
    refine nrm_raw many t _ _ (p + 1) [] ?_
    rw [List.foldl_append, List.foldl_append, List.foldl_append, ← h, fold_tk, fold_pt]
    split
    · simp [addM_keep1]
    · simp
theorem nrm_eq (many : Nat) (t : Tr) : nrm many t = (raw many t).foldl addM [] := by
  obtain ⟨h1, h2⟩ := nrm_raw many t [] [] 0 [] rfl
  unfold nrm raw
  simp only [h1, h2, List.foldl_append, fold_tk, fold_pt]
/-! ### sizes, lines -/
theorem addK_len (es : List Ed) : (addK es).length ≤ es.length + 1 := by
  unfold addK
  split
  · rename_i n h
    rw [List.length_append, List.length_dropLast, List.length_singleton]
    omega
  · simp
theorem addK_lay {es : List Ed} (h : ∀ e ∈ es, e.lay) : ∀ e ∈ addK es, e.lay := fun e m => by
  unfold addK at m
  split at m
  · rcases List.mem_append.mp m with m | m
    · exact h e (List.dropLast_subset _ m)
    · rw [List.mem_singleton] at m
      subst m
      trivial
  · rcases List.mem_append.mp m with m | m
    · exact h e m
    · rw [List.mem_singleton] at m
      subst m
      trivial
theorem tk_lay {a p : Nat} : ∀ e ∈ tk a p, e.lay := fun e m => by
  unfold tk at m
  split at m
  · rw [List.mem_singleton] at m
    subst m
    trivial
  · cases m
theorem pt_lay {new : List Str} (h : ∀ l ∈ new, LineOk l) : ∀ e ∈ pt new, e.lay := fun e m => by
  unfold pt at m
  split at m
  · cases m
  · rw [List.mem_singleton] at m
    subst m
    exact h
/-! ### the loops -/
noncomputable abbrev stepF (C : Cal) (body : List S) : O → Qv.Env → Option Out := fun x ρ2 => (bindTg (.tp [.nm 5, .nm 6]) x ρ2).bind fun ρ3 => evSs C body ρ3
theorem nrm_loop {C : Cal} {many : Nat} {T : O} : ∀ (t : Tr) (es : List Ed) (a : Nat) (new : List Str) (x y : Option O), (∀ q ∈ t, LineOk q.1) → (∀ l ∈ new, LineOk l) → (∀ e ∈ es, e.lay) → es.length + 3 * t.length + 3 ≤ 900000 → new.length + t.length ≤ 900000 →
    ∃ x' y', (∀ ys, frGo (stepF C body26) ((t.map fun q => .sh (itD q)) ++ ys) (nenv many T es a new x y) = frGo (stepF C body26) ys (nenv many T (nrmR many t es a new).1 (nrmR many t es a new).2.1 (nrmR many t es a new).2.2 x' y')) ∧
      (∀ l ∈ (nrmR many t es a new).2.2, LineOk l) ∧ (∀ e ∈ (nrmR many t es a new).1, e.lay) ∧ (nrmR many t es a new).1.length ≤ es.length + 3 * t.length
  | [], es, a, new, x, y, _, h2, h3, _, _ => ⟨x, y, fun _ => rfl, h2, h3, by simp [nrmR]⟩
  | (l, none) :: t, es, a, new, x, y, h1, h2, h3, h4, h5 => by
    simp only [List.length_cons] at h4 h5
    have hl := h1 _ List.mem_cons_self
    obtain ⟨x', y', q1, q2, q3, q4⟩ := nrm_loop (C := C) (many := many) (T := T) t es a (new ++ [l]) (some (.sh (.str l))) (some (.sh .none)) (fun q m => h1 q (List.mem_cons_of_mem _ m)) (fun z m => (List.mem_append.mp m).elim (h2 z) fun m => by rw [List.mem_singleton.mp m]; exact hl) h3 (by omega) (by rw [List.length_append, List.length_singleton]; omega)
    refine ⟨x', y', fun ys => ?_, q2, q3, by simp only [nrmR, List.length_cons]; omega⟩
    simp only [nrmR]
    rw [← q1 ys]
    have b : bindTg (.tp [.nm 5, .nm 6]) (.sh (itD (l, none))) (nenv many T es a new x y) = some (nenv many T es a new (some (.sh (.str l))) (some (.sh .none))) := by simp [bindTg, bindTgs, itD, optD]
    simp only [List.map_cons, List.cons_append, frGo, stepF, b, Option.bind_some, body26_none l (by omega : new.length + 1 ≤ 1000000)]
  | (l, some p) :: t, es, a, new, x, y, h1, h2, h3, h4, h5 => by
    simp only [List.length_cons] at h4 h5
    have k1 := tk_len a p
    have k2 := pt_len new
    have hy : ∀ e ∈ es ++ tk a p ++ pt new, e.lay := fun e m => by
      rcases List.mem_append.mp m with m | m
      · rcases List.mem_append.mp m with m | m
        · exact h3 e m
        · exact tk_lay e m
      · exact pt_lay h2 e m
    have ln : (es ++ tk a p ++ pt new).length ≤ es.length + 2 := by
      rw [List.length_append, List.length_append]
      omega
    have hy2 : ∀ e ∈ (if p < many then addK (es ++ tk a p ++ pt new) else es ++ tk a p ++ pt new), e.lay := fun e m => by
      split at m
      · exact addK_lay hy e m
      · exact hy e m
    have ln2 : (if p < many then addK (es ++ tk a p ++ pt new) else es ++ tk a p ++ pt new).length ≤ es.length + 3 := by
      split
      · have := addK_len (es ++ tk a p ++ pt new)
        omega
      · omega
    obtain ⟨x', y', q1, q2, q3, q4⟩ := nrm_loop (C := C) (many := many) (T := T) t _ (p + 1) [] (some (.sh (.str l))) (some (.sh (.int p))) (fun q m => h1 q (List.mem_cons_of_mem _ m)) (fun z m => by cases m) hy2 (by omega) (by simp only [List.length_nil]; omega)
    refine ⟨x', y', fun ys => ?_, q2, q3, by simp only [nrmR, List.length_cons]; omega⟩
    simp only [nrmR]
    rw [← q1 ys]
    have b : bindTg (.tp [.nm 5, .nm 6]) (.sh (itD (l, some p))) (nenv many T es a new x y) = some (nenv many T es a new (some (.sh (.str l))) (some (.sh (.int p)))) := by simp [bindTg, bindTgs, itD, optD]
    simp only [List.map_cons, List.cons_append, frGo, stepF, b, Option.bind_some, body26_some (C := C) (many := many) (T := T) (x := some (.sh (.str l))) (p := p) (a := a) h2 h3 (by omega : es.length + 3 ≤ 1000000)]
theorem raw_loop {C : Cal} {many : Nat} {T : O} : ∀ (t : Tr) (es : List Ed) (a : Nat) (new : List Str) (x y : Option O), (∀ q ∈ t, LineOk q.1) → (∀ l ∈ new, LineOk l) → (∀ e ∈ es, e.lay) → es.length + 3 * t.length + 3 ≤ 900000 → new.length + t.length ≤ 900000 →
    ∃ x' y', (∀ ys, frGo (stepF C body12) ((t.map fun q => .sh (itD q)) ++ ys) (nenv many T es a new x y) = frGo (stepF C body12) ys (nenv many T (rawR many t es a new).1 (rawR many t es a new).2.1 (rawR many t es a new).2.2 x' y')) ∧
      (∀ l ∈ (rawR many t es a new).2.2, LineOk l) ∧ (∀ e ∈ (rawR many t es a new).1, e.lay) ∧ (rawR many t es a new).1.length ≤ es.length + 3 * t.length
  | [], es, a, new, x, y, _, h2, h3, _, _ => ⟨x, y, fun _ => rfl, h2, h3, by simp [rawR]⟩
  | (l, none) :: t, es, a, new, x, y, h1, h2, h3, h4, h5 => by
    simp only [List.length_cons] at h4 h5
    have hl := h1 _ List.mem_cons_self
    obtain ⟨x', y', q1, q2, q3, q4⟩ := raw_loop (C := C) (many := many) (T := T) t es a (new ++ [l]) (some (.sh (.str l))) (some (.sh .none)) (fun q m => h1 q (List.mem_cons_of_mem _ m)) (fun z m => (List.mem_append.mp m).elim (h2 z) fun m => by rw [List.mem_singleton.mp m]; exact hl) h3 (by omega) (by rw [List.length_append, List.length_singleton]; omega)
    refine ⟨x', y', fun ys => ?_, q2, q3, by simp only [rawR, List.length_cons]; omega⟩
    simp only [rawR]
    rw [← q1 ys]
    have b : bindTg (.tp [.nm 5, .nm 6]) (.sh (itD (l, none))) (nenv many T es a new x y) = some (nenv many T es a new (some (.sh (.str l))) (some (.sh .none))) := by simp [bindTg, bindTgs, itD, optD]
    simp only [List.map_cons, List.cons_append, frGo, stepF, b, Option.bind_some, body12_none l (by omega : new.length + 1 ≤ 1000000)]
  | (l, some p) :: t, es, a, new, x, y, h1, h2, h3, h4, h5 => by
    simp only [List.length_cons] at h4 h5
    have k1 := tk_len a p
    have k2 := pt_len new
    have hy2 : ∀ e ∈ es ++ tk a p ++ pt new ++ (if p < many then [Ed.keep 1] else []), e.lay := fun e m => by
      rcases List.mem_append.mp m with m | m
      · rcases List.mem_append.mp m with m | m
        · rcases List.mem_append.mp m with m | m
          · exact h3 e m
          · exact tk_lay e m
        · exact pt_lay h2 e m
      · split at m
        · rw [List.mem_singleton] at m
          subst m
          trivial
        · cases m
    have ln2 : (es ++ tk a p ++ pt new ++ (if p < many then [Ed.keep 1] else [])).length ≤ es.length + 3 := by
      rw [List.length_append, List.length_append, List.length_append]
      split <;> simp <;> omega
    obtain ⟨x', y', q1, q2, q3, q4⟩ := raw_loop (C := C) (many := many) (T := T) t _ (p + 1) [] (some (.sh (.str l))) (some (.sh (.int p))) (fun q m => h1 q (List.mem_cons_of_mem _ m)) (fun z m => by cases m) hy2 (by omega) (by simp only [List.length_nil]; omega)
    refine ⟨x', y', fun ys => ?_, q2, q3, by simp only [rawR, List.length_cons]; omega⟩
    simp only [rawR]
    rw [← q1 ys]
    have b : bindTg (.tp [.nm 5, .nm 6]) (.sh (itD (l, some p))) (nenv many T es a new x y) = some (nenv many T es a new (some (.sh (.str l))) (some (.sh (.int p)))) := by simp [bindTg, bindTgs, itD, optD]
    simp only [List.map_cons, List.cons_append, frGo, stepF, b, Option.bind_some, body12_some (C := C) (many := many) (T := T) (x := some (.sh (.str l))) (p := p) (a := a) h2 (by omega : es.length + 3 ≤ 1000000)]
theorem nenv_T {C : Cal} {body : List S} : True := trivial
/-- the last item of all: many -/
theorem nrm_end {C : Cal} {many : Nat} {T : O} {es : List Ed} {a : Nat} {new : List Str} {x y : Option O} {d : PyData} (hn : ∀ l ∈ new, LineOk l) (hy : ∀ e ∈ es, e.lay) (hl : es.length + 3 ≤ 1000000) :
    frGo (stepF C body26) [.sh (.tuple [d, .int many])] (nenv many T es a new x y) = some (.nx (nenv many T (es ++ tk a many ++ pt new) (many + 1) [] (some (.sh d)) (some (.sh (.int many))))) := by
  have b : bindTg (.tp [.nm 5, .nm 6]) (.sh (.tuple [d, .int many])) (nenv many T es a new x y) = some (nenv many T es a new (some (.sh d)) (some (.sh (.int many)))) := by simp [bindTg, bindTgs]
  have q := body26_some (C := C) (many := many) (T := T) (x := some (.sh d)) (p := many) (a := a) hn hy hl
  rw [if_neg (Nat.lt_irrefl many)] at q
  simp only [frGo, stepF, b, Option.bind_some, q]
theorem raw_end {C : Cal} {many : Nat} {T : O} {es : List Ed} {a : Nat} {new : List Str} {x y : Option O} {d : PyData} (hn : ∀ l ∈ new, LineOk l) (hl : es.length + 3 ≤ 1000000) :
    frGo (stepF C body12) [.sh (.tuple [d, .int many])] (nenv many T es a new x y) = some (.nx (nenv many T (es ++ tk a many ++ pt new) (many + 1) [] (some (.sh d)) (some (.sh (.int many))))) := by
  have b : bindTg (.tp [.nm 5, .nm 6]) (.sh (.tuple [d, .int many])) (nenv many T es a new x y) = some (nenv many T es a new (some (.sh d)) (some (.sh (.int many)))) := by simp [bindTg, bindTgs]
  have q := body12_some (C := C) (many := many) (T := T) (x := some (.sh d)) (p := many) (a := a) hn hl
  rw [if_neg (Nat.lt_irrefl many), List.append_nil] at q
  simp only [frGo, stepF, b, Option.bind_some, q]
def OkT (t : Tr) : Prop := (∀ q ∈ t, LineOk q.1) ∧ t.length ≤ 1000
end L83
end
section
set_option Elab.async false
set_option linter.all false
set_option maxRecDepth 100000
set_option maxHeartbeats 2000000
namespace L83
open PySem PySem.Spec PyProof.Rows L2 Qv
def body11 : List S := [.ite (.and2 (.op .ne [.nm 1, .lst []]) (.op .eq [.op .item [.op .item [.nm 1, .op .neg [.c (.int 1)]], .c (.int 0)], .nm 2])) [.asg (.st 1 (.op .neg [.c (.int 1)])) (.tup [.nm 2, .op .add [.op .item [.op .item [.nm 1, .op .neg [.c (.int 1)]], .c (.int 1)], .nm 3]])] [.ex (.app 1 (.tup [.nm 2, .nm 3]))]]
abbrev menv (E : O) (es : List Ed) (x y : Option O) : Qv.Env := [some E, some (olOf (eL es)), x, y]
def lastK (es : List Ed) : Nat := match es.getLast? with
  | some e => e.kind
  | none => 0
theorem lastK_app (es : List Ed) (e : Ed) : lastK (es ++ [e]) = e.kind := by simp [lastK]
theorem lastK_addM (es : List Ed) (e : Ed) : lastK (addM es e) = e.kind := by
  unfold addM
  split
  · rw [lastK_app]
    rfl
  · rw [lastK_app]
theorem addM_lay {es : List Ed} {e : Ed} (h : ∀ e ∈ es, e.lay) (he : e.lay) : ∀ f ∈ addM es e, f.lay := fun f m => by
  unfold addM at m
  split at m
  · rcases List.mem_append.mp m with m | m
    · exact h f (List.dropLast_subset _ m)
    · rw [List.mem_singleton] at m
      subst m
      trivial
  · rcases List.mem_append.mp m with m | m
    · exact h f m
    · rw [List.mem_singleton] at m
      subst m
      exact he
theorem addM_len (es : List Ed) (e : Ed) : (addM es e).length ≤ es.length + 1 := by
  unfold addM
  split
  · rw [List.length_append, List.length_dropLast, List.length_singleton]
    omega
  · simp
section
variable {C : Cal} {E : O} {es : List Ed} {e : Ed}
theorem app_ed (hl : es.length + 1 ≤ 1000000) : ev C (.app 1 (.tup [.nm 2, .nm 3])) (menv E es (some (.sh (.str e.word))) (some (.sh e.told))) = some (.sh .none, menv E (es ++ [e]) (some (.sh (.str e.word))) (some (.sh e.told))) := by
  rw [app_of (os0 := (eL es).map O.sh) (os := (eL es).map O.sh) (v := .sh e.d) (ρ1 := menv E es (some (.sh (.str e.word))) (some (.sh e.told))) rfl (by simp [rdV, e.d_eq]) rfl (Nat.lt_of_lt_of_le (show _ < 1000001 by simp [eL]; omega) (by decide))]
  simp [olOf, eL]
theorem body11_step (hy : ∀ e ∈ es, e.lay) (hk : lastK es = e.kind → e.kind = 2) (hl : es.length + 1 ≤ 1000000) : evSs C body11 (menv E es (some (.sh (.str e.word))) (some (.sh e.told))) = some (.nx (menv E (addM es e) (some (.sh (.str e.word))) (some (.sh e.told)))) := by
  unfold body11
  refine (seq1 (ρ1 := menv E (addM es e) (some (.sh (.str e.word))) (some (.sh e.told))) ?_).trans evSs_nil
  rw [evS_ite, ev_and, ne_nil (f := Ed.d) (xs := es) rfl (shapedE hy)]
  have q := app_ed (C := C) (E := E) (es := es) (e := e) hl
  rcases List.eq_nil_or_concat es with rfl | ⟨r, l, rfl⟩
  · rw [show (!([] : List Ed).isEmpty) = false from rfl, onB_f, onB_f, evSs_cons, evS_ex, q]
    cases e <;> simp [addM]
  · rw [List.concat_eq_append] at *
    have ne : (!(r ++ [l]).isEmpty) = true := by cases r <;> rfl
    have eq : ev C (.op .eq [.op .item [.op .item [.nm 1, .op .neg [.c (.int 1)]], .c (.int 0)], .nm 2]) (menv E (r ++ [l]) (some (.sh (.str e.word))) (some (.sh e.told))) = some (.sh (.bool (l.word == e.word)), menv E (r ++ [l]) (some (.sh (.str e.word))) (some (.sh e.told))) := by
      rw [ev_op, evOs_op, ev_last0 (es := r) (e := l) rfl]
      simp [rdO, prim, pEq, scalD, PyData.eqv, shB]
    rw [ne, onB_t, eq]
    rw [lastK_app] at hk
    have other : (l.word == e.word) = false → addM (r ++ [l]) e = r ++ [l] ++ [e] → onB (some (O.sh (.bool (l.word == e.word)), menv E (r ++ [l]) (some (.sh (.str e.word))) (some (.sh e.told)))) (fun ρ => evSs C [.asg (.st 1 (.op .neg [.c (.int 1)])) (.tup [.nm 2, .op .add [.op .item [.op .item [.nm 1, .op .neg [.c (.int 1)]], .c (.int 1)], .nm 3]])] ρ)
        (fun ρ => evSs C [.ex (.app 1 (.tup [.nm 2, .nm 3]))] ρ) = some (.nx (menv E (addM (r ++ [l]) e) (some (.sh (.str e.word))) (some (.sh e.told)))) := fun w k => by
      rw [w, k, onB_f, evSs_cons, evS_ex, q]
      rfl
    cases l with
    | put ls =>
      cases e with
      | put ms => exact absurd (hk rfl) (by simp [Ed.kind])
      | keep n => exact other w_pk (by simp [addM])
      | take n => exact other w_pt (by simp [addM])
    | take m =>
      cases e with
      | put ms => exact other w_tp (by simp [addM])
      | keep n => exact other w_tk (by simp [addM])
      | take n => exact absurd (hk rfl) (by simp [Ed.kind])
    | keep m =>
      cases e with
      | put ms => exact other w_kp (by simp [addM])
      | take n => exact other w_kt (by simp [addM])
      | keep n =>
        rw [show ((Ed.keep m).word == (Ed.keep n).word) = true from w_kk, onB_t, evSs_cons, evS_asg]
        have v : ev C (.tup [.nm 2, .op .add [.op .item [.op .item [.nm 1, .op .neg [.c (.int 1)]], .c (.int 1)], .nm 3]]) (menv E (r ++ [.keep m]) (some (.sh (.str (Ed.keep n).word))) (some (.sh (Ed.keep n).told))) =
            some (.sh (Ed.keep (m + n)).d, menv E (r ++ [.keep m]) (some (.sh (.str (Ed.keep n).word))) (some (.sh (Ed.keep n).told))) := by
          rw [ev_tup, evs_cons, ev_nm]
          simp only [rdV, List.getElem?_cons_succ, List.getElem?_cons_zero, Option.bind_some]
          rw [evs_cons, ev_op, evOs_op, ev_last1 (es := r) (e := .keep m) rfl]
          simp [rdO, prim, pAdd, shI, Ed.told, Ed.word, Ed.d]
        rw [v]
        simp only [Option.bind_some]
        rw [st_last (es := r) (e := .keep m) (f := .keep (m + n)) rfl]
        simp [addM]
end
def alt : Nat → List Ed → Prop
  | _, [] => True
  | k, e :: es => (k = e.kind → e.kind = 2) ∧ alt e.kind es
theorem alt_app : ∀ (k : Nat) (xs ys : List Ed), alt k xs → (∀ k', (xs = [] ∧ k' = k ∨ xs ≠ [] ∧ k' = lastK xs) → alt k' ys) → alt k (xs ++ ys)
  | k, [], ys, _, h => h k (.inl ⟨rfl, rfl⟩)
  | k, x :: xs, ys, h1, h2 => ⟨h1.1, alt_app x.kind xs ys h1.2 fun k' h => h2 k' (.inr ⟨by simp, by
      rcases h with ⟨rfl, rfl⟩ | ⟨h, rfl⟩
      · rfl
      · unfold lastK
        rw [List.getLast?_cons_of_ne_nil h]⟩)⟩
theorem merge_loop {C : Cal} {E : O} : ∀ (R N : List Ed) (x y : Option O), alt (lastK N) R → (∀ e ∈ N, e.lay) → (∀ e ∈ R, e.lay) → N.length + R.length ≤ 900000 →
    ∃ x' y', frGo (fun x ρ2 => (bindTg (.tp [.nm 2, .nm 3]) x ρ2).bind fun ρ3 => evSs C body11 ρ3) (R.map fun e => .sh e.d) (menv E N x y) = some (.nx (menv E (R.foldl addM N) x' y'))
  | [], N, x, y, _, _, _, _ => ⟨x, y, rfl⟩
  | e :: R, N, x, y, h1, h2, h3, h4 => by
    simp only [List.length_cons] at h4
    have he := h3 e List.mem_cons_self
    have hl := addM_len N e
    obtain ⟨x', y', q⟩ := merge_loop (C := C) (E := E) R (addM N e) (some (.sh (.str e.word))) (some (.sh e.told)) (by rw [lastK_addM]; exact h1.2) (addM_lay h2 he) (fun f m => h3 f (List.mem_cons_of_mem _ m)) (by omega)
    refine ⟨x', y', ?_⟩
    rw [List.foldl_cons, ← q]
    have b : bindTg (.tp [.nm 2, .nm 3]) (.sh e.d) (menv E N x y) = some (menv E N (some (.sh (.str e.word))) (some (.sh e.told))) := by
      rw [e.d_eq]
      simp [bindTg, bindTgs]
    simp only [List.map_cons, frGo, b, Option.bind_some, body11_step (C := C) (E := E) h2 h1.1 (by omega : N.length + 1 ≤ 1000000)]
theorem f12_ok {k : Nat} (h : 1 ≤ k) (R : List Ed) (hR : alt 0 R) (hy : ∀ e ∈ R, e.lay) (hl : R.length ≤ 10000) : RF k 12 [olOf (eL R)] = some (.sh (pD (R.foldl addM [])), [.sh (.list (eL R))]) := by
  obtain ⟨k, rfl, _⟩ := posK h
  obtain ⟨x', y', q⟩ := merge_loop (C := RF k) (E := .sh (.list (eL R))) R [] none none hR (fun z m => by cases m) hy (by simp only [List.length_nil]; omega)
  refine run_rt (fd := f12) (ρ := menv (.sh (.list (eL R))) (R.foldl addM []) x' y') rfl rfl ?_ rfl
  refine (seq1 (ρ1 := menv (olOf (eL R)) [] none none) ?_).trans ((seq1 (ρ1 := menv (.sh (.list (eL R))) (R.foldl addM []) x' y') ?_).trans ?_)
  · simp [f12, startAll, eL]
  · rw [evS_fr]
    have e1 : evs (RF k) [.nm 0] (menv (olOf (eL R)) [] none none) = some ([.sh (.list (eL R))], menv (.sh (.list (eL R))) [] none none) := by
      have : rdV 0 (menv (olOf (eL R)) [] none none) = some (.sh (olOf (eL R)).d, (menv (olOf (eL R)) [] none none).set 0 (some (.sh (olOf (eL R)).d))) := rfl
      simp [this]
    have w : walk .sq [.sh (O.sh (.list (eL R))).d] = some (R.map fun e => .sh e.d) := by simp [walk, eL, Function.comp_def]
    rw [e1]
    simp only [Option.bind_some, List.map_cons, List.map_nil, w]
    exact q
  · have e : ev (RF k) (.op .tuple1 [.nm 1]) (menv (.sh (.list (eL R))) (R.foldl addM []) x' y') = some (.sh (pD (R.foldl addM [])), menv (.sh (.list (eL R))) (R.foldl addM []) x' y') := by
      simp [rdO, prim, u1, pTuple, pD, eL]
    rw [evSs_cons, evS_ret, e]
    rfl
theorem alt_block {k : Nat} (hk : k = 0 ∨ k = 2) (a p : Nat) (new : List Str) : alt k (tk a p ++ pt new) ∧ alt k (tk a p ++ pt new ++ [.keep 1]) := by
  unfold tk pt
  rcases hk with rfl | rfl <;> split <;> split <;> simp [alt, Ed.kind]
theorem alt_ext {es : List Ed} (h : alt 0 es) (hl : es = [] ∨ lastK es = 2) (a p : Nat) (new : List Str) : alt 0 (es ++ (tk a p ++ pt new)) ∧ alt 0 (es ++ (tk a p ++ pt new ++ [.keep 1])) := by
  have hk : ∀ k', (es = [] ∧ k' = 0 ∨ es ≠ [] ∧ k' = lastK es) → k' = 0 ∨ k' = 2 := fun k' q => by
    rcases q with ⟨_, rfl⟩ | ⟨ne, rfl⟩
    · exact .inl rfl
    · rcases hl with rfl | hl
      · exact absurd rfl ne
      · exact .inr hl
  exact ⟨alt_app 0 es _ h fun k' q => (alt_block (hk k' q) a p new).1, alt_app 0 es _ h fun k' q => (alt_block (hk k' q) a p new).2⟩
theorem alt_raw (many : Nat) : ∀ (t : Tr) (es : List Ed) (a : Nat) (new : List Str), (∀ q ∈ t, ∀ p, q.2 = some p → p < many) → alt 0 es → (es = [] ∨ lastK es = 2) → alt 0 (rawR many t es a new).1 ∧ ((rawR many t es a new).1 = [] ∨ lastK (rawR many t es a new).1 = 2)
  | [], es, a, new, _, h, hl => ⟨h, hl⟩
  | (x, none) :: t, es, a, new, hp, h, hl => alt_raw many t es a (new ++ [x]) (fun q m => hp q (List.mem_cons_of_mem _ m)) h hl
  | (x, some p) :: t, es, a, new, hp, h, hl => by
    have lt := hp _ List.mem_cons_self p rfl
    simp only [rawR, if_pos lt]
    have q := (alt_ext h hl a p new).2
    have e : es ++ tk a p ++ pt new ++ [.keep 1] = es ++ (tk a p ++ pt new ++ [.keep 1]) := by simp
    rw [e]
    refine alt_raw many t _ (p + 1) [] (fun q m => hp q (List.mem_cons_of_mem _ m)) q (.inr ?_)
    rw [← e, lastK_app]
    rfl
def Below (many : Nat) (t : Tr) : Prop := ∀ q ∈ t, ∀ p, q.2 = some p → p < many
theorem f13_ok {k : Nat} (h : 2 ≤ k) {T : O} {t : Tr} {many : Nat} (hf : T.isFlat = true) (hT : T.list? = some (TrD t)) (ht : OkT t) (hb : Below many t) : ∃ T2, RF k 13 [.sh (.int many), T] = some (.sh (pD (nrm many t)), [.sh (.int many), T2]) ∧ T2 = T := by
  obtain ⟨k, rfl, hk⟩ := posK h
  obtain ⟨h1, h2⟩ := ht
  obtain ⟨x', y', q1, q2, q3, q4⟩ := raw_loop (C := RF k) (many := many) (T := T) t [] 0 [] none none h1 (fun z m => by cases m) (fun z m => by cases m) (by simp only [List.length_nil]; omega) (by simp only [List.length_nil]; omega)
  simp only [List.length_nil] at q4
  have q5 := raw_end (C := RF k) (many := many) (T := T) (x := x') (y := y') (d := .str "") (a := (rawR many t [] 0 []).2.1) (es := (rawR many t [] 0 []).1) q2 (by omega)
  obtain ⟨a1, a2⟩ := alt_raw many t [] 0 [] hb trivial (.inl rfl)
  have a3 := (alt_ext a1 a2 (rawR many t [] 0 []).2.1 many (rawR many t [] 0 []).2.2).1
  rw [← List.append_assoc] at a3
  have k1 := tk_len (rawR many t [] 0 []).2.1 many
  have k2 := pt_len (rawR many t [] 0 []).2.2
  have q6 := f12_ok (k := k) hk (raw many t) a3 (fun e m => by
    rcases List.mem_append.mp m with m | m
    · rcases List.mem_append.mp m with m | m
      · exact q3 e m
      · exact tk_lay e m
    · exact pt_lay q2 e m) (by unfold raw; simp only [List.length_append]; omega)
  rw [← nrm_eq] at q6
  refine ⟨T, run_rt (fd := f13) (ρ := [some (.sh (.int many)), some T, some (.sh (.list (eL (raw many t)))), some (.sh (.int ((many + 1 : Nat) : Int))), some (olOf (sL [])), some (.sh (.str "")), some (.sh (.int many))]) rfl rfl ?_ rfl, rfl⟩
  have e1 : evs (RF k) [.op .add [.nm 1, .lst [.tup [.c (.str ""), .nm 0]]]] (nenv many T [] 0 [] none none) = some ([olOf (TrD t ++ [.tuple [.str "", .int many]])], nenv many T [] 0 [] none none) := by
    have l1 : (TrD t).length + 1 ≤ sizeLine := sz_le (by simp [TrD]; omega)
    have pa : ∀ b : O, b.list? = some [.tuple [.str "", .int many]] → (∀ e, b ≠ .sh e) → pAdd [T, b] = some (olOf (TrD t ++ [.tuple [.str "", .int many]])) := fun b hb nb => by
      cases b with
      | sh e => exact absurd rfl (nb e)
      | ol os =>
        cases T with
        | sh e => cases e <;> simp [pAdd, hT, hb, gd, l1]
        | _ => simp [pAdd, hT, hb, gd, l1]
      | _ => cases hb
    have pb := pa (olOf [.tuple [.str "", .int many]]) (by simp) (fun e => by simp [olOf])
    simp [rdO, rdV, prim, hf, pb]
  refine (seq1 (ρ1 := nenv many T [] 0 [] none none) ?_).trans ((seq1 (ρ1 := nenv many T (raw many t) (many + 1) [] (some (.sh (.str ""))) (some (.sh (.int many)))) ?_).trans ?_)
  · simp [f13, startAll, Qv.putAll, eL, sL]
  · rw [evS_fr, e1]
    have w : walk .sq [.sh (olOf (TrD t ++ [.tuple [.str "", .int many]])).d] = some ((t.map fun q => .sh (itD q)) ++ [.sh (.tuple [.str "", .int many])]) := by
      simp [walk, TrD, Function.comp_def]
    simp only [Option.bind_some, List.map_cons, List.map_nil, w]
    exact (q1 _).trans q5
  · have e : ev (RF k) (.call 12 [.nm 2]) (nenv many T (raw many t) (many + 1) [] (some (.sh (.str ""))) (some (.sh (.int many)))) = some (.sh (pD (nrm many t)), [some (.sh (.int many)), some T, some (.sh (.list (eL (raw many t)))), some (.sh (.int ((many + 1 : Nat) : Int))), some (olOf (sL [])), some (.sh (.str "")), some (.sh (.int many))]) := by
      have ld : lend [.sl 2] (nenv many T (raw many t) (many + 1) [] (some (.sh (.str ""))) (some (.sh (.int many)))) = some ([olOf (eL (raw many t))], (nenv many T (raw many t) (many + 1) [] (some (.sh (.str ""))) (some (.sh (.int many)))).set 2 none) := rfl
      simp only [ev_call, evOs_nm, evOs_nil, rdO, List.getElem?_cons_succ, List.getElem?_cons_zero, Option.bind_some, ld, q6]
      rfl
    rw [evSs_cons, evS_ret, e]
    rfl
end L83
end
section
set_option Elab.async false
set_option linter.all false
set_option maxRecDepth 100000
set_option maxHeartbeats 2000000
namespace L83
open PySem PySem.Spec PyProof.Rows L2 Qv
/-! ### proper traces -/
def Pro (ls : List Str) : Nat → Tr → Prop
  | _, [] => True
  | a, (_, none) :: t => Pro ls a t
  | a, (x, some p) :: t => a ≤ p ∧ p < ls.length ∧ x = ls.getD p "" ∧ Pro ls (p + 1) t
theorem Pro.mono {ls : List Str} : ∀ {t : Tr} {a b : Nat}, Pro ls a t → b ≤ a → Pro ls b t
  | [], _, _, _, _ => trivial
  | (_, none) :: t, a, b, h, l => Pro.mono (t := t) h l
  | (_, some p) :: t, a, b, h, l => ⟨Nat.le_trans l h.1, h.2⟩
theorem keepT_cons (ls : List Str) (a n : Nat) : keepT ls a (n + 1) = (ls.getD a "", some a) :: keepT ls (a + 1) n := by
  unfold keepT
  rw [List.range_succ_eq_map, List.map_cons, List.map_map]
  congr 1
  apply List.map_congr_left
  intro i _
  show (ls.getD (a + (i + 1)) "", some (a + (i + 1))) = (ls.getD (a + 1 + i) "", some (a + 1 + i))
  rw [show a + (i + 1) = a + 1 + i by omega]
theorem keepT_snoc (ls : List Str) (a n : Nat) : keepT ls a (n + 1) = keepT ls a n ++ [(ls.getD (a + n) "", some (a + n))] := by
  unfold keepT
  rw [List.range_succ, List.map_append]
  rfl
theorem pro_put (ls : List Str) (a : Nat) (t : Tr) (h : Pro ls a t) : ∀ xs : List Str, Pro ls a (putT xs ++ t)
  | [] => h
  | x :: xs => pro_put ls a t h xs
theorem pro_keep (ls : List Str) (t : Tr) : ∀ (n a : Nat), a + n ≤ ls.length → Pro ls (a + n) t → Pro ls a (keepT ls a n ++ t)
  | 0, a, _, h => h
  | n + 1, a, l, h => by
    rw [keepT_cons]
    refine ⟨Nat.le_refl _, by omega, rfl, pro_keep ls t n (a + 1) (by omega) ?_⟩
    rw [show a + 1 + n = a + (n + 1) by omega]
    exact h
theorem tr_pro (ls : List Str) : ∀ (es : List Ed) (a : Nat), a + span es ≤ ls.length → Pro ls a (tr ls a es)
  | [], a, _ => trivial
  | .put xs :: es, a, h => pro_put ls a _ (tr_pro ls es a (by simpa [span, Ed.span] using h)) xs
  | .keep n :: es, a, h => by
    have sp : span (.keep n :: es) = n + span es := by simp [span, Ed.span]
    rw [sp] at h
    exact pro_keep ls _ n a (by omega) (tr_pro ls es (a + n) (by omega))
  | .take n :: es, a, h => by
    have sp : span (.take n :: es) = n + span es := by simp [span, Ed.span]
    rw [sp] at h
    exact (tr_pro ls es (a + n) (by omega)).mono (by omega)
theorem span_app (xs ys : List Ed) : span (xs ++ ys) = span xs + span ys := by simp [span]
theorem tr_app (ls : List Str) : ∀ (xs ys : List Ed) (a : Nat), tr ls a (xs ++ ys) = tr ls a xs ++ tr ls (a + span xs) ys
  | [], ys, a => by simp [tr, span]
  | .put zs :: xs, ys, a => by
    have sp : span (.put zs :: xs) = span xs := by simp [span, Ed.span]
    simp only [List.cons_append, tr, tr_app ls xs ys a, sp, List.append_assoc]
  | .keep n :: xs, ys, a => by
    have sp : span (.keep n :: xs) = n + span xs := by simp [span, Ed.span]
    simp only [List.cons_append, tr, tr_app ls xs ys (a + n), sp, List.append_assoc, Nat.add_assoc]
  | .take n :: xs, ys, a => by
    have sp : span (.take n :: xs) = n + span xs := by simp [span, Ed.span]
    simp only [List.cons_append, tr, tr_app ls xs ys (a + n), sp, Nat.add_assoc]
theorem span_tk {a p : Nat} (h : a ≤ p) : span (tk a p) = p - a := by
  unfold tk
  split
  · simp [span, Ed.span]
  · simp [span]
    omega
theorem tr_tk (ls : List Str) (b a p : Nat) : tr ls b (tk a p) = [] := by
  unfold tk
  split <;> simp [tr]
theorem span_pt (new : List Str) : span (pt new) = 0 := by
  unfold pt
  split <;> simp [span, Ed.span]
theorem tr_pt (ls : List Str) (b : Nat) (new : List Str) : tr ls b (pt new) = putT new := by
  unfold pt
  split
  · rename_i h
    subst h
    simp [tr, putT]
  · simp [tr]
theorem addK_tr (ls : List Str) (es : List Ed) : tr ls 0 (addK es) = tr ls 0 es ++ [(ls.getD (span es) "", some (span es))] ∧ span (addK es) = span es + 1 := by
  have plain : tr ls 0 (es ++ [.keep 1]) = tr ls 0 es ++ [(ls.getD (span es) "", some (span es))] ∧ span (es ++ [.keep 1]) = span es + 1 := by
    refine ⟨?_, by rw [span_app]; simp [span, Ed.span]⟩
    rw [tr_app]
    simp [tr, keepT]
  unfold addK
  split
  · rename_i n h
    obtain ⟨r, rfl⟩ : ∃ r, es = r ++ [.keep n] := by
      rcases List.eq_nil_or_concat es with rfl | ⟨r, e, rfl⟩
      · cases h
      · rw [List.concat_eq_append] at h ⊢
        rw [List.getLast?_concat] at h
        cases h
        exact ⟨r, rfl⟩
    rw [List.dropLast_concat]
    have s1 : span [Ed.keep n] = n := by simp [span, Ed.span]
    have s2 : span [Ed.keep (n + 1)] = n + 1 := by simp [span, Ed.span]
    refine ⟨?_, by rw [span_app, span_app, s1, s2]; omega⟩
    rw [tr_app, tr_app, span_app, s1]
    simp only [tr, List.append_nil, Nat.zero_add, keepT_snoc, List.append_assoc]
  · exact plain
theorem nrm_back {ls : List Str} {many : Nat} (hm : many = ls.length) : ∀ (t : Tr) (es : List Ed) (a : Nat) (new : List Str), span es = a → a ≤ many → Pro ls a t →
    tr ls 0 ((nrmR many t es a new).1 ++ tk (nrmR many t es a new).2.1 many ++ pt (nrmR many t es a new).2.2) = tr ls 0 es ++ (putT new ++ t) ∧ span ((nrmR many t es a new).1 ++ tk (nrmR many t es a new).2.1 many ++ pt (nrmR many t es a new).2.2) = many
  | [], es, a, new, hs, ha, _ => by
    simp only [nrmR]
    refine ⟨?_, by rw [span_app, span_app, span_tk ha, span_pt, hs]; omega⟩
    rw [tr_app, tr_app, tr_tk, tr_pt]
    simp
  | (x, none) :: t, es, a, new, hs, ha, h => by
    simp only [nrmR]
    obtain ⟨q1, q2⟩ := nrm_back hm t es a (new ++ [x]) hs ha h
    refine ⟨?_, q2⟩
    rw [q1]
    simp [putT]
  | (x, some p) :: t, es, a, new, hs, ha, h => by
    obtain ⟨h1, h2, h3, h4⟩ := h
    have lt : p < many := by omega
    simp only [nrmR, if_pos lt]
    have sE : span (es ++ tk a p ++ pt new) = p := by
      rw [span_app, span_app, span_tk h1, span_pt, hs]
      omega
    obtain ⟨k1, k2⟩ := addK_tr ls (es ++ tk a p ++ pt new)
    obtain ⟨q1, q2⟩ := nrm_back hm t (addK (es ++ tk a p ++ pt new)) (p + 1) [] (by rw [k2, sE]) (by omega) h4
    refine ⟨?_, q2⟩
    rw [q1, k1, sE, tr_app, tr_app, tr_tk, tr_pt, h3]
    simp [putT]
theorem addK_ok {es : List Ed} (h : ∀ e ∈ es, e.okS) : ∀ e ∈ addK es, e.okS := fun e m => by
  unfold addK at m
  split at m
  · rcases List.mem_append.mp m with m | m
    · exact h e (List.dropLast_subset _ m)
    · rw [List.mem_singleton] at m
      subst m
      exact Nat.succ_pos _
  · rcases List.mem_append.mp m with m | m
    · exact h e m
    · rw [List.mem_singleton] at m
      subst m
      exact Nat.one_pos
theorem tk_ok {a p : Nat} : ∀ e ∈ tk a p, e.okS := fun e m => by
  unfold tk at m
  split at m
  · rename_i l
    rw [List.mem_singleton] at m
    subst m
    show 0 < p - a
    omega
  · cases m
theorem pt_ok {new : List Str} (h : ∀ l ∈ new, LineOk l) (hl : new.length ≤ 200) : ∀ e ∈ pt new, e.okS := fun e m => by
  unfold pt at m
  split at m
  · cases m
  · rename_i n
    rw [List.mem_singleton] at m
    subst m
    exact ⟨n, hl, h⟩
theorem nrm_each {many : Nat} : ∀ (t : Tr) (es : List Ed) (a : Nat) (new : List Str), (∀ q ∈ t, LineOk q.1) → (∀ l ∈ new, LineOk l) → (∀ e ∈ es, e.okS) → new.length + t.length ≤ 200 →
    (∀ e ∈ (nrmR many t es a new).1, e.okS) ∧ (∀ l ∈ (nrmR many t es a new).2.2, LineOk l) ∧ (nrmR many t es a new).2.2.length ≤ 200 ∧ (nrmR many t es a new).1.length ≤ es.length + 3 * t.length
  | [], es, a, new, _, h2, h3, h4 => ⟨h3, h2, (by simpa using h4 : new.length ≤ 200), by simp [nrmR]⟩
  | (x, none) :: t, es, a, new, h1, h2, h3, h4 => by
    simp only [List.length_cons] at h4
    obtain ⟨q1, q2, q3, q4⟩ := nrm_each (many := many) t es a (new ++ [x]) (fun q m => h1 q (List.mem_cons_of_mem _ m)) (fun z m => (List.mem_append.mp m).elim (h2 z) fun m => by rw [List.mem_singleton.mp m]; exact h1 _ List.mem_cons_self) h3 (by rw [List.length_append, List.length_singleton]; omega)
    exact ⟨q1, q2, q3, by simp only [nrmR, List.length_cons]; omega⟩
  | (x, some p) :: t, es, a, new, h1, h2, h3, h4 => by
    simp only [List.length_cons] at h4
    have k1 := tk_len a p
    have k2 := pt_len new
    have hy : ∀ e ∈ es ++ tk a p ++ pt new, e.okS := fun e m => by
      rcases List.mem_append.mp m with m | m
      · rcases List.mem_append.mp m with m | m
        · exact h3 e m
        · exact tk_ok e m
      · exact pt_ok h2 (by omega) e m
    have hy2 : ∀ e ∈ (if p < many then addK (es ++ tk a p ++ pt new) else es ++ tk a p ++ pt new), e.okS := fun e m => by
      split at m
      · exact addK_ok hy e m
      · exact hy e m
    have ln : (es ++ tk a p ++ pt new).length ≤ es.length + 2 := by
      rw [List.length_append, List.length_append]
      omega
    have ln2 : (if p < many then addK (es ++ tk a p ++ pt new) else es ++ tk a p ++ pt new).length ≤ es.length + 3 := by
      split
      · have := addK_len (es ++ tk a p ++ pt new)
        omega
      · omega
    obtain ⟨q1, q2, q3, q4⟩ := nrm_each (many := many) t _ (p + 1) [] (fun q m => h1 q (List.mem_cons_of_mem _ m)) (fun z m => by cases m) hy2 (by simp only [List.length_nil]; omega)
    exact ⟨q1, q2, q3, by simp only [nrmR, List.length_cons]; omega⟩
/-- what is asked of the normal form of a proper trace -/
theorem nrm_ok {ls : List Str} {t : Tr} (hp : Pro ls 0 t) (ht : ∀ q ∈ t, LineOk q.1) (hl : t.length ≤ 100) : tr ls 0 (nrm ls.length t) = t ∧ OkS ls.length (nrm ls.length t) := by
  obtain ⟨q1, q2⟩ := nrm_back (ls := ls) rfl t [] 0 [] rfl (Nat.zero_le _) hp
  obtain ⟨e1, e2, e3, e4⟩ := nrm_each (many := ls.length) t [] 0 [] ht (fun z m => by cases m) (fun z m => by cases m) (by simp only [List.length_nil]; omega)
  have back : tr ls 0 (nrm ls.length t) = t := q1
  have k1 := tk_len (nrmR ls.length t [] 0 []).2.1 ls.length
  have k2 := pt_len (nrmR ls.length t [] 0 []).2.2
  refine ⟨back, ?_, fun e m => ?_, q2, ?_⟩
  · unfold nrm
    simp only [List.length_append, List.length_nil] at e4 ⊢
    omega
  · unfold nrm at m
    rcases List.mem_append.mp m with m | m
    · rcases List.mem_append.mp m with m | m
      · exact e1 e m
      · exact tk_ok e m
    · exact pt_ok e2 e3 e m
  · rw [← tr_len ls 0 (nrm ls.length t), back]
    omega
theorem pro_below {ls : List Str} : ∀ {t : Tr} {a : Nat}, Pro ls a t → Below ls.length t
  | [], _, _ => fun q m => by cases m
  | (_, none) :: t, a, h => fun q m p e => by
    rcases List.mem_cons.mp m with rfl | m
    · cases e
    · exact pro_below (t := t) h q m p e
  | (_, some r) :: t, a, h => fun q m p e => by
    rcases List.mem_cons.mp m with rfl | m
    · cases e
      exact h.2.1
    · exact pro_below h.2.2.2 q m p e
/-! ### costs -/
def cN (t : Tr) : Nat := (t.filter fun q => q.2.isNone).length
def cS (t : Tr) : Nat := (t.filter fun q => q.2.isSome).length
theorem cN_app (s t : Tr) : cN (s ++ t) = cN s + cN t := by simp [cN]
theorem cS_app (s t : Tr) : cS (s ++ t) = cS s + cS t := by simp [cS]
theorem cNS (t : Tr) : cN t + cS t = t.length := by
  induction t with
  | nil => rfl
  | cons q t ih =>
    obtain ⟨x, o⟩ := q
    cases o <;> simp [cN, cS] at ih ⊢ <;> omega
theorem cN_put (xs : List Str) : cN (putT xs) = xs.length ∧ cS (putT xs) = 0 := by
  induction xs with
  | nil => exact ⟨rfl, rfl⟩
  | cons x xs ih =>
    simp only [putT, cN, cS, List.map_cons, List.filter_cons] at ih ⊢
    simp [ih]
theorem cS_keep (ls : List Str) : ∀ (n a : Nat), cN (keepT ls a n) = 0 ∧ cS (keepT ls a n) = n
  | 0, a => ⟨rfl, rfl⟩
  | n + 1, a => by
    have ih := cS_keep ls n (a + 1)
    rw [keepT_cons]
    simp only [cN, cS, List.filter_cons] at ih ⊢
    simp [ih]
theorem cost_tr (ls : List Str) : ∀ (es : List Ed) (a : Nat), (costs es).sum + (cS (tr ls a es) : Int) = (cN (tr ls a es) : Int) + (span es : Int)
  | [], a => rfl
  | .put xs :: es, a => by
    have ih := cost_tr ls es a
    obtain ⟨k1, k2⟩ := cN_put xs
    have sp : span (.put xs :: es) = span es := by simp [span, Ed.span]
    have cs : costs (.put xs :: es) = (xs.length : Int) :: costs es := rfl
    simp only [tr, cN_app, cS_app, k1, k2, sp, cs, List.sum_cons]
    omega
  | .keep n :: es, a => by
    have ih := cost_tr ls es (a + n)
    obtain ⟨k1, k2⟩ := cS_keep ls n a
    have sp : span (.keep n :: es) = n + span es := by simp [span, Ed.span]
    have cs : costs (.keep n :: es) = costs es := rfl
    simp only [tr, cN_app, cS_app, k1, k2, sp, cs]
    omega
  | .take n :: es, a => by
    have ih := cost_tr ls es (a + n)
    have sp : span (.take n :: es) = n + span es := by simp [span, Ed.span]
    have cs : costs (.take n :: es) = (n : Int) :: costs es := rfl
    simp only [tr, sp, cs, List.sum_cons]
    omega
end L83
end
section
set_option Elab.async false
set_option linter.all false
namespace LC
section
variable {α : Type} [DecidableEq α] (d : α)
def L (a b : List α) : Nat → Nat → Nat
  | 0, _ => 0
  | _ + 1, 0 => 0
  | i + 1, j + 1 => if a.getD i d = b.getD j d then L a b i j + 1 else max (L a b i (j + 1)) (L a b (i + 1) j)
termination_by i j => i + j
variable {a b c : List α}
theorem L0 (j : Nat) : L d a b 0 j = 0 := by rw [L]
theorem Li0 (i : Nat) : L d a b i 0 = 0 := by cases i <;> rw [L]
theorem Ls (i j : Nat) : L d a b (i + 1) (j + 1) = if a.getD i d = b.getD j d then L d a b i j + 1 else max (L d a b i (j + 1)) (L d a b (i + 1) j) := by rw [L]
theorem steps : ∀ (n i j : Nat), i + j ≤ n → L d a b i j ≤ L d a b (i + 1) j ∧ L d a b (i + 1) j ≤ L d a b i j + 1 ∧ L d a b i j ≤ L d a b i (j + 1) ∧ L d a b i (j + 1) ≤ L d a b i j + 1
  | n, 0, 0, _ => by
    rw [L0, Li0, L0]
    omega
  | 0, i + 1, j, h => by omega
  | 0, 0, j + 1, h => by omega
  | n + 1, 0, j + 1, h => by
    obtain ⟨p1, p2, p3, p4⟩ := steps n 0 j (by omega)
    rw [L0, L0, Ls, L0, L0]
    rw [L0] at p1 p2
    split <;> omega
  | n + 1, i + 1, 0, h => by
    obtain ⟨p1, p2, p3, p4⟩ := steps n i 0 (by omega)
    rw [Li0, Li0, Ls, Li0, Li0]
    rw [Li0] at p3 p4
    split <;> omega
  | n + 1, i + 1, j + 1, h => by
    obtain ⟨p1, p2, p3, p4⟩ := steps n (i + 1) j (by omega)
    obtain ⟨q1, q2, q3, q4⟩ := steps n i (j + 1) (by omega)
    refine ⟨?_, ?_, ?_, ?_⟩
    · rw [Ls d (i + 1) j]
      split <;> omega
    · rw [Ls d (i + 1) j]
      split <;> omega
    · rw [Ls d i (j + 1)]
      split <;> omega
    · rw [Ls d i (j + 1)]
      split <;> omega
theorem m1 (i j : Nat) : L d a b i j ≤ L d a b (i + 1) j := (steps d _ i j (Nat.le_refl _)).1
theorem l1 (i j : Nat) : L d a b (i + 1) j ≤ L d a b i j + 1 := (steps d _ i j (Nat.le_refl _)).2.1
theorem m2 (i j : Nat) : L d a b i j ≤ L d a b i (j + 1) := (steps d _ i j (Nat.le_refl _)).2.2.1
theorem l2 (i j : Nat) : L d a b i (j + 1) ≤ L d a b i j + 1 := (steps d _ i j (Nat.le_refl _)).2.2.2
theorem sym : ∀ (n i j : Nat), i + j ≤ n → L d a b i j = L d b a j i
  | n, 0, j, _ => by rw [L0, Li0]
  | n, i + 1, 0, _ => by rw [L0, Li0]
  | 0, i + 1, j + 1, h => by omega
  | n + 1, i + 1, j + 1, h => by
    rw [Ls, Ls, sym n i j (by omega), sym n i (j + 1) (by omega), sym n (i + 1) j (by omega)]
    by_cases e : a.getD i d = b.getD j d
    · rw [if_pos e, if_pos e.symm]
    · rw [if_neg e, if_neg (fun z => e z.symm), Nat.max_comm]
theorem le1 : ∀ (i j : Nat), L d a b i j ≤ i
  | 0, j => by rw [L0]; exact Nat.le_refl _
  | i + 1, j => by
    have := le1 i j
    have := l1 d (a := a) (b := b) i j
    omega
theorem le2 : ∀ (j i : Nat), L d a b i j ≤ j
  | 0, i => by rw [Li0]; exact Nat.le_refl _
  | j + 1, i => by
    have := le2 j i
    have := l2 d (a := a) (b := b) i j
    omega
theorem full : ∀ i : Nat, L d a a i i = i
  | 0 => by rw [L0]
  | i + 1 => by rw [Ls, if_pos rfl, full i]
theorem same : ∀ n : Nat, L d a b n n = n → ∀ i, i < n → a.getD i d = b.getD i d
  | 0, _, i, h => by omega
  | n + 1, h, i, hi => by
    rw [Ls] at h
    split at h
    · rename_i e
      rcases Nat.lt_or_ge i n with q | q
      · exact same n (by omega) i q
      · have : i = n := by omega
        rw [this]
        exact e
    · have h1 := le1 d (a := a) (b := b) n (n + 1)
      have h2 := le2 d (a := a) (b := b) n (n + 1)
      omega
theorem tri : ∀ (n i j k : Nat), i + j + k ≤ n → L d a b i j + L d b c j k ≤ L d a c i k + j
  | n, i, 0, k, _ => by
    rw [Li0, L0]
    omega
  | n, 0, j + 1, k, _ => by
    have := le1 d (a := b) (b := c) (j + 1) k
    rw [L0]
    omega
  | n, i + 1, j + 1, 0, _ => by
    have := le2 d (a := a) (b := b) (j + 1) (i + 1)
    rw [Li0]
    omega
  | 0, i + 1, j + 1, k + 1, h => by omega
  | n + 1, i + 1, j + 1, k + 1, h => by
    have t1 := tri n i (j + 1) (k + 1) (by omega)
    have t2 := tri n (i + 1) j (k + 1) (by omega)
    have t3 := tri n (i + 1) (j + 1) k (by omega)
    have t4 := tri n i j k (by omega)
    have t5 := tri n i j (k + 1) (by omega)
    have u1 := m1 d (a := a) (b := c) i (k + 1)
    have u2 := m2 d (a := a) (b := c) (i + 1) k
    have u3 := l1 d (a := b) (b := c) j (k + 1)
    have e1 := Ls d (a := a) (b := b) i j
    have e2 := Ls d (a := b) (b := c) j k
    have e3 := Ls d (a := a) (b := c) i k
    by_cases h1 : a.getD i d = b.getD j d
    · rw [if_pos h1] at e1
      by_cases h2 : b.getD j d = c.getD k d
      · rw [if_pos h2] at e2
        rw [if_pos (h1.trans h2)] at e3
        omega
      · rw [if_neg h2] at e2
        omega
    · rw [if_neg h1] at e1
      omega
end
end LC
end
section
set_option Elab.async false
set_option linter.all false
set_option maxRecDepth 100000
set_option maxHeartbeats 2000000
namespace L83
open PySem PySem.Spec PyProof.Rows L2 Qv
abbrev e0 : Str := ""
abbrev LL (a b : List Str) (i j : Nat) : Nat := LC.L e0 a b i j
def Bk (a b : List Str) : Nat → Nat → Tr
  | _, 0 => []
  | 0, j + 1 => Bk a b 0 j ++ [(b.getD j e0, none)]
  | i + 1, j + 1 => if a.getD i e0 = b.getD j e0 then Bk a b i j ++ [(b.getD j e0, some i)] else if LL a b (i + 1) j ≤ LL a b i (j + 1) then Bk a b i (j + 1) else Bk a b (i + 1) j ++ [(b.getD j e0, none)]
termination_by i j => i + j
variable {a b : List Str}
theorem Bk_z (i : Nat) : Bk a b i 0 = [] := by cases i <;> rw [Bk]
theorem Bk_0 (j : Nat) : Bk a b 0 (j + 1) = Bk a b 0 j ++ [(b.getD j e0, none)] := by rw [Bk]
theorem Bk_s (i j : Nat) : Bk a b (i + 1) (j + 1) = if a.getD i e0 = b.getD j e0 then Bk a b i j ++ [(b.getD j e0, some i)] else if LL a b (i + 1) j ≤ LL a b i (j + 1) then Bk a b i (j + 1) else Bk a b (i + 1) j ++ [(b.getD j e0, none)] := by rw [Bk]
theorem pro_none {ls : List Str} {x : Str} : ∀ {t : Tr} {p : Nat}, Pro ls p t → Pro ls p (t ++ [(x, none)])
  | [], _, _ => trivial
  | (_, none) :: t, _, h => pro_none (t := t) h
  | (_, some q) :: t, _, h => ⟨h.1, h.2.1, h.2.2.1, pro_none (t := t) h.2.2.2⟩
theorem pro_some {ls : List Str} {q : Nat} (hq : q < ls.length) : ∀ {t : Tr} {p : Nat}, Pro ls p t → p ≤ q → (∀ z ∈ t, ∀ r, z.2 = some r → r < q) → Pro ls p (t ++ [(ls.getD q e0, some q)])
  | [], p, _, hp, _ => ⟨hp, hq, rfl, trivial⟩
  | (_, none) :: t, p, h, hp, hl => pro_some hq (t := t) h hp fun z m => hl z (List.mem_cons_of_mem _ m)
  | (x, some r) :: t, p, h, hp, hl => ⟨h.1, h.2.1, h.2.2.1, pro_some hq (t := t) h.2.2.2 (hl (x, some r) List.mem_cons_self r rfl) fun z m => hl z (List.mem_cons_of_mem _ m)⟩
structure BkOk (a b : List Str) (i j : Nat) (t : Tr) : Prop where
  ln : lin t = b.take j
  cs : cS t = LL a b i j
  pl : ∀ z ∈ t, ∀ r, z.2 = some r → r < i
  pr : Pro a 0 t
theorem take_s {b : List Str} {j : Nat} (h : j < b.length) : b.take (j + 1) = b.take j ++ [b.getD j e0] := by
  rw [List.take_add_one, List.getD_eq_getElem?_getD, List.getElem?_eq_getElem h]
  rfl
theorem lin_app (s t : Tr) : lin (s ++ t) = lin s ++ lin t := by simp [lin]
theorem bk_ok : ∀ (n i j : Nat), i + j ≤ n → i ≤ a.length → j ≤ b.length → BkOk a b i j (Bk a b i j)
  | n, i, 0, _, _, _ => by
    rw [Bk_z]
    exact ⟨rfl, by rw [LL, LC.Li0]; rfl, (fun z m => by cases m), trivial⟩
  | 0, i, j + 1, h, _, _ => by omega
  | n + 1, 0, j + 1, h, hi, hj => by
    obtain ⟨q1, q2, q3, q4⟩ := bk_ok n 0 j (by omega) hi (by omega)
    rw [Bk_0]
    refine ⟨by rw [lin_app, q1, take_s (by omega)]; rfl, by rw [cS_app, q2, LL, LC.L0, LL, LC.L0]; rfl, fun z m r hr => ?_, pro_none q4⟩
    rcases List.mem_append.mp m with m | m
    · exact q3 z m r hr
    · rw [List.mem_singleton.mp m] at hr
      cases hr
  | n + 1, i + 1, j + 1, h, hi, hj => by
    rw [Bk_s]
    by_cases e : a.getD i e0 = b.getD j e0
    · rw [if_pos e]
      obtain ⟨q1, q2, q3, q4⟩ := bk_ok n i j (by omega) (by omega) (by omega)
      refine ⟨by rw [lin_app, q1, take_s (by omega)]; rfl, by rw [cS_app, q2, LL, LL, LC.Ls, if_pos e]; rfl, fun z m r hr => ?_, ?_⟩
      · rcases List.mem_append.mp m with m | m
        · have := q3 z m r hr
          omega
        · rw [List.mem_singleton.mp m] at hr
          cases hr
          omega
      · rw [← e]
        exact pro_some (by omega) q4 (Nat.zero_le _) q3
    · rw [if_neg e]
      by_cases g : LL a b (i + 1) j ≤ LL a b i (j + 1)
      · rw [if_pos g]
        obtain ⟨q1, q2, q3, q4⟩ := bk_ok n i (j + 1) (by omega) (by omega) hj
        refine ⟨q1, by rw [q2, LL, LL, LC.Ls, if_neg e, Nat.max_eq_left g], fun z m r hr => ?_, q4⟩
        have := q3 z m r hr
        omega
      · rw [if_neg g]
        obtain ⟨q1, q2, q3, q4⟩ := bk_ok n (i + 1) j (by omega) hi (by omega)
        refine ⟨by rw [lin_app, q1, take_s (by omega)]; rfl, by rw [cS_app, q2, LL, LL, LC.Ls, if_neg e, Nat.max_eq_right (Nat.le_of_lt (Nat.lt_of_not_le g))]; rfl, fun z m r hr => ?_, pro_none q4⟩
        rcases List.mem_append.mp m with m | m
        · exact q3 z m r hr
        · rw [List.mem_singleton.mp m] at hr
          cases hr
/-! ### the least patch -/
def tra (a b : List Str) : Tr := Bk a b a.length b.length
def leastE (a b : List Str) : List Ed := nrm a.length (tra a b)
theorem tra_ok : BkOk a b a.length b.length (tra a b) := bk_ok _ _ _ (Nat.le_refl _) (Nat.le_refl _) (Nat.le_refl _)
theorem tra_lin : lin (tra a b) = b := by rw [tra_ok.ln, List.take_length]
theorem tra_len : (tra a b).length = b.length := by
  have := congrArg List.length (tra_lin (a := a) (b := b))
  simpa [lin] using this
structure Ln (ls : List Str) : Prop where
  len : ls.length ≤ 10
  each : ∀ l ∈ ls, LineOk l
theorem tra_line (hb : Ln b) : ∀ q ∈ tra a b, LineOk q.1 := fun q m => by
  have : q.1 ∈ lin (tra a b) := List.mem_map.mpr ⟨q, m, rfl⟩
  rw [tra_lin] at this
  exact hb.each _ this
theorem okS_ok {e : Ed} (h : e.okS) : e.ok := by
  cases e with
  | put ls =>
    have h : ls ≠ [] ∧ ls.length ≤ 200 ∧ ∀ l ∈ ls, LineOk l := h
    exact ⟨h.1, by omega, fun l m => (h.2.2 l m).len⟩
  | keep n => exact h
  | take n => exact h
theorem lin_keep (ls : List Str) : ∀ (n p : Nat), p + n ≤ ls.length → lin (keepT ls p n) = (ls.drop p).take n
  | 0, p, _ => by simp [keepT, lin]
  | n + 1, p, h => by
    rw [keepT_cons]
    have ih := lin_keep ls n (p + 1) (by omega)
    have hd := List.drop_eq_getElem_cons (show p < ls.length by omega)
    rw [hd, List.take_succ_cons, ← ih]
    simp [lin, List.getD_eq_getElem?_getD, List.getElem?_eq_getElem (show p < ls.length by omega)]
theorem fnd_lin (ls : List Str) : ∀ (es : List Ed) (p : Nat), p + span es ≤ ls.length → fnd ls p es = lin (tr ls p es)
  | [], _, _ => rfl
  | .put xs :: es, p, h => by
    rw [span_cons] at h
    simp only [Ed.span] at h
    rw [fnd, tr, lin_app, fnd_lin ls es p (by omega)]
    simp [lin, putT, Function.comp_def]
  | .keep n :: es, p, h => by
    rw [span_cons] at h
    simp only [Ed.span] at h
    rw [fnd, tr, lin_app, fnd_lin ls es (p + n) (by omega), lin_keep ls n p (by omega)]
  | .take n :: es, p, h => by
    rw [span_cons] at h
    simp only [Ed.span] at h
    rw [fnd, tr, fnd_lin ls es (p + n) (by omega)]
theorem cost_costs : ∀ es : List Ed, (costs es).sum = (cost es : Int)
  | [] => rfl
  | e :: es => by
    have ih := cost_costs es
    rw [cost_cons]
    cases e with
    | put ls =>
      have : costs (.put ls :: es) = (ls.length : Int) :: costs es := rfl
      rw [this, List.sum_cons, ih]
      simp [Ed.cost]
    | keep n =>
      have : costs (.keep n :: es) = costs es := rfl
      rw [this, ih]
      simp [Ed.cost]
    | take n =>
      have : costs (.take n :: es) = (n : Int) :: costs es := rfl
      rw [this, List.sum_cons, ih]
      simp [Ed.cost]
theorem least_ok (ha : Ln a) (hb : Ln b) : tr a 0 (leastE a b) = tra a b ∧ OkS a.length (leastE a b) := by
  have := hb.len
  exact nrm_ok tra_ok.pr (tra_line hb) (by rw [tra_len]; omega)
theorem least_is (ha : Ln a) (hb : Ln b) : IsPatch a.length (pD (leastE a b)) (leastE a b) := by
  obtain ⟨_, o⟩ := least_ok ha hb
  exact ⟨rfl, o.len, fun e m => okS_ok (o.each e m), o.sp, o.lt⟩
theorem least_fnd (ha : Ln a) (hb : Ln b) : fnd a 0 (leastE a b) = b := by
  obtain ⟨q, o⟩ := least_ok ha hb
  rw [fnd_lin a _ 0 (by rw [o.sp]; omega), q, tra_lin]
theorem least_cost (ha : Ln a) (hb : Ln b) : cost (leastE a b) + 2 * LL a b a.length b.length = a.length + b.length := by
  obtain ⟨q, o⟩ := least_ok ha hb
  have c := cost_tr a (leastE a b) 0
  rw [q, cost_costs, o.sp] at c
  have ns := cNS (tra a b)
  rw [tra_len] at ns
  have cs := (tra_ok (a := a) (b := b)).cs
  omega
end L83
end
section
set_option Elab.async false
set_option linter.all false
set_option maxRecDepth 100000
set_option maxHeartbeats 2000000
namespace L83
open PySem PySem.Spec PyProof.Rows L2 Qv
def rowD (a b : List Str) (i k : Nat) : List PyData := (List.range k).map fun j => PyData.int (LL a b i j : Nat)
def tabD (a b : List Str) (k : Nat) : List PyData := (List.range k).map fun i => PyData.list (rowD a b i (b.length + 1))
variable {a b : List Str}
theorem row_s (i k : Nat) : rowD a b i (k + 1) = rowD a b i k ++ [.int (LL a b i k : Nat)] := by
  unfold rowD
  rw [List.range_succ, List.map_append]
  rfl
theorem tab_s (k : Nat) : tabD a b (k + 1) = tabD a b k ++ [.list (rowD a b k (b.length + 1))] := by
  unfold tabD
  rw [List.range_succ, List.map_append]
  rfl
theorem row_at {i k j : Nat} (h : j < k) : (rowD a b i k)[j]? = some (.int (LL a b i j : Nat)) := by
  unfold rowD
  rw [List.getElem?_map, List.getElem?_range h]
  rfl
theorem tab_at {k i : Nat} (h : i < k) : (tabD a b k)[i]? = some (.list (rowD a b i (b.length + 1))) := by
  unfold tabD
  rw [List.getElem?_map, List.getElem?_range h]
  rfl
theorem row_len (i k : Nat) : (rowD a b i k).length = k := by simp [rowD]
theorem tab_len (k : Nat) : (tabD a b k).length = k := by simp [tabD]
theorem atI_last {α : Type} (xs : List α) (x : α) : atI (xs ++ [x]) (-1) = some x := by
  unfold atI ixN
  rw [if_neg (by omega), if_pos (by rw [List.length_append, List.length_singleton]; omega)]
  have e : (-1 + ((xs ++ [x]).length : Int)).toNat = xs.length := by rw [List.length_append, List.length_singleton]; omega
  show (xs ++ [x])[(-1 + ((xs ++ [x]).length : Int)).toNat]? = some x
  rw [e]
  simp
theorem item_lo (ds : List PyData) (d : PyData) : prim .item [olOf (ds ++ [d]), .sh (.int (-1))] = some (.sh d) := by
  show pItem [olOf (ds ++ [d]), .sh (.int (-1))] = _
  rw [item_ol, atI_last]
  rfl
theorem item_ls (ds : List PyData) (d : PyData) : prim .item [.sh (.list (ds ++ [d])), .sh (.int (-1))] = some (.sh d) := by
  show (atI (ds ++ [d]) (-1)).map O.sh = _
  rw [atI_last]
  rfl
theorem item_n {o : O} {ds : List PyData} {i : Nat} {d : PyData} (hs : o.seq? = some ds) (h : ds[i]? = some d) : prim .item [o, .sh (.int (i : Int))] = some (.sh d) := Qv.item_at hs h
theorem e_n1 {C : Cal} {ρ : Qv.Env} : Ev C ρ (.op .neg [.c (.int 1)]) (.sh (.int (-1))) := e_op (ov_c ov_nil) rfl
theorem sL_at {ls : List Str} {i : Nat} (h : i < ls.length) : (sL ls)[i]? = some (.str (ls.getD i e0)) := by
  unfold sL
  rw [List.getElem?_map, List.getD_eq_getElem?_getD, List.getElem?_eq_getElem h]
  rfl
theorem drop_s {ls : List Str} {i : Nat} (h : i < ls.length) : ls.drop i = ls.getD i e0 :: ls.drop (i + 1) := by
  rw [List.drop_eq_getElem_cons h, List.getD_eq_getElem?_getD, List.getElem?_eq_getElem h]
  rfl
theorem mul_rep (n : Nat) (hn : n ≤ 100000) : prim .mul [olOf [.int 0], .sh (.int (n : Int))] = some (olOf (List.replicate n (.int 0))) := by
  have key : prim .mul [olOf [.int 0], .sh (.int (n : Int))] = (match (olOf [PyData.int 0]).list? with
    | some xs => gd (decide (-(2 ^ 63) ≤ (n : Int) ∧ (n : Int) < 2 ^ 63 ∧ xs.length * (n : Int).toNat ≤ sizeLine)) (olOf (List.replicate (n : Int).toNat xs).flatten)
    | none => none) := rfl
  have g : -(2 ^ 63) ≤ (n : Int) ∧ (n : Int) < 2 ^ 63 ∧ [PyData.int 0].length * (n : Int).toNat ≤ sizeLine := ⟨by omega, by omega, by
    rw [Int.toNat_natCast, List.length_singleton, Nat.one_mul]
    exact sz_le (by omega)⟩
  have fl : ∀ n : Nat, (List.replicate n [PyData.int 0]).flatten = List.replicate n (.int 0) := fun n => by
    induction n with
    | zero => rfl
    | succ n ih => rw [List.replicate_succ, List.flatten_cons, ih]; rfl
  rw [key, list_ol]
  simp only [gd]
  rw [decide_eq_true g, if_pos rfl, Int.toNat_natCast, fl]
abbrev E16 (A B : PyData) (T : List PyData) (s3 s4 s5 s6 : Option O) : Qv.Env := [some (.sh A), some (.sh B), some (olOf T), s3, s4, s5, s6]
def inB : List Qv.S := [.ex (.app 4 (.ite (.op .eq [.nm 3, .nm 6]) (.op .add [.op .item [.op .item [.nm 2, .op .neg [.c (.int 1)]], .nm 5], .c (.int 1)]) (.op .max2 [.op .item [.op .item [.nm 2, .op .neg [.c (.int 1)]], .op .add [.nm 5, .c (.int 1)]], .op .item [.nm 4, .nm 5]])))]
def outB : List Qv.S := [.asg (.nm 4) (.lst [.c (.int 0)]), .fr (.tp [.nm 5, .nm 6]) .en [.nm 1] inB, .ex (.app 2 (.nm 4))]
theorem f16_body : f16.body = [.asg (.nm 2) (.lst [.op .mul [.lst [.c (.int 0)], .op .add [.op .len [.nm 1], .c (.int 1)]]]), .fr (.nm 3) .sq [.nm 0] outB, .ret (.nm 2)] := rfl
theorem f29_body : f29.body = f16.body := rfl
theorem max_is (x y : Nat) : prim .max2 [.sh (.int (x : Int)), .sh (.int (y : Int))] = some (.sh (.int ((max x y : Nat) : Int))) := by
  show some (shI (if (y : Int) > (x : Int) then (y : Int) else (x : Int))) = _
  have e : (if (y : Int) > (x : Int) then (y : Int) else (x : Int)) = ((max x y : Nat) : Int) := by
    split <;> omega
  rw [e]
  rfl
section
variable {C : Cal} {A B : PyData}
theorem in16 {i j : Nat} (hb : b.length ≤ 1000) (hj : j < b.length) : evSs C inB (E16 A B (tabD a b (i + 1)) (some (.sh (.str (a.getD i e0)))) (some (olOf (rowD a b (i + 1) (j + 1)))) (some (.sh (.int (j : Int)))) (some (.sh (.str (b.getD j e0))))) =
    some (.nx (E16 A B (tabD a b (i + 1)) (some (.sh (.str (a.getD i e0)))) (some (olOf (rowD a b (i + 1) (j + 2)))) (some (.sh (.int (j : Int)))) (some (.sh (.str (b.getD j e0)))))) := by
  have last : Ev C (E16 A B (tabD a b (i + 1)) (some (.sh (.str (a.getD i e0)))) (some (olOf (rowD a b (i + 1) (j + 1)))) (some (.sh (.int (j : Int)))) (some (.sh (.str (b.getD j e0))))) (.op .item [.nm 2, .op .neg [.c (.int 1)]]) (.sh (.list (rowD a b i (b.length + 1)))) :=
    e_op (ov_sl (o := olOf (tabD a b (i + 1))) rfl flat_ol (ov_d rfl e_n1 ov_nil)) (by rw [tab_s]; exact item_lo _ _)
  have c1 : Ev C (E16 A B (tabD a b (i + 1)) (some (.sh (.str (a.getD i e0)))) (some (olOf (rowD a b (i + 1) (j + 1)))) (some (.sh (.int (j : Int)))) (some (.sh (.str (b.getD j e0))))) (.op .eq [.nm 3, .nm 6]) (.sh (.bool (decide (a.getD i e0 = b.getD j e0)))) := e_op (ov_s rfl (ov_s rfl ov_nil)) (eq_ss _ _)
  have i1 := e_op (ov_d rfl last (ov_s (i := 5) rfl ov_nil)) (item_n seq_sh (row_at (a := a) (b := b) (i := i) (k := b.length + 1) (j := j) (by omega)))
  have t1 := e_op (ov_d rfl i1 (ov_c (d := .int 1) ov_nil)) (show prim .add [.sh (.int (LL a b i j : Nat)), .sh (.int 1)] = some (.sh (.int ((LL a b i j + 1 : Nat) : Int))) from rfl)
  have p1 : Ev C (E16 A B (tabD a b (i + 1)) (some (.sh (.str (a.getD i e0)))) (some (olOf (rowD a b (i + 1) (j + 1)))) (some (.sh (.int (j : Int)))) (some (.sh (.str (b.getD j e0))))) (.op .add [.nm 5, .c (.int 1)]) (.sh (.int ((j + 1 : Nat) : Int))) := e_op (ov_s rfl (ov_c ov_nil)) rfl
  have i2 := e_op (ov_d rfl last (ov_d rfl p1 ov_nil)) (item_n seq_sh (row_at (a := a) (b := b) (i := i) (k := b.length + 1) (j := j + 1) (by omega)))
  have i3 : Ev C (E16 A B (tabD a b (i + 1)) (some (.sh (.str (a.getD i e0)))) (some (olOf (rowD a b (i + 1) (j + 1)))) (some (.sh (.int (j : Int)))) (some (.sh (.str (b.getD j e0))))) (.op .item [.nm 4, .nm 5]) (.sh (.int (LL a b (i + 1) j : Nat))) :=
    e_op (ov_sl (o := olOf (rowD a b (i + 1) (j + 1))) rfl flat_ol (ov_s rfl ov_nil)) (item_n seq_ol (row_at (by omega)))
  have t2 := e_op (ov_d rfl i2 (ov_d rfl i3 ov_nil)) (max_is _ _)
  have it := e_ite (o := .sh (.int (LL a b (i + 1) (j + 1) : Nat))) c1 (fun e => by
    have e := of_decide_eq_true e
    rw [LL, LC.Ls, if_pos e]
    exact t1) (fun e => by
    have e := of_decide_eq_false e
    rw [LL, LC.Ls, if_neg e]
    exact t2)
  have x := x_app (C := C) (ρ := E16 A B (tabD a b (i + 1)) (some (.sh (.str (a.getD i e0)))) (some (olOf (rowD a b (i + 1) (j + 1)))) (some (.sh (.int (j : Int)))) (some (.sh (.str (b.getD j e0))))) (i := 4) (acc := rowD a b (i + 1) (j + 1)) rfl it (by rw [row_len]; omega)
  unfold inB
  rw [s_exv x, evSs_nil, row_s (i + 1) (j + 1)]
  rfl
theorem inner16 {i : Nat} (hb : b.length ≤ 1000) : ∀ (k j : Nat) (s5 s6 : Option O), j + k = b.length → ∃ t5 t6, frGo (fun x ρ2 => (bindTg (.tp [.nm 5, .nm 6]) x ρ2).bind fun ρ3 => evSs C inB ρ3) (((sL (b.drop j)).zipIdx j).map fun p => O.sh (.tuple [.int p.2, p.1]))
    (E16 A B (tabD a b (i + 1)) (some (.sh (.str (a.getD i e0)))) (some (olOf (rowD a b (i + 1) (j + 1)))) s5 s6) = some (.nx (E16 A B (tabD a b (i + 1)) (some (.sh (.str (a.getD i e0)))) (some (olOf (rowD a b (i + 1) (b.length + 1)))) t5 t6))
  | 0, j, s5, s6, h => by
    have e : j = b.length := by omega
    subst e
    exact ⟨s5, s6, by rw [List.drop_length]; rfl⟩
  | k + 1, j, s5, s6, h => by
    have hj : j < b.length := by omega
    obtain ⟨t5, t6, q⟩ := inner16 hb k (j + 1) (some (.sh (.int (j : Int)))) (some (.sh (.str (b.getD j e0)))) (by omega)
    refine ⟨t5, t6, ?_⟩
    rw [drop_s hj]
    have e0' : ((sL (b.getD j e0 :: b.drop (j + 1))).zipIdx j).map (fun p => O.sh (.tuple [.int p.2, p.1])) = O.sh (.tuple [.int j, .str (b.getD j e0)]) :: ((sL (b.drop (j + 1))).zipIdx (j + 1)).map fun p => O.sh (.tuple [.int p.2, p.1]) := rfl
    rw [e0']
    have bt : bindTg (.tp [.nm 5, .nm 6]) (O.sh (.tuple [.int (j : Int), .str (b.getD j e0)])) (E16 A B (tabD a b (i + 1)) (some (.sh (.str (a.getD i e0)))) (some (olOf (rowD a b (i + 1) (j + 1)))) s5 s6) = some (E16 A B (tabD a b (i + 1)) (some (.sh (.str (a.getD i e0)))) (some (olOf (rowD a b (i + 1) (j + 1)))) (some (.sh (.int (j : Int)))) (some (.sh (.str (b.getD j e0))))) := by
      simp only [bindTg, bindTgs, List.map_cons, List.map_nil]
      rfl
    simp only [frGo, bt, Option.bind_some, in16 hb hj]
    exact q
theorem LinesD.seq {ls : List Str} {X : PyData} (h : LinesD ls X) : (O.sh X).seq? = some (sL ls) := by rcases h with rfl | rfl <;> rfl
theorem LinesD.wk {ls : List Str} {X : PyData} (h : LinesD ls X) : walk .sq [.sh X] = some ((sL ls).map O.sh) := by rcases h with rfl | rfl <;> rfl
theorem LinesD.en {ls : List Str} {X : PyData} (h : LinesD ls X) : walk .en [.sh X] = some ((sL ls).zipIdx.map fun p => O.sh (.tuple [.int p.2, p.1])) := by rcases h with rfl | rfl <;> rfl
theorem out16 {i : Nat} (hB : LinesD b B) (hb : b.length ≤ 1000) (ha : a.length ≤ 1000) (hi : i < a.length) {s4 s5 s6 : Option O} : ∃ t4 t5 t6, evSs C outB (E16 A B (tabD a b (i + 1)) (some (.sh (.str (a.getD i e0)))) s4 s5 s6) = some (.nx (E16 A B (tabD a b (i + 2)) (some (.sh (.str (a.getD i e0)))) t4 t5 t6)) := by
  obtain ⟨t5, t6, q⟩ := inner16 (C := C) (A := A) (B := B) (a := a) (i := i) hb b.length 0 s5 s6 (by omega)
  rw [List.drop_zero] at q
  refine ⟨some (.sh (.list (rowD a b (i + 1) (b.length + 1)))), t5, t6, ?_⟩
  have r0 : rowD a b (i + 1) 1 = [.int 0] := by
    show [PyData.int (LL a b (i + 1) 0 : Nat)] = _
    rw [LL, LC.Li0]
    rfl
  have s1 : evS C (.asg (.nm 4) (.lst [.c (.int 0)])) (E16 A B (tabD a b (i + 1)) (some (.sh (.str (a.getD i e0)))) s4 s5 s6) = some (.nx (E16 A B (tabD a b (i + 1)) (some (.sh (.str (a.getD i e0)))) (some (olOf (rowD a b (i + 1) 1))) s5 s6)) := by
    have e : Ev C (E16 A B (tabD a b (i + 1)) (some (.sh (.str (a.getD i e0)))) s4 s5 s6) (.lst [.c (.int 0)]) (olOf [.int 0]) := e_lst (es_cons e_c es_nil) (by simp)
    rw [evS_asg, e, r0]
    rfl
  have s2 : evS C (.fr (.tp [.nm 5, .nm 6]) .en [.nm 1] inB) (E16 A B (tabD a b (i + 1)) (some (.sh (.str (a.getD i e0)))) (some (olOf (rowD a b (i + 1) 1))) s5 s6) = some (.nx (E16 A B (tabD a b (i + 1)) (some (.sh (.str (a.getD i e0)))) (some (olOf (rowD a b (i + 1) (b.length + 1)))) t5 t6)) := by
    have ex : evs C [.nm 1] (E16 A B (tabD a b (i + 1)) (some (.sh (.str (a.getD i e0)))) (some (olOf (rowD a b (i + 1) 1))) s5 s6) = some ([.sh B], E16 A B (tabD a b (i + 1)) (some (.sh (.str (a.getD i e0)))) (some (olOf (rowD a b (i + 1) 1))) s5 s6) := es_cons (e_nm rfl) es_nil
    have w : walk .en ([O.sh B].map fun o => .sh o.d) = some ((sL b).zipIdx.map fun p => O.sh (.tuple [.int p.2, p.1])) := hB.en
    rw [evS_fr, ex]
    simp only [Option.bind_some, w]
    exact q
  have s3 : evS C (.ex (.app 2 (.nm 4))) (E16 A B (tabD a b (i + 1)) (some (.sh (.str (a.getD i e0)))) (some (olOf (rowD a b (i + 1) (b.length + 1)))) t5 t6) = some (.nx (E16 A B (tabD a b (i + 2)) (some (.sh (.str (a.getD i e0)))) (some (.sh (.list (rowD a b (i + 1) (b.length + 1))))) t5 t6)) := by
    have v : ev C (.nm 4) (E16 A B (tabD a b (i + 1)) (some (.sh (.str (a.getD i e0)))) (some (olOf (rowD a b (i + 1) (b.length + 1)))) t5 t6) = some (.sh (.list (rowD a b (i + 1) (b.length + 1))), E16 A B (tabD a b (i + 1)) (some (.sh (.str (a.getD i e0)))) (some (.sh (.list (rowD a b (i + 1) (b.length + 1))))) t5 t6) := by
      rw [ev_nm, rdV_ol (i := 4) rfl]
      rfl
    have ap := app_of (C := C) (i := 2) (os0 := (tabD a b (i + 1)).map O.sh) (os := (tabD a b (i + 1)).map O.sh) rfl v rfl (Nat.lt_of_lt_of_le (show _ < 1000001 by rw [List.length_map, tab_len]; omega) (by decide))
    have e5 : (tabD a b (i + 1)).map O.sh ++ [O.sh (O.sh (PyData.list (rowD a b (i + 1) (b.length + 1)))).d] = (tabD a b (i + 2)).map O.sh := by
      rw [tab_s (i + 1), List.map_append]
      rfl
    rw [e5] at ap
    rw [evS_ex, ap]
    rfl
  exact (seq1 s1).trans ((seq1 s2).trans ((seq1 s3).trans evSs_nil))
theorem outer16 (hB : LinesD b B) (hb : b.length ≤ 1000) (ha : a.length ≤ 1000) : ∀ (k i : Nat) (s3 s4 s5 s6 : Option O), i + k = a.length → ∃ t3 t4 t5 t6, frGo (fun x ρ2 => (bindTg (.nm 3) x ρ2).bind fun ρ3 => evSs C outB ρ3) ((sL (a.drop i)).map O.sh) (E16 A B (tabD a b (i + 1)) s3 s4 s5 s6) =
    some (.nx (E16 A B (tabD a b (a.length + 1)) t3 t4 t5 t6))
  | 0, i, s3, s4, s5, s6, h => by
    have e : i = a.length := by omega
    subst e
    exact ⟨s3, s4, s5, s6, by rw [List.drop_length]; rfl⟩
  | k + 1, i, s3, s4, s5, s6, h => by
    have hi : i < a.length := by omega
    obtain ⟨t4, t5, t6, q⟩ := out16 (C := C) (A := A) (a := a) (s4 := s4) (s5 := s5) (s6 := s6) hB hb ha hi
    obtain ⟨u3, u4, u5, u6, q2⟩ := outer16 hB hb ha k (i + 1) (some (.sh (.str (a.getD i e0)))) t4 t5 t6 (by omega)
    refine ⟨u3, u4, u5, u6, ?_⟩
    rw [drop_s hi]
    have e0' : (sL (a.getD i e0 :: a.drop (i + 1))).map O.sh = O.sh (.str (a.getD i e0)) :: (sL (a.drop (i + 1))).map O.sh := rfl
    rw [e0']
    have bt : bindTg (.nm 3) (O.sh (.str (a.getD i e0))) (E16 A B (tabD a b (i + 1)) s3 s4 s5 s6) = some (E16 A B (tabD a b (i + 1)) (some (.sh (.str (a.getD i e0)))) s4 s5 s6) := by simp [bindTg]
    simp only [frGo, bt, Option.bind_some, q]
    exact q2
theorem tab_body (hA : LinesD a A) (hB : LinesD b B) (hb : b.length ≤ 1000) (ha : a.length ≤ 1000) : ∃ ρ', evSs C f16.body [some (.sh A), some (.sh B), none, none, none, none, none] = some (.rt (.sh (.list (tabD a b (a.length + 1)))) (some (.sh A) :: some (.sh B) :: ρ')) := by
  obtain ⟨t3, t4, t5, t6, q⟩ := outer16 (C := C) (A := A) (a := a) hB hb ha a.length 0 none none none none (by omega)
  rw [List.drop_zero] at q
  refine ⟨[some (.sh (.list (tabD a b (a.length + 1)))), t3, t4, t5, t6], ?_⟩
  rw [f16_body]
  have r0 : tabD a b 1 = [.list (List.replicate (b.length + 1) (.int 0))] := by
    show [PyData.list (rowD a b 0 (b.length + 1))] = _
    congr 2
    unfold rowD
    have : (fun j => PyData.int (LL a b 0 j : Nat)) = fun _ => .int 0 := by
      funext j
      rw [LL, LC.L0]
      rfl
    rw [this, List.map_const', List.length_range]
  have s1 : evS C (.asg (.nm 2) (.lst [.op .mul [.lst [.c (.int 0)], .op .add [.op .len [.nm 1], .c (.int 1)]]])) [some (.sh A), some (.sh B), none, none, none, none, none] = some (.nx (E16 A B (tabD a b 1) none none none none)) := by
    have m : Ev C [some (.sh A), some (.sh B), none, none, none, none, none] (.op .mul [.lst [.c (.int 0)], .op .add [.op .len [.nm 1], .c (.int 1)]]) (olOf (List.replicate (b.length + 1) (.int 0))) := by
      refine e_op (ov_v rfl (e_lst (es_cons e_c es_nil) (by simp)) flat_ol (ov_d rfl (e_op (ov_d rfl (e_op (ov_s rfl ov_nil) hB.len) (ov_c ov_nil)) (show prim .add [.sh (.int (b.length : Int)), .sh (.int 1)] = some (.sh (.int ((b.length + 1 : Nat) : Int))) from rfl)) ov_nil)) ?_
      exact mul_rep (b.length + 1) (by omega)
    have e : Ev C [some (.sh A), some (.sh B), none, none, none, none, none] (.lst [.op .mul [.lst [.c (.int 0)], .op .add [.op .len [.nm 1], .c (.int 1)]]]) (olOf (tabD a b 1)) := by
      have := e_lst (es_cons m es_nil) (by simp)
      rw [r0]
      simpa only [dL_cons, dL_nil, d_ol] using this
    rw [evS_asg, e]
    rfl
  have s2 : evS C (.fr (.nm 3) .sq [.nm 0] outB) (E16 A B (tabD a b 1) none none none none) = some (.nx (E16 A B (tabD a b (a.length + 1)) t3 t4 t5 t6)) := by
    have ex : evs C [.nm 0] (E16 A B (tabD a b 1) none none none none) = some ([.sh A], E16 A B (tabD a b 1) none none none none) := es_cons (e_nm rfl) es_nil
    have w : walk .sq ([O.sh A].map fun o => .sh o.d) = some ((sL a).map O.sh) := hA.wk
    rw [evS_fr, ex]
    simp only [Option.bind_some, w]
    exact q
  rw [seq1 s1, seq1 s2]
  exact s_retol rfl
end
theorem f16_ok {k : Nat} (h : 1 ≤ k) {A B : PyData} (hA : LinesD a A) (hB : LinesD b B) (ha : a.length ≤ 1000) (hb : b.length ≤ 1000) : RF k 16 [.sh A, .sh B] = some (.sh (.list (tabD a b (a.length + 1))), [.sh A, .sh B]) := by
  obtain ⟨k, rfl, _⟩ := posK h
  obtain ⟨ρ', e⟩ := tab_body (C := RF k) hA hB hb ha
  exact run_rt (fd := f16) rfl rfl e rfl
theorem f29_ok {k : Nat} (h : 1 ≤ k) {A B : PyData} (hA : LinesD a A) (hB : LinesD b B) (ha : a.length ≤ 1000) (hb : b.length ≤ 1000) : RF k 29 [.sh A, .sh B] = some (.sh (.list (tabD a b (a.length + 1))), [.sh A, .sh B]) := by
  obtain ⟨k, rfl, _⟩ := posK h
  obtain ⟨ρ', e⟩ := tab_body (C := RF k) hA hB hb ha
  exact run_rt (fd := f29) rfl rfl e rfl
end L83
end
section
set_option Elab.async false
set_option linter.all false
set_option maxRecDepth 100000
set_option maxHeartbeats 2000000
namespace L83
open PySem PySem.Spec PyProof.Rows L2 Qv
variable {a b : List Str}
abbrev tD (a b : List Str) : PyData := .list (tabD a b (a.length + 1))
abbrev E17 (A B : PyData) (a b : List Str) (acc : Tr) (i j : Nat) : Qv.Env := [some (.sh A), some (.sh B), some (.sh (tD a b)), some (olOf (TrD acc)), some (.sh (.int (i : Int))), some (.sh (.int (j : Int)))]
def c17 : Qv.T := .op .gt [.nm 5, .c (.int 0)]
def body17 : List Qv.S := [.ite (.and2 (.op .gt [.nm 4, .c (.int 0)]) (.op .eq [.op .item [.nm 0, .op .sub [.nm 4, .c (.int 1)]], .op .item [.nm 1, .op .sub [.nm 5, .c (.int 1)]]])) [.ex (.app 3 (.tup [.op .item [.nm 1, .op .sub [.nm 5, .c (.int 1)]], .op .sub [.nm 4, .c (.int 1)]])),
    .par [4, 5] [.op .sub [.nm 4, .c (.int 1)], .op .sub [.nm 5, .c (.int 1)]]] [.ite (.and2 (.op .gt [.nm 4, .c (.int 0)]) (.op .ge [.op .item [.op .item [.nm 2, .op .sub [.nm 4, .c (.int 1)]], .nm 5], .op .item [.op .item [.nm 2, .nm 4], .op .sub [.nm 5, .c (.int 1)]]])) [.asg (.nm 4) (.op .sub [.nm 4, .c (.int 1)])] [.ex (.app 3 (.tup [.op .item [.nm 1, .op .sub [.nm 5, .c (.int 1)]], .c (.none)])),
    .asg (.nm 5) (.op .sub [.nm 5, .c (.int 1)])]]]
theorem f17_body : f17.body = [.par [3, 4, 5] [.lst [], .op .len [.nm 0], .op .len [.nm 1]], .wh c17 body17, .ret (.fz (.op .back [.nm 3]))] := rfl
theorem sub1 (n : Nat) : prim .sub [.sh (.int ((n + 1 : Nat) : Int)), .sh (.int 1)] = some (.sh (.int (n : Int))) := by
  show some (shI (((n + 1 : Nat) : Int) - 1)) = _
  rw [show ((n + 1 : Nat) : Int) - 1 = (n : Int) by omega]
  rfl
section
variable {C : Cal} {A B : PyData} {acc : Tr}
theorem gt0 {ρ : Qv.Env} {s n : Nat} (h : ρ[s]? = some (some (.sh (.int (n : Int))))) : Ev C ρ (.op .gt [.nm s, .c (.int 0)]) (.sh (.bool (decide (0 < n)))) := by
  refine e_op (ov_s h (ov_c ov_nil)) ((gt_ii _ _).trans ?_)
  rw [decide_eq_decide.mpr (show ((0 : Int) < (n : Int)) ↔ 0 < n by omega)]
theorem e_sub1 {ρ : Qv.Env} {s n : Nat} (h : ρ[s]? = some (some (.sh (.int ((n + 1 : Nat) : Int))))) : Ev C ρ (.op .sub [.nm s, .c (.int 1)]) (.sh (.int (n : Int))) := e_op (ov_s h (ov_c ov_nil)) (sub1 n)
theorem app17 {i j : Nat} {e : Qv.T} {q : Str × Option Nat} (h : Ev C (E17 A B a b acc i j) e (.sh (itD q))) (hl : acc.length < 1000000) : ev C (.app 3 e) (E17 A B a b acc i j) = some (.sh .none, E17 A B a b (acc ++ [q]) i j) := by
  have x := x_app (C := C) (i := 3) (acc := TrD acc) (ρ := E17 A B a b acc i j) rfl h (by simpa [TrD] using hl)
  rw [x]
  have : TrD acc ++ [itD q] = TrD (acc ++ [q]) := by simp [TrD]
  rw [this]
  rfl
theorem none17 {i j : Nat} (hB : LinesD b B) (hj : j < b.length) (hl : acc.length < 1000000) : evSs C [.ex (.app 3 (.tup [.op .item [.nm 1, .op .sub [.nm 5, .c (.int 1)]], .c (.none)])), .asg (.nm 5) (.op .sub [.nm 5, .c (.int 1)])] (E17 A B a b acc i (j + 1)) = some (.nx (E17 A B a b (acc ++ [(b.getD j e0, none)]) i j)) := by
  have v : Ev C (E17 A B a b acc i (j + 1)) (.tup [.op .item [.nm 1, .op .sub [.nm 5, .c (.int 1)]], .c (.none)]) (.sh (itD (b.getD j e0, none))) := e_tup (es_cons (e_op (ov_s rfl (ov_d rfl (e_sub1 rfl) ov_nil)) (item_n hB.seq (sL_at hj))) (es_cons e_c es_nil)) (by simp)
  have s : Ev C (E17 A B a b (acc ++ [(b.getD j e0, none)]) i (j + 1)) (.op .sub [.nm 5, .c (.int 1)]) (.sh (.int (j : Int))) := e_sub1 rfl
  rw [s_exv (app17 v hl)]
  refine (s_asg s (by simp)).trans ?_
  rw [evSs_nil]
  rfl
theorem loop17 (hA : LinesD a A) (hB : LinesD b B) : ∀ (n i j : Nat) (acc : Tr), i + j ≤ n → i ≤ a.length → j ≤ b.length → acc.length + j ≤ 100000 → ∃ i', evS C (.wh c17 body17) (E17 A B a b acc i j) = some (.nx (E17 A B a b (acc ++ (Bk a b i j).reverse) i' 0))
  | n, i, 0, acc, _, _, _, _ => by
    have c : Ev C (E17 A B a b acc i 0) c17 (.sh (.bool (decide (0 < 0)))) := gt0 (s := 5) rfl
    exact ⟨i, by rw [wh_f c, Bk_z, List.reverse_nil, List.append_nil]⟩
  | 0, i, j + 1, acc, h, _, _, _ => by omega
  | n + 1, 0, j + 1, acc, h, hi, hj, hl => by
    have c : Ev C (E17 A B a b acc 0 (j + 1)) c17 (.sh (.bool (decide (0 < j + 1)))) := gt0 (s := 5) rfl
    rw [decide_eq_true (by omega)] at c
    obtain ⟨i', q⟩ := loop17 hA hB n 0 j (acc ++ [(b.getD j e0, none)]) (by omega) hi (by omega) (by rw [List.length_append, List.length_singleton]; omega)
    have g : Ev C (E17 A B a b acc 0 (j + 1)) (.op .gt [.nm 4, .c (.int 0)]) (.sh (.bool false)) := gt0 (s := 4) (n := 0) rfl
    have st : evSs C body17 (E17 A B a b acc 0 (j + 1)) = some (.nx (E17 A B a b (acc ++ [(b.getD j e0, none)]) 0 j)) := by
      unfold body17
      refine (s_iff2 (e_and (y := false) g fun e => by cases e) ((s_iff2 (e_and (y := false) g fun e => by cases e) (none17 hB (by omega) (by omega))).trans evSs_nil)).trans evSs_nil
    exact ⟨i', by rw [wh_t c st, q, Bk_0, List.reverse_append, List.append_assoc]; rfl⟩
  | n + 1, i + 1, j + 1, acc, h, hi, hj, hl => by
    have c : Ev C (E17 A B a b acc (i + 1) (j + 1)) c17 (.sh (.bool (decide (0 < j + 1)))) := gt0 (s := 5) rfl
    rw [decide_eq_true (by omega)] at c
    have g : Ev C (E17 A B a b acc (i + 1) (j + 1)) (.op .gt [.nm 4, .c (.int 0)]) (.sh (.bool (decide (0 < i + 1)))) := gt0 (s := 4) (n := i + 1) rfl
    rw [decide_eq_true (by omega)] at g
    have ia : Ev C (E17 A B a b acc (i + 1) (j + 1)) (.op .item [.nm 0, .op .sub [.nm 4, .c (.int 1)]]) (.sh (.str (a.getD i e0))) := e_op (ov_s rfl (ov_d rfl (e_sub1 rfl) ov_nil)) (item_n hA.seq (sL_at (by omega)))
    have ib : Ev C (E17 A B a b acc (i + 1) (j + 1)) (.op .item [.nm 1, .op .sub [.nm 5, .c (.int 1)]]) (.sh (.str (b.getD j e0))) := e_op (ov_s rfl (ov_d rfl (e_sub1 rfl) ov_nil)) (item_n hB.seq (sL_at (by omega)))
    have c1 := e_and g fun _ => e_op (ov_d rfl ia (ov_d rfl ib ov_nil)) (eq_ss _ _)
    rw [Bool.true_and] at c1
    by_cases he : a.getD i e0 = b.getD j e0
    · rw [decide_eq_true he] at c1
      obtain ⟨i', q⟩ := loop17 hA hB n i j (acc ++ [(b.getD j e0, some i)]) (by omega) (by omega) (by omega) (by rw [List.length_append, List.length_singleton]; omega)
      have v : Ev C (E17 A B a b acc (i + 1) (j + 1)) (.tup [.op .item [.nm 1, .op .sub [.nm 5, .c (.int 1)]], .op .sub [.nm 4, .c (.int 1)]]) (.sh (itD (b.getD j e0, some i))) := e_tup (es_cons ib (es_cons (e_sub1 rfl) es_nil)) (by simp)
      have s4 : Ev C (E17 A B a b (acc ++ [(b.getD j e0, some i)]) (i + 1) (j + 1)) (.op .sub [.nm 4, .c (.int 1)]) (.sh (.int (i : Int))) := e_sub1 rfl
      have s5 : Ev C (E17 A B a b (acc ++ [(b.getD j e0, some i)]) (i + 1) (j + 1)) (.op .sub [.nm 5, .c (.int 1)]) (.sh (.int (j : Int))) := e_sub1 rfl
      have st : evSs C body17 (E17 A B a b acc (i + 1) (j + 1)) = some (.nx (E17 A B a b (acc ++ [(b.getD j e0, some i)]) i j)) := by
        unfold body17
        refine (s_ift2 c1 (ρ1 := E17 A B a b (acc ++ [(b.getD j e0, some i)]) i j) ?_).trans evSs_nil
        rw [s_exv (app17 v (by omega))]
        refine (s_par2 s4 s5 (by simp) (by simp)).trans ?_
        rw [evSs_nil]
        rfl
      exact ⟨i', by rw [wh_t c st, q, Bk_s, if_pos he, List.reverse_append, List.append_assoc]; rfl⟩
    · rw [decide_eq_false he] at c1
      have r1 : Ev C (E17 A B a b acc (i + 1) (j + 1)) (.op .item [.op .item [.nm 2, .op .sub [.nm 4, .c (.int 1)]], .nm 5]) (.sh (.int (LL a b i (j + 1) : Nat))) :=
        e_op (ov_d rfl (e_op (ov_s rfl (ov_d rfl (e_sub1 rfl) ov_nil)) (item_n seq_sh (tab_at (by omega)))) (ov_s rfl ov_nil)) (item_n seq_sh (row_at (by omega)))
      have r2 : Ev C (E17 A B a b acc (i + 1) (j + 1)) (.op .item [.op .item [.nm 2, .nm 4], .op .sub [.nm 5, .c (.int 1)]]) (.sh (.int (LL a b (i + 1) j : Nat))) :=
        e_op (ov_d rfl (e_op (ov_s rfl (ov_s rfl ov_nil)) (item_n seq_sh (tab_at (by omega)))) (ov_d rfl (e_sub1 rfl) ov_nil)) (item_n seq_sh (row_at (by omega)))
      have c2 := e_and g fun _ => e_op (ov_d rfl r1 (ov_d rfl r2 ov_nil)) (ge_ii _ _)
      rw [Bool.true_and, decide_eq_decide.mpr (show (((LL a b (i + 1) j : Nat) : Int) ≤ ((LL a b i (j + 1) : Nat) : Int)) ↔ LL a b (i + 1) j ≤ LL a b i (j + 1) by omega)] at c2
      by_cases hg : LL a b (i + 1) j ≤ LL a b i (j + 1)
      · rw [decide_eq_true hg] at c2
        obtain ⟨i', q⟩ := loop17 hA hB n i (j + 1) acc (by omega) (by omega) hj hl
        have s4 : Ev C (E17 A B a b acc (i + 1) (j + 1)) (.op .sub [.nm 4, .c (.int 1)]) (.sh (.int (i : Int))) := e_sub1 rfl
        have st : evSs C body17 (E17 A B a b acc (i + 1) (j + 1)) = some (.nx (E17 A B a b acc i (j + 1))) := by
          unfold body17
          refine (s_iff2 c1 ((s_ift2 c2 (ρ1 := E17 A B a b acc i (j + 1)) ?_).trans evSs_nil)).trans evSs_nil
          refine (s_asg s4 (by simp)).trans ?_
          rw [evSs_nil]
          rfl
        exact ⟨i', by rw [wh_t c st, q, Bk_s, if_neg he, if_pos hg]⟩
      · rw [decide_eq_false hg] at c2
        obtain ⟨i', q⟩ := loop17 hA hB n (i + 1) j (acc ++ [(b.getD j e0, none)]) (by omega) hi (by omega) (by rw [List.length_append, List.length_singleton]; omega)
        have st : evSs C body17 (E17 A B a b acc (i + 1) (j + 1)) = some (.nx (E17 A B a b (acc ++ [(b.getD j e0, none)]) (i + 1) j)) := by
          unfold body17
          exact (s_iff2 c1 ((s_iff2 c2 (none17 hB (by omega) (by omega))).trans evSs_nil)).trans evSs_nil
        exact ⟨i', by rw [wh_t c st, q, Bk_s, if_neg he, if_neg hg, List.reverse_append, List.append_assoc]; rfl⟩
end
theorem f17_ok {k : Nat} (h : 1 ≤ k) {A B : PyData} (hA : LinesD a A) (hB : LinesD b B) (ha : a.length ≤ 1000) (hb : b.length ≤ 1000) : RF k 17 [.sh A, .sh B, .sh (tD a b)] = some (.sh (.list (TrD (tra a b))), [.sh A, .sh B, .sh (tD a b)]) := by
  obtain ⟨k, rfl, _⟩ := posK h
  suffices h : ∃ ρ', evSs (RF k) f17.body [some (.sh A), some (.sh B), some (.sh (tD a b)), none, none, none] = some (.rt (.sh (.list (TrD (tra a b)))) (some (.sh A) :: some (.sh B) :: some (.sh (tD a b)) :: ρ')) by
    obtain ⟨ρ', e⟩ := h
    exact run_rt (fd := f17) rfl rfl e rfl
  generalize RF k = C
  obtain ⟨i', q⟩ := loop17 (C := C) hA hB _ a.length b.length [] (Nat.le_refl _) (Nat.le_refl _) (Nat.le_refl _) (by simp only [List.length_nil]; omega)
  rw [List.nil_append] at q
  refine ⟨[some (olOf (TrD (Bk a b a.length b.length).reverse)), some (.sh (.int (i' : Int))), some (.sh (.int ((0 : Nat) : Int)))], ?_⟩
  rw [f17_body]
  have la : Ev C [some (.sh A), some (.sh B), some (.sh (tD a b)), none, none, none] (.op .len [.nm 0]) (.sh (.int a.length)) := e_op (ov_s rfl ov_nil) hA.len
  have lb : Ev C [some (.sh A), some (.sh B), some (.sh (tD a b)), none, none, none] (.op .len [.nm 1]) (.sh (.int b.length)) := e_op (ov_s rfl ov_nil) hB.len
  have s1 : evSs C [.par [3, 4, 5] [.lst [], .op .len [.nm 0], .op .len [.nm 1]], .wh c17 body17, .ret (.fz (.op .back [.nm 3]))] [some (.sh A), some (.sh B), some (.sh (tD a b)), none, none, none] = evSs C [.wh c17 body17, .ret (.fz (.op .back [.nm 3]))] (E17 A B a b [] a.length b.length) :=
    s_par3 (e_lst es_nil (by simp)) la lb (by simp) (by simp) (by simp)
  rw [s1, seq1 q]
  have bk : Ev C (E17 A B a b (Bk a b a.length b.length).reverse i' 0) (.op .back [.nm 3]) (olOf (TrD (tra a b))) := by
    refine e_op (ov_sl (o := olOf (TrD (Bk a b a.length b.length).reverse)) rfl flat_ol ov_nil) ?_
    show (olOf (TrD (Bk a b a.length b.length).reverse)).list?.map (fun ds => olOf ds.reverse) = _
    rw [list_ol]
    have : (TrD (Bk a b a.length b.length).reverse).reverse = TrD (tra a b) := by
      unfold TrD tra
      rw [List.map_reverse, List.reverse_reverse]
    rw [Option.map_some, this]
  refine (s_ret (e_fz bk)).trans ?_
  rw [d_ol]
theorem tra_okT (hb : Ln b) : OkT (tra a b) := ⟨tra_line hb, by rw [tra_len]; have := hb.len; omega⟩
theorem f18_ok {k : Nat} (h : 3 ≤ k) (ha : Ln a) (hb : Ln b) {A B : PyData} (hA : LinesD a A) (hB : LinesD b B) : RF k 18 [.sh A, .sh B] = some (.sh (pD (leastE a b)), [.sh A, .sh B]) := by
  obtain ⟨k, rfl, h1⟩ := posK h
  refine run_rt (fd := f18) (ρ := [some (.sh A), some (.sh B)]) rfl rfl ?_ rfl
  show evSs (RF k) f18.body [some (.sh A), some (.sh B)] = _
  have la := ha.len
  have lb := hb.len
  have c16 := f16_ok (k := k) (by omega) hA hB (by omega) (by omega)
  have c17 := f17_ok (k := k) (by omega) hA hB (by omega) (by omega)
  obtain ⟨T2, c13, _⟩ := f13_ok (k := k) h1 (T := .sh (.list (TrD (tra a b)))) (t := tra a b) (many := a.length) rfl rfl (tra_okT hb) (pro_below tra_ok.pr)
  generalize RF k = C at *
  unfold f18
  have e1 : Ev C [some (.sh A), some (.sh B)] (.call 16 [.nm 0, .nm 1]) (.sh (tD a b)) := e_call (la_s rfl (la_s rfl la_nil)) c16
  have e2 : Ev C [some (.sh A), some (.sh B)] (.call 17 [.nm 0, .nm 1, .call 16 [.nm 0, .nm 1]]) (.sh (.list (TrD (tra a b)))) := e_call (la_s rfl (la_s rfl (la_v rfl e1 la_nil))) c17
  have e3 : Ev C [some (.sh A), some (.sh B)] (.op .len [.nm 0]) (.sh (.int a.length)) := e_op (ov_s rfl ov_nil) hA.len
  rw [s_ret (e_call (la_v rfl e3 (la_v rfl e2 la_nil)) c13)]
  rfl
theorem Ln.okL (h : Ln a) : OkL a := ⟨by have := h.len; omega, fun l m => (h.each l m).len⟩
theorem mul2 (n : Nat) : prim .mul [.sh (.int 2), .sh (.int (n : Int))] = some (.sh (.int (2 * (n : Int)))) := by
  show gd (decide ((-(2 ^ 64) < (2 : Int) ∧ (2 : Int) < 2 ^ 64) ∨ (-(2 ^ 64) < (n : Int) ∧ (n : Int) < 2 ^ 64))) (shI (2 * (n : Int))) = _
  rw [decide_eq_true (.inl ⟨by decide, by decide⟩)]
  rfl
def costI (a b : List Str) : Int := (a.length : Int) + (b.length : Int) - 2 * (LL a b a.length b.length : Nat)
/-- len + len - 2 * table[-1][-1] -/
theorem e_cost {C : Cal} {ρ : Qv.Env} {x y : Nat} {A B : PyData} {t : Qv.T} (hx : ρ[x]? = some (some (.sh A))) (hy : ρ[y]? = some (some (.sh B))) (hA : LinesD a A) (hB : LinesD b B) (hn : isNm t = none) (ht : Ev C ρ t (.sh (tD a b))) :
    Ev C ρ (.op .sub [.op .add [.op .len [.nm x], .op .len [.nm y]], .op .mul [.c (.int 2), .op .item [.op .item [t, .op .neg [.c (.int 1)]], .op .neg [.c (.int 1)]]]]) (.sh (.int (costI a b))) := by
  have i1 : Ev C ρ (.op .item [t, .op .neg [.c (.int 1)]]) (.sh (.list (rowD a b a.length (b.length + 1)))) := e_op (ov_d hn ht (ov_d rfl e_n1 ov_nil)) (by rw [tD, tab_s]; exact item_ls _ _)
  have i2 : Ev C ρ (.op .item [.op .item [t, .op .neg [.c (.int 1)]], .op .neg [.c (.int 1)]]) (.sh (.int (LL a b a.length b.length : Nat))) := e_op (ov_d rfl i1 (ov_d rfl e_n1 ov_nil)) (by rw [row_s]; exact item_ls _ _)
  have s1 : Ev C ρ (.op .add [.op .len [.nm x], .op .len [.nm y]]) (.sh (.int ((a.length : Int) + (b.length : Int)))) := e_op (ov_d rfl (e_op (ov_s hx ov_nil) hA.len) (ov_d rfl (e_op (ov_s hy ov_nil) hB.len) ov_nil)) rfl
  exact e_op (ov_d rfl s1 (ov_d rfl (e_op (ov_c (ov_d rfl i2 ov_nil)) (mul2 _)) ov_nil)) rfl
theorem f22_ok {k : Nat} (h : 4 ≤ k) (ha : Ln a) (hb : Ln b) {A B : PyData} (hA : LinesD a A) (hB : LinesD b B) : RF k 22 [.sh A, .sh B] = some (.sh (.int (costI a b)), [.sh A, .sh B]) := by
  obtain ⟨k, rfl, h1⟩ := posK h
  refine run_rt (fd := f22) (ρ := [some (.sh A), some (.sh B)]) rfl rfl ?_ rfl
  show evSs (RF k) f22.body [some (.sh A), some (.sh B)] = _
  have la := ha.len
  have lb := hb.len
  have c8 := f8_ok (k := k) h1 ha.okL hA
  have c9 := f9_ok (k := k) h1 hb.okL hB
  have c16 := f16_ok (k := k) (by omega) hA hB (by omega) (by omega)
  generalize RF k = C at *
  unfold f22
  rw [s_ex (e_call (la_s rfl la_nil) c8), s_ex (e_call (la_s rfl la_nil) c9)]
  rw [s_ret (e_cost rfl rfl hA hB rfl (e_call (la_s rfl (la_s rfl la_nil)) c16))]
theorem f23_ok {k : Nat} (h : 4 ≤ k) (ha : Ln a) (hb : Ln b) {A B : PyData} (hA : LinesD a A) (hB : LinesD b B) : RF k 23 [.sh A, .sh B] = some (.sh (pD (leastE a b)), [.sh A, .sh B]) := by
  obtain ⟨k, rfl, h1⟩ := posK h
  refine run_rt (fd := f23) (ρ := [some (.sh A), some (.sh B)]) rfl rfl ?_ rfl
  show evSs (RF k) f23.body [some (.sh A), some (.sh B)] = _
  have c8 := f8_ok (k := k) h1 ha.okL hA
  have c9 := f9_ok (k := k) h1 hb.okL hB
  have c18 := f18_ok (k := k) h1 ha hb hA hB
  generalize RF k = C at *
  unfold f23
  rw [s_ex (e_call (la_s rfl la_nil) c8), s_ex (e_call (la_s rfl la_nil) c9)]
  rw [s_ret (e_call (la_s rfl (la_s rfl la_nil)) c18)]
def papD (a b : List Str) : PyData := .tuple [.str "least", pD (leastE a b), tD a b]
theorem f24_ok {k : Nat} (h : 4 ≤ k) (ha : Ln a) (hb : Ln b) {A B : PyData} (hA : LinesD a A) (hB : LinesD b B) : RF k 24 [.sh A, .sh B] = some (.sh (papD a b), [.sh A, .sh B]) := by
  obtain ⟨k, rfl, h1⟩ := posK h
  refine run_rt (fd := f24) (ρ := [some (.sh A), some (.sh B)]) rfl rfl ?_ rfl
  show evSs (RF k) f24.body [some (.sh A), some (.sh B)] = _
  have la := ha.len
  have lb := hb.len
  have c8 := f8_ok (k := k) h1 ha.okL hA
  have c9 := f9_ok (k := k) h1 hb.okL hB
  have c18 := f18_ok (k := k) h1 ha hb hA hB
  have c16 := f16_ok (k := k) (by omega) hA hB (by omega) (by omega)
  generalize RF k = C at *
  unfold f24
  rw [s_ex (e_call (la_s rfl la_nil) c8), s_ex (e_call (la_s rfl la_nil) c9)]
  rw [s_ret (e_tup (es_cons e_c (es_cons (e_call (la_s rfl (la_s rfl la_nil)) c18) (es_cons (e_call (la_s rfl (la_s rfl la_nil)) c16) es_nil))) (by simp))]
  rfl
end L83
end
section
set_option Elab.async false
set_option linter.all false
set_option maxRecDepth 100000
set_option maxHeartbeats 2000000
namespace L83
open PySem PySem.Spec PyProof.Rows L2 Qv
/-! ### what is shown tells rows of numbers apart -/
theorem cancel {c : Nat} : ∀ {w v r s : List Nat}, c ∉ w → c ∉ v → w ++ c :: r = v ++ c :: s → w = v ∧ r = s
  | [], [], r, s, _, _, h => ⟨rfl, by simpa using h⟩
  | [], x :: v, r, s, _, h2, h => by
    simp only [List.nil_append, List.cons_append, List.cons.injEq] at h
    exact absurd (by rw [h.1]; exact List.mem_cons_self) h2
  | x :: w, [], r, s, h1, _, h => by
    simp only [List.nil_append, List.cons_append, List.cons.injEq] at h
    exact absurd (by rw [← h.1]; exact List.mem_cons_self) h1
  | x :: w, y :: v, r, s, h1, h2, h => by
    simp only [List.cons_append, List.cons.injEq] at h
    obtain ⟨e1, e2⟩ := cancel (fun m => h1 (List.mem_cons_of_mem _ m)) (fun m => h2 (List.mem_cons_of_mem _ m)) h.2
    exact ⟨by rw [h.1, e1], e2⟩
abbrev J (xs : List (List Nat)) : List Nat := TL.joinL [44, 32] xs
def br (w : List Nat) : List Nat := 91 :: (w ++ [93])
theorem joinC : ∀ {xs ys : List (List Nat)}, (∀ x ∈ xs, x ≠ [] ∧ 44 ∉ x) → (∀ y ∈ ys, y ≠ [] ∧ 44 ∉ y) → J xs = J ys → xs = ys
  | [], [], _, _, _ => rfl
  | [], [y], _, hy, h => absurd (show y = [] from h.symm) (hy y List.mem_cons_self).1
  | [], y :: z :: ys, _, hy, h => by
    have h : [] = y ++ ([44, 32] ++ J (z :: ys)) := h
    simp at h
  | [x], [], hx, _, h => absurd (show x = [] from h) (hx x List.mem_cons_self).1
  | x :: z :: xs, [], hx, _, h => by
    have h : x ++ ([44, 32] ++ J (z :: xs)) = [] := h
    simp at h
  | [x], [y], _, _, h => by
    have h : x = y := h
    rw [h]
  | [x], y :: z :: ys, hx, _, h => by
    have h : x = y ++ ([44, 32] ++ J (z :: ys)) := h
    exact absurd (by rw [h]; simp) (hx x List.mem_cons_self).2
  | x :: z :: xs, [y], _, hy, h => by
    have h : x ++ ([44, 32] ++ J (z :: xs)) = y := h
    exact absurd (by rw [← h]; simp) (hy y List.mem_cons_self).2
  | x :: z :: xs, y :: u :: ys, hx, hy, h => by
    have h : x ++ (44 :: (32 :: J (z :: xs))) = y ++ (44 :: (32 :: J (u :: ys))) := h
    obtain ⟨e1, e2⟩ := cancel (hx x List.mem_cons_self).2 (hy y List.mem_cons_self).2 h
    simp only [List.cons.injEq, true_and] at e2
    have := joinC (xs := z :: xs) (ys := u :: ys) (fun w m => hx w (List.mem_cons_of_mem _ m)) (fun w m => hy w (List.mem_cons_of_mem _ m)) e2
    rw [e1, this]
theorem joinB : ∀ {xs ys : List (List Nat)}, (∀ x ∈ xs, 93 ∉ x) → (∀ y ∈ ys, 93 ∉ y) → J (xs.map br) = J (ys.map br) → xs = ys
  | [], [], _, _, _ => rfl
  | [], [y], _, _, h => by
    have h : [] = br y := h
    cases h
  | [], y :: z :: ys, _, _, h => by
    have h : [] = br y ++ ([44, 32] ++ J ((z :: ys).map br)) := h
    cases h
  | [x], [], _, _, h => by
    have h : br x = [] := h
    cases h
  | x :: z :: xs, [], _, _, h => by
    have h : br x ++ ([44, 32] ++ J ((z :: xs).map br)) = [] := h
    cases h
  | [x], [y], hx, hy, h => by
    have h : 91 :: (x ++ 93 :: []) = 91 :: (y ++ 93 :: []) := h
    simp only [List.cons.injEq, true_and] at h
    rw [(cancel (hx x List.mem_cons_self) (hy y List.mem_cons_self) h).1]
  | [x], y :: z :: ys, hx, hy, h => by
    have h : 91 :: (x ++ 93 :: []) = br y ++ ([44, 32] ++ J ((z :: ys).map br)) := h
    have h : 91 :: (x ++ 93 :: []) = 91 :: (y ++ 93 :: (44 :: 32 :: J ((z :: ys).map br))) := by rw [h]; simp [br]
    simp only [List.cons.injEq, true_and] at h
    have := (cancel (hx x List.mem_cons_self) (hy y List.mem_cons_self) h).2
    cases this
  | x :: z :: xs, [y], hx, hy, h => by
    have h : br x ++ ([44, 32] ++ J ((z :: xs).map br)) = 91 :: (y ++ 93 :: []) := h
    have h : 91 :: (x ++ 93 :: (44 :: 32 :: J ((z :: xs).map br))) = 91 :: (y ++ 93 :: []) := by rw [← h]; simp [br]
    simp only [List.cons.injEq, true_and] at h
    have := (cancel (hx x List.mem_cons_self) (hy y List.mem_cons_self) h).2
    cases this
  | x :: z :: xs, y :: u :: ys, hx, hy, h => by
    have h : br x ++ ([44, 32] ++ J ((z :: xs).map br)) = br y ++ ([44, 32] ++ J ((u :: ys).map br)) := h
    have h : 91 :: (x ++ 93 :: (44 :: 32 :: J ((z :: xs).map br))) = 91 :: (y ++ 93 :: (44 :: 32 :: J ((u :: ys).map br))) := by simpa [br] using h
    simp only [List.cons.injEq, true_and] at h
    obtain ⟨e1, e2⟩ := cancel (hx x List.mem_cons_self) (hy y List.mem_cons_self) h
    simp only [List.cons.injEq, true_and] at e2
    have := joinB (xs := z :: xs) (ys := u :: ys) (fun w m => hx w (List.mem_cons_of_mem _ m)) (fun w m => hy w (List.mem_cons_of_mem _ m)) e2
    rw [e1, this]
/-! cells -/
def cellB : PyData → Bool
  | .int i => decide (-1 ≤ i) && decide (i ≤ 30)
  | .bool _ => true
  | _ => false
def keyI : PyData → Int
  | .int i => i
  | .bool true => 100
  | .bool false => 101
  | _ => 102
def cellsL : List PyData := .bool true :: .bool false :: (List.range 32).map fun (i : Nat) => PyData.int ((i : Int) - 1)
theorem cell_mem {d : PyData} (h : cellB d = true) : d ∈ cellsL := by
  cases d with
  | int i =>
    simp only [cellB, Bool.and_eq_true, decide_eq_true_eq] at h
    refine List.mem_cons_of_mem _ (List.mem_cons_of_mem _ (List.mem_map.mpr ⟨(i + 1).toNat, List.mem_range.mpr (by omega), ?_⟩))
    rw [Int.toNat_of_nonneg (by omega), show i + 1 - 1 = i by omega]
  | bool b => cases b <;> simp [cellsL]
  | _ => cases h
theorem cells_free : (cellsL.all fun d => decide (d.shown.cps.toList ≠ []) && decide (44 ∉ d.shown.cps.toList) && decide (93 ∉ d.shown.cps.toList)) = true := by decide +kernel
theorem cells_apart : (cellsL.all fun c => cellsL.all fun d => !decide (c.shown.cps.toList = d.shown.cps.toList) || decide (keyI c = keyI d)) = true := by decide +kernel
theorem cell_key {c d : PyData} (hc : cellB c = true) (hd : cellB d = true) (h : keyI c = keyI d) : c = d := by
  cases c with
  | int i =>
    simp only [cellB, Bool.and_eq_true, decide_eq_true_eq] at hc
    cases d with
    | int j => rw [show i = j from h]
    | bool b =>
      cases b with
      | true => have h : i = 100 := h; omega
      | false => have h : i = 101 := h; omega
    | _ => cases hd
  | bool b =>
    cases d with
    | int j =>
      simp only [cellB, Bool.and_eq_true, decide_eq_true_eq] at hd
      cases b with
      | true => have h : (100 : Int) = j := h; omega
      | false => have h : (101 : Int) = j := h; omega
    | bool e =>
      cases b <;> cases e
      · rfl
      · cases h
      · cases h
      · rfl
    | _ => cases hd
  | _ => cases hc
theorem cell_inj {c d : PyData} (hc : cellB c = true) (hd : cellB d = true) (h : c.shown.cps.toList = d.shown.cps.toList) : c = d := by
  have q := List.all_eq_true.mp (List.all_eq_true.mp cells_apart c (cell_mem hc)) d (cell_mem hd)
  rw [decide_eq_true h] at q
  exact cell_key hc hd (of_decide_eq_true (by simpa using q))
def tx (d : PyData) : List Nat := d.shown.cps.toList
theorem tx_list (ds : List PyData) : tx (.list ds) = br (J (ds.map tx)) := by
  unfold tx
  rw [PyData.shown_list, PyProof.Rows.shownAll_eq_map]
  show ((Str.ofString "[") ++ Str.join (Str.ofString ", ") (ds.map PyData.shown) ++ (Str.ofString "]")).cps.toList = _
  have t1 : TL.tl (Str.ofString "[") = [91] := by decide +kernel
  have t2 : TL.tl (Str.ofString "]") = [93] := by decide +kernel
  have t3 : TL.tl (Str.ofString ", ") = [44, 32] := by decide +kernel
  show TL.tl ((Str.ofString "[") ++ Str.join (Str.ofString ", ") (ds.map PyData.shown) ++ (Str.ofString "]")) = _
  rw [TL.tl_append, TL.tl_append, TL.tl_join, t1, t2, t3, List.map_map]
  rfl
theorem cells_tx {cs ds : List PyData} (hc : ∀ c ∈ cs, cellB c = true) (hd : ∀ d ∈ ds, cellB d = true) (h : cs.map tx = ds.map tx) : cs = ds := by
  induction cs generalizing ds with
  | nil =>
    cases ds with
    | nil => rfl
    | cons _ _ => cases h
  | cons c cs ih =>
    cases ds with
    | nil => cases h
    | cons d ds =>
      simp only [List.map_cons, List.cons.injEq] at h
      rw [cell_inj (hc c List.mem_cons_self) (hd d List.mem_cons_self) h.1, ih (fun x m => hc x (List.mem_cons_of_mem _ m)) (fun x m => hd x (List.mem_cons_of_mem _ m)) h.2]
theorem cellFree {c : PyData} (h : cellB c = true) : tx c ≠ [] ∧ 44 ∉ tx c ∧ 93 ∉ tx c := by
  have q := List.all_eq_true.mp cells_free c (cell_mem h)
  simp only [Bool.and_eq_true, decide_eq_true_eq] at q
  exact ⟨q.1.1, q.1.2, q.2⟩
theorem J_free {c : Nat} (hc : c ≠ 44 ∧ c ≠ 32) : ∀ {xs : List (List Nat)}, (∀ x ∈ xs, c ∉ x) → c ∉ J xs
  | [], _ => by simp [J, TL.joinL]
  | [x], h => h x List.mem_cons_self
  | x :: y :: xs, h => by
    show c ∉ x ++ ([44, 32] ++ J (y :: xs))
    have h1 := h x List.mem_cons_self
    have h2 := J_free hc (xs := y :: xs) fun z m => h z (List.mem_cons_of_mem _ m)
    simp only [List.mem_append, List.mem_cons, List.not_mem_nil, or_false, not_or]
    exact ⟨h1, ⟨hc.1, hc.2⟩, h2⟩
/-- rows of cells -/
def rowsOk (xss : List (List PyData)) : Prop := ∀ cs ∈ xss, ∀ c ∈ cs, cellB c = true
theorem rows_inj {xss yss : List (List PyData)} (hx : rowsOk xss) (hy : rowsOk yss) (h : (PyData.list (xss.map .list)).shown = (PyData.list (yss.map .list)).shown) : xss = yss := by
  have h2 : tx (.list (xss.map .list)) = tx (.list (yss.map .list)) := by unfold tx; rw [h]
  rw [tx_list, tx_list] at h2
  have h3 : J ((xss.map .list).map tx) = J ((yss.map .list).map tx) := by
    unfold br at h2
    simp only [List.cons.injEq, true_and] at h2
    exact List.append_cancel_right h2
  have key : ∀ zss : List (List PyData), (zss.map PyData.list).map tx = (zss.map fun cs => J (cs.map tx)).map br := fun zss => by
    rw [List.map_map, List.map_map]
    apply List.map_congr_left
    intro cs _
    exact tx_list cs
  rw [key, key] at h3
  have fr : ∀ {zss : List (List PyData)}, rowsOk zss → ∀ z ∈ zss.map (fun cs => J (cs.map tx)), 93 ∉ z := fun {zss} hz z m => by
    obtain ⟨cs, hcs, rfl⟩ := List.mem_map.mp m
    refine J_free ⟨by decide, by decide⟩ fun x mx => ?_
    obtain ⟨c, hc, rfl⟩ := List.mem_map.mp mx
    exact (cellFree (hz cs hcs c hc)).2.2
  have h4 := joinB (fr hx) (fr hy) h3
  clear h h2 h3
  induction xss generalizing yss with
  | nil =>
    cases yss with
    | nil => rfl
    | cons _ _ => cases h4
  | cons cs xss ih =>
    cases yss with
    | nil => cases h4
    | cons ds yss =>
      simp only [List.map_cons, List.cons.injEq] at h4
      have t : ∀ {zs : List PyData}, (∀ z ∈ zs, cellB z = true) → ∀ z ∈ zs.map tx, z ≠ [] ∧ 44 ∉ z := fun {zs} hz z m => by
        obtain ⟨c, hc, rfl⟩ := List.mem_map.mp m
        have := cellFree (hz c hc)
        exact ⟨this.1, this.2.1⟩
      have hcs := hx cs List.mem_cons_self
      have hds := hy ds List.mem_cons_self
      rw [cells_tx hcs hds (joinC (t hcs) (t hds) h4.1)]
      rw [ih (fun z m => hx z (List.mem_cons_of_mem _ m)) (fun z m => hy z (List.mem_cons_of_mem _ m)) h4.2]
end L83
end
section
set_option Elab.async false
set_option linter.all false
set_option maxRecDepth 100000
set_option maxHeartbeats 2000000
namespace L83
open PySem PySem.Spec PyProof.Rows L2 Qv
variable {a b : List Str}
theorem eqvAll_int : ∀ xs ys : List Int, PyData.eqvAll (xs.map .int) (ys.map .int) = decide (xs = ys)
  | [], [] => by simp [PyData.eqvAll]
  | [], _ :: _ => by simp [PyData.eqvAll]
  | _ :: _, [] => by simp [PyData.eqvAll]
  | x :: xs, y :: ys => by
    have ih := eqvAll_int xs ys
    simp only [List.map_cons, PyData.eqvAll, ih, PyData.eqv, List.cons.injEq]
    by_cases h : x = y
    · subst h; simp
    · simp [h]
def irow (xs : List Int) : PyData := .list (xs.map .int)
theorem eqvAll_rows : ∀ xs ys : List (List Int), PyData.eqvAll (xs.map irow) (ys.map irow) = decide (xs = ys)
  | [], [] => by simp [PyData.eqvAll]
  | [], _ :: _ => by simp [PyData.eqvAll]
  | _ :: _, [] => by simp [PyData.eqvAll]
  | x :: xs, y :: ys => by
    have ih := eqvAll_rows xs ys
    simp only [List.map_cons, PyData.eqvAll, ih, irow, PyData.eqv, eqvAll_int, List.cons.injEq]
    by_cases h : x = y
    · subst h; simp
    · simp [h]
theorem eqvAll_str : ∀ xs ys : List Str, PyData.eqvAll (sL xs) (sL ys) = decide (xs = ys)
  | [], [] => by simp [sL, PyData.eqvAll]
  | [], _ :: _ => by simp [sL, PyData.eqvAll]
  | _ :: _, [] => by simp [sL, PyData.eqvAll]
  | x :: xs, y :: ys => by
    have ih := eqvAll_str xs ys
    simp only [sL, List.map_cons, PyData.eqvAll, PyData.eqv, List.cons.injEq] at ih ⊢
    rw [ih]
    by_cases h : x = y
    · subst h; simp
    · simp [h]
theorem lay_ints : ∀ xs : List Int, PyData.canLayAll0 (xs.map .int) = true
  | [] => by simp [PyData.canLayAll0]
  | x :: xs => by simp [PyData.canLayAll0, PyData.canLay0, lay_ints xs]
theorem dep_ints : ∀ xs : List Int, PyData.depthAll (xs.map .int) = 0
  | [] => by simp [PyData.depthAll]
  | x :: xs => by simp [PyData.depthAll, PyData.depth, dep_ints xs]
theorem lay_rows : ∀ xs : List (List Int), PyData.canLayAll0 (xs.map irow) = true
  | [] => by simp [PyData.canLayAll0]
  | x :: xs => by simp [PyData.canLayAll0, irow, PyData.canLay0, lay_ints x, show PyData.canLayAll0 (xs.map irow) = true from lay_rows xs]
theorem dep_rows : ∀ xs : List (List Int), PyData.depthAll (xs.map irow) ≤ 1
  | [] => by simp [PyData.depthAll]
  | x :: xs => by
    have := dep_rows xs
    simp only [List.map_cons, PyData.depthAll, irow, PyData.depth, dep_ints] at this ⊢
    omega
theorem shaped_rows (xs : List (List Int)) : SeqAt.shaped (.list (xs.map irow)) = true := by
  unfold SeqAt.shaped
  have d := dep_rows xs
  have d2 : PyData.depth (.list (xs.map irow)) ≤ 64 := by simp only [PyData.depth]; omega
  rw [show PyData.canLay0 (.list (xs.map irow)) = true by simpa only [PyData.canLay0] using lay_rows xs, decide_eq_true d2]
  rfl
def layS (ls : List Str) : Prop := ∀ l ∈ ls, PyData.canLay0 (.str l) = true
theorem lay_strs : ∀ {ls : List Str}, layS ls → PyData.canLayAll0 (sL ls) = true
  | [], _ => by simp [sL, PyData.canLayAll0]
  | l :: ls, h => by
    have := lay_strs (ls := ls) fun x m => h x (List.mem_cons_of_mem _ m)
    simp only [sL, List.map_cons, PyData.canLayAll0, Bool.and_eq_true] at this ⊢
    exact ⟨h l List.mem_cons_self, this⟩
theorem shaped_strs {ls : List Str} (h : layS ls) : SeqAt.shaped (.list (sL ls)) = true := by
  unfold SeqAt.shaped
  have d2 : PyData.depth (.list (sL ls)) ≤ 64 := by
    have := depthAll_str ls
    simp only [PyData.depth, sL] at this ⊢
    omega
  rw [show PyData.canLay0 (.list (sL ls)) = true by simpa only [PyData.canLay0] using lay_strs h, decide_eq_true d2]
  rfl
theorem Ln.lay {ls : List Str} (h : Ln ls) : layS ls := fun l m => (h.each l m).lay
/-- two rows of lines, either of one's own or not -/
theorem eqD {o p : O} {xs ys : List Str} (ho : o.d = .list (sL xs)) (hp : p.d = .list (sL ys)) (hx : layS xs) (hy : layS ys) : prim .eq [o, p] = some (.sh (.bool (decide (xs = ys)))) ∧ prim .ne [o, p] = some (.sh (.bool (!decide (xs = ys)))) := by
  have q : pEq [o, p] = some (decide (xs = ys)) := by
    simp only [pEq, ho, hp, scalD, shaped_strs hx, shaped_strs hy, gd, Bool.and_self, if_true, PyData.eqv, eqvAll_str]
    rfl
  exact ⟨by show (pEq [o, p]).map shB = _; rw [q]; rfl, by show (pEq [o, p]).map (fun b => shB !b) = _; rw [q]; rfl⟩
def tabI (a b : List Str) : List (List Int) := (List.range (a.length + 1)).map fun i => (List.range (b.length + 1)).map fun j => ((LL a b i j : Nat) : Int)
theorem tD_rows : tabD a b (a.length + 1) = (tabI a b).map irow := by
  unfold tabD tabI
  rw [List.map_map]
  apply List.map_congr_left
  intro i _
  unfold rowD irow
  simp only [Function.comp]
  rw [List.map_map]
  rfl
theorem irow_inj {xs ys : List Int} (h : irow xs = irow ys) : xs = ys := by
  unfold irow at h
  simp only [PyData.list.injEq] at h
  have q := eqvAll_int xs ys
  have q2 := eqvAll_int ys ys
  rw [h, q2] at q
  simpa using q.symm
theorem irows_inj : ∀ {xs ys : List (List Int)}, xs.map irow = ys.map irow → xs = ys
  | [], [], _ => rfl
  | [], _ :: _, h => by cases h
  | _ :: _, [], h => by cases h
  | x :: xs, y :: ys, h => by
    simp only [List.map_cons, List.cons.injEq] at h
    rw [irow_inj h.1, irows_inj h.2]
/-! ### tables -/
def seqL : PyData → Option (List PyData)
  | .list ds => some ds
  | .tuple ds => some ds
  | _ => none
def asL : PyData → PyData
  | .tuple ds => .list ds
  | d => d
theorem seqL_is (t : PyData) : (O.sh t).seq? = seqL t := by cases t <;> rfl
theorem seqL_c {t : PyData} {ds : List PyData} (h : seqL t = some ds) : t = .list ds ∨ t = .tuple ds := by
  cases t with
  | list es => cases h; exact .inl rfl
  | tuple es => cases h; exact .inr rfl
  | _ => cases h
theorem seqL_B {t : PyData} : seqB t = true ↔ ∃ ds, seqL t = some ds := by cases t <;> simp [seqB, seqL]
theorem seqL_as {t : PyData} {ds : List PyData} (h : seqL t = some ds) : asL t = .list ds := by
  rcases seqL_c h with rfl | rfl <;> rfl
theorem seqL_len {t : PyData} {ds : List PyData} (h : seqL t = some ds) : prim .len [.sh t] = some (.sh (.int ds.length)) := by
  rcases seqL_c h with rfl | rfl <;> rfl
theorem seqL_walk {t : PyData} {ds : List PyData} (h : seqL t = some ds) : walk .sq [.sh t] = some (ds.map O.sh) := by
  rcases seqL_c h with rfl | rfl <;> rfl
theorem seqL_last {t : PyData} {ds : List PyData} {d : PyData} (h : seqL t = some (ds ++ [d])) : prim .item [.sh t, .sh (.int (-1))] = some (.sh d) := by
  rcases seqL_c h with rfl | rfl
  · exact item_ls _ _
  · show (atI (ds ++ [d]) (-1)).map O.sh = _
    rw [atI_last]
    rfl
theorem as_seq {t : PyData} {ds : List PyData} (hs : seqB t = true) (h : asL t = .list ds) : seqL t = some ds := by
  cases t with
  | list es => simp only [asL, PyData.list.injEq] at h; rw [h]; rfl
  | tuple es => simp only [asL, PyData.list.injEq] at h; rw [h]; rfl
  | _ => cases hs
def rowT (r : PyData) : Bool := match seqL r with
  | some cs => decide (cs.length ≤ 1000) && cs.all cellB
  | none => true
def tabT (t : PyData) : Bool := match seqL t with
  | some rs => decide (rs.length ≤ 1000) && rs.all rowT
  | none => true
def IsTab (a b : List Str) (t : PyData) : Prop := ∃ rs, seqL t = some rs ∧ (∀ r ∈ rs, seqB r = true) ∧ rs.map asL = tabD a b (a.length + 1)
def rowOk (n : Nat) (r : PyData) : Bool := match seqL r with
  | some cs => decide (cs.length = n + 1) && cs.all cntB
  | none => false
theorem ints_of : ∀ {cs : List PyData}, cs.all cntB = true → ∃ xs : List Int, cs = xs.map .int
  | [], _ => ⟨[], rfl⟩
  | c :: cs, h => by
    rw [List.all_cons, Bool.and_eq_true] at h
    obtain ⟨xs, rfl⟩ := ints_of h.2
    cases c with
    | int i => exact ⟨i :: xs, rfl⟩
    | _ => cases h.1
theorem irows_of {n : Nat} : ∀ {rs : List PyData}, rs.all (rowOk n) = true → ∃ xss : List (List Int), rs.map asL = xss.map irow ∧ ∀ r ∈ rs, seqB r = true
  | [], _ => ⟨[], rfl, fun _ m => by cases m⟩
  | r :: rs, h => by
    rw [List.all_cons, Bool.and_eq_true] at h
    obtain ⟨xss, e, hs⟩ := irows_of h.2
    have h1 := h.1
    unfold rowOk at h1
    split at h1
    · rename_i cs hcs
      rw [Bool.and_eq_true] at h1
      obtain ⟨xs, rfl⟩ := ints_of h1.2
      exact ⟨xs :: xss, by rw [List.map_cons, List.map_cons, e, seqL_as hcs]; rfl, fun z m => (List.mem_cons.mp m).elim (fun q => by rw [q]; exact seqL_B.mpr ⟨_, hcs⟩) (hs z)⟩
    · cases h1
theorem isTab_rows {t : PyData} {rs : List PyData} (hs : seqL t = some rs) (h : IsTab a b t) : rs.length = a.length + 1 ∧ rs.all (rowOk b.length) = true ∧ rs.map asL = tabD a b (a.length + 1) := by
  obtain ⟨rs', e, h1, h2⟩ := h
  rw [hs] at e
  cases e
  refine ⟨by have := congrArg List.length h2; rwa [List.length_map, tab_len] at this, List.all_eq_true.mpr fun r m => ?_, h2⟩
  have : asL r ∈ tabD a b (a.length + 1) := by rw [← h2]; exact List.mem_map.mpr ⟨r, m, rfl⟩
  obtain ⟨i, _, e⟩ := List.mem_map.mp this
  have q := as_seq (h1 r m) e.symm
  unfold rowOk
  rw [q]
  simp only [Bool.and_eq_true, decide_eq_true_eq]
  refine ⟨row_len _ _, List.all_eq_true.mpr fun c hc => ?_⟩
  obtain ⟨j, _, rfl⟩ := List.mem_map.mp hc
  show decide ((0 : Int) ≤ ((LL a b i j : Nat) : Int)) = true
  exact decide_eq_true (Int.natCast_nonneg _)
theorem f19_ok {k : Nat} (h : 3 ≤ k) {A B t : PyData} (hA : LinesD a A) (hB : LinesD b B) (ha : a.length ≤ 900) (hb : b.length ≤ 900) (ht : tabT t = true) : ∃ bb, RF k 19 [.sh A, .sh B, .sh t] = some (shB bb, [.sh A, .sh B, .sh t]) ∧ (bb = true ↔ IsTab a b t) := by
  obtain ⟨k, rfl, h1⟩ := posK h
  suffices h : ∃ bb : Bool, evSs (RF k) f19.body [some (.sh A), some (.sh B), some (.sh t), none, none] = some (.rt (.sh (.bool bb)) [some (.sh A), some (.sh B), some (.sh t), none, none]) ∧ (bb = true ↔ IsTab a b t) by
    obtain ⟨bb, e, hb⟩ := h
    exact ⟨bb, run_rt (fd := f19) rfl rfl e rfl, hb⟩
  have c2 := fun d => f2_ok (k := k) (by omega) d
  have c1 := fun d => f1_ok (k := k) h1 d
  have c16 := f16_ok (k := k) (by omega) hA hB (by omega) (by omega)
  generalize RF k = C at *
  unfold f19
  simp only
  have e2 : Ev C [some (.sh A), some (.sh B), some (.sh t), none, none] (.tn (.tt (.call 2 [.nm 2]))) (.sh (.bool (!seqB t))) := e_tn (e_tt rfl (e_call (la_s rfl la_nil) (c2 t)))
  cases hs : seqL t with
  | none =>
    have : seqB t = false := by
      cases q : seqB t with
      | false => rfl
      | true =>
        obtain ⟨ds, e⟩ := seqL_B.mp q
        rw [hs] at e
        cases e
    rw [this] at e2
    refine ⟨false, s_ift (e_or (y := false) e2 fun e => by cases e) e_c, fun e => (by cases e), fun ⟨rs, e, _⟩ => ?_⟩
    rw [hs] at e
    cases e
  | some rs =>
    have hT : rs.length ≤ 1000 ∧ rs.all rowT = true := by
      unfold tabT at ht
      rw [hs] at ht
      simp only [Bool.and_eq_true, decide_eq_true_eq] at ht
      exact ht
    rw [seqL_B.mpr ⟨rs, hs⟩] at e2
    have e3 : Ev C [some (.sh A), some (.sh B), some (.sh t), none, none] (.op .ne [.op .len [.nm 2], .op .add [.op .len [.nm 0], .c (.int 1)]]) (.sh (.bool (!decide ((rs.length : Int) = (a.length : Int) + 1)))) :=
      e_op (ov_d rfl (e_op (ov_s rfl ov_nil) (seqL_len hs)) (ov_d rfl (e_op (ov_d rfl (e_op (ov_s rfl ov_nil) hA.len) (ov_c ov_nil)) rfl) ov_nil)) (ne_ii _ _)
    rw [decide_eq_decide.mpr (show ((rs.length : Int) = (a.length : Int) + 1) ↔ rs.length = a.length + 1 by omega)] at e3
    have e4 := e_or e2 fun _ => e3
    by_cases hl : rs.length = a.length + 1
    · rw [decide_eq_true hl] at e4
      have e4 : Ev C [some (.sh A), some (.sh B), some (.sh t), none, none] (.or2 (.tn (.tt (.call 2 [.nm 2]))) (.op .ne [.op .len [.nm 2], .op .add [.op .len [.nm 0], .c (.int 1)]])) (.sh (.bool false)) := e4
      have e5 : Ev C [some (.sh A), some (.sh B), some (.sh t), none, none] (.tn (.tt (.op .all [.lc [3] (.nm 3) .sq [.nm 2] [] (.and2 (.call 2 [.nm 3]) (.and2 (.op .eq [.op .len [.nm 3], .op .add [.op .len [.nm 1], .c (.int 1)]]) (.op .all [.lc [4] (.nm 4) .sq [.nm 3] [] (.call 1 [.nm 4])])))]))) (.sh (.bool (!rs.all (rowOk b.length)))) := by
        refine e_tn (e_tt rfl (e_all rfl (e_lcA O.sh (fun r => some (shB (rowOk b.length r))) rs (es_cons (e_nm rfl) es_nil) (seqL_walk hs) rfl (fun r hr => lcT_1 (w := 3) (r := shB (rowOk b.length r)) (by simp) rfl ?_) (by omega))))
        have key : Ev C [some (.sh A), some (.sh B), some (.sh t), some (.sh r), none] (.and2 (.call 2 [.nm 3]) (.and2 (.op .eq [.op .len [.nm 3], .op .add [.op .len [.nm 1], .c (.int 1)]]) (.op .all [.lc [4] (.nm 4) .sq [.nm 3] [] (.call 1 [.nm 4])]))) (.sh (.bool (rowOk b.length r))) := by
          have g2 : Ev C [some (.sh A), some (.sh B), some (.sh t), some (.sh r), none] (.call 2 [.nm 3]) (.sh (.bool (seqB r))) := e_call (la_s rfl la_nil) (c2 r)
          unfold rowOk
          cases hr2 : seqL r with
          | none =>
            have : seqB r = false := by
              cases q : seqB r with
              | false => rfl
              | true =>
                obtain ⟨ds, e⟩ := seqL_B.mp q
                rw [hr2] at e
                cases e
            rw [this] at g2
            exact e_and (y := false) g2 fun e => by cases e
          | some cs =>
            have hc : cs.length ≤ 1000 := by
              have := List.all_eq_true.mp hT.2 r hr
              unfold rowT at this
              rw [hr2] at this
              simp only [Bool.and_eq_true, decide_eq_true_eq] at this
              exact this.1
            rw [seqL_B.mpr ⟨cs, hr2⟩] at g2
            have g3 : Ev C [some (.sh A), some (.sh B), some (.sh t), some (.sh r), none] (.op .eq [.op .len [.nm 3], .op .add [.op .len [.nm 1], .c (.int 1)]]) (.sh (.bool (decide ((cs.length : Int) = (b.length : Int) + 1)))) :=
              e_op (ov_d rfl (e_op (ov_s rfl ov_nil) (seqL_len hr2)) (ov_d rfl (e_op (ov_d rfl (e_op (ov_s rfl ov_nil) hB.len) (ov_c ov_nil)) rfl) ov_nil)) (eq_ii _ _)
            rw [decide_eq_decide.mpr (show ((cs.length : Int) = (b.length : Int) + 1) ↔ cs.length = b.length + 1 by omega)] at g3
            have g4 : Ev C [some (.sh A), some (.sh B), some (.sh t), some (.sh r), none] (.op .all [.lc [4] (.nm 4) .sq [.nm 3] [] (.call 1 [.nm 4])]) (.sh (.bool (cs.all cntB))) :=
              e_all rfl (e_lcA O.sh (fun x => some (shB (cntB x))) cs (es_cons (e_nm rfl) es_nil) (seqL_walk hr2) rfl (fun x _ => lcT_1 (by simp) rfl (e_call (la_s rfl la_nil) (c1 x))) (by omega))
            have q := e_and g2 fun _ => e_and g3 fun _ => g4
            exact q
        exact key
      cases hr : rs.all (rowOk b.length) with
      | false =>
        rw [hr] at e5
        refine ⟨false, by rw [s_iff e4]; exact s_ift e5 e_c, fun e => (by cases e), fun hT2 => ?_⟩
        rw [(isTab_rows hs hT2).2.1] at hr
        cases hr
      | true =>
        rw [hr] at e5
        obtain ⟨xss, ex, hsq⟩ := irows_of hr
        have l1 : Ev C [some (.sh A), some (.sh B), some (.sh t), none, none] (.lc [3] (.nm 3) .sq [.nm 2] [] (.op .list1 [.nm 3])) (.ol (rs.filterMap fun r => some (.sh (asL r)))) := by
          refine e_lcA O.sh (fun r => some (.sh (asL r))) rs (es_cons (e_nm rfl) es_nil) (seqL_walk hs) rfl (fun r m => ?_) (by omega)
          obtain ⟨cs, hcs⟩ := seqL_B.mp (hsq r m)
          have : ev C (.op .list1 [.nm 3]) [some (.sh A), some (.sh B), some (.sh t), some (.sh r), none] = some (olOf cs, [some (.sh A), some (.sh B), some (.sh t), some (.sh r), none]) := e_op (ov_s rfl ov_nil) (by show (O.sh r).seq?.map olOf = _; rw [seqL_is, hcs]; rfl)
          have q := lcT_1 (C := C) (ρ := [some (.sh A), some (.sh B), some (.sh t), none, none]) (w := 3) (v := .sh r) (e := .op .list1 [.nm 3]) (r := olOf cs) (by simp) rfl this
          rw [q, d_ol, seqL_as hcs]
        rw [fm_some] at l1
        have l2 : O.ol (rs.map fun r => O.sh (asL r)) = olOf (xss.map irow) := by
          rw [← ex]
          unfold olOf
          rw [List.map_map]
          rfl
        rw [l2] at l1
        have l3 : Ev C [some (.sh A), some (.sh B), some (.sh t), none, none] (.call 16 [.nm 0, .nm 1]) (.sh (tD a b)) := e_call (la_s rfl (la_s rfl la_nil)) c16
        have pe : prim .eq [olOf (xss.map irow), .sh (tD a b)] = some (.sh (.bool (decide (xss = tabI a b)))) := by
          have q : pEq [olOf (xss.map irow), .sh (tD a b)] = some (decide (xss = tabI a b)) := by
            rw [tD, tD_rows]
            simp only [pEq, d_ol, d_sh, scalD, shaped_rows, gd, Bool.and_self, if_true, PyData.eqv, eqvAll_rows]
            rfl
          show (pEq [olOf (xss.map irow), .sh (tD a b)]).map shB = _
          rw [q]
          rfl
        refine ⟨decide (xss = tabI a b), by rw [s_iff e4, s_iff e5]; exact s_ret (e_op (ov_v rfl l1 flat_ol (ov_d rfl l3 ov_nil)) pe), ?_⟩
        rw [decide_eq_true_eq]
        refine ⟨fun e => ⟨rs, hs, hsq, by rw [ex, e, tD_rows]⟩, fun hT2 => ?_⟩
        have q := (isTab_rows hs hT2).2.2
        rw [ex, tD_rows] at q
        exact irows_inj q
    · rw [decide_eq_false hl] at e4
      refine ⟨false, s_ift e4 e_c, fun e => (by cases e), fun hT2 => absurd (isTab_rows hs hT2).1 hl⟩
end L83
end
section
set_option Elab.async false
set_option linter.all false
set_option maxRecDepth 100000
set_option maxHeartbeats 2000000
namespace L83
open PySem PySem.Spec PyProof.Rows L2 Qv
variable {a b : List Str}
theorem f14_ol {k : Nat} (h : 2 ≤ k) {ls : List Str} (hl : ls.length ≤ 1000) {es : List Ed} (h1 : span es = ls.length) (h2 : late es ≤ 1000) : RF k 14 [olOf (sL ls), .sh (pD es)] = some (.sh (.list (sL (lin (tr ls 0 es)))), [olOf (sL ls), .sh (pD es)]) := by
  obtain ⟨k, rfl, hk⟩ := posK h
  have q := f11_ok (k := k) hk (o := olOf (sL ls)) flat_ol seq_ol hl h1 h2
  refine run_rt (fd := f14) (ρ := [some (olOf (sL ls)), some (.sh (pD es)), none, none]) rfl rfl ?_ rfl
  show evSs (RF k) f14.body [some (olOf (sL ls)), some (.sh (pD es)), none, none] = _
  generalize RF k = C at *
  have ld : lend [.sl 0, .sl 1] [some (olOf (sL ls)), some (.sh (pD es)), none, none] = some ([olOf (sL ls), .sh (pD es)], [none, some (.sh (pD es)), none, none]) := rfl
  have cl : ev C (.call 11 [.nm 0, .nm 1]) [some (olOf (sL ls)), some (.sh (pD es)), none, none] = some (.sh (.list (TrD (tr ls 0 es))), [some (olOf (sL ls)), some (.sh (pD es)), none, none]) := by
    simp only [ev_call, evOs_nm, evOs_nil, rdO, List.getElem?_cons_zero, List.getElem?_cons_succ, Option.bind_some, ld, q]
    rfl
  have e1 : Es C [some (olOf (sL ls)), some (.sh (pD es)), none, none] [.call 11 [.nm 0, .nm 1]] [.sh (.list (TrD (tr ls 0 es)))] := es_cons cl es_nil
  have lc : Ev C [some (olOf (sL ls)), some (.sh (pD es)), none, none] (.lc [2, 3] (.tp [.nm 2, .nm 3]) .sq [.call 11 [.nm 0, .nm 1]] [] (.nm 2)) (.ol ((tr ls 0 es).filterMap fun q => some (.sh (.str q.1)))) := by
    refine e_lcA (fun q : Str × Option Nat => .sh (itD q)) (fun q => some (.sh (.str q.1))) (tr ls 0 es) e1 (by simp [walk, TrD, Function.comp_def]) rfl (fun q hq => ?_) (by rw [tr_len]; omega)
    simp only [lcT, bindTg, itD, bindTgs, List.map_cons, List.map_nil]
    rfl
  have e2 : O.ol ((tr ls 0 es).filterMap fun q => some (O.sh (.str q.1))) = olOf (sL (lin (tr ls 0 es))) := by
    rw [Qv.fm_some]
    unfold olOf sL lin
    rw [List.map_map, List.map_map]
    rfl
  rw [e2] at lc
  unfold f14
  refine (s_ret (e_fz lc)).trans ?_
  rw [d_ol]
def IsPaper (a b : List Str) (v : PyData) : Prop := ∃ p t es, v = .tuple [.str "least", p, t] ∧ IsPatch a.length p es ∧ IsTab a b t ∧ fnd a 0 es = b ∧ (cost es : Int) = costI a b
def wordB (x : PyData) : Bool := match x with
  | .str w => decide (w = "least") || decide (w = "Least")
  | _ => false
def papT : PyData → Bool
  | .tuple [x, p, t] => wordB x && valT p && tabT t
  | _ => true
theorem tup3 {v : PyData} (h : tupN 3 v = true) : ∃ x p t, v = .tuple [x, p, t] := by
  cases v with
  | tuple ds =>
    have h : ds.length = 3 := of_decide_eq_true h
    match ds, h with
    | [x, p, t], _ => exact ⟨x, p, t, rfl⟩
  | _ => cases h
theorem it30 {x p t : PyData} : prim .item [.sh (.tuple [x, p, t]), .sh (.int 0)] = some (.sh x) := rfl
theorem it31 {x p t : PyData} : prim .item [.sh (.tuple [x, p, t]), .sh (.int 1)] = some (.sh p) := rfl
theorem it32 {x p t : PyData} : prim .item [.sh (.tuple [x, p, t]), .sh (.int 2)] = some (.sh t) := rfl
theorem v_lL : (Str.ofString "least") ≠ (Str.ofString "Least") := by decide
/-- lines that come of a patch can be laid out -/
theorem fnd_lay {p : PyData} {es : List Ed} (ha : Ln a) (hp : valT p = true) (h : IsPatch a.length p es) : layS (fnd a 0 es) := by
  have hE : ∀ e ∈ es, ∀ xs, e = .put xs → layS xs := fun e m xs he => by
    have hp2 := hp
    rw [h.is] at hp2
    simp only [valT, Bool.and_eq_true, decide_eq_true_eq] at hp2
    have := List.all_eq_true.mp hp2.2 e.d (List.mem_map.mpr ⟨e, m, rfl⟩)
    subst he
    have : (SeqAt.shaped (.tuple (sL xs)) && (sL xs).all shortB && decide ((sL xs).length ≤ 1000)) = true := this
    simp only [Bool.and_eq_true] at this
    have c := SeqAt.canLay_of_shaped this.1.1
    have c : PyData.canLayAll0 (sL xs) = true := by simpa only [PyData.canLay0] using c
    clear this hp2
    induction xs with
    | nil => exact fun l m => by cases m
    | cons x xs ih =>
      simp only [sL, List.map_cons, PyData.canLayAll0, Bool.and_eq_true] at c
      intro l hl
      rcases List.mem_cons.mp hl with rfl | hl
      · exact c.1
      · have : ∀ {ys : List Str}, PyData.canLayAll0 (ys.map .str) = true → layS ys := fun {ys} => by
          induction ys with
          | nil => exact fun _ l m => by cases m
          | cons y ys ih2 =>
            intro h
            simp only [List.map_cons, PyData.canLayAll0, Bool.and_eq_true] at h
            exact fun l m => (List.mem_cons.mp m).elim (fun e => by rw [e]; exact h.1) (ih2 h.2 l)
        exact this c.2 l hl
  have key : ∀ (es : List Ed) (q : Nat), (∀ e ∈ es, ∀ xs, e = .put xs → layS xs) → layS (fnd a q es) := fun es => by
    induction es with
    | nil => exact fun q _ l m => by cases m
    | cons e es ih =>
      intro q hE l m
      have ih' := fun q => ih q fun e m => hE e (List.mem_cons_of_mem _ m)
      cases e with
      | put xs =>
        rw [fnd] at m
        exact (List.mem_append.mp m).elim (hE _ List.mem_cons_self xs rfl l) (ih' q l)
      | keep n =>
        rw [fnd] at m
        exact (List.mem_append.mp m).elim (fun m => ha.lay l (List.mem_of_mem_drop (List.mem_of_mem_take m))) (ih' _ l)
      | take n =>
        rw [fnd] at m
        exact ih' _ l m
  exact key es 0 hE
theorem f25_ok {k : Nat} (h : 5 ≤ k) (ha : Ln a) (hb : Ln b) {v : PyData} (hv : papT v = true) : ∃ bb, RF k 25 [.sh (aL a), .sh (aL b), .sh v] = some (shB bb, [.sh (aL a), .sh (aL b), .sh v]) ∧ (bb = true ↔ IsPaper a b v) := by
  obtain ⟨k, rfl, h1⟩ := posK h
  suffices h : ∃ bb : Bool, evSs (RF k) f25.body [some (.sh (aL a)), some (.sh (aL b)), some (.sh v)] = some (.rt (.sh (.bool bb)) [some (.sh (aL a)), some (.sh (aL b)), some (.sh v)]) ∧ (bb = true ↔ IsPaper a b v) by
    obtain ⟨bb, e, hb⟩ := h
    exact ⟨bb, run_rt (fd := f25) rfl rfl e rfl, hb⟩
  have hA : LinesD a (aL a) := .inl rfl
  have hB : LinesD b (aL b) := .inl rfl
  have la := ha.len
  have lb := hb.len
  have c8 := f8_ok (k := k) (by omega) ha.okL hA
  have c9 := f9_ok (k := k) (by omega) hb.okL hB
  have c3 := f3_ok (k := k) (by omega) v 3
  have c7 := fun p hp => f7_ok (k := k) h1 (aL a) p a.length hA.len hp
  have c19 := fun t ht => f19_ok (k := k) (t := t) (by omega) hA hB (by omega) (by omega) ht
  have c14 := fun (es : List Ed) (q1 : span es = a.length) (q2 : late es ≤ 1000) => f14_ol (k := k) (by omega) (ls := a) (by omega) q1 q2
  have c15 := fun (es : List Ed) (q2 : es.length ≤ 1000000) => f15_ok (k := k) (by omega) es q2
  generalize RF k = C at *
  unfold f25
  simp only
  rw [s_ex (e_call (la_s rfl la_nil) c8), s_ex (e_call (la_s rfl la_nil) c9)]
  have e3 : Ev C [some (.sh (aL a)), some (.sh (aL b)), some (.sh v)] (.tn (.tt (.call 3 [.nm 2, .c (.int 3)]))) (.sh (.bool (!tupN 3 v))) := e_tn (e_tt rfl (e_call (la_s rfl (la_c la_nil)) c3))
  cases ht3 : tupN 3 v with
  | false =>
    rw [ht3] at e3
    refine ⟨false, s_ift (e_or (y := false) e3 fun e => by cases e) e_c, fun e => (by cases e), fun ⟨p, t, es, e, _⟩ => ?_⟩
    subst e
    cases ht3
  | true =>
    rw [ht3] at e3
    obtain ⟨x, p, t, rfl⟩ := tup3 ht3
    simp only [papT, Bool.and_eq_true] at hv
    obtain ⟨⟨hw, hp⟩, ht⟩ := hv
    cases x with
    | str w =>
      have i0 : Ev C [some (.sh (aL a)), some (.sh (aL b)), some (.sh (.tuple [.str w, p, t]))] (.op .item [.nm 2, .c (.int 0)]) (.sh (.str w)) := e_op (ov_s rfl (ov_c ov_nil)) it30
      have i1 : Ev C [some (.sh (aL a)), some (.sh (aL b)), some (.sh (.tuple [.str w, p, t]))] (.op .item [.nm 2, .c (.int 1)]) (.sh p) := e_op (ov_s rfl (ov_c ov_nil)) it31
      have i2 : Ev C [some (.sh (aL a)), some (.sh (aL b)), some (.sh (.tuple [.str w, p, t]))] (.op .item [.nm 2, .c (.int 2)]) (.sh t) := e_op (ov_s rfl (ov_c ov_nil)) it32
      have e4 := e_or e3 fun _ => e_or (e_tn (x := true) (e_tt rfl (e_op (k := .isinst ["str"]) (ov_d rfl i0 ov_nil) rfl))) fun _ => e_op (ov_d rfl i0 (ov_c (d := .str "least") ov_nil)) (ne_ss _ _)
      by_cases hw2 : w = "least"
      · rw [decide_eq_true hw2] at e4
        subst hw2
        rw [s_iff e4]
        obtain ⟨b7, q7, h7⟩ := c7 p hp
        obtain ⟨b19, q19, h19⟩ := c19 t ht
        have e5 := e_or (e_tn (e_tt rfl (e_call (f := 7) (la_s (i := 0) rfl (la_v rfl i1 la_nil)) q7))) fun _ => e_tn (e_tt rfl (e_call (f := 19) (la_s (i := 0) rfl (la_s (i := 1) rfl (la_v rfl i2 la_nil))) q19))
        by_cases hb7 : b7 = true
        · by_cases hb19 : b19 = true
          · subst hb7
            subst hb19
            obtain ⟨es, hpe⟩ := h7.mp rfl
            obtain ⟨rs, hrs, hrq, hrt⟩ := h19.mp rfl
            have fl := fnd_lin a es 0 (by rw [hpe.sp]; omega)
            have pe : p = pD es := hpe.is
            have q14 := c14 es hpe.sp (by have := hpe.lt; omega)
            have q15 := c15 es (by have := hpe.len; omega)
            rw [← fl, ← pe] at q14
            rw [← pe, cost_costs] at q15
            rw [s_iff e5]
            have l1 : ∀ {i : Nat} {X : List Str}, [some (O.sh (aL a)), some (O.sh (aL b)), some (O.sh (.tuple [.str "least", p, t]))][i]? = some (some (O.sh (aL X))) → Ev C [some (.sh (aL a)), some (.sh (aL b)), some (.sh (.tuple [.str "least", p, t]))] (.op .list1 [.nm i]) (olOf (sL X)) := fun h => e_op (ov_s h ov_nil) rfl
            have e6 : Ev C [some (.sh (aL a)), some (.sh (aL b)), some (.sh (.tuple [.str "least", p, t]))] (.call 14 [.op .list1 [.nm 0], .op .item [.nm 2, .c (.int 1)]]) (.sh (.list (sL (fnd a 0 es)))) := e_call (la_v rfl (l1 rfl) (la_v rfl i1 la_nil)) q14
            have e7 := e_op (ov_d rfl e6 (ov_v (e := .op .list1 [.nm 1]) rfl (l1 rfl) flat_ol ov_nil)) (eqD (o := .sh (.list (sL (fnd a 0 es)))) (p := olOf (sL b)) rfl d_ol (fnd_lay ha hp hpe) hb.lay).2
            have uniq : ∀ fs, IsPatch a.length p fs → fs = es := fun fs hf => by
              have e := hf.is
              rw [hpe.is] at e
              simp only [PyData.tuple.injEq] at e
              exact (eds_inj e).symm
            by_cases hf : fnd a 0 es = b
            · rw [decide_eq_true hf] at e7
              rw [s_iff e7]
              have rl : rs.map asL = tabD a b a.length ++ [.list (rowD a b a.length (b.length + 1))] := by rw [hrt, tab_s]
              obtain ⟨rs0, r, hr0, hr1⟩ : ∃ rs0 r, rs = rs0 ++ [r] ∧ asL r = .list (rowD a b a.length (b.length + 1)) := by
                rcases List.eq_nil_or_concat rs with e | ⟨rs0, r, e⟩
                · subst e
                  simp at rl
                · rw [List.concat_eq_append] at e
                  subst e
                  rw [List.map_append] at rl
                  have := (List.append_inj' rl rfl).2
                  simp only [List.map_cons, List.map_nil, List.cons.injEq, and_true] at this
                  exact ⟨rs0, r, rfl, this⟩
              have hr2 := as_seq (hrq r (by rw [hr0]; simp)) hr1
              rw [row_s] at hr2
              have j1 : Ev C [some (.sh (aL a)), some (.sh (aL b)), some (.sh (.tuple [.str "least", p, t]))] (.op .item [.op .item [.nm 2, .c (.int 2)], .op .neg [.c (.int 1)]]) (.sh r) := e_op (ov_d rfl i2 (ov_d rfl e_n1 ov_nil)) (seqL_last (by rw [hrs, hr0]))
              have j2 : Ev C [some (.sh (aL a)), some (.sh (aL b)), some (.sh (.tuple [.str "least", p, t]))] (.op .item [.op .item [.op .item [.nm 2, .c (.int 2)], .op .neg [.c (.int 1)]], .op .neg [.c (.int 1)]]) (.sh (.int (LL a b a.length b.length : Nat))) := e_op (ov_d rfl j1 (ov_d rfl e_n1 ov_nil)) (seqL_last hr2)
              have s1 : Ev C [some (.sh (aL a)), some (.sh (aL b)), some (.sh (.tuple [.str "least", p, t]))] (.op .add [.op .len [.nm 0], .op .len [.nm 1]]) (.sh (.int ((a.length : Int) + (b.length : Int)))) := e_op (ov_d rfl (e_op (ov_s rfl ov_nil) hA.len) (ov_d rfl (e_op (ov_s rfl ov_nil) hB.len) ov_nil)) rfl
              have s2 : Ev C [some (.sh (aL a)), some (.sh (aL b)), some (.sh (.tuple [.str "least", p, t]))] (.op .sub [.op .add [.op .len [.nm 0], .op .len [.nm 1]], .op .mul [.c (.int 2), .op .item [.op .item [.op .item [.nm 2, .c (.int 2)], .op .neg [.c (.int 1)]], .op .neg [.c (.int 1)]]]]) (.sh (.int (costI a b))) :=
                e_op (ov_d rfl s1 (ov_d rfl (e_op (ov_c (ov_d rfl j2 ov_nil)) (mul2 _)) ov_nil)) rfl
              have s3 : Ev C [some (.sh (aL a)), some (.sh (aL b)), some (.sh (.tuple [.str "least", p, t]))] (.call 15 [.op .item [.nm 2, .c (.int 1)]]) (.sh (.int (cost es : Int))) := e_call (la_v rfl i1 la_nil) q15
              refine ⟨decide ((cost es : Int) = costI a b), s_ret (e_op (ov_d rfl s3 (ov_d rfl s2 ov_nil)) (eq_ii _ _)), ?_⟩
              rw [decide_eq_true_eq]
              refine ⟨fun e => ⟨p, t, es, rfl, hpe, ⟨rs, hrs, hrq, hrt⟩, hf, e⟩, fun ⟨p', t', fs, e, z1, z2, z3, z4⟩ => ?_⟩
              simp only [PyData.tuple.injEq, List.cons.injEq, and_true, true_and] at e
              obtain ⟨rfl, rfl⟩ := e
              have := uniq fs z1
              subst this
              exact z4
            · rw [decide_eq_false hf] at e7
              refine ⟨false, s_ift e7 e_c, fun e => (by cases e), fun ⟨p', t', fs, e, z1, z2, z3, z4⟩ => ?_⟩
              simp only [PyData.tuple.injEq, List.cons.injEq, and_true, true_and] at e
              obtain ⟨rfl, rfl⟩ := e
              have := uniq fs z1
              subst this
              exact absurd z3 hf
          · have : b19 = false := by cases b19 <;> simp_all
            subst this
            subst hb7
            refine ⟨false, s_ift e5 e_c, fun e => (by cases e), fun ⟨p', t', fs, e, z1, z2, z3, z4⟩ => ?_⟩
            simp only [PyData.tuple.injEq, List.cons.injEq, and_true, true_and] at e
            obtain ⟨rfl, rfl⟩ := e
            exact absurd (h19.mpr z2) hb19
        · have : b7 = false := by cases b7 <;> simp_all
          subst this
          refine ⟨false, s_ift (e_or (y := false) (e_tn (e_tt rfl (e_call (f := 7) (la_s (i := 0) rfl (la_v rfl i1 la_nil)) q7))) fun e => by cases e) e_c, fun e => (by cases e), fun ⟨p', t', fs, e, z1, z2, z3, z4⟩ => ?_⟩
          simp only [PyData.tuple.injEq, List.cons.injEq, and_true, true_and] at e
          obtain ⟨rfl, rfl⟩ := e
          exact absurd (h7.mpr ⟨fs, z1⟩) hb7
      · rw [decide_eq_false hw2] at e4
        refine ⟨false, s_ift e4 e_c, fun e => (by cases e), fun ⟨p', t', fs, e, _⟩ => ?_⟩
        simp only [PyData.tuple.injEq, List.cons.injEq, PyData.str.injEq] at e
        exact absurd e.1 hw2
    | _ => cases hw
end L83
end
section
set_option Elab.async false
set_option linter.all false
set_option maxRecDepth 100000
set_option maxHeartbeats 2000000
namespace L83
open PySem PySem.Spec PyProof.Rows L2 Qv
variable {a b : List Str}
def rowS (r : PyData) : Bool := match seqL r with
  | some cs => decide (cs.length ≤ 20)
  | none => true
def tabS (t : PyData) : Bool := match seqL t with
  | some rs => decide (rs.length ≤ 20) && rs.all rowS
  | none => true
def smlT : PyData → Bool
  | .tuple [_, _, t] => tabS t
  | _ => true
theorem cells_rp : (cellsL.all fun d => d.showable && (!d.hasDict && (d.leavesShort 13 && (decide (d.weight ≤ 13) && decide (d.depth ≤ 0))))) = true := by decide +kernel
theorem rp_cell {d : PyData} (h : cellB d = true) : Rp 13 0 d := by
  have q := List.all_eq_true.mp cells_rp d (cell_mem h)
  simp only [Bool.and_eq_true, Bool.not_eq_true', decide_eq_true_eq] at q
  exact ⟨q.1, q.2.1, q.2.2.1, q.2.2.2.1, q.2.2.2.2⟩
theorem rp_rows {xss : List (List PyData)} (h : rowsOk xss) (h1 : xss.length ≤ 20) (h2 : ∀ cs ∈ xss, cs.length ≤ 20) : Rp 6000 60 (.list (xss.map .list)) := by
  have r : ∀ cs ∈ xss, Rp 280 1 (.list cs) := fun cs m => by
    have q := RpA.map (f := id) (xs := cs) fun c hc => rp_cell (h cs m c hc)
    rw [List.map_id] at q
    exact (q.list).mono (by have := h2 cs m; omega) (by omega)
  have q := RpA.map (f := PyData.list) (xs := xss) r
  exact q.list.mono (by omega) (by omega)
theorem rows_of : ∀ {rs : List PyData}, (∀ r ∈ rs, seqB r = true) → ∃ xss : List (List PyData), rs.map asL = xss.map .list ∧ xss.length = rs.length ∧ ∀ cs ∈ xss, ∃ r ∈ rs, seqL r = some cs
  | [], _ => ⟨[], rfl, rfl, fun _ m => by cases m⟩
  | r :: rs, h => by
    obtain ⟨xss, e, l, g⟩ := rows_of (rs := rs) fun x m => h x (List.mem_cons_of_mem _ m)
    obtain ⟨cs, hc⟩ := seqL_B.mp (h r List.mem_cons_self)
    refine ⟨cs :: xss, by rw [List.map_cons, List.map_cons, e, seqL_as hc], by rw [List.length_cons, List.length_cons, l], fun z m => ?_⟩
    rcases List.mem_cons.mp m with rfl | m
    · exact ⟨r, List.mem_cons_self, hc⟩
    · obtain ⟨r2, m2, q⟩ := g z m
      exact ⟨r2, List.mem_cons_of_mem _ m2, q⟩
def tabX (a b : List Str) : List (List PyData) := (List.range (a.length + 1)).map fun i => rowD a b i (b.length + 1)
theorem tabX_is : tabD a b (a.length + 1) = (tabX a b).map .list := by
  unfold tabD tabX
  rw [List.map_map]
  rfl
theorem tabX_ok (ha : Ln a) (hb : Ln b) : rowsOk (tabX a b) ∧ (tabX a b).length ≤ 20 ∧ ∀ cs ∈ tabX a b, cs.length ≤ 20 := by
  have la := ha.len
  have lb := hb.len
  refine ⟨fun cs m c hc => ?_, by simp [tabX]; omega, fun cs m => ?_⟩
  · obtain ⟨i, _, rfl⟩ := List.mem_map.mp m
    obtain ⟨j, hj, rfl⟩ := List.mem_map.mp hc
    have : LL a b i j ≤ j := LC.le2 e0 j i
    have := List.mem_range.mp hj
    simp only [cellB, Bool.and_eq_true, decide_eq_true_eq]
    omega
  · obtain ⟨i, _, rfl⟩ := List.mem_map.mp m
    rw [row_len]
    omega
theorem s_tp3 {C : Cal} {ρ : Qv.Env} {e : Qv.T} {x y z : PyData} {i j l : Nat} (h : Ev C ρ e (.sh (.tuple [x, y, z]))) (hi : i < ρ.length) (hj : j < ρ.length) (hl : l < ρ.length) {ss : List Qv.S} :
    evSs C (.asg (.tp [.nm i, .nm j, .nm l]) e :: ss) ρ = evSs C ss (((ρ.set i (some (.sh x))).set j (some (.sh y))).set l (some (.sh z))) := by
  rw [evSs_cons, evS_asg, h]
  simp [bindTa, bindTas, hi, hj, hl]
theorem rep_w : prim .repr [.sh (.str "least")] = some (.sh (.str "'least'")) ∧ ∃ z : Str, z ≠ "'least'" ∧ prim .repr [.sh (.str "Least")] = some (.sh (.str z)) := by
  have r1 : Rp 10 60 (.str "least") := (rp_str (N := 10) (by decide) (by decide)).mono (by omega) (by omega)
  have r2 : Rp 10 60 (.str "Least") := (rp_str (N := 10) (by decide) (by decide)).mono (by omega) (by omega)
  have q1 := Rp.repr (o := .sh (.str "least")) r1 (by decide)
  have q2 := Rp.repr (o := .sh (.str "Least")) r2 (by decide)
  refine ⟨q1.trans ?_, (PyData.str "Least").shown, by decide +kernel, q2⟩
  have : (PyData.str "least").shown = "'least'" := by decide +kernel
  show some (O.sh (.str (PyData.str "least").shown)) = _
  rw [this]
def tupB : PyData → Bool
  | .tuple _ => true
  | _ => false
abbrev V33 (a b : List Str) (v : PyData) (s3 s4 s5 s6 : Option O) : Qv.Env := [some (.sh (aL a)), some (.sh (aL b)), some (.sh v), s3, s4, s5, s6, none]
def R33b : Qv.S := .ret (.and2 (.op .eq [.op .repr [.lc [7] (.nm 7) .sq [.op .item [.nm 2, .c (.int 2)]] [] (.op .list1 [.nm 7])], .op .repr [.nm 6]]) (.op .eq [.nm 5, .op .sub [.op .add [.op .len [.nm 0], .op .len [.nm 1]], .op .mul [.c (.int 2), .op .item [.op .item [.nm 6, .op .neg [.c (.int 1)]], .op .neg [.c (.int 1)]]]]]))
def R33c : Qv.S := .ite (.or2 (.tn (.tt (.nm 3))) (.or2 (.op .ne [.nm 4, .nm 1]) (.or2 (.tn (.tt (.op (.isinst ["list", "tuple"]) [.op .item [.nm 2, .c (.int 2)]]))) (.tn (.tt (.op .all [.lc [7] (.nm 7) .sq [.op .item [.nm 2, .c (.int 2)]] [] (.op (.isinst ["list", "tuple"]) [.nm 7])])))))) [.ret (.c (.bool false))] []
abbrev R33 : List Qv.S := [R33c, R33b]
theorem f33_body : f33.body = [.ite (.or2 (.tn (.tt (.op (.isinst ["tuple"]) [.nm 2]))) (.or2 (.op .ne [.op .len [.nm 2], .c (.int 3)]) (.op .ne [.op .repr [.op .item [.nm 2, .c (.int 0)]], .c (.str "'least'")]))) [.ret (.c (.bool false))] [],
    .asg (.tp [.nm 3, .nm 4, .nm 5]) (.call 32 [.nm 0, .op .item [.nm 2, .c (.int 1)]]),
    .asg (.nm 6) (.call 29 [.nm 0, .nm 1]), R33c, R33b] := rfl
def G33 (C : Cal) (a b : List Str) (v : PyData) (ss : List Qv.S) (ρ : Qv.Env) : Prop := ∃ (bb : Bool) (ρ' : Qv.Env), evSs C ss ρ = some (.rt (.sh (.bool bb)) (some (.sh (aL a)) :: some (.sh (aL b)) :: some (.sh v) :: ρ')) ∧ (bb = true ↔ IsPaper a b v)
theorem G33.via {C : Cal} {v : PyData} {ss ss' : List Qv.S} {ρ ρ' : Qv.Env} (h : evSs C ss ρ = evSs C ss' ρ') (g : G33 C a b v ss' ρ') : G33 C a b v ss ρ := by
  unfold G33
  rw [h]
  exact g
theorem f33_ok {k : Nat} (h : 4 ≤ k) (ha : Ln a) (hb : Ln b) {v : PyData} (hv : papT v = true) (hs : smlT v = true) : ∃ bb, RF k 33 [.sh (aL a), .sh (aL b), .sh v] = some (shB bb, [.sh (aL a), .sh (aL b), .sh v]) ∧ (bb = true ↔ IsPaper a b v) := by
  obtain ⟨k, rfl, h1⟩ := posK h
  suffices h : ∃ (bb : Bool) (ρ' : Qv.Env), evSs (RF k) f33.body [some (.sh (aL a)), some (.sh (aL b)), some (.sh v), none, none, none, none, none] = some (.rt (.sh (.bool bb)) (some (.sh (aL a)) :: some (.sh (aL b)) :: some (.sh v) :: ρ')) ∧ (bb = true ↔ IsPaper a b v) by
    obtain ⟨bb, ρ', e, hb⟩ := h
    exact ⟨bb, run_rt (fd := f33) rfl rfl e rfl, hb⟩
  have hA : LinesD a (aL a) := .inl rfl
  have hB : LinesD b (aL b) := .inl rfl
  have la := ha.len
  have lb := hb.len
  have c32 := fun p hp => f32_ok (k := k) (by omega) (ls := a) (by omega) (d := p) hp
  have c29 := f29_ok (k := k) (by omega) hA hB (by omega) (by omega)
  generalize RF k = C at *
  have iT : ∀ d : PyData, prim (.isinst ["tuple"]) [.sh d] = some (.sh (.bool (tupB d))) := fun d => by cases d <;> rfl
  have iS : ∀ d : PyData, prim (.isinst ["list", "tuple"]) [.sh d] = some (.sh (.bool (seqB d))) := fun d => by cases d <;> rfl
  rw [f33_body]
  show G33 C a b v _ (V33 a b v none none none none)
  have e1 : Ev C (V33 a b v none none none none) (.tn (.tt (.op (.isinst ["tuple"]) [.nm 2]))) (.sh (.bool (!tupB v))) := e_tn (e_tt rfl (e_op (ov_s rfl ov_nil) (iT v)))
  have no : ∀ {c : Qv.T} {ss : List Qv.S} {s3 s4 s5 s6 : Option O}, Ev C (V33 a b v s3 s4 s5 s6) c (.sh (.bool true)) → ¬ IsPaper a b v → G33 C a b v (.ite c [.ret (.c (.bool false))] [] :: ss) (V33 a b v s3 s4 s5 s6) := fun hc hn => ⟨false, _, s_ift hc e_c, fun e => (by cases e), fun e => absurd e hn⟩
  by_cases hT : ∃ ds, v = .tuple ds
  · obtain ⟨ds, rfl⟩ := hT
    have e1 : Ev C (V33 a b (.tuple ds) none none none none) (.tn (.tt (.op (.isinst ["tuple"]) [.nm 2]))) (.sh (.bool false)) := e1
    have e2 : Ev C (V33 a b (.tuple ds) none none none none) (.op .ne [.op .len [.nm 2], .c (.int 3)]) (.sh (.bool (!decide ((ds.length : Int) = 3)))) := e_op (ov_d rfl (e_op (ov_s rfl ov_nil) len_is) (ov_c ov_nil)) (ne_ii _ _)
    by_cases h3 : ds.length = 3
    · rw [decide_eq_true (by omega)] at e2
      obtain ⟨x, p, t, e⟩ := tup3 (v := .tuple ds) (by simpa [tupN] using h3)
      simp only [PyData.tuple.injEq] at e
      subst e
      simp only [papT, Bool.and_eq_true] at hv
      obtain ⟨⟨hw, hp⟩, ht⟩ := hv
      have hts : tabS t = true := hs
      cases x with
      | str w =>
        have i0 : ∀ {s3 s4 s5 s6 s7 : Option O}, Ev C [some (.sh (aL a)), some (.sh (aL b)), some (.sh (.tuple [.str w, p, t])), s3, s4, s5, s6, s7] (.op .item [.nm 2, .c (.int 0)]) (.sh (.str w)) := e_op (ov_s rfl (ov_c ov_nil)) it30
        have i1 : ∀ {s3 s4 s5 s6 s7 : Option O}, Ev C [some (.sh (aL a)), some (.sh (aL b)), some (.sh (.tuple [.str w, p, t])), s3, s4, s5, s6, s7] (.op .item [.nm 2, .c (.int 1)]) (.sh p) := e_op (ov_s rfl (ov_c ov_nil)) it31
        have i2 : ∀ {s3 s4 s5 s6 s7 : Option O}, Ev C [some (.sh (aL a)), some (.sh (aL b)), some (.sh (.tuple [.str w, p, t])), s3, s4, s5, s6, s7] (.op .item [.nm 2, .c (.int 2)]) (.sh t) := e_op (ov_s rfl (ov_c ov_nil)) it32
        have hw : w = "least" ∨ w = "Least" := by simpa [wordB] using hw
        rcases hw with rfl | rfl
        · have e3 : Ev C (V33 a b (.tuple [.str "least", p, t]) none none none none) (.op .ne [.op .repr [.op .item [.nm 2, .c (.int 0)]], .c (.str "'least'")]) (.sh (.bool (!decide (("'least'" : Str) = "'least'")))) :=
            e_op (ov_d rfl (e_op (ov_d rfl i0 ov_nil) rep_w.1) (ov_c ov_nil)) (ne_ss _ _)
          rw [decide_eq_true rfl] at e3
          have e2 : Ev C (V33 a b (.tuple [.str "least", p, t]) none none none none) (.op .ne [.op .len [.nm 2], .c (.int 3)]) (.sh (.bool false)) := e2
          have e123 := e_or e1 fun _ => e_or e2 fun _ => e3
          refine G33.via (s_iff e123) ?_
          obtain ⟨r, q32, hr⟩ := c32 p hp
          have e4 : Ev C (V33 a b (.tuple [.str "least", p, t]) none none none none) (.call 32 [.nm 0, .op .item [.nm 2, .c (.int 1)]]) (.sh r) := e_call (la_s rfl (la_v rfl i1 la_nil)) q32
          have hu : ∀ (p' t' : PyData) (es' : List Ed), (PyData.tuple [.str "least", p, t]) = .tuple [.str "least", p', t'] → p' = p ∧ t' = t := fun p' t' es' e => by
            simp only [PyData.tuple.injEq, List.cons.injEq, and_true, true_and] at e
            exact ⟨e.1.symm, e.2.symm⟩
          rcases hr with ⟨es, hpe, rfl⟩ | ⟨hN, l, c, rfl⟩
          · refine G33.via (s_tp3 e4 (by simp) (by simp) (by simp)) ?_
            have uniq : ∀ fs, IsPatch a.length p fs → fs = es := fun fs hf => by
              have e := hf.is
              rw [hpe.is] at e
              simp only [PyData.tuple.injEq] at e
              exact (eds_inj e).symm
            have e5 : Ev C (V33 a b (.tuple [.str "least", p, t]) (some (.sh (.bool true))) (some (.sh (.list (sL (fnd a 0 es))))) (some (.sh (.int (cost es)))) none) (.call 29 [.nm 0, .nm 1]) (.sh (tD a b)) := e_call (la_s rfl (la_s rfl la_nil)) c29
            have a5 := s_asg (i := 6) e5 (by simp) (ss := R33)
            refine G33.via a5 ?_
            have g1 : Ev C (V33 a b (.tuple [.str "least", p, t]) (some (.sh (.bool true))) (some (.sh (.list (sL (fnd a 0 es))))) (some (.sh (.int (cost es)))) (some (.sh (tD a b)))) (.tn (.tt (.nm 3))) (.sh (.bool false)) := e_tn (x := true) (e_ttn rfl)
            have g2 : Ev C (V33 a b (.tuple [.str "least", p, t]) (some (.sh (.bool true))) (some (.sh (.list (sL (fnd a 0 es))))) (some (.sh (.int (cost es)))) (some (.sh (tD a b)))) (.op .ne [.nm 4, .nm 1]) (.sh (.bool (!decide (fnd a 0 es = b)))) :=
              e_op (ov_s rfl (ov_s rfl ov_nil)) (eqD (o := .sh (.list (sL (fnd a 0 es)))) (p := .sh (aL b)) rfl rfl (fnd_lay ha hp hpe) hb.lay).2
            by_cases hf : fnd a 0 es = b
            · rw [decide_eq_true hf] at g2
              have g3 : Ev C (V33 a b (.tuple [.str "least", p, t]) (some (.sh (.bool true))) (some (.sh (.list (sL (fnd a 0 es))))) (some (.sh (.int (cost es)))) (some (.sh (tD a b)))) (.tn (.tt (.op (.isinst ["list", "tuple"]) [.op .item [.nm 2, .c (.int 2)]]))) (.sh (.bool (!seqB t))) := e_tn (e_tt rfl (e_op (ov_d rfl i2 ov_nil) (iS t)))
              cases hq : seqL t with
              | none =>
                have : seqB t = false := by
                  cases q : seqB t with
                  | false => rfl
                  | true =>
                    obtain ⟨ds, e⟩ := seqL_B.mp q
                    rw [hq] at e
                    cases e
                rw [this] at g3
                refine no (e_or g1 fun _ => e_or (x := false) (y := true) g2 fun _ => e_or (y := false) g3 fun e => by cases e) fun ⟨p', t', fs, e, z1, ⟨rs, z2, _⟩, _⟩ => ?_
                obtain ⟨rfl, rfl⟩ := hu _ _ fs e
                rw [hq] at z2
                cases z2
              | some rs =>
                have hL : rs.length ≤ 20 ∧ rs.all rowS = true := by
                  unfold tabS at hts
                  rw [hq] at hts
                  simpa only [Bool.and_eq_true, decide_eq_true_eq] using hts
                have hR : rs.all rowT = true := by
                  unfold tabT at ht
                  rw [hq] at ht
                  simp only [Bool.and_eq_true, decide_eq_true_eq] at ht
                  exact ht.2
                rw [seqL_B.mpr ⟨rs, hq⟩] at g3
                have g4 : Ev C (V33 a b (.tuple [.str "least", p, t]) (some (.sh (.bool true))) (some (.sh (.list (sL (fnd a 0 es))))) (some (.sh (.int (cost es)))) (some (.sh (tD a b)))) (.tn (.tt (.op .all [.lc [7] (.nm 7) .sq [.op .item [.nm 2, .c (.int 2)]] [] (.op (.isinst ["list", "tuple"]) [.nm 7])]))) (.sh (.bool (!rs.all seqB))) :=
                  e_tn (e_tt rfl (e_all rfl (e_lcA O.sh (fun x => some (shB (seqB x))) rs (es_cons i2 es_nil) (seqL_walk hq) rfl (fun x _ => lcT_1 (r := shB (seqB x)) (by simp) rfl (e_op (ov_s rfl ov_nil) (iS x))) (by omega))))
                cases hr : rs.all seqB with
                | false =>
                  rw [hr] at g4
                  refine no (e_or g1 fun _ => e_or (x := false) (y := true) g2 fun _ => e_or (x := false) (y := true) g3 fun _ => g4) fun ⟨p', t', fs, e, z1, ⟨rs', z2, z3, _⟩, _⟩ => ?_
                  obtain ⟨rfl, rfl⟩ := hu _ _ fs e
                  rw [hq] at z2
                  cases z2
                  have : rs.all seqB = true := List.all_eq_true.mpr z3
                  rw [hr] at this
                  cases this
                | true =>
                  rw [hr] at g4
                  have hr1 : ∀ r ∈ rs, seqB r = true := List.all_eq_true.mp hr
                  have g5 := e_or g1 fun _ => e_or (x := false) (y := false) g2 fun _ => e_or (x := false) (y := false) g3 fun _ => g4
                  refine G33.via (s_iff (ss := [R33b]) g5) ?_
                  obtain ⟨xss, x1, x2, x3⟩ := rows_of hr1
                  have xo : rowsOk xss := fun cs m => by
                    obtain ⟨r, mr, er⟩ := x3 cs m
                    have := List.all_eq_true.mp hR r mr
                    unfold rowT at this
                    rw [er] at this
                    simp only [Bool.and_eq_true, decide_eq_true_eq] at this
                    exact List.all_eq_true.mp this.2
                  have xl : ∀ cs ∈ xss, cs.length ≤ 20 := fun cs m => by
                    obtain ⟨r, mr, er⟩ := x3 cs m
                    have := List.all_eq_true.mp hL.2 r mr
                    unfold rowS at this
                    rw [er] at this
                    exact of_decide_eq_true this
                  obtain ⟨y1, y2, y3⟩ := tabX_ok ha hb
                  have w1 : Ev C (V33 a b (.tuple [.str "least", p, t]) (some (.sh (.bool true))) (some (.sh (.list (sL (fnd a 0 es))))) (some (.sh (.int (cost es)))) (some (.sh (tD a b)))) (.lc [7] (.nm 7) .sq [.op .item [.nm 2, .c (.int 2)]] [] (.op .list1 [.nm 7])) (.ol (rs.filterMap fun r => some (.sh (asL r)))) := by
                    refine e_lcA O.sh (fun r => some (.sh (asL r))) rs (es_cons i2 es_nil) (seqL_walk hq) rfl (fun r hr => ?_) (by omega)
                    obtain ⟨cs, hc⟩ := seqL_B.mp (hr1 r hr)
                    have q := lcT_1 (C := C) (e := .op .list1 [.nm 7]) (w := 7) (v := .sh r) (r := olOf cs) (ρ := V33 a b (.tuple [.str "least", p, t]) (some (.sh (.bool true))) (some (.sh (.list (sL (fnd a 0 es))))) (some (.sh (.int (cost es)))) (some (.sh (tD a b)))) (by simp) rfl (e_op (ov_s rfl ov_nil) (by rcases seqL_c hc with rfl | rfl <;> rfl))
                    rw [d_ol] at q
                    rw [seqL_as hc]
                    exact q
                  have w2 : O.ol (rs.filterMap fun r => some (.sh (asL r))) = olOf (xss.map .list) := by
                    rw [Qv.fm_some]
                    unfold olOf
                    rw [← x1, List.map_map]
                    rfl
                  rw [w2] at w1
                  have r1 := Rp.repr (o := olOf (xss.map .list)) (by rw [d_ol]; exact rp_rows xo (by omega) xl) (by decide)
                  have r2 := Rp.repr (o := .sh (tD a b)) (by rw [tD, tabX_is]; exact rp_rows y1 y2 y3) (by decide)
                  have w3 := e_op (k := .eq) (ov_d rfl (e_op (k := .repr) (ov_v rfl w1 flat_ol ov_nil) r1) (ov_d rfl (e_op (k := .repr) (ov_s (i := 6) rfl ov_nil) r2) ov_nil)) (eq_ss _ _)
                  have w4 : Ev C (V33 a b (.tuple [.str "least", p, t]) (some (.sh (.bool true))) (some (.sh (.list (sL (fnd a 0 es))))) (some (.sh (.int (cost es)))) (some (.sh (tD a b)))) (.op .eq [.nm 5, .op .sub [.op .add [.op .len [.nm 0], .op .len [.nm 1]], .op .mul [.c (.int 2), .op .item [.op .item [.nm 6, .op .neg [.c (.int 1)]], .op .neg [.c (.int 1)]]]]]) (.sh (.bool (decide ((cost es : Int) = costI a b)))) := by
                    have i1 : Ev C (V33 a b (.tuple [.str "least", p, t]) (some (.sh (.bool true))) (some (.sh (.list (sL (fnd a 0 es))))) (some (.sh (.int (cost es)))) (some (.sh (tD a b)))) (.op .item [.nm 6, .op .neg [.c (.int 1)]]) (.sh (.list (rowD a b a.length (b.length + 1)))) := e_op (ov_s rfl (ov_d rfl e_n1 ov_nil)) (by rw [tD, tab_s]; exact item_ls _ _)
                    have i2 : Ev C (V33 a b (.tuple [.str "least", p, t]) (some (.sh (.bool true))) (some (.sh (.list (sL (fnd a 0 es))))) (some (.sh (.int (cost es)))) (some (.sh (tD a b)))) (.op .item [.op .item [.nm 6, .op .neg [.c (.int 1)]], .op .neg [.c (.int 1)]]) (.sh (.int (LL a b a.length b.length : Nat))) := e_op (ov_d rfl i1 (ov_d rfl e_n1 ov_nil)) (by rw [row_s]; exact item_ls _ _)
                    have s1 : Ev C (V33 a b (.tuple [.str "least", p, t]) (some (.sh (.bool true))) (some (.sh (.list (sL (fnd a 0 es))))) (some (.sh (.int (cost es)))) (some (.sh (tD a b)))) (.op .add [.op .len [.nm 0], .op .len [.nm 1]]) (.sh (.int ((a.length : Int) + (b.length : Int)))) := e_op (ov_d rfl (e_op (ov_s rfl ov_nil) hA.len) (ov_d rfl (e_op (ov_s rfl ov_nil) hB.len) ov_nil)) rfl
                    exact e_op (ov_s rfl (ov_d rfl (e_op (ov_d rfl s1 (ov_d rfl (e_op (ov_c (ov_d rfl i2 ov_nil)) (mul2 _)) ov_nil)) rfl) ov_nil)) (eq_ii _ _)
                  refine ⟨_, _, s_ret (e_and w3 fun _ => w4), ?_⟩
                  rw [Bool.and_eq_true, decide_eq_true_eq, decide_eq_true_eq, d_ol]
                  constructor
                  · intro ⟨z1, z2⟩
                    have z1 : (PyData.list (xss.map .list)).shown = (PyData.list (tabD a b (a.length + 1))).shown := z1
                    rw [tabX_is] at z1
                    have := rows_inj xo y1 z1
                    exact ⟨p, t, es, rfl, hpe, ⟨rs, hq, hr1, by rw [x1, this, ← tabX_is]⟩, hf, z2⟩
                  · intro ⟨p', t', fs, e, z1, ⟨rs', z2, z3, z4⟩, z5, z6⟩
                    obtain ⟨rfl, rfl⟩ := hu _ _ fs e
                    have := uniq fs z1
                    subst this
                    rw [hq] at z2
                    cases z2
                    refine ⟨?_, z6⟩
                    rw [← x1, z4]
                    rfl
            · rw [decide_eq_false hf] at g2
              refine no (e_or g1 fun _ => e_or (x := true) (y := false) g2 fun e => by cases e) fun ⟨p', t', fs, e, z1, z2, z3, z4⟩ => ?_
              obtain ⟨rfl, rfl⟩ := hu _ _ fs e
              have := uniq fs z1
              subst this
              exact hf z3
          · refine G33.via (s_tp3 e4 (by simp) (by simp) (by simp)) ?_
            have e5 : Ev C (V33 a b (.tuple [.str "least", p, t]) (some (.sh (.bool false))) (some (.sh l)) (some (.sh c)) none) (.call 29 [.nm 0, .nm 1]) (.sh (tD a b)) := e_call (la_s rfl (la_s rfl la_nil)) c29
            have a5 := s_asg (i := 6) e5 (by simp) (ss := R33)
            refine G33.via a5 ?_
            have g1 : Ev C (V33 a b (.tuple [.str "least", p, t]) (some (.sh (.bool false))) (some (.sh l)) (some (.sh c)) (some (.sh (tD a b)))) (.tn (.tt (.nm 3))) (.sh (.bool true)) := e_tn (x := false) (e_ttn rfl)
            refine no (e_or (y := false) g1 fun e => by cases e) fun ⟨p', t', fs, e, z1, _⟩ => ?_
            obtain ⟨rfl, rfl⟩ := hu _ _ fs e
            exact hN ⟨fs, z1⟩
        · obtain ⟨_, z, hz, rz⟩ := rep_w
          have e3 : Ev C (V33 a b (.tuple [.str "Least", p, t]) none none none none) (.op .ne [.op .repr [.op .item [.nm 2, .c (.int 0)]], .c (.str "'least'")]) (.sh (.bool (!decide (z = "'least'")))) :=
            e_op (ov_d rfl (e_op (ov_d rfl i0 ov_nil) rz) (ov_c ov_nil)) (ne_ss _ _)
          rw [decide_eq_false hz] at e3
          refine no (e_or e1 fun _ => e_or (x := false) (y := true) e2 fun _ => e3) fun ⟨p', t', fs, e, _⟩ => ?_
          simp only [PyData.tuple.injEq, List.cons.injEq, PyData.str.injEq] at e
          exact absurd e.1.symm v_lL
      | _ => cases hw
    · rw [decide_eq_false (by omega)] at e2
      refine no (e_or e1 fun _ => e_or (x := true) (y := false) e2 fun e => by cases e) fun ⟨p', t', fs, e, _⟩ => ?_
      simp only [PyData.tuple.injEq] at e
      subst e
      exact h3 rfl
  · have : tupB v = false := by
      cases v with
      | tuple ds => exact absurd ⟨ds, rfl⟩ hT
      | _ => rfl
    rw [this] at e1
    refine no (e_or (x := true) (y := false) e1 fun e => by cases e) fun ⟨p', t', fs, e, _⟩ => hT ⟨_, e⟩
end L83
end
section
set_option Elab.async false
set_option linter.all false
set_option maxRecDepth 100000
set_option maxHeartbeats 2000000
namespace L83
open PySem PySem.Spec PyProof.Rows L2 Qv
theorem drawC {k : Nat} (h : 1 ≤ k) : DrawC (RF k) 26 := draw_c (a := 39373) (b := 733) (m := 2147483587) (q := 2147483563) (d := 29) rfl ⟨by decide, by decide, by decide, by decide, by decide⟩ h
theorem pickC {k : Nat} (h : 2 ≤ k) : PickC (RF k) 27 := pick_c (g := 26) rfl (fun j hj => drawC hj) h
section
variable {C : Cal} {x y : Int} {r : Qv.Env} {g : Nat}
/-- a draw below what e tells -/
theorem ev_draw (D : DrawC C g) (hp : PotOk x y) {e : Qv.T} {n : Nat} (hn : isNm e = none) (he : Ev C (some (pot x y) :: r) e (.sh (.int (n : Int)))) (h1 : 1 ≤ n) (h2 : n ≤ 100000) : ∃ (w : Nat) (x' y' : Int), w < n ∧ PotOk x' y' ∧ ev C (.call g [.nm 0, e]) (some (pot x y) :: r) = some (.sh (.int (w : Int)), some (pot x' y') :: r) := by
  obtain ⟨w, x', y', h3, h4, q⟩ := D.run x y n hp h1 h2
  refine ⟨w, x', y', h3, h4, ?_⟩
  have ld : lend [.sl 0, .tv (.sh (.int n))] (some (pot x y) :: r) = some ([pot x y, .sh (.int n)], none :: r) := rfl
  rw [ev_call, evOs_nm]
  simp only [rdO, List.getElem?_cons_zero, Option.bind_some]
  rw [evOs_tv hn, he]
  simp only [Option.bind_some, evOs_nil, ld, q]
  rfl
theorem dL_shs : ∀ cs : List PyData, O.dL (cs.map O.sh) = cs
  | [] => rfl
  | c :: cs => by simp [O.dL, dL_shs cs]
theorem ev_pick (D : PickC C g) (hp : PotOk x y) {τs : List Qv.T} (cs : List PyData) (he : evs C τs (some (pot x y) :: r) = some (cs.map O.sh, some (pot x y) :: r)) (h1 : cs ≠ []) (h2 : cs.length ≤ 100000) :
    ∃ (d : PyData) (x' y' : Int), d ∈ cs ∧ PotOk x' y' ∧ ev C (.call g [.nm 0, .lst τs]) (some (pot x y) :: r) = some (.sh d, some (pot x' y') :: r) := by
  obtain ⟨d, x', y', h3, h4, q⟩ := D.lst x y cs hp h1 h2
  refine ⟨d, x', y', h3, h4, ?_⟩
  have ld : lend [.sl 0, .tv (olOf cs)] (some (pot x y) :: r) = some ([pot x y, olOf cs], none :: r) := rfl
  have el : ev C (.lst τs) (some (pot x y) :: r) = some (olOf cs, some (pot x y) :: r) := by
    rw [ev_lst, he]
    simp only [Option.bind_some, dL_shs]
    exact szd_ok (by rw [List.length_map]; exact sz_le (by omega))
  rw [ev_call, evOs_nm]
  simp only [rdO, List.getElem?_cons_zero, Option.bind_some]
  rw [evOs_lst, el]
  simp only [Option.bind_some, evOs_nil, ld, q]
  rfl
end
def abc : List PyData := [.str "a", .str "b", .str "c", .str "d"]
structure Lz (ls : List Str) : Prop where
  len : ls.length ≤ 10
  each : ∀ l ∈ ls, PyData.str l ∈ abc
theorem abc_of {l : Str} (h : PyData.str l ∈ abc) : l = "a" ∨ l = "b" ∨ l = "c" ∨ l = "d" := by
  simpa [abc] using h
theorem abc_line {l : Str} (h : PyData.str l ∈ abc) : LineOk l := by
  rcases abc_of h with rfl | rfl | rfl | rfl <;> exact ⟨by decide, by decide +kernel⟩
theorem abc_rp {l : Str} (h : PyData.str l ∈ abc) : Rp 1 0 (.str l) := by
  rcases abc_of h with rfl | rfl | rfl | rfl <;> exact rp_str (by decide) (by decide)
theorem Lz.ln {ls : List Str} (h : Lz ls) : Ln ls := ⟨h.len, fun l m => abc_line (h.each l m)⟩
theorem strs_of : ∀ {ds : List PyData}, (∀ d ∈ ds, d ∈ abc) → ∃ ls : List Str, ds = sL ls ∧ ∀ l ∈ ls, PyData.str l ∈ abc
  | [], _ => ⟨[], rfl, fun _ m => by cases m⟩
  | d :: ds, h => by
    obtain ⟨ls, rfl, hl⟩ := strs_of (ds := ds) fun x m => h x (List.mem_cons_of_mem _ m)
    have hd := h d List.mem_cons_self
    obtain ⟨l, rfl⟩ : ∃ l, d = .str l := by
      simp only [abc, List.mem_cons, List.not_mem_nil, or_false] at hd
      rcases hd with rfl | rfl | rfl | rfl <;> exact ⟨_, rfl⟩
    exact ⟨l :: ls, rfl, fun z m => (List.mem_cons.mp m).elim (fun e => e ▸ hd) (hl z)⟩
theorem f28_ok {k : Nat} (h : 3 ≤ k) {x y : Int} (hp : PotOk x y) {n : Nat} (hn : n ≤ 10) : ∃ (ls : List Str) (x' y' : Int), Lz ls ∧ PotOk x' y' ∧ RF k 28 [pot x y, .sh (.int (n : Int))] = some (.sh (aL ls), [pot x' y', .sh (.int (n : Int))]) := by
  obtain ⟨k, rfl, hk⟩ := posK h
  have P := pickC (k := k) hk
  have key : ∃ (ls : List Str) (x' y' : Int), Lz ls ∧ PotOk x' y' ∧ evSs (RF k) f28.body [some (pot x y), some (.sh (.int (n : Int))), none] = some (.rt (.sh (aL ls)) [some (pot x' y'), some (.sh (.int (n : Int))), none]) := by
    generalize RF k = C at *
    have e1 : evs C [.nm 1] [some (pot x y), some (.sh (.int (n : Int))), none] = some ([.sh (.int n)], [some (pot x y), some (.sh (.int (n : Int))), none]) := es_cons (e_nm rfl) es_nil
    obtain ⟨ds, x2, y2, g1, g2, hp2, q2⟩ := lc_pot (C := C) (ws := [2]) (tg := .nm 2) (e := .call 27 [.nm 0, .lst [.c (.str "a"), .c (.str "b"), .c (.str "c"), .c (.str "d")]]) (n := n) (fun d => d ∈ abc) (r0 := [some (.sh (.int (n : Int))), none]) (r := [some (.sh (.int (n : Int))), none]) hp (by omega) e1 (fun _ _ => rfl) (fun _ _ => rfl) (fun o x y hp => by
      obtain ⟨d, x', y', hd, hp', q⟩ := ev_pick (r := [some (.sh (.int (n : Int))), some o]) P hp abc (τs := [.c (.str "a"), .c (.str "b"), .c (.str "c"), .c (.str "d")]) (es_cons e_c (es_cons e_c (es_cons e_c (es_cons e_c es_nil)))) (by simp [abc]) (by simp [abc])
      exact ⟨d, x', y', hd, hp', (lcT_nm (ρ2 := [some (pot x y), some (.sh (.int (n : Int))), some o]) (by simp [bindTg]) q).trans rfl⟩)
    obtain ⟨ls, rfl, hl⟩ := strs_of g2
    have hl2 : ls.length = n := by simpa [sL] using g1
    refine ⟨ls, x2, y2, ⟨by omega, hl⟩, hp2, ?_⟩
    unfold f28
    simp only
    rw [evSs_cons, evS_ret, ev_fz, q2]
    simp only [Option.map_some, Option.bind_some, d_ol]
    rfl
  obtain ⟨ls, x', y', h1, h2, q⟩ := key
  exact ⟨ls, x', y', h1, h2, run_rt (fd := f28) rfl rfl q rfl⟩
end L83
end
section
set_option Elab.async false
set_option linter.all false
set_option maxRecDepth 100000
set_option maxHeartbeats 2000000
namespace L83
open PySem PySem.Spec PyProof.Rows L2 Qv
variable {a b : List Str}
/-! ### values that are shown and looked at -/
structure OkV (v : PyData) : Prop where
  pt : papT v = true
  sm : smlT v = true
  rp : Rp 100000 60 v
/-- edits -/
structure OkE (d : PyData) : Prop where
  ed : editT d = true
  rp : Rp 60 4 d
structure OkP (ps : List PyData) : Prop where
  len : ps.length ≤ 410
  each : ∀ d ∈ ps, OkE d
/-- tables -/
structure OkT2 (t : PyData) : Prop where
  tt : tabT t = true
  ts : tabS t = true
  rp : Rp 6000 60 t
/-- rows -/
structure OkR (xss : List (List PyData)) : Prop where
  ok : rowsOk xss
  l1 : xss.length ≤ 20
  l2 : ∀ cs ∈ xss, cs.length ≤ 20
theorem cut_len (ds : List PyData) (lo hi : Option Int) : (Qv.cutD ds lo hi).length ≤ ds.length := by
  unfold Qv.cutD
  rw [List.length_take, List.length_drop]
  omega
theorem cut_mem {ds : List PyData} {lo hi : Option Int} {d : PyData} (h : d ∈ Qv.cutD ds lo hi) : d ∈ ds := List.mem_of_mem_drop (List.mem_of_mem_take h)
theorem OkP.cut {ps : List PyData} (h : OkP ps) (lo hi : Option Int) : OkP (Qv.cutD ps lo hi) := ⟨Nat.le_trans (cut_len _ _ _) h.len, fun d m => h.each d (cut_mem m)⟩
theorem OkP.val {ps : List PyData} (h : OkP ps) : valT (.tuple ps) = true ∧ valT (.list ps) = true ∧ RpA 30000 4 ps := by
  have l := h.len
  refine ⟨?_, decide_eq_true (by omega), ?_⟩
  · simp only [valT, Bool.and_eq_true, decide_eq_true_eq]
    exact ⟨by omega, List.all_eq_true.mpr fun d m => (h.each d m).ed⟩
  · have q := RpA.map (f := id) (xs := ps) fun c hc => (h.each c hc).rp
    rw [List.map_id] at q
    exact q.mono (by omega) (by omega)
theorem rp3 {N : Nat} {x p t : PyData} (hx : Rp 10 50 x) (hp : Rp N 50 p) (ht : Rp 6000 50 t) : RpA (N + 6100) 50 [x, p, t] := (RpA.cons hx (RpA.cons hp (RpA.cons ht (RpA.nil (N := 0))))).mono (by omega) (by omega)
theorem rp_least : Rp 10 50 (.str "least") ∧ Rp 10 50 (.str "Least") ∧ Rp 10 50 (.str "put") ∧ Rp 10 50 (.str "keep") ∧ Rp 10 50 (.str "take") :=
  ⟨(rp_str (N := 10) (by decide) (by decide)).mono (by omega) (by omega), (rp_str (N := 10) (by decide) (by decide)).mono (by omega) (by omega), (rp_str (N := 10) (by decide) (by decide)).mono (by omega) (by omega), (rp_str (N := 10) (by decide) (by decide)).mono (by omega) (by omega), (rp_str (N := 10) (by decide) (by decide)).mono (by omega) (by omega)⟩
theorem _root_.Qv.Rp.dn {N D E : Nat} {d : PyData} (h : Rp N D d) (h1 : d.depth ≤ E) : Rp N E d := ⟨h.sh, h.hd, h.lf, h.wt, h1⟩
/-- tables of rows -/
theorem rows_in {xss : List (List PyData)} {f : List PyData → PyData} (hf : ∀ cs, seqL (f cs) = some cs) (h : OkR xss) : ∀ r ∈ xss.map f, rowT r = true ∧ rowS r = true := fun r m => by
  obtain ⟨cs, hc, rfl⟩ := List.mem_map.mp m
  have l := h.l2 cs hc
  unfold rowT rowS
  rw [hf]
  simp only [Bool.and_eq_true, decide_eq_true_eq]
  exact ⟨⟨by omega, List.all_eq_true.mpr (h.ok cs hc)⟩, l⟩
theorem okT_of {xss : List (List PyData)} {f : List PyData → PyData} {g : List PyData → PyData} (hf : ∀ cs, seqL (f cs) = some cs) (hg : ∀ cs, seqL (g cs) = some cs) (hr : ∀ N D cs, RpA N D cs → Rp N (D + 1) (f cs)) (hr2 : ∀ N D cs, RpA N D cs → Rp N (D + 1) (g cs)) (h : OkR xss) : OkT2 (g (xss.map f)) ∧ Rp 6000 50 (g (xss.map f)) := by
  have l := h.l1
  have q := rows_in hf h
  have r : Rp 6000 50 (g (xss.map f)) := by
    have r : ∀ cs ∈ xss, Rp 280 1 (f cs) := fun cs m => by
      have q := RpA.map (f := id) (xs := cs) fun c hc => rp_cell (h.ok cs m c hc)
      rw [List.map_id] at q
      exact (hr _ _ _ q).mono (by have := h.l2 cs m; omega) (by omega)
    have q := RpA.map (f := f) (xs := xss) r
    exact (hr2 _ _ _ q).mono (by omega) (by omega)
  refine ⟨⟨?_, ?_, r.mono (Nat.le_refl _) (by omega)⟩, r⟩
  · unfold tabT
    rw [hg]
    simp only [Bool.and_eq_true, decide_eq_true_eq, List.length_map]
    exact ⟨by omega, List.all_eq_true.mpr fun r m => (q r m).1⟩
  · unfold tabS
    rw [hg]
    simp only [Bool.and_eq_true, decide_eq_true_eq, List.length_map]
    exact ⟨by omega, List.all_eq_true.mpr fun r m => (q r m).2⟩
theorem okT_ll {xss : List (List PyData)} (h : OkR xss) : OkT2 (.list (xss.map .list)) ∧ Rp 6000 50 (.list (xss.map .list)) := okT_of (f := .list) (g := .list) (fun _ => rfl) (fun _ => rfl) (fun _ _ _ h => h.list) (fun _ _ _ h => h.list) h
theorem okT_tt {xss : List (List PyData)} (h : OkR xss) : OkT2 (.tuple (xss.map .tuple)) ∧ Rp 6000 50 (.tuple (xss.map .tuple)) := okT_of (f := .tuple) (g := .tuple) (fun _ => rfl) (fun _ => rfl) (fun _ _ _ h => h.tuple) (fun _ _ _ h => h.tuple) h
theorem okT_none : OkT2 .none ∧ Rp 6000 50 .none := ⟨⟨rfl, rfl, rp_none.mono (by omega) (by omega)⟩, rp_none.mono (by omega) (by omega)⟩
theorem OkR.set {xss : List (List PyData)} (h : OkR xss) {cs : List PyData} (w : Nat) (hc : ∀ c ∈ cs, cellB c = true) (hl : cs.length ≤ 20) : OkR (xss.set w cs) := ⟨fun z m => by
  rcases List.mem_or_eq_of_mem_set m with m | rfl
  · exact h.ok z m
  · exact hc, by rw [List.length_set]; exact h.l1, fun z m => by
  rcases List.mem_or_eq_of_mem_set m with m | rfl
  · exact h.l2 z m
  · exact hl⟩
theorem OkR.sub {xss yss : List (List PyData)} (h : OkR xss) (hs : ∀ z ∈ yss, z ∈ xss) (hl : yss.length ≤ xss.length) : OkR yss := ⟨fun z m => h.ok z (hs z m), Nat.le_trans hl h.l1, fun z m => h.l2 z (hs z m)⟩
/-- papers, right or not -/
theorem okV3 {w : Str} {p t : PyData} (hw : w = "least" ∨ w = "Least") {ps : List PyData} (hP : OkP ps) (hp : p = .tuple ps ∨ p = .list ps) (ht : OkT2 t ∧ Rp 6000 50 t) : OkV (.tuple [.str w, p, t]) := by
  obtain ⟨v1, v2, v3⟩ := hP.val
  have rp : Rp 30000 50 p := by
    rcases hp with rfl | rfl
    · exact v3.tuple.mono (Nat.le_refl _) (by omega)
    · exact v3.list.mono (Nat.le_refl _) (by omega)
  have rw' : Rp 10 50 (.str w) := by
    rcases hw with rfl | rfl
    · exact rp_least.1
    · exact rp_least.2.1
  refine ⟨?_, ht.1.ts, (rp3 rw' rp ht.2).tuple.mono (by omega) (by omega)⟩
  simp only [papT, Bool.and_eq_true]
  refine ⟨⟨?_, hp.elim (fun e => e ▸ v1) fun e => e ▸ v2⟩, ht.1.tt⟩
  rcases hw with rfl | rfl
  · simp [wordB]
  · simp [wordB]
theorem okV_list {ps : List PyData} {t : PyData} (hP : OkP ps) (ht : OkT2 t ∧ Rp 6000 50 t) : OkV (.list [.str "least", .tuple ps, t]) :=
  ⟨rfl, rfl, (rp3 rp_least.1 (hP.val.2.2.tuple.mono (Nat.le_refl _) (by omega)) ht.2).list.mono (by omega) (by omega)⟩
theorem okV_two {ps : List PyData} (hP : OkP ps) : OkV (.tuple [.str "least", .tuple ps]) :=
  ⟨rfl, rfl, (RpA.cons rp_least.1 (RpA.cons (hP.val.2.2.tuple.mono (Nat.le_refl _) (show 4 + 1 ≤ 50 by omega)) (RpA.nil (N := 0)))).tuple.mono (by omega) (by omega)⟩
theorem okV_four {ps : List PyData} {t : PyData} (hP : OkP ps) (ht : OkT2 t ∧ Rp 6000 50 t) : OkV (.tuple [.str "least", .tuple ps, t, .int 0]) :=
  ⟨rfl, rfl, (RpA.cons rp_least.1 (RpA.cons (hP.val.2.2.tuple.mono (Nat.le_refl _) (show 4 + 1 ≤ 50 by omega)) (RpA.cons ht.2 (RpA.cons ((rp_int (n := 0) (by omega)).mono (Nat.le_refl _) (by omega)) (RpA.nil (N := 0)))))).tuple.mono (by omega) (by omega)⟩
theorem okV_none : OkV .none := ⟨rfl, rfl, rp_none.mono (by omega) (by omega)⟩
theorem okV_zero : OkV (.int 0) := ⟨rfl, rfl, (rp_int (n := 0) (by omega)).mono (by omega) (by omega)⟩
theorem okV_unit : OkV (.tuple []) := ⟨rfl, rfl, (RpA.nil (N := 0) (D := 0)).tuple.mono (by omega) (by omega)⟩
theorem okV_true : OkV (.list [.bool true]) := ⟨rfl, rfl, ((rp_bool true).mono (Nat.le_refl 0) (Nat.le_refl 0) |> fun h => (RpA.cons h (RpA.nil (N := 0) (D := 0))).list).mono (by omega) (by omega)⟩
/-! edits of the least patch -/
theorem put_in {xs : List Str} : ∀ {es : List Ed} (q : Nat), Ed.put xs ∈ es → ∀ l ∈ xs, l ∈ fnd a q es
  | [], _, h, _, _ => by cases h
  | e :: es, q, h, l, hl => by
    rcases List.mem_cons.mp h with rfl | h'
    · rw [fnd]
      exact List.mem_append.mpr (.inl hl)
    · cases e with
      | put ys =>
        rw [fnd]
        exact List.mem_append.mpr (.inr (put_in q h' l hl))
      | keep n =>
        rw [fnd]
        exact List.mem_append.mpr (.inr (put_in _ h' l hl))
      | take n =>
        rw [fnd]
        exact put_in _ h' l hl
theorem put_late {xs : List Str} : ∀ {es : List Ed}, Ed.put xs ∈ es → xs.length ≤ late es
  | [], h => by cases h
  | e :: es, h => by
    have c : late (e :: es) = e.late + late es := by simp [late]
    rcases List.mem_cons.mp h with rfl | h
    · rw [c]
      exact Nat.le_add_right _ _
    · have := put_late h
      omega
theorem kt_span : ∀ {es : List Ed} {e : Ed}, e ∈ es → e.span ≤ span es
  | [], _, h => by cases h
  | f :: es, e, h => by
    have c : span (f :: es) = f.span + span es := by simp [span]
    rcases List.mem_cons.mp h with rfl | h
    · omega
    · have := kt_span h
      omega
theorem okE_kt {w : Str} (hw : w = "keep" ∨ w = "take") {n : Nat} (hn : n ≤ 4000) : OkE (.tuple [.str w, .int (n : Int)]) := by
  have r : Rp 10 50 (.str w) := by
    rcases hw with rfl | rfl
    · exact rp_least.2.2.2.1
    · exact rp_least.2.2.2.2
  have r1 : Rp 10 0 (.str w) := r.dn (by simp [PyData.depth])
  exact ⟨by rfl, (RpA.cons r1 (RpA.cons (rp_int hn) (RpA.nil (N := 0)))).tuple.mono (by omega) (by omega)⟩
theorem okE_put {ls : List Str} (h : ∀ l ∈ ls, PyData.str l ∈ abc) (hl : ls.length ≤ 10) : OkE (.tuple [.str "put", .tuple (sL ls)]) := by
  have r1 : Rp 10 0 (.str "put") := rp_least.2.2.1.dn (by simp [PyData.depth])
  have r2 := RpA.map (f := PyData.str) (xs := ls) fun l m => abc_rp (h l m)
  refine ⟨?_, (RpA.cons (r1.mono (Nat.le_refl _) (Nat.zero_le 1)) (RpA.cons r2.tuple (RpA.nil (N := 0)))).tuple.mono (by omega) (by omega)⟩
  simp only [editT, Bool.and_eq_true, decide_eq_true_eq]
  refine ⟨⟨shapedT fun l m => abc_line (h l m), List.all_eq_true.mpr fun d m => ?_⟩, by simp [sL]; omega⟩
  obtain ⟨l, hl, rfl⟩ := List.mem_map.mp m
  have := (abc_line (h l hl)).len
  exact decide_eq_true (by omega)
def sw : Ed → Ed
  | .take n => .keep n
  | e => e
theorem least_okE (ha : Lz a) (hb : Lz b) : ∀ e ∈ leastE a b, OkE e.d ∧ OkE (sw e).d := fun e m => by
  have q := least_is ha.ln hb.ln
  have f := least_fnd ha.ln hb.ln
  have la := ha.len
  have lb := hb.len
  have s := kt_span m
  rw [q.sp] at s
  cases e with
  | put xs =>
    have h1 : ∀ l ∈ xs, PyData.str l ∈ abc := fun l hl => hb.each l (by rw [← f]; exact put_in 0 m l hl)
    have h2 : xs.length ≤ 10 := by
      have z := put_late m
      have : late (leastE a b) = b.length := by
        have t := tr_len a 0 (leastE a b)
        rw [(least_ok ha.ln hb.ln).1, tra_len] at t
        exact t.symm
      omega
    exact ⟨okE_put h1 h2, okE_put h1 h2⟩
  | keep n =>
    have s : n ≤ a.length := s
    exact ⟨okE_kt (.inl rfl) (by omega), okE_kt (.inl rfl) (by omega)⟩
  | take n =>
    have s : n ≤ a.length := s
    exact ⟨okE_kt (.inr rfl) (by omega), okE_kt (.inl rfl) (by omega)⟩
theorem least_okP (ha : Lz a) (hb : Lz b) : OkP ((leastE a b).map Ed.d) ∧ OkP ((leastE a b).map fun e => (sw e).d) := by
  have l := (least_is ha.ln hb.ln).len
  refine ⟨⟨by rw [List.length_map]; omega, fun d m => ?_⟩, ⟨by rw [List.length_map]; omega, fun d m => ?_⟩⟩
  · obtain ⟨e, he, rfl⟩ := List.mem_map.mp m
    exact (least_okE ha hb e he).1
  · obtain ⟨e, he, rfl⟩ := List.mem_map.mp m
    exact (least_okE ha hb e he).2
theorem OkP.app {ps qs : List PyData} (h : OkP ps) (hl : ps.length ≤ 400) (hq : qs.length ≤ 10) (h2 : ∀ d ∈ qs, OkE d) : OkP (ps ++ qs) := ⟨by rw [List.length_append]; omega, fun d m => (List.mem_append.mp m).elim (h.each d) (h2 d)⟩
theorem tabR (ha : Lz a) (hb : Lz b) : OkR (tabX a b) := by
  obtain ⟨y1, y2, y3⟩ := tabX_ok ha.ln hb.ln
  exact ⟨y1, y2, y3⟩
theorem pap_okV (ha : Lz a) (hb : Lz b) : OkV (papD a b) := by
  have := okV3 (w := "least") (.inl rfl) (least_okP ha hb).1 (.inl rfl) (okT_ll (tabR ha hb))
  rw [← tabX_is] at this
  exact this
end L83
end
section
set_option Elab.async false
set_option linter.all false
set_option maxRecDepth 100000
set_option maxHeartbeats 2000000
namespace L83
open PySem PySem.Spec PyProof.Rows L2 Qv
/-! small rules -/
def Pt (C : Cal) (ρ : Qv.Env) (es : List Qv.T) (v : Option Int) : Prop := ∃ ys, evOs C es ρ = some (ys, ρ) ∧ partOf ρ ys = some v
section
variable {C : Cal} {ρ : Qv.Env} {e x : Qv.T} {es los his : List Qv.T} {lo hi : Option Int} {o r : O} {acc ds xs ys : List PyData} {i k : Nat}
theorem pt_nil : Pt C ρ [] none := ⟨[], evOs_nil, rfl⟩
theorem pt_v {z : Int} (hn : isNm e = none) (h : Ev C ρ e (.sh (.int z))) : Pt C ρ [e] (some z) := by
  refine ⟨[.tv (.sh (.int z))], ?_, rfl⟩
  rw [evOs_tv hn, h]
  simp only [Option.bind_some, evOs_nil]
theorem e_slc (hx : Ov C ρ [x] [o]) (h1 : Pt C ρ los lo) (h2 : Pt C ρ his hi) (hc : pCut o lo hi = some r) : Ev C ρ (.sl [x] los his) r := by
  obtain ⟨zs, q1, q2⟩ := hx
  obtain ⟨y1, q3, q4⟩ := h1
  obtain ⟨y2, q5, q6⟩ := h2
  match zs, q2 with
  | [z], q2 =>
    unfold Ev
    simp only [ev, q1, q3, q4, q5, q6, q2, hc]
  | [], q2 => cases q2
  | z :: z2 :: zs, q2 =>
    simp only [rdOs_cons] at q2
    cases a1 : rdO ρ z with
    | none => rw [a1] at q2; cases q2
    | some v1 =>
      rw [a1] at q2
      cases a2 : rdO ρ z2 with
      | none => rw [a2] at q2; simp at q2
      | some v2 =>
        rw [a2] at q2
        cases a3 : rdOs ρ zs with
        | none => rw [a3] at q2; simp at q2
        | some vs =>
          rw [a3] at q2
          simp only [Option.bind_some] at q2
          split at q2
          · simp only [Option.bind_some] at q2
            split at q2
            · simp at q2
            · cases q2
          · cases q2
theorem add_tt (h : xs.length + ys.length ≤ 1000000) : prim .add [.sh (.tuple xs), .sh (.tuple ys)] = some (.sh (.tuple (xs ++ ys))) := by
  show gd (decide _) _ = _
  rw [decide_eq_true (sz_le h)]
  rfl
theorem add_oo (h : xs.length + ys.length ≤ 1000000) : prim .add [olOf xs, olOf ys] = some (olOf (xs ++ ys)) := by
  have key : prim .add [olOf xs, olOf ys] = (match (olOf xs).list?, (olOf ys).list? with
    | some xs, some ys => gd (decide (xs.length + ys.length ≤ sizeLine)) (olOf (xs ++ ys))
    | _, _ => none) := rfl
  rw [key, list_ol, list_ol]
  simp only
  rw [decide_eq_true (sz_le h)]
  rfl
theorem b_st (h : ρ[i]? = some (some (olOf acc))) (he : Ov C ρ [e] [.sh (.int (k : Int))]) (hk : k < acc.length) : bindTa C (.st i e) o ρ = some (ρ.set i (some (olOf (acc.set k o.d)))) := by
  obtain ⟨zs, q1, q2⟩ := he
  have r0 : rdO ρ (.sl i) = some (.ol (acc.map O.sh)) := by simp only [rdO, h]; rfl
  have ix : ixN acc.length (k : Int) = some k := by
    unfold ixN
    rw [if_pos (by omega), if_pos (by omega), Int.toNat_natCast]
  simp only [bindTa, r0, q1, q2, List.length_map, ix]
  rw [← List.map_set]
  rfl
end
end L83
end
section
set_option Elab.async false
set_option linter.all false
set_option maxRecDepth 100000
set_option maxHeartbeats 2000000
namespace L83
open PySem PySem.Spec PyProof.Rows L2 Qv
variable {a b : List Str}
/-- a paper's rows: numbers to ten -/
structure OkN (xss : List (List PyData)) : Prop where
  r : OkR xss
  ne : xss ≠ []
  cs : ∀ cs ∈ xss, cs ≠ [] ∧ ∀ c ∈ cs, ∃ n : Nat, n ≤ 10 ∧ c = .int (n : Int)
theorem tabN (ha : Lz a) (hb : Lz b) : OkN (tabX a b) := by
  have lb := hb.len
  refine ⟨tabR ha hb, by simp [tabX], fun cs m => ?_⟩
  obtain ⟨i, _, rfl⟩ := List.mem_map.mp m
  refine ⟨by rw [row_s]; simp, fun c hc => ?_⟩
  obtain ⟨j, hj, rfl⟩ := List.mem_map.mp hc
  have : LL a b i j ≤ j := LC.le2 e0 j i
  have := List.mem_range.mp hj
  exact ⟨LL a b i j, by omega, rfl⟩
abbrev P34 (ps : List PyData) (xss : List (List PyData)) : PyData := .tuple [.str "least", .tuple ps, .list (xss.map .list)]
abbrev E34 (x y : Int) (ps : List PyData) (xss : List (List PyData)) (s5 s6 s7 s8 s9 : Option O) : Qv.Env := [some (pot x y), some (.sh (P34 ps xss)), some (.sh (.str "least")), some (.sh (.tuple ps)), some (.sh (.list (xss.map .list))), s5, s6, s7, s8, s9, none, none, none]
def T1 : Qv.T := .tup [.nm 2, .nm 3, .nm 7]
def T2s : List Qv.T := [.tup [.nm 2, .nm 3, .op .tuple1 [.lc [10] (.nm 10) .sq [.nm 4] [] (.op .tuple1 [.nm 10])]], .tup [.nm 2, .nm 3, .sl [.nm 4] [] [.op .neg [.c (.int 1)]]], .tup [.nm 2, .nm 3, .c (.none)]]
def X1 : Qv.T := .lst [.tup [.nm 2, .sl [.nm 3] [.c (.int 1)] [], .nm 4], .tup [.nm 2, .op .add [.nm 3, .tup [.tup [.c (.str "put"), .tup [.c (.str "a")]]]], .nm 4]]
def X2 : Qv.T := .lst [.tup [.nm 2, .op .add [.nm 3, .tup [.tup [.c (.str "put"), .tup [.c (.str "a")]], .tup [.c (.str "take"), .c (.int 1)]]], .nm 4], .op .add [.tup [.c (.str "Least")], .sl [.nm 1] [.c (.int 1)] []], .op .list1 [.nm 1], .sl [.nm 1] [] [.c (.int 2)], .op .add [.nm 1, .tup [.c (.int 0)]], .tup [.nm 2, .op .list1 [.nm 3], .nm 4], .c (.none), .c (.int 0), .tup [], .lst [.c (.bool true)]]
def M9 : Qv.T := .lc [10] (.nm 10) .sq [.op .item [.nm 4, .nm 5]] [] (.ite (.op .lt [.nm 10, .c (.int 2)]) (.op .eq [.nm 10, .c (.int 1)]) (.nm 10))
def W2 : Qv.T := .tup [.nm 2, .op .tuple1 [.lc [11, 12] (.tp [.nm 11, .nm 12]) .sq [.nm 3] [] (.ite (.op .eq [.nm 11, .c (.str "take")]) (.tup [.c (.str "keep"), .nm 12]) (.tup [.nm 11, .nm 12]))], .nm 4]
theorem f34_body : f34.body = [.asg (.tp [.nm 2, .nm 3, .nm 4]) (.nm 1),
    .asg (.nm 5) (.call 26 [.nm 0, .op .len [.nm 4]]),
    .asg (.nm 6) (.op .list1 [.op .item [.nm 4, .nm 5]]),
    .augs 6 (.call 26 [.nm 0, .op .len [.nm 6]]) (.call 27 [.nm 0, .lst [.c (.int 1), .op .neg [.c (.int 1)]]]),
    .asg (.nm 7) (.lc [10] (.nm 10) .sq [.nm 4] [] (.op .list1 [.nm 10])),
    .asg (.st 7 (.nm 5)) (.nm 6),
    .asg (.nm 8) (.lst (T1 :: T2s)),
    .ex (.ext 8 [X1]),
    .ex (.ext 8 [X2]),
    .asg (.nm 9) (.op .list1 [.nm 4]),
    .asg (.st 9 (.nm 5)) M9,
    .ret (.fz (.op .add [.nm 8, .lst [.tup [.nm 2, .nm 3, .nm 9], W2]]))] := rfl
def mor (c : PyData) : PyData := match c with
  | .int i => if i < 2 then .bool (decide (i = 1)) else .int i
  | d => d
def swD (d : PyData) : PyData := match d with
  | .tuple [.str w, t] => if w = "take" then .tuple [.str "keep", t] else .tuple [.str w, t]
  | d => d
section
variable {C : Cal} {x y : Int} {ps : List PyData} {xss : List (List PyData)} {s5 s6 s7 s8 s9 : Option O}
theorem a34_1 {ss : List Qv.S} : evSs C (.asg (.tp [.nm 2, .nm 3, .nm 4]) (.nm 1) :: ss) [some (pot x y), some (.sh (P34 ps xss)), none, none, none, none, none, none, none, none, none, none, none] = evSs C ss (E34 x y ps xss none none none none none) := by
  have h : Ev C [some (pot x y), some (.sh (P34 ps xss)), none, none, none, none, none, none, none, none, none, none, none] (.nm 1) (.sh (P34 ps xss)) := e_nm rfl
  rw [s_tp3 h (by simp) (by simp) (by simp)]
  rfl
theorem a34_2 (D : DrawC C 26) (hp : PotOk x y) (hN : OkN xss) {ss : List Qv.S} : ∃ (w : Nat) (x' y' : Int), w < xss.length ∧ PotOk x' y' ∧ evSs C (.asg (.nm 5) (.call 26 [.nm 0, .op .len [.nm 4]]) :: ss) (E34 x y ps xss none none none none none) = evSs C ss (E34 x' y' ps xss (some (.sh (.int (w : Int)))) none none none none) := by
  have l1 := hN.r.l1
  have hl : 1 ≤ xss.length := List.length_pos_iff.mpr hN.ne
  obtain ⟨w, x', y', h1, h2, q⟩ := ev_draw (C := C) (g := 26) (n := xss.length) (e := .op .len [.nm 4]) (r := [some (.sh (P34 ps xss)), some (.sh (.str "least")), some (.sh (.tuple ps)), some (.sh (.list (xss.map .list))), none, none, none, none, none, none, none, none]) D hp rfl (e_op (ov_s rfl ov_nil) (by rw [len_li, List.length_map])) hl (by omega)
  refine ⟨w, x', y', h1, h2, ?_⟩
  rw [evSs_cons, evS_asg, q]
  rfl
theorem row34 {w : Nat} (hw : w < xss.length) : Ev C (E34 x y ps xss (some (.sh (.int (w : Int)))) s6 s7 s8 s9) (.op .item [.nm 4, .nm 5]) (.sh (.list (xss[w]'hw))) :=
  e_op (ov_s rfl (ov_s rfl ov_nil)) (item_n (ds := xss.map .list) rfl (by rw [List.getElem?_map, List.getElem?_eq_getElem hw]; rfl))
theorem a34_3 {w : Nat} (hw : w < xss.length) {ss : List Qv.S} : evSs C (.asg (.nm 6) (.op .list1 [.op .item [.nm 4, .nm 5]]) :: ss) (E34 x y ps xss (some (.sh (.int (w : Int)))) none none none none) = evSs C ss (E34 x y ps xss (some (.sh (.int (w : Int)))) (some (olOf (xss[w]'hw))) none none none) := by
  have h : Ev C (E34 x y ps xss (some (.sh (.int (w : Int)))) none none none none) (.op .list1 [.op .item [.nm 4, .nm 5]]) (olOf (xss[w]'hw)) := e_op (ov_d rfl (row34 hw) ov_nil) rfl
  rw [s_asg h (by simp)]
  rfl
theorem a34_4 (D : DrawC C 26) (P : PickC C 27) (hp : PotOk x y) {s5 : Option O} {cs : List PyData} (hn : cs ≠ []) (hl : cs.length ≤ 20) (hc : ∀ c ∈ cs, ∃ n : Nat, n ≤ 10 ∧ c = .int (n : Int)) {ss : List Qv.S} : ∃ (cs' : List PyData) (x' y' : Int), PotOk x' y' ∧ cs'.length = cs.length ∧ (∀ c ∈ cs', cellB c = true) ∧
    evSs C (.augs 6 (.call 26 [.nm 0, .op .len [.nm 6]]) (.call 27 [.nm 0, .lst [.c (.int 1), .op .neg [.c (.int 1)]]]) :: ss) (E34 x y ps xss s5 (some (olOf cs)) none none none) = evSs C ss (E34 x' y' ps xss s5 (some (olOf cs')) none none none) := by
  have h0 : 1 ≤ cs.length := List.length_pos_iff.mpr hn
  obtain ⟨j, x1, y1, hj, hp1, q1⟩ := ev_draw (C := C) (g := 26) (n := cs.length) (e := .op .len [.nm 6]) (r := [some (.sh (P34 ps xss)), some (.sh (.str "least")), some (.sh (.tuple ps)), some (.sh (.list (xss.map .list))), s5, some (olOf cs), none, none, none, none, none, none]) D hp rfl (e_op (ov_sl (i := 6) rfl flat_ol ov_nil) (len_ol cs)) h0 (by omega)
  obtain ⟨d, x2, y2, hd, hp2, q2⟩ := ev_pick (C := C) (g := 27) (τs := [.c (.int 1), .op .neg [.c (.int 1)]]) (r := [some (.sh (P34 ps xss)), some (.sh (.str "least")), some (.sh (.tuple ps)), some (.sh (.list (xss.map .list))), s5, some (olOf cs), none, none, none, none, none, none]) P hp1 [.int 1, .int (-1)] (es_cons e_c (es_cons (e_op (ov_c ov_nil) rfl) es_nil)) (by simp) (by simp)
  obtain ⟨s, rfl, hs⟩ : ∃ s : Int, d = .int s ∧ -1 ≤ s ∧ s ≤ 1 := by
    simp only [List.mem_cons, List.not_mem_nil, or_false] at hd
    rcases hd with rfl | rfl
    · exact ⟨1, rfl, by omega, by omega⟩
    · exact ⟨-1, rfl, by omega, by omega⟩
  obtain ⟨n, hn10, hcn⟩ := hc cs[j] (List.getElem_mem hj)
  refine ⟨cs.set j (.int ((n : Int) + s)), x2, y2, hp2, List.length_set, fun c m => ?_, ?_⟩
  · rcases List.mem_or_eq_of_mem_set m with m | rfl
    · obtain ⟨n2, h2, rfl⟩ := hc c m
      simp only [cellB, Bool.and_eq_true, decide_eq_true_eq]
      omega
    · simp only [cellB, Bool.and_eq_true, decide_eq_true_eq]
      omega
  · have r0 : ∀ x y : Int, rdO (E34 x y ps xss s5 (some (olOf cs)) none none none) (.sl 6) = some (.ol (cs.map O.sh)) := fun _ _ => rfl
    have e1 : evOs C [.call 26 [.nm 0, .op .len [.nm 6]]] (E34 x y ps xss s5 (some (olOf cs)) none none none) = some ([.tv (.sh (.int (j : Int)))], E34 x1 y1 ps xss s5 (some (olOf cs)) none none none) := by
      rw [evOs_tv rfl, q1]
      simp only [Option.bind_some, evOs_nil]
    have e2 : rdOs (E34 x1 y1 ps xss s5 (some (olOf cs)) none none none) [.tv (.sh (.int (j : Int)))] = some [.sh (.int (j : Int))] := rfl
    have e3 : (cs.map O.sh)[j]? = some (.sh (.int (n : Int))) := by
      rw [List.getElem?_map, List.getElem?_eq_getElem hj, hcn]
      rfl
    have ix : ixN cs.length (j : Int) = some j := by
      unfold ixN
      rw [if_pos (by omega), if_pos (by omega), Int.toNat_natCast]
    have q2 : ev C (.call 27 [.nm 0, .lst [.c (.int 1), .op .neg [.c (.int 1)]]]) (E34 x1 y1 ps xss s5 (some (olOf cs)) none none none) = some (.sh (.int s), E34 x2 y2 ps xss s5 (some (olOf cs)) none none none) := q2
    have cd : (0 : Int) ≤ (j : Int) ∧ (j : Int) < ((cs.map O.sh).length : Nat) := by rw [List.length_map]; omega
    have st : evS C (.augs 6 (.call 26 [.nm 0, .op .len [.nm 6]]) (.call 27 [.nm 0, .lst [.c (.int 1), .op .neg [.c (.int 1)]]])) (E34 x y ps xss s5 (some (olOf cs)) none none none) = some (.nx (E34 x2 y2 ps xss s5 (some (olOf (cs.set j (.int ((n : Int) + s))))) none none none)) := by
      simp only [evS, r0, e1, e2, Int.toNat_natCast, e3, q2, List.length_map, ix]
      rw [List.length_map] at cd
      rw [if_pos cd, ← List.map_set (f := O.sh) (a := PyData.int ((n : Int) + s))]
      rfl
    exact seq1 st
theorem a34_5 {s5 s6 : Option O} (hN : OkN xss) {ss : List Qv.S} : evSs C (.asg (.nm 7) (.lc [10] (.nm 10) .sq [.nm 4] [] (.op .list1 [.nm 10])) :: ss) (E34 x y ps xss s5 s6 none none none) = evSs C ss (E34 x y ps xss s5 s6 (some (olOf (xss.map .list))) none none) := by
  have h : Ev C (E34 x y ps xss s5 s6 none none none) (.lc [10] (.nm 10) .sq [.nm 4] [] (.op .list1 [.nm 10])) (.ol (xss.filterMap fun cs => some (.sh (.list cs)))) := by
    refine e_lcA (fun cs : List PyData => O.sh (.list cs)) (fun cs => some (.sh (.list cs))) xss (es_cons (e_nm rfl) es_nil) (by simp [walk, Function.comp_def, O.list?, O.seq?]) rfl (fun cs m => ?_) (by have := hN.r.l1; omega)
    have q := lcT_1 (C := C) (e := .op .list1 [.nm 10]) (w := 10) (v := .sh (.list cs)) (r := olOf cs) (ρ := E34 x y ps xss s5 s6 none none none) (by simp) rfl (e_op (ov_s rfl ov_nil) rfl)
    rw [d_ol] at q
    exact q
  have e : O.ol (xss.filterMap fun cs => some (.sh (.list cs))) = olOf (xss.map .list) := by
    rw [Qv.fm_some]
    unfold olOf
    rw [List.map_map]
    rfl
  rw [e] at h
  rw [s_asg h (by simp)]
  rfl
theorem a34_6 {w : Nat} (hw : w < xss.length) {cs : List PyData} {ss : List Qv.S} : evSs C (.asg (.st 7 (.nm 5)) (.nm 6) :: ss) (E34 x y ps xss (some (.sh (.int (w : Int)))) (some (olOf cs)) (some (olOf (xss.map .list))) none none) = evSs C ss (E34 x y ps xss (some (.sh (.int (w : Int)))) (some (.sh (.list cs))) (some (olOf ((xss.set w cs).map .list))) none none) := by
  rw [evSs_cons, evS_asg, ev_nm, rdV_ol (i := 6) rfl]
  simp only [Option.bind_some]
  rw [b_st (C := C) (acc := xss.map .list) (k := w) (ρ := (E34 x y ps xss (some (.sh (.int (w : Int)))) (some (olOf cs)) (some (olOf (xss.map .list))) none none).set 6 (some (.sh (.list cs)))) rfl (ov_s rfl ov_nil) (by rw [List.length_map]; exact hw), d_sh, ← List.map_set]
  rfl
end
end L83
end
section
set_option Elab.async false
set_option linter.all false
set_option maxRecDepth 100000
set_option maxHeartbeats 2000000
namespace L83
open PySem PySem.Spec PyProof.Rows L2 Qv
variable {a b : List Str}
section
variable {C : Cal} {x y : Int} {ps : List PyData} {xss : List (List PyData)} {s5 s6 s7 s8 s9 : Option O}
def papA (ps : List PyData) (t : PyData) : PyData := .tuple [.str "least", .tuple ps, t]
def putA : PyData := .tuple [.str "put", .tuple [.str "a"]]
def take1 : PyData := .tuple [.str "take", .int 1]
/-- the values so far -/
def vs1 (ps : List PyData) (xss : List (List PyData)) (w : Nat) (cs : List PyData) : List PyData :=
  [papA ps (.list ((xss.set w cs).map .list)), papA ps (.tuple (xss.map .tuple)), papA ps (.list (Qv.cutD (xss.map .list) none (some (-1)))), papA ps .none]
def vs2 (ps : List PyData) (xss : List (List PyData)) : List PyData :=
  [papA (Qv.cutD ps (some 1) none) (.list (xss.map .list)), papA (ps ++ [putA]) (.list (xss.map .list))]
def vs3 (ps : List PyData) (xss : List (List PyData)) : List PyData :=
  [papA (ps ++ [putA, take1]) (.list (xss.map .list)), .tuple [.str "Least", .tuple ps, .list (xss.map .list)], .list [.str "least", .tuple ps, .list (xss.map .list)],
    .tuple [.str "least", .tuple ps], .tuple [.str "least", .tuple ps, .list (xss.map .list), .int 0], .tuple [.str "least", .list ps, .list (xss.map .list)], .none, .int 0, .tuple [], .list [.bool true]]
def vs4 (ps : List PyData) (xss : List (List PyData)) (w : Nat) (cs : List PyData) : List PyData :=
  [papA ps (.list ((xss.set w cs).map .list)), papA (ps.map swD) (.list (xss.map .list))]
theorem a34_7 {bt : List PyData} (hN : OkN xss) {ss : List Qv.S} {w : Nat} {cs : List PyData} (hbt : bt = (xss.set w cs).map .list) : evSs C (.asg (.nm 8) (.lst (T1 :: T2s)) :: ss) (E34 x y ps xss s5 s6 (some (olOf bt)) none none) = evSs C ss (E34 x y ps xss s5 s6 (some (.sh (.list bt))) (some (olOf (vs1 ps xss w cs))) none) := by
  have l1 := hN.r.l1
  have t1 : ev C T1 (E34 x y ps xss s5 s6 (some (olOf bt)) none none) = some (.sh (papA ps (.list bt)), E34 x y ps xss s5 s6 (some (.sh (.list bt))) none none) := by
    unfold T1
    rw [ev_tup, evs_cons, ev_nm]
    simp only [rdV, List.getElem?_cons_succ, List.getElem?_cons_zero, Option.bind_some]
    rw [evs_cons, ev_nm]
    simp only [rdV, List.getElem?_cons_succ, List.getElem?_cons_zero, Option.bind_some]
    rw [evs_cons, ev_nm, rdV_ol (i := 7) (ds := bt) rfl]
    simp only [Option.bind_some, evs_nil]
    exact szd_ok (sz_le (by simp))
  have L1 : Ev C (E34 x y ps xss s5 s6 (some (.sh (.list bt))) none none) (.lc [10] (.nm 10) .sq [.nm 4] [] (.op .tuple1 [.nm 10])) (olOf (xss.map .tuple)) := by
    have h : Ev C (E34 x y ps xss s5 s6 (some (.sh (.list bt))) none none) (.lc [10] (.nm 10) .sq [.nm 4] [] (.op .tuple1 [.nm 10])) (.ol (xss.filterMap fun cs => some (.sh (.tuple cs)))) :=
      e_lcA (fun cs : List PyData => O.sh (.list cs)) (fun cs => some (.sh (.tuple cs))) xss (es_cons (e_nm rfl) es_nil) (by simp [walk, Function.comp_def, O.list?, O.seq?]) rfl (fun cs m => lcT_1 (C := C) (e := .op .tuple1 [.nm 10]) (w := 10) (v := .sh (.list cs)) (r := .sh (.tuple cs)) (by simp) rfl (e_op (ov_s rfl ov_nil) rfl)) (by omega)
    have e : O.ol (xss.filterMap fun cs => some (.sh (.tuple cs))) = olOf (xss.map .tuple) := by
      rw [Qv.fm_some]
      unfold olOf
      rw [List.map_map]
      rfl
    rwa [e] at h
  have tp : Ev C (E34 x y ps xss s5 s6 (some (.sh (.list bt))) none none) (.op .tuple1 [.lc [10] (.nm 10) .sq [.nm 4] [] (.op .tuple1 [.nm 10])]) (.sh (.tuple (xss.map .tuple))) := by
    refine e_op (k := .tuple1) (ov_v rfl L1 flat_ol ov_nil) ?_
    show pTuple (olOf _) = _
    unfold pTuple
    rw [list_ol]
  have e2 : Ev C (E34 x y ps xss s5 s6 (some (.sh (.list bt))) none none) (.tup [.nm 2, .nm 3, .op .tuple1 [.lc [10] (.nm 10) .sq [.nm 4] [] (.op .tuple1 [.nm 10])]]) (.sh (papA ps (.tuple (xss.map .tuple)))) :=
    e_tup (es_cons (e_nm rfl) (es_cons (e_nm rfl) (es_cons tp es_nil))) (by simp)
  have e3 : Ev C (E34 x y ps xss s5 s6 (some (.sh (.list bt))) none none) (.tup [.nm 2, .nm 3, .sl [.nm 4] [] [.op .neg [.c (.int 1)]]]) (.sh (papA ps (.list (Qv.cutD (xss.map .list) none (some (-1)))))) := by
    have q := e_tup (es_cons (e_nm (C := C) (ρ := E34 x y ps xss s5 s6 (some (.sh (.list bt))) none none) (i := 2) rfl) (es_cons (e_nm (i := 3) rfl) (es_cons (e_slc (x := .nm 4) (los := []) (his := [.op .neg [.c (.int 1)]]) (ov_s (i := 4) rfl ov_nil) pt_nil (pt_v rfl e_n1) (r := olOf (Qv.cutD (xss.map .list) none (some (-1)))) rfl) es_nil))) (by simp)
    simp only [dL_cons, dL_nil, d_ol] at q
    exact q
  have e4 : Ev C (E34 x y ps xss s5 s6 (some (.sh (.list bt))) none none) (.tup [.nm 2, .nm 3, .c (.none)]) (.sh (papA ps .none)) := e_tup (es_cons (e_nm rfl) (es_cons (e_nm rfl) (es_cons e_c es_nil))) (by simp)
  have all : ev C (.lst (T1 :: T2s)) (E34 x y ps xss s5 s6 (some (olOf bt)) none none) = some (olOf (vs1 ps xss w cs), E34 x y ps xss s5 s6 (some (.sh (.list bt))) none none) := by
    have r : evs C T2s (E34 x y ps xss s5 s6 (some (.sh (.list bt))) none none) = some ([.sh (papA ps (.tuple (xss.map .tuple))), .sh (papA ps (.list (Qv.cutD (xss.map .list) none (some (-1))))), .sh (papA ps .none)], E34 x y ps xss s5 s6 (some (.sh (.list bt))) none none) := es_cons e2 (es_cons e3 (es_cons e4 es_nil))
    rw [ev_lst, evs_cons, t1]
    simp only [Option.bind_some, r]
    subst hbt
    exact szd_ok (sz_le (by simp))
  rw [evSs_cons, evS_asg, all]
  rfl
theorem a34_8 {acc : List PyData} (hl : acc.length ≤ 100) (hP : ps.length ≤ 400) {ss : List Qv.S} : evSs C (.ex (.ext 8 [X1]) :: .ex (.ext 8 [X2]) :: ss) (E34 x y ps xss s5 s6 s7 (some (olOf acc)) none) = evSs C ss (E34 x y ps xss s5 s6 s7 (some (olOf (acc ++ vs2 ps xss ++ vs3 ps xss))) none) := by
  have pa : ∀ {ρ : Qv.Env}, Ev C ρ (.tup [.c (.str "put"), .tup [.c (.str "a")]]) (.sh putA) := e_tup (es_cons e_c (es_cons (e_tup (es_cons e_c es_nil) (by simp)) es_nil)) (by simp)
  have tk : ∀ {ρ : Qv.Env}, Ev C ρ (.tup [.c (.str "take"), .c (.int 1)]) (.sh take1) := e_tup (es_cons e_c (es_cons e_c es_nil)) (by simp)
  have x1 : ∀ {s8 : Option O}, Ev C (E34 x y ps xss s5 s6 s7 s8 none) X1 (olOf (vs2 ps xss)) := fun {s8} => by
    have u1 : Ev C (E34 x y ps xss s5 s6 s7 s8 none) (.tup [.nm 2, .sl [.nm 3] [.c (.int 1)] [], .nm 4]) (.sh (papA (Qv.cutD ps (some 1) none) (.list (xss.map .list)))) :=
      e_tup (es_cons (e_nm rfl) (es_cons (e_slc (r := .sh (.tuple (Qv.cutD ps (some 1) none))) (ov_s rfl ov_nil) (pt_v rfl e_c) pt_nil rfl) (es_cons (e_nm rfl) es_nil))) (by simp)
    have u2 : Ev C (E34 x y ps xss s5 s6 s7 s8 none) (.tup [.nm 2, .op .add [.nm 3, .tup [.tup [.c (.str "put"), .tup [.c (.str "a")]]]], .nm 4]) (.sh (papA (ps ++ [putA]) (.list (xss.map .list)))) :=
      e_tup (es_cons (e_nm rfl) (es_cons (e_op (ov_s rfl (ov_d rfl (e_tup (es_cons pa es_nil) (by simp)) ov_nil)) (add_tt (by simp [O.dL]; omega))) (es_cons (e_nm rfl) es_nil))) (by simp)
    exact e_lst (es_cons u1 (es_cons u2 es_nil)) (by simp)
  have x2 : ∀ {s8 : Option O}, Ev C (E34 x y ps xss s5 s6 s7 s8 none) X2 (olOf (vs3 ps xss)) := fun {s8} => by
    have u1 : Ev C (E34 x y ps xss s5 s6 s7 s8 none) (.tup [.nm 2, .op .add [.nm 3, .tup [.tup [.c (.str "put"), .tup [.c (.str "a")]], .tup [.c (.str "take"), .c (.int 1)]]], .nm 4]) (.sh (papA (ps ++ [putA, take1]) (.list (xss.map .list)))) :=
      e_tup (es_cons (e_nm rfl) (es_cons (e_op (ov_s rfl (ov_d rfl (e_tup (es_cons pa (es_cons tk es_nil)) (by simp)) ov_nil)) (add_tt (by simp [O.dL]; omega))) (es_cons (e_nm rfl) es_nil))) (by simp)
    have u2 : Ev C (E34 x y ps xss s5 s6 s7 s8 none) (.op .add [.tup [.c (.str "Least")], .sl [.nm 1] [.c (.int 1)] []]) (.sh (.tuple [.str "Least", .tuple ps, .list (xss.map .list)])) :=
      e_op (ov_d rfl (e_tup (es_cons e_c es_nil) (by simp)) (ov_d rfl (e_slc (ov_s (i := 1) rfl ov_nil) (pt_v rfl e_c) pt_nil (r := .sh (.tuple [.tuple ps, .list (xss.map .list)])) rfl) ov_nil)) (add_tt (by simp [O.dL]))
    have u3 : Ev C (E34 x y ps xss s5 s6 s7 s8 none) (.op .list1 [.nm 1]) (olOf [.str "least", .tuple ps, .list (xss.map .list)]) := e_op (ov_s rfl ov_nil) rfl
    have u4 : Ev C (E34 x y ps xss s5 s6 s7 s8 none) (.sl [.nm 1] [] [.c (.int 2)]) (.sh (.tuple [.str "least", .tuple ps])) := e_slc (ov_s rfl ov_nil) pt_nil (pt_v rfl e_c) rfl
    have u5 : Ev C (E34 x y ps xss s5 s6 s7 s8 none) (.op .add [.nm 1, .tup [.c (.int 0)]]) (.sh (.tuple [.str "least", .tuple ps, .list (xss.map .list), .int 0])) := e_op (ov_s rfl (ov_d rfl (e_tup (es_cons e_c es_nil) (by simp)) ov_nil)) (add_tt (by simp [O.dL]))
    have u6 : Ev C (E34 x y ps xss s5 s6 s7 s8 none) (.tup [.nm 2, .op .list1 [.nm 3], .nm 4]) (.sh (.tuple [.str "least", .list ps, .list (xss.map .list)])) := by
      have q := e_tup (es_cons (e_nm (C := C) (ρ := E34 x y ps xss s5 s6 s7 s8 none) (i := 2) rfl) (es_cons (e_op (k := .list1) (ov_s (i := 3) rfl ov_nil) (o := olOf ps) rfl) (es_cons (e_nm (i := 4) rfl) es_nil))) (by simp)
      simp only [dL_cons, dL_nil, d_ol] at q
      exact q
    have u9 : Ev C (E34 x y ps xss s5 s6 s7 s8 none) (.tup []) (.sh (.tuple [])) := e_tup es_nil (by simp)
    have u10 : Ev C (E34 x y ps xss s5 s6 s7 s8 none) (.lst [.c (.bool true)]) (olOf [.bool true]) := e_lst (es_cons e_c es_nil) (by simp)
    have q := e_lst (es_cons u1 (es_cons u2 (es_cons u3 (es_cons u4 (es_cons u5 (es_cons u6 (es_cons (e_c (d := .none)) (es_cons (e_c (d := .int 0)) (es_cons u9 (es_cons u10 es_nil)))))))))) (by simp)
    simp only [dL_cons, dL_nil, d_ol, d_sh] at q
    exact q
  rw [s_exv (x_ext (i := 8) (acc := acc) rfl rfl x1 (by simp [vs2]; omega))]
  exact s_exv (x_ext (i := 8) (acc := acc ++ vs2 ps xss) (ρ := E34 x y ps xss s5 s6 s7 (some (olOf (acc ++ vs2 ps xss))) none) rfl rfl x2 (by simp [vs2, vs3]; omega))
theorem lt_mor {c : PyData} (h : ∃ n : Nat, n ≤ 10 ∧ c = .int (n : Int)) {ρ : Qv.Env} (hr : ρ[10]? = some (some (.sh c))) : Ev C ρ (.ite (.op .lt [.nm 10, .c (.int 2)]) (.op .eq [.nm 10, .c (.int 1)]) (.nm 10)) (.sh (mor c)) := by
  obtain ⟨n, _, rfl⟩ := h
  refine e_ite (x := decide ((n : Int) < 2)) (e_op (ov_s hr (ov_c ov_nil)) (lt_ii _ _)) (fun e => ?_) (fun e => ?_)
  · have e := of_decide_eq_true e
    have : mor (.int (n : Int)) = .bool (decide ((n : Int) = 1)) := by simp only [mor, if_pos e]
    rw [this]
    exact e_op (ov_s hr (ov_c ov_nil)) (eq_ii _ _)
  · have e := of_decide_eq_false e
    have : mor (.int (n : Int)) = .int (n : Int) := by simp only [mor, if_neg e]
    rw [this]
    exact e_nm hr
theorem a34_9 (hN : OkN xss) {w : Nat} (hw : w < xss.length) {ss : List Qv.S} : evSs C (.asg (.nm 9) (.op .list1 [.nm 4]) :: .asg (.st 9 (.nm 5)) M9 :: ss) (E34 x y ps xss (some (.sh (.int (w : Int)))) s6 s7 s8 none) = evSs C ss (E34 x y ps xss (some (.sh (.int (w : Int)))) s6 s7 s8 (some (olOf ((xss.set w ((xss[w]'hw).map mor)).map .list)))) := by
  have h1 : Ev C (E34 x y ps xss (some (.sh (.int (w : Int)))) s6 s7 s8 none) (.op .list1 [.nm 4]) (olOf (xss.map .list)) := e_op (ov_s rfl ov_nil) rfl
  rw [s_asg h1 (by simp)]
  have hc := hN.cs _ (List.getElem_mem hw)
  have hl := hN.r.l2 _ (List.getElem_mem hw)
  have m : Ev C (E34 x y ps xss (some (.sh (.int (w : Int)))) s6 s7 s8 (some (olOf (xss.map .list)))) M9 (.ol ((xss[w]'hw).filterMap fun c => some (.sh (mor c)))) :=
    e_lcA O.sh (fun c => some (.sh (mor c))) (xss[w]'hw) (es_cons (row34 hw) es_nil) rfl rfl (fun c hcm => lcT_1 (w := 10) (r := .sh (mor c)) (by simp) rfl (lt_mor (hc.2 c hcm) rfl)) (by omega)
  have e : O.ol ((xss[w]'hw).filterMap fun c => some (.sh (mor c))) = olOf ((xss[w]'hw).map mor) := by
    rw [Qv.fm_some]
    unfold olOf
    rw [List.map_map]
    rfl
  rw [e] at m
  have m : ev C M9 ((E34 x y ps xss (some (.sh (.int (w : Int)))) s6 s7 s8 none).set 9 (some (olOf (xss.map .list)))) = some (olOf ((xss[w]'hw).map mor), E34 x y ps xss (some (.sh (.int (w : Int)))) s6 s7 s8 (some (olOf (xss.map .list)))) := m
  rw [evSs_cons, evS_asg, m]
  simp only [Option.bind_some]
  rw [b_st (C := C) (acc := xss.map .list) (k := w) (ρ := E34 x y ps xss (some (.sh (.int (w : Int)))) s6 s7 s8 (some (olOf (xss.map .list)))) rfl (ov_s rfl ov_nil) (by rw [List.length_map]; exact hw), d_ol, ← List.map_set]
  rfl
end
end L83
end
section
set_option Elab.async false
set_option linter.all false
set_option maxRecDepth 100000
set_option maxHeartbeats 2000000
namespace L83
open PySem PySem.Spec PyProof.Rows L2 Qv
variable {a b : List Str}
section
variable {C : Cal} {x y : Int} {ps : List PyData} {xss : List (List PyData)} {s5 s6 s7 s8 s9 : Option O}
theorem swE {ρ : Qv.Env} {w : Str} {t : PyData} (h1 : ρ[11]? = some (some (.sh (.str w)))) (h2 : ρ[12]? = some (some (.sh t))) : Ev C ρ (.ite (.op .eq [.nm 11, .c (.str "take")]) (.tup [.c (.str "keep"), .nm 12]) (.tup [.nm 11, .nm 12])) (.sh (swD (.tuple [.str w, t]))) := by
  refine e_ite (x := decide (w = "take")) (e_op (ov_s h1 (ov_c ov_nil)) (eq_ss _ _)) (fun e => ?_) (fun e => ?_)
  · have e := of_decide_eq_true e
    have : swD (.tuple [.str w, t]) = .tuple [.str "keep", t] := by simp only [swD, if_pos e]
    rw [this]
    exact e_tup (es_cons e_c (es_cons (e_nm h2) es_nil)) (by simp)
  · have e := of_decide_eq_false e
    have : swD (.tuple [.str w, t]) = .tuple [.str w, t] := by simp only [swD, if_neg e]
    rw [this]
    exact e_tup (es_cons (e_nm h1) (es_cons (e_nm h2) es_nil)) (by simp)
theorem w34 (hE : ∀ d ∈ ps, ∃ w t, d = .tuple [.str w, t]) (hP : ps.length ≤ 400) : Ev C (E34 x y ps xss s5 s6 s7 s8 s9) W2 (.sh (papA (ps.map swD) (.list (xss.map .list)))) := by
  have h : Ev C (E34 x y ps xss s5 s6 s7 s8 s9) (.lc [11, 12] (.tp [.nm 11, .nm 12]) .sq [.nm 3] [] (.ite (.op .eq [.nm 11, .c (.str "take")]) (.tup [.c (.str "keep"), .nm 12]) (.tup [.nm 11, .nm 12]))) (.ol (ps.filterMap fun d => some (.sh (swD d)))) := by
    refine e_lcA O.sh (fun d => some (.sh (swD d))) ps (es_cons (e_nm rfl) es_nil) rfl rfl (fun d m => ?_) (by omega)
    obtain ⟨w, t, rfl⟩ := hE d m
    have q := swE (C := C) (ρ := [some (pot x y), some (.sh (P34 ps xss)), some (.sh (.str "least")), some (.sh (.tuple ps)), some (.sh (.list (xss.map .list))), s5, s6, s7, s8, s9, none, some (.sh (.str w)), some (.sh t)]) (w := w) (t := t) rfl rfl
    have bt : bindTg (.tp [.nm 11, .nm 12]) (O.sh (.tuple [.str w, t])) (E34 x y ps xss s5 s6 s7 s8 s9) = some [some (pot x y), some (.sh (P34 ps xss)), some (.sh (.str "least")), some (.sh (.tuple ps)), some (.sh (.list (xss.map .list))), s5, s6, s7, s8, s9, none, some (.sh (.str w)), some (.sh t)] := by
      simp only [bindTg, bindTgs, List.map_cons, List.map_nil]
      rfl
    unfold Ev at q
    simp only [lcT, bt, Option.bind_some, evBs_nil, if_true, q]
    rfl
  have e : O.ol (ps.filterMap fun d => some (.sh (swD d))) = olOf (ps.map swD) := by
    rw [Qv.fm_some]
    unfold olOf
    rw [List.map_map]
    rfl
  rw [e] at h
  refine e_tup (es_cons (e_nm rfl) (es_cons (o := .sh (.tuple (ps.map swD))) (e_op (k := .tuple1) (ov_v rfl h flat_ol ov_nil) ?_) (es_cons (e_nm rfl) es_nil))) (by simp)
  show pTuple (olOf _) = _
  unfold pTuple
  rw [list_ol]
theorem a34_10 (hE : ∀ d ∈ ps, ∃ w t, d = .tuple [.str w, t]) (hP : ps.length ≤ 400) {acc bt : List PyData} (hl : acc.length ≤ 100) {ss : List Qv.S} : evSs C (.ret (.fz (.op .add [.nm 8, .lst [.tup [.nm 2, .nm 3, .nm 9], W2]])) :: ss) (E34 x y ps xss s5 s6 s7 (some (olOf acc)) (some (olOf bt))) =
    some (.rt (.sh (.list (acc ++ [papA ps (.list bt), papA (ps.map swD) (.list (xss.map .list))]))) (E34 x y ps xss s5 s6 s7 (some (olOf acc)) (some (.sh (.list bt))))) := by
  have t1 : ev C (.tup [.nm 2, .nm 3, .nm 9]) (E34 x y ps xss s5 s6 s7 (some (olOf acc)) (some (olOf bt))) = some (.sh (papA ps (.list bt)), E34 x y ps xss s5 s6 s7 (some (olOf acc)) (some (.sh (.list bt)))) := by
    rw [ev_tup, evs_cons, ev_nm]
    simp only [rdV, List.getElem?_cons_succ, List.getElem?_cons_zero, Option.bind_some]
    rw [evs_cons, ev_nm]
    simp only [rdV, List.getElem?_cons_succ, List.getElem?_cons_zero, Option.bind_some]
    rw [evs_cons, ev_nm, rdV_ol (i := 9) (ds := bt) rfl]
    simp only [Option.bind_some, evs_nil]
    exact szd_ok (sz_le (by simp))
  have r : evs C [W2] (E34 x y ps xss s5 s6 s7 (some (olOf acc)) (some (.sh (.list bt)))) = some ([.sh (papA (ps.map swD) (.list (xss.map .list)))], E34 x y ps xss s5 s6 s7 (some (olOf acc)) (some (.sh (.list bt)))) := es_cons (w34 hE hP) es_nil
  have l : ev C (.lst [.tup [.nm 2, .nm 3, .nm 9], W2]) (E34 x y ps xss s5 s6 s7 (some (olOf acc)) (some (olOf bt))) = some (olOf [papA ps (.list bt), papA (ps.map swD) (.list (xss.map .list))], E34 x y ps xss s5 s6 s7 (some (olOf acc)) (some (.sh (.list bt)))) := by
    rw [ev_lst, evs_cons, t1]
    simp only [Option.bind_some, r]
    exact szd_ok (sz_le (by simp))
  have r0 : rdO (E34 x y ps xss s5 s6 s7 (some (olOf acc)) (some (olOf bt))) (.sl 8) = some (olOf acc) := rfl
  have o : ev C (.op .add [.nm 8, .lst [.tup [.nm 2, .nm 3, .nm 9], W2]]) (E34 x y ps xss s5 s6 s7 (some (olOf acc)) (some (olOf bt))) = some (olOf (acc ++ [papA ps (.list bt), papA (ps.map swD) (.list (xss.map .list))]), E34 x y ps xss s5 s6 s7 (some (olOf acc)) (some (.sh (.list bt)))) := by
    rw [ev_op, evOs_nm, r0]
    simp only [Option.bind_some]
    rw [evOs_tv rfl, l]
    have rd : rdOs (E34 x y ps xss s5 s6 s7 (some (olOf acc)) (some (.sh (.list bt)))) [.sl 8, .tv (olOf [papA ps (.list bt), papA (ps.map swD) (.list (xss.map .list))])] = some [olOf acc, olOf [papA ps (.list bt), papA (ps.map swD) (.list (xss.map .list))]] := by
      simp only [rdOs_cons, rdOs_nil, rdO_tv, rdO, List.getElem?_cons_succ, List.getElem?_cons_zero, Option.bind_some, flat_ol, if_true]
    simp only [Option.bind_some, evOs_nil, rd]
    rw [add_oo (by simp; omega)]
    rfl
  rw [evSs_cons, evS_ret, ev_fz, o]
  simp only [Option.bind_some, d_ol]
  rfl
end
theorem sw_is (e : Ed) : swD e.d = (sw e).d := by
  cases e with
  | put xs => simp only [swD, Ed.d, sw, if_neg (show ¬ (("put" : Str) = "take") by decide)]
  | keep n => simp only [swD, Ed.d, sw, if_neg (show ¬ (("keep" : Str) = "take") by decide)]
  | take n => simp only [swD, Ed.d, sw, if_true]
theorem mor_cell {c : PyData} (h : ∃ n : Nat, n ≤ 10 ∧ c = .int (n : Int)) : cellB (mor c) = true := by
  obtain ⟨n, hn, rfl⟩ := h
  simp only [mor]
  split
  · rfl
  · simp only [cellB, Bool.and_eq_true, decide_eq_true_eq]
    omega
/-- the drawn values -/
theorem f34_ok {k : Nat} (h : 3 ≤ k) {x y : Int} (hp : PotOk x y) (ha : Lz a) (hb : Lz b) : ∃ (vs : List PyData) (x' y' : Int), PotOk x' y' ∧ vs.length ≤ 100 ∧ (∀ v ∈ vs, OkV v) ∧ RF k 34 [pot x y, .sh (papD a b)] = some (.sh (.list vs), [pot x' y', .sh (papD a b)]) := by
  obtain ⟨k, rfl, hk⟩ := posK h
  obtain ⟨ps, hps⟩ : ∃ ps, (leastE a b).map Ed.d = ps := ⟨_, rfl⟩
  obtain ⟨xss, hxs⟩ : ∃ xss, tabX a b = xss := ⟨_, rfl⟩
  have ep : papD a b = P34 ps xss := by
    unfold papD pD
    rw [hps, tD, tabX_is, hxs]
  have hN : OkN xss := hxs ▸ tabN ha hb
  have hP : OkP ps := hps ▸ (least_okP ha hb).1
  have hPl : ps.length ≤ 400 := by rw [← hps, List.length_map]; exact (least_is ha.ln hb.ln).len
  have hS : OkP (ps.map swD) := by
    have q := (least_okP ha hb).2
    have e : ps.map swD = (leastE a b).map fun e => (sw e).d := by
      rw [← hps, List.map_map]
      exact List.map_congr_left fun e _ => sw_is e
    rw [e]
    exact q
  have hE : ∀ d ∈ ps, ∃ w t, d = .tuple [.str w, t] := fun d m => by
    rw [← hps] at m
    obtain ⟨e, _, rfl⟩ := List.mem_map.mp m
    exact ⟨_, _, e.d_eq⟩
  have D := drawC (k := k) (by omega)
  have P := pickC (k := k) (by omega)
  have key : ∃ (vs : List PyData) (x' y' : Int) (ρ' : Qv.Env), PotOk x' y' ∧ vs.length ≤ 100 ∧ (∀ v ∈ vs, OkV v) ∧ evSs (RF k) f34.body [some (pot x y), some (.sh (P34 ps xss)), none, none, none, none, none, none, none, none, none, none, none] = some (.rt (.sh (.list vs)) (some (pot x' y') :: some (.sh (P34 ps xss)) :: ρ')) := by
    generalize RF k = C at *
    obtain ⟨w, x1, y1, hw, hp1, q1⟩ := a34_2 (C := C) (ps := ps) D hp hN (ss := f34.body.drop 2)
    have hc := hN.cs _ (List.getElem_mem hw)
    have hl := hN.r.l2 _ (List.getElem_mem hw)
    obtain ⟨cs', x2, y2, hp2, hl2, hc2, q2⟩ := a34_4 (C := C) (ps := ps) (xss := xss) (s5 := some (.sh (.int (w : Int)))) D P hp1 hc.1 hl hc.2 (ss := f34.body.drop 4)
    have hm : ∀ c ∈ (xss[w]'hw).map mor, cellB c = true := fun c m => by
      obtain ⟨c0, m0, rfl⟩ := List.mem_map.mp m
      exact mor_cell (hc.2 c0 m0)
    refine ⟨vs1 ps xss w cs' ++ vs2 ps xss ++ vs3 ps xss ++ vs4 ps xss w ((xss[w]'hw).map mor), x2, y2, (E34 x2 y2 ps xss (some (.sh (.int (w : Int)))) (some (.sh (.list cs'))) (some (.sh (.list ((xss.set w cs').map .list)))) (some (olOf (vs1 ps xss w cs' ++ vs2 ps xss ++ vs3 ps xss))) (some (.sh (.list ((xss.set w ((xss[w]'hw).map mor)).map .list))))).drop 2, hp2, by simp [vs1, vs2, vs3, vs4], ?_, ?_⟩
    · have tl := okT_ll hN.r
      have okPut : OkE putA := okE_put (ls := ["a"]) (fun l m => by rw [List.mem_singleton.mp m]; simp [abc]) (by simp)
      have okTk : OkE take1 := okE_kt (w := "take") (.inr rfl) (n := 1) (by omega)
      have sb : OkT2 (.list (Qv.cutD (xss.map .list) none (some (-1)))) ∧ Rp 6000 50 (.list (Qv.cutD (xss.map .list) none (some (-1)))) := by
        have e : Qv.cutD (xss.map PyData.list) none (some (-1)) = ((xss.drop (HT.sIx xss.length 0 none)).take (HT.sIx xss.length xss.length (some (-1)) - HT.sIx xss.length 0 none)).map .list := by
          unfold Qv.cutD
          rw [List.length_map, List.map_take, List.map_drop]
        rw [e]
        exact okT_ll (hN.r.sub (fun z m => List.mem_of_mem_drop (List.mem_of_mem_take m)) (by rw [List.length_take, List.length_drop]; omega))
      have l3 : ("least" : Str) = "least" ∨ ("least" : Str) = "Least" := .inl rfl
      intro v m
      simp only [vs1, vs2, vs3, vs4, List.mem_append, List.mem_cons, List.not_mem_nil, or_false, papA] at m
      rcases m with (((rfl | rfl | rfl | rfl) | (rfl | rfl)) | (rfl | rfl | rfl | rfl | rfl | rfl | rfl | rfl | rfl | rfl)) | (rfl | rfl)
      · exact okV3 l3 hP (.inl rfl) (okT_ll (hN.r.set w hc2 (by omega)))
      · exact okV3 l3 hP (.inl rfl) (okT_tt hN.r)
      · exact okV3 l3 hP (.inl rfl) sb
      · exact okV3 l3 hP (.inl rfl) okT_none
      · exact okV3 l3 (hP.cut _ _) (.inl rfl) tl
      · exact okV3 l3 (hP.app hPl (by simp) fun d m => by rw [List.mem_singleton.mp m]; exact okPut) (.inl rfl) tl
      · exact okV3 l3 (hP.app hPl (by simp) fun d m => by
          simp only [List.mem_cons, List.not_mem_nil, or_false] at m
          rcases m with rfl | rfl
          · exact okPut
          · exact okTk) (.inl rfl) tl
      · exact okV3 (.inr rfl) hP (.inl rfl) tl
      · exact okV_list hP tl
      · exact okV_two hP
      · exact okV_four hP tl
      · exact okV3 l3 hP (.inr rfl) tl
      · exact okV_none
      · exact okV_zero
      · exact okV_unit
      · exact okV_true
      · exact okV3 l3 hP (.inl rfl) (okT_ll (hN.r.set w hm (by rw [List.length_map]; omega)))
      · exact okV3 l3 hS (.inl rfl) tl
    · rw [f34_body] at *
      refine a34_1.trans (q1.trans ((a34_3 hw).trans (q2.trans ((a34_5 hN).trans ((a34_6 hw).trans ((a34_7 hN rfl).trans ((a34_8 (by simp [vs1]) hPl).trans ((a34_9 hN hw).trans ((a34_10 hE hPl (by simp [vs1, vs2, vs3])).trans ?_)))))))))
      rfl
  obtain ⟨vs, x', y', ρ', h1, h2, h3, q⟩ := key
  refine ⟨vs, x', y', h1, h2, h3, ?_⟩
  rw [ep]
  exact run_rt (fd := f34) rfl rfl q rfl
end L83
end
section
set_option Elab.async false
set_option linter.all false
set_option maxRecDepth 100000
set_option maxHeartbeats 2000000
namespace L83
open PySem PySem.Spec PyProof.Rows L2 Qv
variable {a b : List Str}
theorem f20_ok {k : Nat} (h : 5 ≤ k) {ls : List Str} (hl : OkL ls) {d : PyData} (hd : valT d = true) : ∃ bb, RF k 20 [.sh (aL ls), .sh d] = some (shB bb, [.sh (aL ls), .sh d]) ∧ (bb = true ↔ ∃ es, IsPatch ls.length d es) := by
  obtain ⟨k, rfl, h1⟩ := posK h
  have hA : LinesD ls (aL ls) := .inl rfl
  have c8 := f8_ok (k := k) (by omega) hl hA
  obtain ⟨bb, c7, hb⟩ := f7_ok (k := k) h1 (aL ls) d ls.length hA.len hd
  refine ⟨bb, run_rt (fd := f20) (ρ := [some (.sh (aL ls)), some (.sh d)]) rfl rfl ?_ rfl, hb⟩
  show evSs (RF k) f20.body [some (.sh (aL ls)), some (.sh d)] = _
  generalize RF k = C at *
  unfold f20
  rw [s_ex (e_call (la_s rfl la_nil) c8), s_ret (e_call (la_s rfl (la_s rfl la_nil)) c7)]
theorem f21_ok {k : Nat} (h : 6 ≤ k) (ha : Ln a) {d : PyData} (hd : valT d = true) {es : List Ed} (hp : IsPatch a.length d es) : RF k 21 [.sh (aL a), .sh d] = some (.sh (.list (sL (fnd a 0 es))), [.sh (aL a), .sh d]) := by
  obtain ⟨k, rfl, h1⟩ := posK h
  have hA : LinesD a (aL a) := .inl rfl
  have la := ha.len
  have c10 := f10_ok (k := k) (by omega) ha.okL hA hd hp
  have c14 := f14_ol (k := k) (by omega) (ls := a) (by omega) hp.sp (by have := hp.lt; omega)
  rw [← fnd_lin a es 0 (by rw [hp.sp]; omega)] at c14
  have e := hp.is
  refine run_rt (fd := f21) (ρ := [some (.sh (aL a)), some (.sh d)]) rfl rfl ?_ rfl
  show evSs (RF k) f21.body [some (.sh (aL a)), some (.sh d)] = _
  have c14 : RF k 14 [olOf (sL a), .sh d] = some (.sh (.list (sL (fnd a 0 es))), [olOf (sL a), .sh d]) := by rw [e]; exact c14
  generalize RF k = C at *
  unfold f21
  have l1 : Ev C [some (.sh (aL a)), some (.sh d)] (.op .list1 [.nm 0]) (olOf (sL a)) := e_op (ov_s rfl ov_nil) rfl
  rw [s_ex (e_call (la_s rfl (la_s rfl la_nil)) c10), s_ret (e_call (la_v rfl l1 (la_s rfl la_nil)) c14)]
/-! costs -/
theorem cost_sym : costI a b = costI b a := by
  unfold costI
  have : LL a b a.length b.length = LL b a b.length a.length := LC.sym e0 _ _ _ (Nat.le_refl _)
  omega
theorem cost_nat (ha : Ln a) (hb : Ln b) : ∃ n : Nat, n ≤ 20 ∧ costI a b = (n : Int) := by
  have la := ha.len
  have lb := hb.len
  have h1 : LL a b a.length b.length ≤ a.length := LC.le1 e0 _ _
  have h2 : LL a b a.length b.length ≤ b.length := LC.le2 e0 _ _
  refine ⟨a.length + b.length - 2 * LL a b a.length b.length, by omega, ?_⟩
  unfold costI
  omega
theorem cost_zero : costI a b = 0 ↔ a = b := by
  have h1 : LL a b a.length b.length ≤ a.length := LC.le1 e0 _ _
  have h2 : LL a b a.length b.length ≤ b.length := LC.le2 e0 _ _
  constructor
  · intro h
    unfold costI at h
    have hl : a.length = b.length := by omega
    have hs : LL a b a.length a.length = a.length := by
      have : LL a b a.length b.length = a.length := by omega
      rwa [← hl] at this
    have sm := LC.same e0 a.length hs
    refine List.ext_getElem hl fun i h1 h2 => ?_
    have := sm i h1
    rw [List.getD_eq_getElem?_getD, List.getD_eq_getElem?_getD, List.getElem?_eq_getElem h1, List.getElem?_eq_getElem h2] at this
    exact this
  · intro h
    subst h
    unfold costI
    have : LL a a a.length a.length = a.length := LC.full e0 a.length
    omega
theorem cost_tri {c : List Str} : costI a c ≤ costI a b + costI b c := by
  unfold costI
  have h := LC.tri e0 (a := a) (b := b) (c := c) _ a.length b.length c.length (Nat.le_refl _)
  have h : LL a b a.length b.length + LL b c b.length c.length ≤ LL a c a.length c.length + b.length := h
  omega
theorem ne_bb (p q : Bool) : prim .ne [.sh (.bool p), .sh (.bool q)] = some (.sh (.bool (!decide (p = q)))) := by
  cases p <;> cases q <;> rfl
/-- what a look tells, compared -/
theorem ne_look {c : Int} (hb : Ln b) : prim .ne [.sh (.tuple [.bool true, .list (sL b), .int c]), .sh (.tuple [.bool true, .list (sL b), .int c])] = some (.sh (.bool false)) := by
  have s : SeqAt.shaped (.tuple [.bool true, .list (sL b), .int c]) = true := by
    have q := lay_strs hb.lay
    have dp := depthAll_str b
    unfold SeqAt.shaped
    rw [show PyData.canLay0 (.tuple [.bool true, .list (sL b), .int c]) = true by simp [PyData.canLay0, PyData.canLayAll0, q]]
    simp [PyData.depth, PyData.depthAll, sL, dp]
  show (pEq [.sh (.tuple [.bool true, .list (sL b), .int c]), .sh (.tuple [.bool true, .list (sL b), .int c])]).map (fun b => shB !b) = _
  have e : PyData.eqv (.tuple [.bool true, .list (sL b), .int c]) (.tuple [.bool true, .list (sL b), .int c]) = true := by
    simp [PyData.eqv, PyData.eqvAll, eqvAll_str]
  simp only [pEq, d_sh, scalD, s, gd, Bool.and_self, if_true, e]
  rfl
theorem rep_bool (p : Bool) : prim .repr [.sh (.bool p)] = some (shS (PyData.bool p).shown) := Rp.repr (o := .sh (.bool p)) ((rp_bool p).mono (Nat.le_refl _) (by omega)) (by decide)
theorem reprl_is {ds : List PyData} (h : Rp 100000 60 (.list ds)) (hl : ds.length ≤ 1000) : prim .reprl (ds.map O.sh) = some (shS (PyData.list ds).shown) := by
  show pReprL (ds.map O.sh) = _
  unfold pReprL
  rw [if_pos (by rw [List.length_map]; exact sz_le (by omega))]
  have := Rp.repr (o := olOf ds) (by rw [d_ol]; exact h) (by decide)
  rw [d_ol] at this
  exact this
theorem paper_is (ha : Ln a) (hb : Ln b) : IsPaper a b (papD a b) := by
  refine ⟨_, _, leastE a b, rfl, least_is ha hb, ⟨tabD a b (a.length + 1), rfl, fun r m => ?_, ?_⟩, least_fnd ha hb, ?_⟩
  · obtain ⟨i, _, rfl⟩ := List.mem_map.mp m
    rfl
  · have : ∀ r ∈ tabD a b (a.length + 1), asL r = r := fun r m => by
      obtain ⟨i, _, rfl⟩ := List.mem_map.mp m
      rfl
    rw [List.map_congr_left this, List.map_id']
  · have := least_cost ha hb
    unfold costI
    omega
end L83
end
section
set_option Elab.async false
set_option linter.all false
set_option maxRecDepth 100000
set_option maxHeartbeats 2000000
namespace L83
open PySem PySem.Spec PyProof.Rows L2 Qv
variable {a b : List Str}
abbrev E35 (x y : Int) (a b : List Str) (s3 s4 s5 s6 s7 s8 s9 s10 : Option O) : Qv.Env := [some (pot x y), some (.sh (aL a)), some (.sh (aL b)), s3, s4, s5, s6, s7, s8, s9, s10]
def c35 : Qv.T := .or2 (.op .ne [.op .reprl [.call 22 [.nm 1, .nm 2], .callk 22 [.op .tuple1 [.nm 2], .nm 1] [1, 0], .call 22 [.nm 2, .nm 1]], .op .repr [.op .mul [.lst [.nm 3], .c (.int 3)]]]) (.op .ne [.op .eq [.nm 3, .c (.int 0)], .op .eq [.nm 1, .nm 2]])
def d35 : Qv.T := .or2 (.op .ne [.call 32 [.nm 1, .nm 4], .tup [.c (.bool true), .nm 2, .nm 3]]) (.op .ne [.call 21 [.nm 1, .nm 4], .nm 2])
def body35 : List Qv.S := [.par [8, 9] [.call 33 [.nm 1, .nm 2, .nm 7], .op .repr [.nm 7]],
    .asg (.nm 10) (.ite (.op .eq [.op .mod [.op .int1 [.nm 6], .c (.int 2)], .c (.int 0)]) (.call 25 [.nm 1, .nm 2, .nm 7]) (.callk 25 [.nm 7, .nm 2, .nm 1] [2, 1, 0])),
    .ite (.or2 (.op .ne [.op .repr [.nm 10], .op .repr [.nm 8]]) (.op .ne [.op .repr [.nm 7], .nm 9])) [.ret (.c (.bool false))] []]
theorem f35_body : f35.body = [.asg (.nm 3) (.op .sub [.op .add [.op .len [.nm 1], .op .len [.nm 2]], .op .mul [.c (.int 2), .op .item [.op .item [.call 29 [.nm 1, .nm 2], .op .neg [.c (.int 1)]], .op .neg [.c (.int 1)]]]]),
    .ite c35 [.ret (.c (.bool false))] [],
    .fr (.nm 4) .sq [.tup [.call 23 [.nm 1, .nm 2], .callk 23 [.nm 2, .nm 1] [1, 0]]] [.ite d35 [.ret (.c (.bool false))] []],
    .asg (.nm 5) (.callk 24 [.nm 2, .nm 1] [1, 0]),
    .ite (.tn (.tt (.call 33 [.nm 1, .nm 2, .nm 5]))) [.ret (.c (.bool false))] [],
    .fr (.tp [.nm 6, .nm 7]) .en [.op .add [.lst [.nm 5, .call 24 [.nm 1, .nm 2]], .call 34 [.nm 0, .nm 5]]] body35,
    .ret (.c (.bool true))] := rfl
/-- what the calls give -/
structure K35 (C : Cal) (a b : List Str) : Prop where
  c29 : C 29 [.sh (aL a), .sh (aL b)] = some (.sh (tD a b), [.sh (aL a), .sh (aL b)])
  c22 : ∀ {A B : PyData} {u v : List Str}, Ln u → Ln v → LinesD u A → LinesD v B → C 22 [.sh A, .sh B] = some (.sh (.int (costI u v)), [.sh A, .sh B])
  c23 : C 23 [.sh (aL a), .sh (aL b)] = some (.sh (pD (leastE a b)), [.sh (aL a), .sh (aL b)])
  c24 : C 24 [.sh (aL a), .sh (aL b)] = some (.sh (papD a b), [.sh (aL a), .sh (aL b)])
  c32 : C 32 [.sh (aL a), .sh (pD (leastE a b))] = some (.sh (.tuple [.bool true, .list (sL b), .int (costI a b)]), [.sh (aL a), .sh (pD (leastE a b))])
  c21 : C 21 [.sh (aL a), .sh (pD (leastE a b))] = some (.sh (.list (sL b)), [.sh (aL a), .sh (pD (leastE a b))])
  c33 : ∀ v, OkV v → ∃ bb, C 33 [.sh (aL a), .sh (aL b), .sh v] = some (shB bb, [.sh (aL a), .sh (aL b), .sh v]) ∧ (bb = true ↔ IsPaper a b v)
  c25 : ∀ v, OkV v → ∃ bb, C 25 [.sh (aL a), .sh (aL b), .sh v] = some (shB bb, [.sh (aL a), .sh (aL b), .sh v]) ∧ (bb = true ↔ IsPaper a b v)
  c34 : ∀ {x y : Int}, PotOk x y → ∃ (vs : List PyData) (x' y' : Int), PotOk x' y' ∧ vs.length ≤ 100 ∧ (∀ v ∈ vs, OkV v) ∧ C 34 [pot x y, .sh (papD a b)] = some (.sh (.list vs), [pot x' y', .sh (papD a b)])
theorem k35 {k : Nat} (h : 6 ≤ k) (ha : Lz a) (hb : Lz b) : K35 (RF k) a b := by
  have hA : LinesD a (aL a) := .inl rfl
  have hB : LinesD b (aL b) := .inl rfl
  have la := ha.len
  have lb := hb.len
  have vt : valT (pD (leastE a b)) = true := (least_okP ha hb).1.val.1
  have li := least_is ha.ln hb.ln
  have lf := least_fnd ha.ln hb.ln
  refine ⟨f29_ok (by omega) hA hB (by omega) (by omega), fun h1 h2 h3 h4 => f22_ok (by omega) h1 h2 h3 h4, f23_ok (by omega) ha.ln hb.ln hA hB, f24_ok (by omega) ha.ln hb.ln hA hB, ?_, ?_, fun v hv => f33_ok (by omega) ha.ln hb.ln hv.pt hv.sm, fun v hv => f25_ok (by omega) ha.ln hb.ln hv.pt, fun hp => f34_ok (by omega) hp ha hb⟩
  · obtain ⟨r, q, hr⟩ := f32_ok (k := k) (by omega) (ls := a) (by omega) vt
    rcases hr with ⟨es, hpe, rfl⟩ | ⟨hN, _⟩
    · have e := hpe.is
      have e2 := li.is
      rw [e2] at e
      simp only [PyData.tuple.injEq] at e
      have := eds_inj e
      subst this
      rw [lf] at q
      have c := least_cost ha.ln hb.ln
      have : ((cost (leastE a b) : Nat) : Int) = costI a b := by
        unfold costI
        omega
      rw [this] at q
      exact q
    · exact absurd ⟨_, li⟩ hN
  · have q := f21_ok (k := k) h ha.ln vt li
    rwa [lf] at q
section
variable {C : Cal} {x y : Int} {s3 s4 s5 s6 s7 s8 s9 s10 : Option O}
theorem c35_f (K : K35 C a b) (ha : Lz a) (hb : Lz b) : Ev C (E35 x y a b (some (.sh (.int (costI a b)))) s4 s5 s6 s7 s8 s9 s10) c35 (.sh (.bool false)) := by
  have hA : LinesD a (aL a) := .inl rfl
  have hB : LinesD b (aL b) := .inl rfl
  have hBt : LinesD b (.tuple (sL b)) := .inr rfl
  obtain ⟨n, hn, ec⟩ := cost_nat ha.ln hb.ln
  have rp : Rp 100000 60 (.list [.int (n : Int), .int (n : Int), .int (n : Int)]) := (RpA.cons (rp_int (n := n) (by omega)) (RpA.cons (rp_int (n := n) (by omega)) (RpA.cons (rp_int (n := n) (by omega)) (RpA.nil (N := 0))))).list.mono (by omega) (by omega)
  have k1 : Ev C (E35 x y a b (some (.sh (.int (costI a b)))) s4 s5 s6 s7 s8 s9 s10) (.call 22 [.nm 1, .nm 2]) (.sh (.int (costI a b))) := e_call (la_s rfl (la_s rfl la_nil)) (K.c22 ha.ln hb.ln hA hB)
  have k2 : Ev C (E35 x y a b (some (.sh (.int (costI a b)))) s4 s5 s6 s7 s8 s9 s10) (.callk 22 [.op .tuple1 [.nm 2], .nm 1] [1, 0]) (.sh (.int (costI a b))) :=
    e_callk2 (o1 := .sh (.tuple (sL b))) (o2 := .sh (aL a)) (la_v rfl (e_op (ov_s rfl ov_nil) rfl) (la_s rfl la_nil)) (K.c22 ha.ln hb.ln hA hBt)
  have k3 : Ev C (E35 x y a b (some (.sh (.int (costI a b)))) s4 s5 s6 s7 s8 s9 s10) (.call 22 [.nm 2, .nm 1]) (.sh (.int (costI a b))) := by
    have q := e_call (ρ := E35 x y a b (some (.sh (.int (costI a b)))) s4 s5 s6 s7 s8 s9 s10) (la_s (i := 2) rfl (la_s (i := 1) rfl la_nil)) (K.c22 hb.ln ha.ln hB hA)
    rw [← cost_sym (a := a) (b := b)] at q
    exact q
  have cz : (n : Int) = 0 ↔ a = b := by
    rw [← ec]
    exact cost_zero
  rw [ec] at k1 k2 k3
  rw [ec]
  have r1 : Ev C (E35 x y a b (some (.sh (.int (n : Int)))) s4 s5 s6 s7 s8 s9 s10) (.op .reprl [.call 22 [.nm 1, .nm 2], .callk 22 [.op .tuple1 [.nm 2], .nm 1] [1, 0], .call 22 [.nm 2, .nm 1]]) (.sh (.str (PyData.list [.int (n : Int), .int (n : Int), .int (n : Int)]).shown)) := e_op (ov_d rfl k1 (ov_d rfl k2 (ov_d rfl k3 ov_nil))) (reprl_is (ds := [.int (n : Int), .int (n : Int), .int (n : Int)]) rp (by simp))
  have m1 : Ev C (E35 x y a b (some (.sh (.int (n : Int)))) s4 s5 s6 s7 s8 s9 s10) (.op .mul [.lst [.nm 3], .c (.int 3)]) (olOf [.int (n : Int), .int (n : Int), .int (n : Int)]) := e_op (ov_v rfl (e_lst (es_cons (e_nm rfl) es_nil) (by simp)) flat_ol (ov_c ov_nil)) (by rfl)
  have r2 : Ev C (E35 x y a b (some (.sh (.int (n : Int)))) s4 s5 s6 s7 s8 s9 s10) (.op .repr [.op .mul [.lst [.nm 3], .c (.int 3)]]) (.sh (.str (PyData.list [.int (n : Int), .int (n : Int), .int (n : Int)]).shown)) := by
    refine e_op (ov_v rfl m1 flat_ol ov_nil) ?_
    have := Rp.repr (o := olOf [.int (n : Int), .int (n : Int), .int (n : Int)]) (by rw [d_ol]; exact rp) (by decide)
    rw [d_ol] at this
    exact this
  have t1 := e_op (k := .ne) (ov_d rfl r1 (ov_d rfl r2 ov_nil)) (ne_ss _ _)
  rw [decide_eq_true rfl] at t1
  have z1 : Ev C (E35 x y a b (some (.sh (.int (n : Int)))) s4 s5 s6 s7 s8 s9 s10) (.op .eq [.nm 3, .c (.int 0)]) (.sh (.bool (decide ((n : Int) = 0)))) := e_op (ov_s rfl (ov_c ov_nil)) (eq_ii _ _)
  have z2 : Ev C (E35 x y a b (some (.sh (.int (n : Int)))) s4 s5 s6 s7 s8 s9 s10) (.op .eq [.nm 1, .nm 2]) (.sh (.bool (decide (a = b)))) := e_op (ov_s rfl (ov_s rfl ov_nil)) (eqD (o := .sh (aL a)) (p := .sh (aL b)) rfl rfl ha.ln.lay hb.ln.lay).1
  have t2 := e_op (k := .ne) (ov_d rfl z1 (ov_d rfl z2 ov_nil)) (ne_bb _ _)
  have e : decide ((n : Int) = 0) = decide (a = b) := decide_eq_decide.mpr cz
  rw [decide_eq_true e] at t2
  exact e_or (x := false) (y := false) t1 fun _ => t2
theorem d35_f (K : K35 C a b) (ha : Lz a) (hb : Lz b) : Ev C (E35 x y a b (some (.sh (.int (costI a b)))) (some (.sh (pD (leastE a b)))) s5 s6 s7 s8 s9 s10) d35 (.sh (.bool false)) := by
  have k1 : Ev C (E35 x y a b (some (.sh (.int (costI a b)))) (some (.sh (pD (leastE a b)))) s5 s6 s7 s8 s9 s10) (.call 32 [.nm 1, .nm 4]) (.sh (.tuple [.bool true, .list (sL b), .int (costI a b)])) := e_call (la_s rfl (la_s rfl la_nil)) K.c32
  have k2 : Ev C (E35 x y a b (some (.sh (.int (costI a b)))) (some (.sh (pD (leastE a b)))) s5 s6 s7 s8 s9 s10) (.tup [.c (.bool true), .nm 2, .nm 3]) (.sh (.tuple [.bool true, .list (sL b), .int (costI a b)])) := e_tup (es_cons e_c (es_cons (e_nm rfl) (es_cons (e_nm rfl) es_nil))) (by simp)
  have k3 : Ev C (E35 x y a b (some (.sh (.int (costI a b)))) (some (.sh (pD (leastE a b)))) s5 s6 s7 s8 s9 s10) (.call 21 [.nm 1, .nm 4]) (.sh (.list (sL b))) := e_call (la_s rfl (la_s rfl la_nil)) K.c21
  have t2 := e_op (k := .ne) (ov_d rfl k3 (ov_s (i := 2) rfl ov_nil)) (eqD (o := .sh (.list (sL b))) (p := .sh (aL b)) rfl rfl hb.ln.lay hb.ln.lay).2
  rw [decide_eq_true rfl] at t2
  exact e_or (x := false) (y := false) (e_op (ov_d rfl k1 (ov_d rfl k2 ov_nil)) (ne_look hb.ln)) fun _ => t2
theorem turn35 (K : K35 C a b) {v : PyData} (hv : OkV v) {i : Nat} : ∃ s8' s9' s10', evSs C body35 (E35 x y a b s3 s4 s5 (some (.sh (.int (i : Int)))) (some (.sh v)) s8 s9 s10) = some (.nx (E35 x y a b s3 s4 s5 (some (.sh (.int (i : Int)))) (some (.sh v)) s8' s9' s10')) := by
  obtain ⟨b1, q1, h1⟩ := K.c33 v hv
  obtain ⟨b2, q2, h2⟩ := K.c25 v hv
  have e : b2 = b1 := by
    have := h2.trans h1.symm
    cases b1 <;> cases b2 <;> simp_all
  subst e
  have rv := Rp.repr (o := .sh v) hv.rp (by decide)
  refine ⟨some (.sh (.bool b2)), some (.sh (.str v.shown)), some (.sh (.bool b2)), ?_⟩
  unfold body35
  have e1 : Ev C (E35 x y a b s3 s4 s5 (some (.sh (.int (i : Int)))) (some (.sh v)) s8 s9 s10) (.call 33 [.nm 1, .nm 2, .nm 7]) (.sh (.bool b2)) := e_call (la_s rfl (la_s rfl (la_s rfl la_nil))) q1
  have e2 : Ev C (E35 x y a b s3 s4 s5 (some (.sh (.int (i : Int)))) (some (.sh v)) s8 s9 s10) (.op .repr [.nm 7]) (.sh (.str v.shown)) := e_op (ov_s rfl ov_nil) rv
  refine (s_par2 e1 e2 (by simp) (by simp)).trans ?_
  have m : Ev C (E35 x y a b s3 s4 s5 (some (.sh (.int (i : Int)))) (some (.sh v)) (some (.sh (.bool b2))) (some (.sh (.str v.shown))) s10) (.op .eq [.op .mod [.op .int1 [.nm 6], .c (.int 2)], .c (.int 0)]) (.sh (.bool (decide ((i : Int).fmod 2 = 0)))) :=
    e_op (ov_d rfl (e_op (ov_d rfl (e_op (o := .sh (.int (i : Int))) (ov_s rfl ov_nil) rfl) (ov_c ov_nil)) (show prim .mod [.sh (.int (i : Int)), .sh (.int 2)] = some (.sh (.int ((i : Int).fmod 2))) from rfl)) (ov_c ov_nil)) (eq_ii _ _)
  have e3 : Ev C (E35 x y a b s3 s4 s5 (some (.sh (.int (i : Int)))) (some (.sh v)) (some (.sh (.bool b2))) (some (.sh (.str v.shown))) s10) (.ite (.op .eq [.op .mod [.op .int1 [.nm 6], .c (.int 2)], .c (.int 0)]) (.call 25 [.nm 1, .nm 2, .nm 7]) (.callk 25 [.nm 7, .nm 2, .nm 1] [2, 1, 0])) (.sh (.bool b2)) :=
    e_ite m (fun _ => e_call (la_s rfl (la_s rfl (la_s rfl la_nil))) q2) (fun _ => e_callk3 (la_s rfl (la_s rfl (la_s rfl la_nil))) q2)
  refine (s_asg (i := 10) e3 (by simp)).trans ?_
  have t1 : Ev C (E35 x y a b s3 s4 s5 (some (.sh (.int (i : Int)))) (some (.sh v)) (some (.sh (.bool b2))) (some (.sh (.str v.shown))) (some (.sh (.bool b2)))) (.op .ne [.op .repr [.nm 10], .op .repr [.nm 8]]) (.sh (.bool (!decide ((PyData.bool b2).shown = (PyData.bool b2).shown)))) :=
    e_op (ov_d rfl (e_op (ov_s rfl ov_nil) (rep_bool b2)) (ov_d rfl (e_op (ov_s rfl ov_nil) (rep_bool b2)) ov_nil)) (ne_ss _ _)
  have t2 : Ev C (E35 x y a b s3 s4 s5 (some (.sh (.int (i : Int)))) (some (.sh v)) (some (.sh (.bool b2))) (some (.sh (.str v.shown))) (some (.sh (.bool b2)))) (.op .ne [.op .repr [.nm 7], .nm 9]) (.sh (.bool (!decide (v.shown = v.shown)))) :=
    e_op (ov_d rfl (e_op (ov_s rfl ov_nil) rv) (ov_s rfl ov_nil)) (ne_ss _ _)
  rw [decide_eq_true rfl] at t1 t2
  exact (s_iff (ss := []) (e_or (x := false) (y := false) t1 fun _ => t2)).trans evSs_nil
theorem loop35 (K : K35 C a b) : ∀ (vs : List PyData) (i : Nat) (s6 s7 s8 s9 s10 : Option O), (∀ v ∈ vs, OkV v) → ∃ t6 t7 t8 t9 t10, frGo (fun x ρ2 => (bindTg (.tp [.nm 6, .nm 7]) x ρ2).bind fun ρ3 => evSs C body35 ρ3) ((vs.zipIdx i).map fun p => O.sh (.tuple [.int p.2, p.1])) (E35 x y a b s3 s4 s5 s6 s7 s8 s9 s10) =
    some (.nx (E35 x y a b s3 s4 s5 t6 t7 t8 t9 t10))
  | [], i, s6, s7, s8, s9, s10, _ => ⟨s6, s7, s8, s9, s10, rfl⟩
  | v :: vs, i, s6, s7, s8, s9, s10, h => by
    obtain ⟨u8, u9, u10, q⟩ := turn35 (C := C) (x := x) (y := y) (s3 := s3) (s4 := s4) (s5 := s5) (s8 := s8) (s9 := s9) (s10 := s10) K (h v List.mem_cons_self) (i := i)
    obtain ⟨t6, t7, t8, t9, t10, q2⟩ := loop35 K vs (i + 1) (some (.sh (.int (i : Int)))) (some (.sh v)) u8 u9 u10 fun z m => h z (List.mem_cons_of_mem _ m)
    refine ⟨t6, t7, t8, t9, t10, ?_⟩
    have e0' : ((v :: vs).zipIdx i).map (fun p => O.sh (.tuple [.int p.2, p.1])) = O.sh (.tuple [.int i, v]) :: ((vs.zipIdx (i + 1)).map fun p => O.sh (.tuple [.int p.2, p.1])) := rfl
    rw [e0']
    have bt : bindTg (.tp [.nm 6, .nm 7]) (O.sh (.tuple [.int (i : Int), v])) (E35 x y a b s3 s4 s5 s6 s7 s8 s9 s10) = some (E35 x y a b s3 s4 s5 (some (.sh (.int (i : Int)))) (some (.sh v)) s8 s9 s10) := by
      simp only [bindTg, bindTgs, List.map_cons, List.map_nil]
      rfl
    simp only [frGo, bt, Option.bind_some, q]
    exact q2
end
end L83
end
section
set_option Elab.async false
set_option linter.all false
set_option maxRecDepth 100000
set_option maxHeartbeats 2000000
namespace L83
open PySem PySem.Spec PyProof.Rows L2 Qv
variable {a b : List Str}
theorem add_os {xs ys : List PyData} (h : xs.length + ys.length ≤ 1000000) : prim .add [olOf xs, .sh (.list ys)] = some (olOf (xs ++ ys)) := by
  have key : prim .add [olOf xs, .sh (.list ys)] = (match (olOf xs).list?, (O.sh (.list ys)).list? with
    | some xs, some ys => gd (decide (xs.length + ys.length ≤ sizeLine)) (olOf (xs ++ ys))
    | _, _ => none) := rfl
  rw [key, list_ol]
  show gd (decide (xs.length + ys.length ≤ sizeLine)) _ = _
  rw [decide_eq_true (sz_le h)]
  rfl
section
variable {C : Cal} {x y : Int} {s3 s4 s5 s6 s7 s8 s9 s10 : Option O}
theorem it35 (K : K35 C a b) (hp : PotOk x y) : ∃ (vs : List PyData) (x' y' : Int), PotOk x' y' ∧ vs.length ≤ 100 ∧ (∀ v ∈ vs, OkV v) ∧
    evs C [.op .add [.lst [.nm 5, .call 24 [.nm 1, .nm 2]], .call 34 [.nm 0, .nm 5]]] (E35 x y a b s3 s4 (some (.sh (papD a b))) s6 s7 s8 s9 s10) = some ([olOf ([papD a b, papD a b] ++ vs)], E35 x' y' a b s3 s4 (some (.sh (papD a b))) s6 s7 s8 s9 s10) := by
  obtain ⟨vs, x', y', h1, h2, h3, q⟩ := K.c34 hp
  refine ⟨vs, x', y', h1, h2, h3, ?_⟩
  have l : Ev C (E35 x y a b s3 s4 (some (.sh (papD a b))) s6 s7 s8 s9 s10) (.lst [.nm 5, .call 24 [.nm 1, .nm 2]]) (olOf [papD a b, papD a b]) := e_lst (es_cons (e_nm rfl) (es_cons (e_call (la_s rfl (la_s rfl la_nil)) K.c24) es_nil)) (by simp)
  have ld : lend [.sl 0, .sl 5] (E35 x y a b s3 s4 (some (.sh (papD a b))) s6 s7 s8 s9 s10) = some ([pot x y, .sh (papD a b)], (E35 x y a b s3 s4 (some (.sh (papD a b))) s6 s7 s8 s9 s10).set 0 none) := rfl
  have c : ev C (.call 34 [.nm 0, .nm 5]) (E35 x y a b s3 s4 (some (.sh (papD a b))) s6 s7 s8 s9 s10) = some (.sh (.list vs), E35 x' y' a b s3 s4 (some (.sh (papD a b))) s6 s7 s8 s9 s10) := by
    rw [ev_call]
    simp only [evOs_nm, evOs_nil, rdO, List.getElem?_cons_zero, List.getElem?_cons_succ, Option.bind_some, ld, q]
    rfl
  have o : ev C (.op .add [.lst [.nm 5, .call 24 [.nm 1, .nm 2]], .call 34 [.nm 0, .nm 5]]) (E35 x y a b s3 s4 (some (.sh (papD a b))) s6 s7 s8 s9 s10) = some (olOf ([papD a b, papD a b] ++ vs), E35 x' y' a b s3 s4 (some (.sh (papD a b))) s6 s7 s8 s9 s10) := by
    unfold Ev at l
    rw [ev_op, evOs_tv rfl, l]
    simp only [Option.bind_some]
    rw [evOs_tv rfl, c]
    have rd : rdOs (E35 x' y' a b s3 s4 (some (.sh (papD a b))) s6 s7 s8 s9 s10) [.tv (olOf [papD a b, papD a b]), .tv (.sh (.list vs))] = some [olOf [papD a b, papD a b], .sh (.list vs)] := by
      simp only [rdOs_cons, rdOs_nil, rdO_tv, Option.bind_some, flat_ol, flat_sh, if_true]
    simp only [Option.bind_some, evOs_nil, rd]
    rw [add_os (by simp; omega)]
    rfl
  rw [evs_cons, o]
  rfl
theorem f35_run (K : K35 C a b) (ha : Lz a) (hb : Lz b) (hp : PotOk x y) : ∃ (x' y' : Int) (ρ' : Qv.Env), PotOk x' y' ∧ evSs C f35.body (E35 x y a b none none none none none none none none) = some (.rt (.sh (.bool true)) (some (pot x' y') :: some (.sh (aL a)) :: some (.sh (aL b)) :: ρ')) := by
  have hA : LinesD a (aL a) := .inl rfl
  have hB : LinesD b (aL b) := .inl rfl
  obtain ⟨vs, x', y', h1, h2, h3, q⟩ := it35 (C := C) (s3 := some (.sh (.int (costI a b)))) (s4 := some (.sh (pD (leastE a b)))) (s6 := none) (s7 := none) (s8 := none) (s9 := none) (s10 := none) K hp
  have hpv := pap_okV ha hb
  obtain ⟨t6, t7, t8, t9, t10, q2⟩ := loop35 (C := C) (x := x') (y := y') (s3 := some (.sh (.int (costI a b)))) (s4 := some (.sh (pD (leastE a b)))) (s5 := some (.sh (papD a b))) K ([papD a b, papD a b] ++ vs) 0 none none none none none fun v m => by
    rcases List.mem_append.mp m with m | m
    · simp only [List.mem_cons, List.not_mem_nil, or_false, or_self] at m
      rw [m]
      exact hpv
    · exact h3 v m
  refine ⟨x', y', [some (.sh (.int (costI a b))), some (.sh (pD (leastE a b))), some (.sh (papD a b)), t6, t7, t8, t9, t10], h1, ?_⟩
  rw [f35_body]
  refine (s_asg (e_cost (ρ := E35 x y a b none none none none none none none none) rfl rfl hA hB rfl (e_call (la_s rfl (la_s rfl la_nil)) K.c29)) (by simp)).trans ?_
  refine (s_iff (c35_f K ha hb)).trans ?_
  -- both patches
  have w1 : evs C [.tup [.call 23 [.nm 1, .nm 2], .callk 23 [.nm 2, .nm 1] [1, 0]]] (E35 x y a b (some (.sh (.int (costI a b)))) none none none none none none none) = some ([.sh (.tuple [pD (leastE a b), pD (leastE a b)])], E35 x y a b (some (.sh (.int (costI a b)))) none none none none none none none) :=
    es_cons (e_tup (es_cons (e_call (la_s rfl (la_s rfl la_nil)) K.c23) (es_cons (e_callk2 (la_s rfl (la_s rfl la_nil)) K.c23) es_nil)) (by simp)) es_nil
  have tn : ∀ s4 : Option O, (bindTg (.nm 4) (O.sh (pD (leastE a b))) (E35 x y a b (some (.sh (.int (costI a b)))) s4 none none none none none none)).bind (fun ρ3 => evSs C [.ite d35 [.ret (.c (.bool false))] []] ρ3) = some (.nx (E35 x y a b (some (.sh (.int (costI a b)))) (some (.sh (pD (leastE a b)))) none none none none none none)) := fun s4 => by
    have bt : bindTg (.nm 4) (O.sh (pD (leastE a b))) (E35 x y a b (some (.sh (.int (costI a b)))) s4 none none none none none none) = some (E35 x y a b (some (.sh (.int (costI a b)))) (some (.sh (pD (leastE a b)))) none none none none none none) := by simp [bindTg]
    rw [bt]
    exact (s_iff (ss := []) (d35_f K ha hb)).trans evSs_nil
  have f1 : evS C (.fr (.nm 4) .sq [.tup [.call 23 [.nm 1, .nm 2], .callk 23 [.nm 2, .nm 1] [1, 0]]] [.ite d35 [.ret (.c (.bool false))] []]) (E35 x y a b (some (.sh (.int (costI a b)))) none none none none none none none) = some (.nx (E35 x y a b (some (.sh (.int (costI a b)))) (some (.sh (pD (leastE a b)))) none none none none none none)) := by
    rw [evS_fr, w1]
    have w : walk .sq ([O.sh (.tuple [pD (leastE a b), pD (leastE a b)])].map fun o => .sh o.d) = some [O.sh (pD (leastE a b)), O.sh (pD (leastE a b))] := rfl
    simp only [Option.bind_some, w, frGo, tn]
  refine (seq1 f1).trans ?_
  refine (s_asg (i := 5) (e_callk2 (ρ := E35 x y a b (some (.sh (.int (costI a b)))) (some (.sh (pD (leastE a b)))) none none none none none none) (la_s (i := 2) rfl (la_s (i := 1) rfl la_nil)) K.c24) (by simp)).trans ?_
  obtain ⟨bb, q33, hbb⟩ := K.c33 (papD a b) hpv
  have : bb = true := hbb.mpr (paper_is ha.ln hb.ln)
  subst this
  have n1 : Ev C (E35 x y a b (some (.sh (.int (costI a b)))) (some (.sh (pD (leastE a b)))) (some (.sh (papD a b))) none none none none none) (.tn (.tt (.call 33 [.nm 1, .nm 2, .nm 5]))) (.sh (.bool false)) := e_tn (x := true) (e_tt rfl (e_call (la_s rfl (la_s rfl (la_s rfl la_nil))) q33))
  refine (s_iff n1).trans ?_
  have f2 : evS C (.fr (.tp [.nm 6, .nm 7]) .en [.op .add [.lst [.nm 5, .call 24 [.nm 1, .nm 2]], .call 34 [.nm 0, .nm 5]]] body35) (E35 x y a b (some (.sh (.int (costI a b)))) (some (.sh (pD (leastE a b)))) (some (.sh (papD a b))) none none none none none) =
      some (.nx (E35 x' y' a b (some (.sh (.int (costI a b)))) (some (.sh (pD (leastE a b)))) (some (.sh (papD a b))) t6 t7 t8 t9 t10)) := by
    rw [evS_fr, q]
    have w : walk .en ([olOf ([papD a b, papD a b] ++ vs)].map fun o => .sh o.d) = some ((([papD a b, papD a b] ++ vs).zipIdx 0).map fun p => O.sh (.tuple [.int p.2, p.1])) := by
      simp only [List.map_cons, List.map_nil, d_ol]
      rfl
    simp only [Option.bind_some, w]
    exact q2
  refine (seq1 f2).trans ?_
  exact s_ret e_c
end
theorem f35_ok {k : Nat} (h : 7 ≤ k) {x y : Int} (hp : PotOk x y) (ha : Lz a) (hb : Lz b) : ∃ (x' y' : Int), PotOk x' y' ∧ RF k 35 [pot x y, .sh (aL a), .sh (aL b)] = some (.sh (.bool true), [pot x' y', .sh (aL a), .sh (aL b)]) := by
  obtain ⟨k, rfl, hk⟩ := posK h
  obtain ⟨x', y', ρ', h1, q⟩ := f35_run (k35 (k := k) hk ha hb) ha hb hp
  exact ⟨x', y', h1, run_rt (fd := f35) rfl rfl q rfl⟩
end L83
end
section
set_option Elab.async false
set_option linter.all false
set_option maxRecDepth 100000
set_option maxHeartbeats 2000000
namespace L83
open PySem PySem.Spec PyProof.Rows L2 Qv
def Wd : Str := Txt.mul "y" 2000
def Mn : List Str := List.replicate 200 "x"
def ed2 (w : Str) (d : PyData) : PyData := .tuple [.str w, d]
def kp (n : Int) : PyData := ed2 "keep" (.int n)
def tk' (n : Int) : PyData := ed2 "take" (.int n)
def pt' (ds : List PyData) : PyData := ed2 "put" (.tuple ds)
def long : List PyData := (List.replicate 200 [tk' 1, pt' [.str "b"]]).flatten
def pr0 : List (List Str × PyData) := [(Mn, .tuple [kp 200]), (Mn, .tuple [kp 200, pt' [.str "a"]]), (Mn, .tuple [tk' 1, kp 199, pt' [.str "a"]])]
def pr1 : List (List Str × PyData) := [([Wd], .tuple [kp 1, pt' [.str Wd]]), ([], .tuple [pt' [.str (Wd ++ "y")]])]
def pr2 : List (List Str × PyData) := [([], .tuple [pt' (List.replicate 200 [.str "a"]).flatten]), ([], .tuple [pt' (List.replicate 201 [.str "a"]).flatten]), (Mn, .tuple long)]
def pr3 : List (List Str × PyData) := [(Mn, .tuple (long ++ [pt' [.str "c"]]))]
def pr4 : List (List Str × PyData) := [(["a"], .tuple [ed2 "keep" (.bool true)]), (["a"], .tuple [kp 0, kp 1]), (["a"], .tuple []), ([], .tuple []), (["a"], .tuple [.list [.str "keep", .int 1]])]
def pr5 : List (List Str × PyData) := [(["a"], .tuple [tk' 2]), (["a"], .tuple [kp 1, pt' []]), (["a"], .tuple [kp 1, ed2 "put" (.list [.str "b"])])]
def pD2 (p : List Str × PyData) : PyData := .tuple [aL p.1, p.2]
def prB (p : List Str × PyData) : Bool := (decide (p.1.length ≤ 200) && p.1.all fun l => decide (l.length ≤ 2000)) && valT p.2
theorem wd_tl : TL.tl Wd = List.replicate 2000 121 := by
  have e : ("y" : Str) = ⟨#[121]⟩ := by decide +kernel
  unfold Wd
  rw [e]
  exact mul_one_list 121 2000
theorem wdy_tl : TL.tl (Wd ++ "y") = List.replicate 2000 121 ++ [121] := by
  have e : TL.tl ("y" : Str) = [121] := by decide +kernel
  rw [TL.tl_append, wd_tl, e]
theorem len_tl (z : Str) : z.length = (TL.tl z).length := by simp [Str.length, TL.tl]
theorem wd_len : Wd.length = 2000 := by rw [len_tl, wd_tl, List.length_replicate]
theorem wdy_len : (Wd ++ "y").length = 2001 := by rw [len_tl, wdy_tl, List.length_append, List.length_replicate]; rfl
theorem ok_tl {z : Str} (h : ∀ c ∈ TL.tl z, c < 0x110000) : PyData.canLay0 (.str z) = true := by
  simp only [PyData.canLay0, PyData.strOk]
  rw [← Array.all_toList]
  exact List.all_eq_true.mpr fun c m => decide_eq_true (h c m)
theorem edit_one {z : Str} (h : PyData.canLay0 (.str z) = true) (hl : z.length ≤ 100000) : editT (pt' [.str z]) = true := by
  show (SeqAt.shaped (.tuple [.str z]) && [PyData.str z].all shortB && decide ([PyData.str z].length ≤ 1000)) = true
  have s : SeqAt.shaped (.tuple [.str z]) = true := by
    unfold SeqAt.shaped
    rw [show PyData.canLay0 (.tuple [.str z]) = true by simp only [PyData.canLay0, PyData.canLayAll0] at h ⊢; rw [h]; rfl]
    simp [PyData.depth, PyData.depthAll]
  rw [s]
  simp [shortB, hl]
theorem pr1_ok : pr1.all prB = true := by
  have l1 := wd_len
  have l2 := wdy_len
  have e1 := edit_one (z := Wd) (ok_tl (by rw [wd_tl]; intro c m; rw [List.eq_of_mem_replicate m]; decide)) (by omega)
  have e2 := edit_one (z := Wd ++ "y") (ok_tl (by
    rw [wdy_tl]
    intro c m
    rcases List.mem_append.mp m with m | m
    · rw [List.eq_of_mem_replicate m]; decide
    · rw [List.mem_singleton.mp m]; decide)) (by omega)
  have e3 : editT (kp 1) = true := rfl
  simp [pr1, prB, valT, e1, e2, e3, l1]
theorem pr0_ok : pr0.all prB = true := by decide +kernel
theorem pr2_ok : pr2.all prB = true := by decide +kernel
theorem pr3_ok : pr3.all prB = true := by decide +kernel
theorem pr4_ok : pr4.all prB = true := by decide +kernel
theorem pr5_ok : pr5.all prB = true := by decide +kernel
theorem pr_ok : ((pr0 ++ pr1 ++ pr2 ++ pr3 ++ pr4 ++ pr5).all prB) = true := by
  simp only [List.all_append, pr0_ok, pr1_ok, pr2_ok, pr3_ok, pr4_ok, pr5_ok, Bool.and_self]
theorem wide_add : prim .add [.sh (.str Wd), .sh (.str "y")] = some (.sh (.str (Wd ++ "y"))) := by
  have h1 : Str.length "y" = 1 := by decide +kernel
  have h : Wd.length + Str.length "y" ≤ 1000000 := by rw [wd_len, h1]; omega
  show gd (decide (Wd.length + Str.length "y" ≤ sizeLine)) _ = _
  rw [decide_eq_true (sz_le h)]
  rfl
theorem mul_t {xs : List PyData} {j : Nat} (h1 : xs ≠ []) (h2 : 2 ≤ j) (h3 : j ≤ 1000) (h4 : xs.length ≤ 1000) : prim .mul [.sh (.tuple xs), .sh (.int (j : Int))] = some (.sh (.tuple (List.replicate j xs).flatten)) := by
  show gd (!xs.isEmpty && decide (2 ≤ (j : Int) ∧ (j : Int) ≤ 1000 ∧ xs.length ≤ 1000)) _ = _
  rw [decide_eq_true ⟨by omega, by omega, h4⟩]
  cases xs with
  | nil => exact absurd rfl h1
  | cons x xs => rfl
theorem mul_x : prim .mul [olOf [.str "x"], .sh (.int 200)] = some (olOf (sL Mn)) := by
  have key : prim .mul [olOf [.str "x"], .sh (.int 200)] = (match (olOf [PyData.str "x"]).list? with
    | some xs => gd (decide (-(2 ^ 63) ≤ (200 : Int) ∧ (200 : Int) < 2 ^ 63 ∧ xs.length * (200 : Int).toNat ≤ sizeLine)) (olOf (List.replicate (200 : Int).toNat xs).flatten)
    | none => none) := rfl
  rw [key, list_ol]
  have g : -(2 ^ 63) ≤ (200 : Int) ∧ (200 : Int) < 2 ^ 63 ∧ [PyData.str "x"].length * (200 : Int).toNat ≤ sizeLine := ⟨by decide, by decide, by
    exact sz_le (show [PyData.str "x"].length * (200 : Int).toNat ≤ 1000000 by decide)⟩
  simp only [gd]
  rw [decide_eq_true g]
  rfl
section
variable {C : Cal} {ρ : Qv.Env} {e1 e2 e3 : Qv.T} {d1 d2 d3 : PyData}
theorem e_t0 : Ev C ρ (.tup []) (.sh (.tuple [])) := e_tup es_nil (by simp)
theorem e_t1 (h1 : Ev C ρ e1 (.sh d1)) : Ev C ρ (.tup [e1]) (.sh (.tuple [d1])) := e_tup (es_cons h1 es_nil) (by simp)
theorem e_t2 (h1 : Ev C ρ e1 (.sh d1)) (h2 : Ev C ρ e2 (.sh d2)) : Ev C ρ (.tup [e1, e2]) (.sh (.tuple [d1, d2])) := e_tup (es_cons h1 (es_cons h2 es_nil)) (by simp)
theorem e_t3 (h1 : Ev C ρ e1 (.sh d1)) (h2 : Ev C ρ e2 (.sh d2)) (h3 : Ev C ρ e3 (.sh d3)) : Ev C ρ (.tup [e1, e2, e3]) (.sh (.tuple [d1, d2, d3])) := e_tup (es_cons h1 (es_cons h2 (es_cons h3 es_nil))) (by simp)
theorem e_kp (n : Int) : Ev C ρ (.tup [.c (.str "keep"), .c (.int n)]) (.sh (kp n)) := e_t2 e_c e_c
theorem e_tk (n : Int) : Ev C ρ (.tup [.c (.str "take"), .c (.int n)]) (.sh (tk' n)) := e_t2 e_c e_c
theorem e_pt (h1 : Ev C ρ e1 (.sh (.tuple ds))) : Ev C ρ (.tup [.c (.str "put"), e1]) (.sh (pt' ds)) := e_t2 e_c h1
theorem e_l0 : Ev C ρ (.lst []) (olOf []) := e_lst es_nil (by simp)
theorem e_l1 (h1 : Ev C ρ e1 (.sh d1)) : Ev C ρ (.lst [e1]) (olOf [d1]) := e_lst (es_cons h1 es_nil) (by simp)
/-- a pair whose first part is a display -/
theorem e_pr {ds : List PyData} (h1 : Ev C ρ e1 (olOf ds)) (h2 : Ev C ρ e2 (.sh d2)) : Ev C ρ (.tup [e1, e2]) (.sh (.tuple [.list ds, d2])) := by
  have q := e_tup (es_cons h1 (es_cons h2 es_nil)) (by simp)
  simp only [dL_cons, dL_nil, d_ol] at q
  exact q
theorem e_prj {d : PyData} {ds : List PyData} (h1 : Ev C ρ e1 (.sh (.tuple (d :: ds)))) : Ev C ρ (.prj e1 0) (.sh d) := by
  unfold Ev at *
  simp only [ev, h1]
  rfl
end
abbrev E36 (s0 s1 s2 s3 s4 s5 : Option O) : Qv.Env := [s0, s1, s2, s3, s4, s5]
def Y0 : Qv.T := .lst [.tup [.nm 0, .tup [.tup [.c (.str "keep"), .c (.int 200)]]], .tup [.nm 0, .tup [.tup [.c (.str "keep"), .c (.int 200)], .tup [.c (.str "put"), .tup [.c (.str "a")]]]], .tup [.nm 0, .tup [.tup [.c (.str "take"), .c (.int 1)], .tup [.c (.str "keep"), .c (.int 199)], .tup [.c (.str "put"), .tup [.c (.str "a")]]]]]
def Y1 : Qv.T := .lst [.tup [.lst [.nm 1], .tup [.tup [.c (.str "keep"), .c (.int 1)], .tup [.c (.str "put"), .tup [.nm 1]]]], .tup [.lst [], .tup [.tup [.c (.str "put"), .tup [.op .add [.nm 1, .c (.str "y")]]]]]]
def Y2 : Qv.T := .lst [.tup [.lst [], .tup [.tup [.c (.str "put"), .op .mul [.tup [.c (.str "a")], .c (.int 200)]]]], .tup [.lst [], .tup [.tup [.c (.str "put"), .op .mul [.tup [.c (.str "a")], .c (.int 201)]]]], .tup [.nm 0, .op .mul [.tup [.tup [.c (.str "take"), .c (.int 1)], .tup [.c (.str "put"), .tup [.c (.str "b")]]], .c (.int 200)]]]
def Y3 : Qv.T := .tup [.nm 0, .op .add [.op .mul [.tup [.tup [.c (.str "take"), .c (.int 1)], .tup [.c (.str "put"), .tup [.c (.str "b")]]], .c (.int 200)], .tup [.tup [.c (.str "put"), .tup [.c (.str "c")]]]]]
def Y4 : Qv.T := .lst [.tup [.lst [.c (.str "a")], .tup [.tup [.c (.str "keep"), .c (.bool true)]]], .tup [.lst [.c (.str "a")], .tup [.tup [.c (.str "keep"), .c (.int 0)], .tup [.c (.str "keep"), .c (.int 1)]]], .tup [.lst [.c (.str "a")], .tup []], .tup [.lst [], .tup []], .tup [.lst [.c (.str "a")], .tup [.lst [.c (.str "keep"), .c (.int 1)]]]]
def Y5 : Qv.T := .lst [.tup [.lst [.c (.str "a")], .tup [.tup [.c (.str "take"), .c (.int 2)]]], .tup [.lst [.c (.str "a")], .tup [.tup [.c (.str "keep"), .c (.int 1)], .tup [.c (.str "put"), .tup []]]], .tup [.lst [.c (.str "a")], .tup [.tup [.c (.str "keep"), .c (.int 1)], .tup [.c (.str "put"), .lst [.c (.str "b")]]]]]
def body36 : List Qv.S := [.asg (.nm 5) (.prj (.call 32 [.nm 3, .nm 4]) 0),
    .ite (.op .ne [.op .reprl [.call 20 [.nm 3, .nm 4], .callk 20 [.nm 4, .nm 3] [1, 0]], .op .reprl [.nm 5, .nm 5]]) [.ret (.c (.bool false))] []]
theorem f36_body : f36.body = [.par [0, 1] [.op .mul [.lst [.c (.str "x")], .c (.int 200)], .op .mul [.c (.str "y"), .c (.int 2000)]],
    .asg (.nm 2) Y0, .ex (.ext 2 [Y1]), .ex (.ext 2 [Y2]), .ex (.app 2 Y3), .ex (.ext 2 [Y4]), .ex (.ext 2 [Y5]),
    .fr (.tp [.nm 3, .nm 4]) .sq [.nm 2] body36, .ret (.c (.bool true))] := rfl
section
variable {C : Cal} {s2 s3 s4 s5 : Option O}
abbrev EM (s2 : Option O) : Qv.Env := E36 (some (.sh (aL Mn))) (some (.sh (.str Wd))) s2 none none none
theorem y0 : ev C Y0 (E36 (some (olOf (sL Mn))) (some (.sh (.str Wd))) none none none none) = some (olOf (pr0.map pD2), EM none) := by
  have t1 : ev C (.tup [.nm 0, .tup [.tup [.c (.str "keep"), .c (.int 200)]]]) (E36 (some (olOf (sL Mn))) (some (.sh (.str Wd))) none none none none) = some (.sh (.tuple [aL Mn, .tuple [kp 200]]), EM none) := by
    have r : Ev C (EM none) (.tup [.tup [.c (.str "keep"), .c (.int 200)]]) (.sh (.tuple [kp 200])) := e_t1 (e_kp 200)
    have r : evs C [.tup [.tup [.c (.str "keep"), .c (.int 200)]]] (EM none) = some ([.sh (.tuple [kp 200])], EM none) := es_cons r es_nil
    rw [ev_tup, evs_cons, ev_nm, rdV_ol (i := 0) (ds := sL Mn) rfl]
    simp only [Option.bind_some]
    have e : (E36 (some (olOf (sL Mn))) (some (.sh (.str Wd))) none none none none).set 0 (some (.sh (.list (sL Mn)))) = EM none := rfl
    rw [e, r]
    exact szd_ok (sz_le (by simp))
  have r : evs C [.tup [.nm 0, .tup [.tup [.c (.str "keep"), .c (.int 200)], .tup [.c (.str "put"), .tup [.c (.str "a")]]]], .tup [.nm 0, .tup [.tup [.c (.str "take"), .c (.int 1)], .tup [.c (.str "keep"), .c (.int 199)], .tup [.c (.str "put"), .tup [.c (.str "a")]]]]] (EM none) =
      some ([.sh (.tuple [aL Mn, .tuple [kp 200, pt' [.str "a"]]]), .sh (.tuple [aL Mn, .tuple [tk' 1, kp 199, pt' [.str "a"]]])], EM none) :=
    es_cons (e_t2 (e_nm rfl) (e_t2 (e_kp 200) (e_pt (e_t1 e_c)))) (es_cons (e_t2 (e_nm rfl) (e_t3 (e_tk 1) (e_kp 199) (e_pt (e_t1 e_c)))) es_nil)
  unfold Y0
  rw [ev_lst, evs_cons, t1]
  simp only [Option.bind_some, r]
  exact szd_ok (sz_le (by simp))
theorem y1 : Ev C (EM s2) Y1 (olOf (pr1.map pD2)) :=
  e_lst (es_cons (e_pr (e_l1 (e_nm rfl)) (e_t2 (e_kp 1) (e_pt (e_t1 (e_nm rfl))))) (es_cons (e_pr e_l0 (e_t1 (e_pt (e_t1 (e_op (ov_s rfl (ov_c ov_nil)) wide_add))))) es_nil)) (by simp)
theorem e_long : Ev C (EM s2) (.op .mul [.tup [.tup [.c (.str "take"), .c (.int 1)], .tup [.c (.str "put"), .tup [.c (.str "b")]]], .c (.int 200)]) (.sh (.tuple long)) :=
  e_op (ov_d rfl (e_t2 (e_tk 1) (e_pt (e_t1 e_c))) (ov_c ov_nil)) (mul_t (j := 200) (by simp) (by omega) (by omega) (by simp))
theorem y2 : Ev C (EM s2) Y2 (olOf (pr2.map pD2)) :=
  e_lst (es_cons (e_pr e_l0 (e_t1 (e_pt (e_op (ov_d rfl (e_t1 e_c) (ov_c ov_nil)) (mul_t (j := 200) (by simp) (by omega) (by omega) (by simp))))))
    (es_cons (e_pr e_l0 (e_t1 (e_pt (e_op (ov_d rfl (e_t1 e_c) (ov_c ov_nil)) (mul_t (j := 201) (by simp) (by omega) (by omega) (by simp))))))
    (es_cons (e_t2 (e_nm rfl) e_long) es_nil))) (by simp)
theorem long_len : long.length = 400 := by decide +kernel
theorem y3 : Ev C (EM s2) Y3 (.sh (.tuple [aL Mn, .tuple (long ++ [pt' [.str "c"]])])) :=
  e_t2 (e_nm rfl) (e_op (ov_d rfl e_long (ov_d rfl (e_t1 (e_pt (e_t1 e_c))) ov_nil)) (add_tt (by rw [long_len]; simp)))
theorem y4 : Ev C (EM s2) Y4 (olOf (pr4.map pD2)) :=
  e_lst (es_cons (e_pr (e_l1 e_c) (e_t1 (e_t2 e_c e_c))) (es_cons (e_pr (e_l1 e_c) (e_t2 (e_kp 0) (e_kp 1))) (es_cons (e_pr (e_l1 e_c) e_t0) (es_cons (e_pr e_l0 e_t0)
    (es_cons (e_pr (e_l1 e_c) (by
      have l : Ev C (EM s2) (.lst [.c (.str "keep"), .c (.int 1)]) (olOf [.str "keep", .int 1]) := e_lst (es_cons e_c (es_cons e_c es_nil)) (by simp)
      have q := e_tup (es_cons l es_nil) (by simp)
      simp only [dL_cons, dL_nil, d_ol] at q
      exact q)) es_nil))))) (by simp)
theorem y5 : Ev C (EM s2) Y5 (olOf (pr5.map pD2)) :=
  e_lst (es_cons (e_pr (e_l1 e_c) (e_t1 (e_tk 2))) (es_cons (e_pr (e_l1 e_c) (e_t2 (e_kp 1) (e_pt e_t0))) (es_cons (e_pr (e_l1 e_c) (e_t2 (e_kp 1) (by
      have l : Ev C (EM s2) (.lst [.c (.str "b")]) (olOf [.str "b"]) := e_l1 e_c
      have q := e_tup (es_cons (e_c (d := .str "put")) (es_cons l es_nil)) (by simp)
      simp only [dL_cons, dL_nil, d_ol] at q
      exact q))) es_nil))) (by simp)
end
end L83
end
section
set_option Elab.async false
set_option linter.all false
set_option maxRecDepth 100000
set_option maxHeartbeats 2000000
namespace L83
open PySem PySem.Spec PyProof.Rows L2 Qv
def prs : List (List Str × PyData) := pr0 ++ pr1 ++ pr2 ++ pr3 ++ pr4 ++ pr5
/-- what the calls give -/
structure K36 (C : Cal) : Prop where
  c32 : ∀ {ls : List Str} {d : PyData}, OkL ls → valT d = true → ∃ (b0 : Bool) (l c : PyData), C 32 [.sh (aL ls), .sh d] = some (.sh (.tuple [.bool b0, l, c]), [.sh (aL ls), .sh d]) ∧ (b0 = true ↔ ∃ es, IsPatch ls.length d es)
  c20 : ∀ {ls : List Str} {d : PyData}, OkL ls → valT d = true → ∃ bb, C 20 [.sh (aL ls), .sh d] = some (shB bb, [.sh (aL ls), .sh d]) ∧ (bb = true ↔ ∃ es, IsPatch ls.length d es)
theorem k36 {k : Nat} (h : 5 ≤ k) : K36 (RF k) := by
  refine ⟨fun {ls d} hl hd => ?_, fun {ls d} hl hd => f20_ok h hl hd⟩
  obtain ⟨r, q, hr⟩ := f32_ok (k := k) (by omega) (ls := ls) (by have := hl.len; omega) hd
  rcases hr with ⟨es, hp, rfl⟩ | ⟨hN, l, c, rfl⟩
  · exact ⟨true, _, _, q, fun _ => ⟨es, hp⟩, fun _ => rfl⟩
  · exact ⟨false, _, _, q, fun e => (by cases e), fun e => absurd e hN⟩
section
variable {C : Cal} {s0 s1 s2 s3 s4 s5 : Option O}
theorem turn36 (K : K36 C) {p : List Str × PyData} (hp : prB p = true) : ∃ s5', evSs C body36 (E36 s0 s1 s2 (some (.sh (aL p.1))) (some (.sh p.2)) s5) = some (.nx (E36 s0 s1 s2 (some (.sh (aL p.1))) (some (.sh p.2)) s5')) := by
  obtain ⟨ls, d⟩ := p
  simp only [prB, Bool.and_eq_true, decide_eq_true_eq] at hp
  have hl : OkL ls := ⟨hp.1.1, fun l m => of_decide_eq_true (List.all_eq_true.mp hp.1.2 l m)⟩
  obtain ⟨b0, l, c, q1, h1⟩ := K.c32 hl hp.2
  obtain ⟨b1, q2, h2⟩ := K.c20 hl hp.2
  have e : b1 = b0 := by
    have := h2.trans h1.symm
    cases b0 <;> cases b1 <;> simp_all
  subst e
  refine ⟨some (.sh (.bool b1)), ?_⟩
  unfold body36
  have rp : Rp 100000 60 (.list [.bool b1, .bool b1]) := (RpA.cons (rp_bool b1) (RpA.cons (rp_bool b1) (RpA.nil (N := 0)))).list.mono (by omega) (by omega)
  refine (s_asg (i := 5) (e_prj (e_call (ρ := E36 s0 s1 s2 (some (.sh (aL ls))) (some (.sh d)) s5) (la_s (i := 3) rfl (la_s (i := 4) rfl la_nil)) q1)) (by simp)).trans ?_
  have k1 : Ev C (E36 s0 s1 s2 (some (.sh (aL ls))) (some (.sh d)) (some (.sh (.bool b1)))) (.call 20 [.nm 3, .nm 4]) (.sh (.bool b1)) := e_call (la_s rfl (la_s rfl la_nil)) q2
  have k2 : Ev C (E36 s0 s1 s2 (some (.sh (aL ls))) (some (.sh d)) (some (.sh (.bool b1)))) (.callk 20 [.nm 4, .nm 3] [1, 0]) (.sh (.bool b1)) := e_callk2 (la_s rfl (la_s rfl la_nil)) q2
  have r1 : Ev C (E36 s0 s1 s2 (some (.sh (aL ls))) (some (.sh d)) (some (.sh (.bool b1)))) (.op .reprl [.call 20 [.nm 3, .nm 4], .callk 20 [.nm 4, .nm 3] [1, 0]]) (.sh (.str (PyData.list [.bool b1, .bool b1]).shown)) := e_op (ov_d rfl k1 (ov_d rfl k2 ov_nil)) (reprl_is (ds := [.bool b1, .bool b1]) rp (by simp))
  have r2 : Ev C (E36 s0 s1 s2 (some (.sh (aL ls))) (some (.sh d)) (some (.sh (.bool b1)))) (.op .reprl [.nm 5, .nm 5]) (.sh (.str (PyData.list [.bool b1, .bool b1]).shown)) := e_op (ov_s rfl (ov_s rfl ov_nil)) (reprl_is (ds := [.bool b1, .bool b1]) rp (by simp))
  have t := e_op (k := .ne) (ov_d rfl r1 (ov_d rfl r2 ov_nil)) (ne_ss _ _)
  rw [decide_eq_true rfl] at t
  exact (s_iff (ss := []) t).trans evSs_nil
theorem loop36 (K : K36 C) : ∀ (ps : List (List Str × PyData)) (s3 s4 s5 : Option O), ps.all prB = true → ∃ t3 t4 t5, frGo (fun x ρ2 => (bindTg (.tp [.nm 3, .nm 4]) x ρ2).bind fun ρ3 => evSs C body36 ρ3) ((ps.map pD2).map O.sh) (E36 s0 s1 s2 s3 s4 s5) = some (.nx (E36 s0 s1 s2 t3 t4 t5))
  | [], s3, s4, s5, _ => ⟨s3, s4, s5, rfl⟩
  | p :: ps, s3, s4, s5, h => by
    rw [List.all_cons, Bool.and_eq_true] at h
    obtain ⟨u5, q⟩ := turn36 (C := C) (s0 := s0) (s1 := s1) (s2 := s2) (s5 := s5) K h.1
    obtain ⟨t3, t4, t5, q2⟩ := loop36 K ps (some (.sh (aL p.1))) (some (.sh p.2)) u5 h.2
    refine ⟨t3, t4, t5, ?_⟩
    have e0' : (((p :: ps).map pD2).map O.sh) = O.sh (.tuple [aL p.1, p.2]) :: ((ps.map pD2).map O.sh) := rfl
    rw [e0']
    have bt : bindTg (.tp [.nm 3, .nm 4]) (O.sh (.tuple [aL p.1, p.2])) (E36 s0 s1 s2 s3 s4 s5) = some (E36 s0 s1 s2 (some (.sh (aL p.1))) (some (.sh p.2)) s5) := by
      simp only [bindTg, bindTgs, List.map_cons, List.map_nil]
      rfl
    simp only [frGo, bt, Option.bind_some, q]
    exact q2
end
theorem f36_ok {k : Nat} (h : 6 ≤ k) : RF k 36 [] = some (.sh (.bool true), []) := by
  obtain ⟨k, rfl, hk⟩ := posK h
  have K := k36 (k := k) hk
  suffices h : ∃ ρ', evSs (RF k) f36.body (E36 none none none none none none) = some (.rt (.sh (.bool true)) ρ') by
    obtain ⟨ρ', e⟩ := h
    exact run_rt (fd := f36) rfl rfl e rfl
  generalize RF k = C at *
  obtain ⟨t3, t4, t5, q⟩ := loop36 (C := C) (s0 := some (.sh (aL Mn))) (s1 := some (.sh (.str Wd))) (s2 := some (.sh (.list (prs.map pD2)))) K prs none none none pr_ok
  refine ⟨E36 (some (.sh (aL Mn))) (some (.sh (.str Wd))) (some (.sh (.list (prs.map pD2)))) t3 t4 t5, ?_⟩
  rw [f36_body]
  have p1 : Ev C (E36 none none none none none none) (.op .mul [.lst [.c (.str "x")], .c (.int 200)]) (olOf (sL Mn)) := e_op (ov_v rfl (e_l1 e_c) flat_ol (ov_c ov_nil)) mul_x
  have p2 : Ev C (E36 none none none none none none) (.op .mul [.c (.str "y"), .c (.int 2000)]) (.sh (.str Wd)) := by
    refine e_op (ov_c (ov_c ov_nil)) ?_
    show gd (decide (1 ≤ (2000 : Int) ∧ (2000 : Int) ≤ 100000 ∧ Str.length "y" ≤ 10)) _ = _
    have h1 : Str.length "y" = 1 := by decide +kernel
    rw [h1, decide_eq_true ⟨by decide, by decide, by decide⟩]
    rfl
  refine (s_par2 p1 p2 (by simp) (by simp)).trans ?_
  have s1 : evS C (.asg (.nm 2) Y0) (E36 (some (olOf (sL Mn))) (some (.sh (.str Wd))) none none none none) = some (.nx (EM (some (olOf (pr0.map pD2))))) := by
    rw [evS_asg, y0]
    rfl
  refine (seq1 s1).trans ?_
  have x1 := x_ext (C := C) (i := 2) (acc := pr0.map pD2) (ρ := EM (some (olOf (pr0.map pD2)))) rfl (e := Y1) rfl y1 (by simp [pr0, pr1])
  refine (s_exv x1).trans ?_
  have x2 := x_ext (C := C) (i := 2) (acc := pr0.map pD2 ++ pr1.map pD2) (ρ := EM (some (olOf (pr0.map pD2 ++ pr1.map pD2)))) rfl (e := Y2) rfl y2 (by simp [pr0, pr1, pr2])
  refine (s_exv x2).trans ?_
  have x3 := x_app (C := C) (i := 2) (acc := pr0.map pD2 ++ pr1.map pD2 ++ pr2.map pD2) (ρ := EM (some (olOf (pr0.map pD2 ++ pr1.map pD2 ++ pr2.map pD2)))) rfl (e := Y3) y3 (by simp [pr0, pr1, pr2])
  refine (s_exv x3).trans ?_
  have x4 := x_ext (C := C) (i := 2) (acc := pr0.map pD2 ++ pr1.map pD2 ++ pr2.map pD2 ++ pr3.map pD2) (ρ := EM (some (olOf (pr0.map pD2 ++ pr1.map pD2 ++ pr2.map pD2 ++ pr3.map pD2)))) rfl (e := Y4) rfl y4 (by simp [pr0, pr1, pr2, pr3, pr4])
  refine (s_exv x4).trans ?_
  have x5 := x_ext (C := C) (i := 2) (acc := pr0.map pD2 ++ pr1.map pD2 ++ pr2.map pD2 ++ pr3.map pD2 ++ pr4.map pD2) (ρ := EM (some (olOf (pr0.map pD2 ++ pr1.map pD2 ++ pr2.map pD2 ++ pr3.map pD2 ++ pr4.map pD2)))) rfl (e := Y5) rfl y5 (by simp [pr0, pr1, pr2, pr3, pr4, pr5])
  refine (s_exv x5).trans ?_
  have ep : pr0.map pD2 ++ pr1.map pD2 ++ pr2.map pD2 ++ pr3.map pD2 ++ pr4.map pD2 ++ pr5.map pD2 = prs.map pD2 := by
    unfold prs
    simp only [List.map_append]
  rw [ep]
  have f : evS C (.fr (.tp [.nm 3, .nm 4]) .sq [.nm 2] body36) (EM (some (olOf (prs.map pD2)))) = some (.nx (E36 (some (.sh (aL Mn))) (some (.sh (.str Wd))) (some (.sh (.list (prs.map pD2)))) t3 t4 t5)) := by
    have ex : evs C [.nm 2] (EM (some (olOf (prs.map pD2)))) = some ([.sh (.list (prs.map pD2))], EM (some (.sh (.list (prs.map pD2))))) := by
      rw [evs_cons, ev_nm, rdV_ol (i := 2) (ds := prs.map pD2) rfl]
      rfl
    have w : walk .sq ([O.sh (.list (prs.map pD2))].map fun o => .sh o.d) = some ((prs.map pD2).map O.sh) := rfl
    rw [evS_fr, ex]
    simp only [Option.bind_some, w]
    exact q
  refine (seq1 f).trans ?_
  exact s_ret e_c
end L83
end
section
set_option Elab.async false
set_option linter.all false
set_option maxRecDepth 100000
set_option maxHeartbeats 2000000
namespace L83
open PySem PySem.Spec PyProof.Rows L2 Qv
/-- what the calls give -/
structure K37 (C : Cal) : Prop where
  d : DrawC C 26
  p : PickC C 27
  c28 : ∀ {x y : Int} {n : Nat}, PotOk x y → n ≤ 10 → ∃ (ls : List Str) (x' y' : Int), Lz ls ∧ PotOk x' y' ∧ C 28 [pot x y, .sh (.int (n : Int))] = some (.sh (aL ls), [pot x' y', .sh (.int (n : Int))])
  c22 : ∀ {u v : List Str}, Ln u → Ln v → C 22 [.sh (aL u), .sh (aL v)] = some (.sh (.int (costI u v)), [.sh (aL u), .sh (aL v)])
  c35 : ∀ {x y : Int} {a b : List Str}, PotOk x y → Lz a → Lz b → ∃ (x' y' : Int), PotOk x' y' ∧ C 35 [pot x y, .sh (aL a), .sh (aL b)] = some (.sh (.bool true), [pot x' y', .sh (aL a), .sh (aL b)])
  c36 : C 36 [] = some (.sh (.bool true), [])
theorem k37 {k : Nat} (h : 7 ≤ k) : K37 (RF k) := ⟨drawC (by omega), pickC (by omega), fun hp hn => f28_ok (by omega) hp hn, fun h1 h2 => f22_ok (by omega) h1 h2 (.inl rfl) (.inl rfl), fun hp ha hb => f35_ok h hp ha hb, f36_ok (by omega)⟩
section
variable {C : Cal} {x y : Int} {r : Qv.Env} {a b : List Str}
theorem ev_lines (K : K37 C) (hp : PotOk x y) : ∃ (ls : List Str) (x' y' : Int), Lz ls ∧ PotOk x' y' ∧ ev C (.call 28 [.nm 0, .call 26 [.nm 0, .c (.int 10)]]) (some (pot x y) :: r) = some (.sh (aL ls), some (pot x' y') :: r) := by
  obtain ⟨w, x1, y1, hw, hp1, q1⟩ := ev_draw (C := C) (g := 26) (n := 10) (e := .c (.int 10)) (r := r) K.d hp rfl e_c (by omega) (by omega)
  obtain ⟨ls, x2, y2, h1, h2, q2⟩ := K.c28 hp1 (show w ≤ 10 by omega)
  refine ⟨ls, x2, y2, h1, h2, ?_⟩
  have ld : lend [.sl 0, .tv (.sh (.int (w : Int)))] (some (pot x1 y1) :: r) = some ([pot x1 y1, .sh (.int (w : Int))], none :: r) := rfl
  rw [ev_call, evOs_nm]
  simp only [rdO, List.getElem?_cons_zero, Option.bind_some]
  rw [evOs_tv rfl, q1]
  simp only [Option.bind_some, evOs_nil, ld, q2]
  rfl
theorem rot (ds : List PyData) : Qv.cutD ds (some 1) none = ds.drop 1 ∧ Qv.cutD ds none (some 1) = ds.take 1 := by
  have s1 : HT.sIx ds.length 0 (some 1) = min 1 ds.length := HT.sIx_nat _ _ 1
  have s2 : HT.sIx ds.length ds.length (some 1) = min 1 ds.length := HT.sIx_nat _ _ 1
  have s3 : HT.sIx ds.length ds.length none = ds.length := rfl
  have s4 : HT.sIx ds.length 0 none = 0 := rfl
  unfold Qv.cutD
  rw [s1, s2, s3, s4]
  constructor
  · cases ds with
    | nil => rfl
    | cons d ds =>
      have : min 1 (d :: ds).length = 1 := by simp
      rw [this]
      simp
  · cases ds with
    | nil => rfl
    | cons d ds =>
      have : min 1 (d :: ds).length = 1 := by simp
      rw [this]
      simp
theorem lz_of {ds : List PyData} (h : ∀ d ∈ ds, d ∈ abc) (hl : ds.length ≤ 10) : ∃ ls, Lz ls ∧ PyData.list ds = aL ls := by
  obtain ⟨ls, rfl, h2⟩ := strs_of h
  exact ⟨ls, ⟨by simpa [sL] using hl, h2⟩, rfl⟩
theorem sL_abc (ha : Lz a) : ∀ d ∈ sL a, d ∈ abc := fun d m => by
  obtain ⟨l, hl, rfl⟩ := List.mem_map.mp m
  exact ha.each l hl
abbrev E37 (x y : Int) (s1 s2 s3 s4 : Option O) : Qv.Env := [some (pot x y), s1, s2, s3, s4]
def pick37 : Qv.T := .call 27 [.nm 0, .lst [.call 28 [.nm 0, .call 26 [.nm 0, .c (.int 10)]], .op .back [.nm 2], .op .add [.sl [.nm 2] [.c (.int 1)] [], .sl [.nm 2] [] [.c (.int 1)]], .op .list1 [.nm 2]]]
def c37 : Qv.T := .or2 (.tn (.tt (.call 35 [.nm 0, .nm 2, .nm 3]))) (.op .gt [.call 22 [.nm 2, .nm 4], .op .add [.call 22 [.nm 2, .nm 3], .call 22 [.nm 3, .nm 4]]])
def body37 : List Qv.S := [.asg (.nm 2) (.call 28 [.nm 0, .call 26 [.nm 0, .c (.int 10)]]), .asg (.nm 3) pick37, .asg (.nm 4) (.call 28 [.nm 0, .call 26 [.nm 0, .c (.int 10)]]), .ite c37 [.ret (.c (.bool false))] []]
theorem f37_body : f37.body = [.ite (.tn (.tt (.call 36 []))) [.ret (.c (.bool false))] [], .fr (.nm 1) .rng [.c (.int 3)] body37, .ret (.c (.bool true))] := rfl
theorem pick_ok (K : K37 C) (hp : PotOk x y) (ha : Lz a) {s1 s3 s4 : Option O} : ∃ (b : List Str) (x' y' : Int), Lz b ∧ PotOk x' y' ∧ ev C pick37 (E37 x y s1 (some (.sh (aL a))) s3 s4) = some (.sh (aL b), E37 x' y' s1 (some (.sh (aL a))) s3 s4) := by
  obtain ⟨b0, x1, y1, h0, hp1, q1⟩ := ev_lines (C := C) (r := [s1, some (.sh (aL a)), s3, s4]) K hp
  have la := ha.len
  have l3 := sL_abc ha
  obtain ⟨r1, r2⟩ := rot (sL a)
  have e2 : Ev C (E37 x1 y1 s1 (some (.sh (aL a))) s3 s4) (.op .back [.nm 2]) (olOf (sL a).reverse) := e_op (ov_s rfl ov_nil) rfl
  have e3 : Ev C (E37 x1 y1 s1 (some (.sh (aL a))) s3 s4) (.op .add [.sl [.nm 2] [.c (.int 1)] [], .sl [.nm 2] [] [.c (.int 1)]]) (olOf ((sL a).drop 1 ++ (sL a).take 1)) := by
    have g1 : Ev C (E37 x1 y1 s1 (some (.sh (aL a))) s3 s4) (.sl [.nm 2] [.c (.int 1)] []) (olOf (Qv.cutD (sL a) (some 1) none)) := e_slc (ov_s (i := 2) rfl ov_nil) (pt_v rfl e_c) pt_nil rfl
    have g2 : Ev C (E37 x1 y1 s1 (some (.sh (aL a))) s3 s4) (.sl [.nm 2] [] [.c (.int 1)]) (olOf (Qv.cutD (sL a) none (some 1))) := e_slc (ov_s (i := 2) rfl ov_nil) pt_nil (pt_v rfl e_c) rfl
    rw [r1] at g1
    rw [r2] at g2
    refine e_op (ov_v rfl g1 flat_ol (ov_v rfl g2 flat_ol ov_nil)) (add_oo ?_)
    simp [sL]
    omega
  have e4 : Ev C (E37 x1 y1 s1 (some (.sh (aL a))) s3 s4) (.op .list1 [.nm 2]) (olOf (sL a)) := e_op (ov_s rfl ov_nil) rfl
  have r : evs C [.op .back [.nm 2], .op .add [.sl [.nm 2] [.c (.int 1)] [], .sl [.nm 2] [] [.c (.int 1)]], .op .list1 [.nm 2]] (E37 x1 y1 s1 (some (.sh (aL a))) s3 s4) = some ([olOf (sL a).reverse, olOf ((sL a).drop 1 ++ (sL a).take 1), olOf (sL a)], E37 x1 y1 s1 (some (.sh (aL a))) s3 s4) := es_cons e2 (es_cons e3 (es_cons e4 es_nil))
  have el : ev C (.lst [.call 28 [.nm 0, .call 26 [.nm 0, .c (.int 10)]], .op .back [.nm 2], .op .add [.sl [.nm 2] [.c (.int 1)] [], .sl [.nm 2] [] [.c (.int 1)]], .op .list1 [.nm 2]]) (E37 x y s1 (some (.sh (aL a))) s3 s4) =
      some (olOf [aL b0, .list (sL a).reverse, .list ((sL a).drop 1 ++ (sL a).take 1), aL a], E37 x1 y1 s1 (some (.sh (aL a))) s3 s4) := by
    rw [ev_lst, evs_cons, q1]
    simp only [Option.bind_some]
    rw [r]
    simp only [Option.bind_some, dL_cons, dL_nil, d_ol, d_sh]
    exact szd_ok (sz_le (by simp))
  obtain ⟨d, x2, y2, hd, hp2, q2⟩ := K.p.lst x1 y1 [aL b0, .list (sL a).reverse, .list ((sL a).drop 1 ++ (sL a).take 1), aL a] hp1 (by simp) (by simp)
  have hb : ∃ b, Lz b ∧ d = aL b := by
    simp only [List.mem_cons, List.not_mem_nil, or_false] at hd
    rcases hd with rfl | rfl | rfl | rfl
    · exact ⟨b0, h0, rfl⟩
    · exact lz_of (fun d m => l3 d (List.mem_reverse.mp m)) (by simp [sL]; omega)
    · exact lz_of (fun d m => (List.mem_append.mp m).elim (fun m => l3 d (List.mem_of_mem_drop m)) (fun m => l3 d (List.mem_of_mem_take m))) (by simp [sL]; omega)
    · exact ⟨a, ha, rfl⟩
  obtain ⟨b, hb, rfl⟩ := hb
  refine ⟨b, x2, y2, hb, hp2, ?_⟩
  have ld : lend [.sl 0, .tv (olOf [aL b0, .list (sL a).reverse, .list ((sL a).drop 1 ++ (sL a).take 1), aL a])] (E37 x1 y1 s1 (some (.sh (aL a))) s3 s4) = some ([pot x1 y1, olOf [aL b0, .list (sL a).reverse, .list ((sL a).drop 1 ++ (sL a).take 1), aL a]], [none, s1, some (.sh (aL a)), s3, s4]) := rfl
  unfold pick37
  rw [ev_call, evOs_nm]
  simp only [rdO, List.getElem?_cons_zero, Option.bind_some]
  rw [evOs_tv rfl, el]
  simp only [Option.bind_some, evOs_nil, ld, q2]
  rfl
theorem turn37 (K : K37 C) (hp : PotOk x y) {s1 s2 s3 s4 : Option O} : ∃ (x' y' : Int) (t2 t3 t4 : Option O), PotOk x' y' ∧ evSs C body37 (E37 x y s1 s2 s3 s4) = some (.nx (E37 x' y' s1 t2 t3 t4)) := by
  obtain ⟨a, x1, y1, ha, hp1, q1⟩ := ev_lines (C := C) (r := [s1, s2, s3, s4]) K hp
  obtain ⟨b, x2, y2, hb, hp2, q2⟩ := pick_ok (C := C) (s1 := s1) (s3 := s3) (s4 := s4) K hp1 ha
  obtain ⟨c, x3, y3, hc, hp3, q3⟩ := ev_lines (C := C) (r := [s1, some (.sh (aL a)), some (.sh (aL b)), s4]) K hp2
  obtain ⟨x4, y4, hp4, q4⟩ := K.c35 hp3 ha hb
  refine ⟨x4, y4, some (.sh (aL a)), some (.sh (aL b)), some (.sh (aL c)), hp4, ?_⟩
  have w1 : evS C (.asg (.nm 2) (.call 28 [.nm 0, .call 26 [.nm 0, .c (.int 10)]])) (E37 x y s1 s2 s3 s4) = some (.nx (E37 x1 y1 s1 (some (.sh (aL a))) s3 s4)) := by
    rw [evS_asg, q1]
    rfl
  have w2 : evS C (.asg (.nm 3) pick37) (E37 x1 y1 s1 (some (.sh (aL a))) s3 s4) = some (.nx (E37 x2 y2 s1 (some (.sh (aL a))) (some (.sh (aL b))) s4)) := by
    rw [evS_asg, q2]
    rfl
  have w3 : evS C (.asg (.nm 4) (.call 28 [.nm 0, .call 26 [.nm 0, .c (.int 10)]])) (E37 x2 y2 s1 (some (.sh (aL a))) (some (.sh (aL b))) s4) = some (.nx (E37 x3 y3 s1 (some (.sh (aL a))) (some (.sh (aL b))) (some (.sh (aL c))))) := by
    rw [evS_asg, q3]
    rfl
  have ld : lend [.sl 0, .sl 2, .sl 3] (E37 x3 y3 s1 (some (.sh (aL a))) (some (.sh (aL b))) (some (.sh (aL c)))) = some ([pot x3 y3, .sh (aL a), .sh (aL b)], [none, s1, some (.sh (aL a)), some (.sh (aL b)), some (.sh (aL c))]) := rfl
  have k1 : ev C (.call 35 [.nm 0, .nm 2, .nm 3]) (E37 x3 y3 s1 (some (.sh (aL a))) (some (.sh (aL b))) (some (.sh (aL c)))) = some (.sh (.bool true), E37 x4 y4 s1 (some (.sh (aL a))) (some (.sh (aL b))) (some (.sh (aL c)))) := by
    rw [ev_call]
    simp only [evOs_nm, evOs_nil, rdO, List.getElem?_cons_zero, List.getElem?_cons_succ, Option.bind_some, ld, q4]
    rfl
  have k2 : Ev C (E37 x4 y4 s1 (some (.sh (aL a))) (some (.sh (aL b))) (some (.sh (aL c)))) (.op .gt [.call 22 [.nm 2, .nm 4], .op .add [.call 22 [.nm 2, .nm 3], .call 22 [.nm 3, .nm 4]]]) (.sh (.bool (decide (costI a b + costI b c < costI a c)))) := by
    have u1 : Ev C (E37 x4 y4 s1 (some (.sh (aL a))) (some (.sh (aL b))) (some (.sh (aL c)))) (.call 22 [.nm 2, .nm 4]) (.sh (.int (costI a c))) := e_call (la_s rfl (la_s rfl la_nil)) (K.c22 ha.ln hc.ln)
    have u2 : Ev C (E37 x4 y4 s1 (some (.sh (aL a))) (some (.sh (aL b))) (some (.sh (aL c)))) (.call 22 [.nm 2, .nm 3]) (.sh (.int (costI a b))) := e_call (la_s rfl (la_s rfl la_nil)) (K.c22 ha.ln hb.ln)
    have u3 : Ev C (E37 x4 y4 s1 (some (.sh (aL a))) (some (.sh (aL b))) (some (.sh (aL c)))) (.call 22 [.nm 3, .nm 4]) (.sh (.int (costI b c))) := e_call (la_s rfl (la_s rfl la_nil)) (K.c22 hb.ln hc.ln)
    exact e_op (ov_d rfl u1 (ov_d rfl (e_op (o := .sh (.int (costI a b + costI b c))) (ov_d rfl u2 (ov_d rfl u3 ov_nil)) rfl) ov_nil)) (gt_ii _ _)
  have ct := cost_tri (a := a) (b := b) (c := c)
  rw [decide_eq_false (by omega)] at k2
  have cc : ev C c37 (E37 x3 y3 s1 (some (.sh (aL a))) (some (.sh (aL b))) (some (.sh (aL c)))) = some (.sh (.bool false), E37 x4 y4 s1 (some (.sh (aL a))) (some (.sh (aL b))) (some (.sh (aL c)))) := by
    have t1 : ev C (.tn (.tt (.call 35 [.nm 0, .nm 2, .nm 3]))) (E37 x3 y3 s1 (some (.sh (aL a))) (some (.sh (aL b))) (some (.sh (aL c)))) = some (.sh (.bool false), E37 x4 y4 s1 (some (.sh (aL a))) (some (.sh (aL b))) (some (.sh (aL c)))) := by
      rw [ev_tn, ev_tt rfl, k1]
      simp [truth, shB]
    unfold c37
    rw [ev_or, t1, onB_f]
    exact k2
  have w4 : evS C (.ite c37 [.ret (.c (.bool false))] []) (E37 x3 y3 s1 (some (.sh (aL a))) (some (.sh (aL b))) (some (.sh (aL c)))) = some (.nx (E37 x4 y4 s1 (some (.sh (aL a))) (some (.sh (aL b))) (some (.sh (aL c))))) := by
    rw [if_ff cc, evSs_nil]
  exact (seq1 w1).trans ((seq1 w2).trans ((seq1 w3).trans ((seq1 w4).trans evSs_nil)))
theorem loop37 (K : K37 C) : ∀ (xs : List O) (x y : Int) (s1 s2 s3 s4 : Option O), PotOk x y → ∃ (x' y' : Int) (t1 t2 t3 t4 : Option O), PotOk x' y' ∧
    frGo (fun x ρ2 => (bindTg (.nm 1) x ρ2).bind fun ρ3 => evSs C body37 ρ3) xs (E37 x y s1 s2 s3 s4) = some (.nx (E37 x' y' t1 t2 t3 t4))
  | [], x, y, s1, s2, s3, s4, hp => ⟨x, y, s1, s2, s3, s4, hp, rfl⟩
  | o :: xs, x, y, s1, s2, s3, s4, hp => by
    obtain ⟨x1, y1, t2, t3, t4, hp1, q⟩ := turn37 (C := C) (s1 := some o) (s2 := s2) (s3 := s3) (s4 := s4) K hp
    obtain ⟨x2, y2, u1, u2, u3, u4, hp2, q2⟩ := loop37 K xs x1 y1 (some o) t2 t3 t4 hp1
    refine ⟨x2, y2, u1, u2, u3, u4, hp2, ?_⟩
    have bt : bindTg (.nm 1) o (E37 x y s1 s2 s3 s4) = some (E37 x y (some o) s2 s3 s4) := by simp [bindTg]
    simp only [frGo, bt, Option.bind_some, q]
    exact q2
theorem body37_all (K : K37 C) (hp : PotOk x y) : ∃ (x' y' : Int) (ρ : Qv.Env), evSs C f37.body (E37 x y none none none none) = some (.rt (.sh (.bool true)) ρ) ∧ heldAll 0 [] [pot x y] ρ = some [pot x' y'] := by
  obtain ⟨x', y', t1, t2, t3, t4, _, q⟩ := loop37 K ((List.range 3).map fun (n : Nat) => shI (0 + (n : Int))) x y none none none none hp
  refine ⟨x', y', E37 x' y' t1 t2 t3 t4, ?_, rfl⟩
  have w : walk .rng [.sh (O.sh (.int 3)).d] = some ((List.range 3).map fun (n : Nat) => shI (0 + (n : Int))) := by simp [walk, gd]
  have s2 : evS C (.fr (.nm 1) .rng [.c (.int 3)] body37) (E37 x y none none none none) = some (.nx (E37 x' y' t1 t2 t3 t4)) := by
    rw [evS_fr]
    simp only [evs_cons, evs_nil, ev_c, Option.bind_some, List.map_cons, List.map_nil]
    rw [w]
    exact q
  rw [f37_body]
  have n1 : Ev C (E37 x y none none none none) (.tn (.tt (.call 36 []))) (.sh (.bool false)) := e_tn (x := true) (e_tt rfl (e_call la_nil K.c36))
  refine (s_iff n1).trans ((seq1 s2).trans ?_)
  exact s_ret e_c
end
theorem math : ∀ x y : Int, 0 ≤ x → 1 ≤ y → y ≤ 4294967296 → ∃ o2, runF (rows.map (·.2.2)) 25 37 [.ol [shI x, shI y]] = some (.sh (.bool true), [o2]) := fun x y h1 h2 h3 => by
  obtain ⟨x', y', ρ, q, hh⟩ := body37_all (k37 (k := 24) (by omega)) (x := x) (y := y) ⟨h1, by omega, h3⟩
  exact ⟨pot x' y', run_rt (fd := f37) rfl rfl q hh⟩
end L83
end
section
set_option Elab.async false
set_option linter.all false
set_option maxRecDepth 100000
set_option maxHeartbeats 0
namespace L83
open PySem PySem.Spec PyProof.Rows L2 Qv
theorem all_ok : allB top pg rows = true := by decide +kernel
theorem all_hb : AllHB top (pg.fs.zip rows) :=
  ⟨fun _ _ _ _ _ _ us hl => match us, hl with | [_], _ => rfl, fun _ _ _ _ _ _ us hl => match us, hl with | [_], _ => rfl, fun _ _ _ _ _ _ us hl => match us, hl with | [_], _ => rfl, fun _ _ _ _ _ _ us hl => match us, hl with | [_, _], _ => rfl, fun _ _ _ _ _ _ us hl => match us, hl with | [_], _ => rfl, fun _ _ _ _ _ _ us hl => match us, hl with | [_], _ => rfl, fun _ _ _ _ _ _ us hl => match us, hl with | [_], _ => rfl, fun _ _ _ _ _ _ us hl => match us, hl with | [_, _], _ => rfl, fun _ _ _ _ _ _ us hl => match us, hl with | [_], _ => rfl, fun _ _ _ _ _ _ us hl => match us, hl with | [_], _ => rfl, fun _ _ _ _ _ _ us hl => match us, hl with | [_, _], _ => rfl, fun _ _ _ _ _ _ us hl => match us, hl with | [_, _], _ => rfl, fun _ _ _ _ _ _ us hl => match us, hl with | [_], _ => rfl, fun _ _ _ _ _ _ us hl => match us, hl with | [_, _], _ => rfl, fun _ _ _ _ _ _ us hl => match us, hl with | [_, _], _ => rfl, fun _ _ _ _ _ _ us hl => match us, hl with | [_], _ => rfl, fun _ _ _ _ _ _ us hl => match us, hl with | [_, _], _ => rfl, fun _ _ _ _ _ _ us hl => match us, hl with | [_, _, _], _ => rfl, fun _ _ _ _ _ _ us hl => match us, hl with | [_, _], _ => rfl, fun _ _ _ _ _ _ us hl => match us, hl with | [_, _, _], _ => rfl, fun _ _ _ _ _ _ us hl => match us, hl with | [_, _], _ => rfl, fun _ _ _ _ _ _ us hl => match us, hl with | [_, _], _ => rfl, fun _ _ _ _ _ _ us hl => match us, hl with | [_, _], _ => rfl, fun _ _ _ _ _ _ us hl => match us, hl with | [_, _], _ => rfl, fun _ _ _ _ _ _ us hl => match us, hl with | [_, _], _ => rfl, fun _ _ _ _ _ _ us hl => match us, hl with | [_, _, _], _ => rfl, fun _ _ _ _ _ _ us hl => match us, hl with | [_, _], _ => rfl, fun _ _ _ _ _ _ us hl => match us, hl with | [_, _], _ => rfl, fun _ _ _ _ _ _ us hl => match us, hl with | [_, _], _ => rfl, fun _ _ _ _ _ _ us hl => match us, hl with | [_, _], _ => rfl, fun _ _ _ _ _ _ us hl => match us, hl with | [_, _], _ => rfl, fun _ _ _ _ _ _ us hl => match us, hl with | [_], _ => rfl, fun _ _ _ _ _ _ us hl => match us, hl with | [_, _], _ => rfl, fun _ _ _ _ _ _ us hl => match us, hl with | [_, _, _], _ => rfl, fun _ _ _ _ _ _ us hl => match us, hl with | [_, _], _ => rfl, fun _ _ _ _ _ _ us hl => match us, hl with | [_, _, _], _ => rfl, fun _ _ _ _ _ _ us hl => match us, hl with | [], _ => rfl, fun _ _ _ _ _ _ us hl => match us, hl with | [_], _ => rfl, trivial⟩
theorem all_hk : AllHK top pg rows pg.kw :=
  ⟨fun p hp => by cases hp; exact fun _ _ _ _ _ _ us ws h1 h2 => match us, ws, h1, h2 with | [], [_, _], _, _ => rfl, fun p hp => by cases hp; exact fun _ _ _ _ _ _ us ws h1 h2 => match us, ws, h1, h2 with | [], [_, _], _, _ => rfl, fun p hp => by cases hp; exact fun _ _ _ _ _ _ us ws h1 h2 => match us, ws, h1, h2 with | [], [_, _], _, _ => rfl, fun p hp => by cases hp; exact fun _ _ _ _ _ _ us ws h1 h2 => match us, ws, h1, h2 with | [], [_, _, _], _, _ => rfl, fun p hp => by cases hp; exact fun _ _ _ _ _ _ us ws h1 h2 => match us, ws, h1, h2 with | [], [_, _], _, _ => rfl, trivial⟩
abbrev sPot : Stmt := top 41
abbrev sLaw : Stmt := top 54
def fx : List He.Fa := [.glo "_law_pot", .glo "law"]
def gx : List He.DefD := [mkD "_law_pot" sPot, mkD "law" sLaw]
def fa : List He.Fa := faL pg ++ fx
def fn : List He.DefD := fnL top pg rows ++ gx
abbrev R : PySem.W.OpenRow := PySem.W.OpenLaw.row PySem.Challenge.rw_formscountry_k83_any_value_as_patch_or_l
abbrev hk : PySem.W.Hook := He.hookD 4 fa fn
def ob (s : PySem.W.SharedT) : He.AlD := He.obsDG 4 fa fn (HandSHeadRun.getT s)
theorem ob_eq (s : PySem.W.SharedT) : ob s = hk.obs s.abs := He.obsDG_eq (HandSHeadRun.getT_eq s)
def nmsC0 : List PySem.Str := ["is_integer", "is_count", "is_list", "is_tuple", "FormError", "InvalidOther", "InvalidLines", "InvalidPatch", "KEEP", "TAKE", "PUT", "LEAST", "MOST_LINES", "MOST_LINE", "MOST_EDITS", "is_line_any", "are_lines_any", "is_edit_any", "is_patch_of", "want_lines", "want_other_lines", "want_patch", "trace_of", "edits_put_together", "patch_of_trace", "lines_patched", "cost_of_patch", "table_of_common", "trace_by_table", "patch_least"]
def nmsC1 : List PySem.Str := ["is_common_table", "is_patch", "patched", "cost_between", "least_patch", "least_paper", "is_least_paper", "_law_pot", "_law_draw", "_law_pick", "_law_lines_drawn", "_law_common", "_law_is_count", "_law_is_line", "_law_patch_look", "_law_is_paper", "_law_bends", "_law_paper_right", "_law_edges_right", "_law_right"]
def nmsAll : List PySem.Str := nmsC0 ++ nmsC1
theorem run (w : World) : HandSHeadRun.RunEq R (PySem.W.view R.prog [54]) hk ob 4000 nmsAll w := by
  intro os
  kernel_rfl
theorem scP : FnScope ["script", "k", "cell"] ["script", "k"] (defScope sPot) := fsB_ok (by decide +kernel)
theorem scL : FnScope ["script", "k"] ["script"] (defScope sLaw) := fsB_ok (by decide +kernel)
theorem facts {P : Program} {w : World} {K : PySem.W.Frag} {h : Heap} {mg : Str → Option Value} {f : Addr} (X : K.In h) (G : h.Ns mainGlobals mg) (hfa : mg ("law" : Str) = some (.ref f)) (c : He.SaysD fa fn K) :
    ∃ fd : FuncData, (∀ (s : Shared) (v : Value), BindsTo s fd ⟨[v], []⟩ [("script", v)]) ∧ ∀ base : Heap, K.In base → base.Ns mainGlobals mg → FnG P w K mg base 26 f fd ["script"] (spLaw K) := by
  obtain ⟨fA, fD, ax⟩ := ax_of X G (fa := fx) (fn := gx) c all_ok all_hb all_hk
  have mP := He.glo_ok X G (x := "_law_pot") (fact_mem c (List.mem_append_right _ List.mem_cons_self))
  have mL := He.glo_ok X G (x := "law") (fact_mem c (List.mem_append_right _ (List.mem_cons_of_mem _ List.mem_cons_self)))
  have e := hfa.symm.trans mL
  cases e
  obtain ⟨oc, od, kV, doc, pm, an, cdv, ct, osl, lk, hcd, kp⟩ := mk_fun c (x := "_law_pot") (st := sPot) (List.mem_append_right _ List.mem_cons_self)
  obtain ⟨oc2, od2, kV2, doc2, pm2, an2, cdv2, ct2, osl2, lk2, hcd2, kp2⟩ := mk_fun c (x := "law") (st := sLaw) (List.mem_append_right _ (List.mem_cons_of_mem _ List.mem_cons_self))
  refine ⟨_, fun s v => .of_eq (fd := PySem.W.fnOf "law" "law" (defArgs sLaw) (defBody sLaw) (defScope sLaw) .none kV2 doc2 pm2 an2 cdv2 ct2) rfl, fun base _ _ => ?_⟩
  have potLen : ∀ vs H Q E, spPot K vs H Q E → vs.length = 2 := fun vs H Q E q => by
    obtain ⟨a, ns, k, rfl, _⟩ := q
    rfl
  have FP : FnG P w K mg base 25 (He.ga K "_law_pot") _ ["script", "k"] (spPot K) := fnG_body lk hcd scP potLen fun A outer s H vs Q E hr hg hsp =>
    (pot_body (X := cxF P w K mg base ["script", "k", "cell"] "_law_pot" (defScope sPot) (He.ga K "_law_pot") cdv A outer s H) (sc := defScope sPot) rfl rfl rfl (by decide +kernel) (by decide +kernel) (by decide +kernel) (by decide +kernel) (by decide +kernel) (by decide +kernel) (by decide +kernel)
      ax.blt (by decide) (by decide) (by decide) (by decide) (by decide)).imp fun t ht => ⟨ht.1, ht.2 vs H Q E hsp⟩
  obtain ⟨mR, kR, bR, _, _⟩ := ax.fs 37 "_law_right" ["pot"] rfl
  have FR := all_fn (P := P) (w := w) (base := base) ax 25 37 "_law_right" ["pot"] rfl
  refine fnG_body (sp := spLaw K) lk2 hcd2 scL (fun vs H Q E q => ?_) fun A outer s H vs Q E hr hg hsp => ?_
  · obtain ⟨a, ns, rfl, _⟩ := q
    rfl
  · exact (law_body (X := cxF P w K mg base ["script", "k"] "law" (defScope sLaw) (He.ga K "law") cdv2 A outer s H) (sc := defScope sLaw) rfl rfl rfl hr hg (by decide +kernel) (by decide +kernel) (by decide +kernel) (by decide +kernel) (by decide +kernel) (by decide +kernel) (by decide +kernel) (by decide +kernel) (by decide +kernel)
      (by decide +kernel) (by decide +kernel) ax.blt FR mR kR bR FP mP kp (fun s us l => .of_eq (match us, l with | [_, _], _ => rfl)) math (by decide) (by decide)).imp fun t ht => ⟨ht.1, ht.2 vs H Q E hsp⟩
end L83
open PySem PySem.W PySem.Calls PyProof.Rows
theorem PySem.Challenge.cw_formscountry_k83_any_value_as_patch_or_l_holds : PySem.Challenge.rw_formscountry_k83_any_value_as_patch_or_l.Holds := by
  w_on; o_law
  refine HandSHeadRun.head_any (r := OpenLaw.row PySem.Challenge.rw_formscountry_k83_any_value_as_patch_or_l) (q := view (OpenLaw.row PySem.Challenge.rw_formscountry_k83_any_value_as_patch_or_l).prog [54]) (H := L83.hk) (ob := L83.ob) (M := 4000) (loose := L83.nmsAll) (d := HandSHeadRun.topDef (OpenLaw.row PySem.Challenge.rw_formscountry_k83_any_value_as_patch_or_l).prog 54) (kwd := []) L83.ob_eq
    (by kernel_rfl) (fun s => by kernel_rfl) L83.run (by kernel_rfl) (by kernel_rfl) (by kernel_rfl) (by rfl) (by first | assumption | decide +kernel) (by decide +kernel) ⟨rfl, rfl, rfl, rfl, rfl, by decide +kernel⟩ ?hw ?hc
  case hw => w_witness2
  case hc =>
    refine Qv.walk_ofG (l := PySem.Challenge.rw_formscountry_k83_any_value_as_patch_or_l) (n := 63) (k := 26) (x := "script") rfl (by decide) (by kernel_rfl) ⟨rfl, by decide, by decide⟩ ?F
    intro w mg fa h Y G hmg0
    obtain ⟨K, KX, c⟩ := Y
    have hmg : mg ("law" : PySem.Str) = some (.ref fa) := by
      have e : (HandSHeadRun.topDef (OpenLaw.row PySem.Challenge.rw_formscountry_k83_any_value_as_patch_or_l).prog 54).name = ("law" : PySem.Str) := by kernel_rfl
      rw [← e]
      exact hmg0
    obtain ⟨fd, hb, hF⟩ := L83.facts (P := (PySem.Challenge.rw_formscountry_k83_any_value_as_patch_or_l).prog) (w := w) KX G hmg c
    exact ⟨K, fd, Qv.spLaw K, KX, hb, fun H a ns hl _ hO hS => ⟨a, ns, rfl, Qv.Scr.of hO hS, hl, fun _ => rfl⟩, hF⟩
end
