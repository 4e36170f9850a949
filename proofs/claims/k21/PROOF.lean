import PyProof.Rows.All
import Wide.All
import OpenK.AllK
import Wide.FinOn
import HandS.ForMost
import HandS.Wide
import HandS.IsInst
import HandS.Flow
import HandS.Walk
import HandS.Exc
import HandS.WordsExc
import HandS.ExcInit
import HandS.Zip
import HandS.Small
import HandS.More
import HandS.Style
import HandS.WideBits
import HandS.TupAny
import HandS.TupLen
import PyProof.ReprRoads
import PyProof.CallFns
import HandS.EndBits
import KE.GoesMore
import PyProof.Draws
import HandS.TryMany
import PyProof.Rows.FactsN_abs
import PyProof.Rows.FactsN_isinstance
import PyProof.Rows.FactsT3
import KE.GoesZip
import PyProof.ReprLen
import KE.DataEq
import KE.KDictPairs
import KE.KEqDict
import KE.KDictDisplayH
import KE.KDictWalk
import KE.DataMinMax
import KE.SortData
import PySem.Challenge.RW_curvemeets_k21_any_value_as_plane_and_ch
set_option Elab.async false
set_option linter.all false
set_option maxRecDepth 100000
set_option maxHeartbeats 4000000
namespace PL
open PySem PySem.Spec PyProof.Rows L2

/-- plain data, what a value stands for -/
inductive D where
  | non | bl (b : Bool) | int (i : Int) | str (s : Str) | tup (l : List D) | lst (l : List D)
  | dct (l : List (Key × D)) | dcT (l : List (List Key × D)) | dcL (l : List (List Key × D)) | ro (l : List Int) | opq (v : V)
/-- what a slot holds: plain data, or a list (a dict) that nobody else holds -/
inductive C where
  | frz (d : D) | own (l : List C) | ownD (l : List (Key × D)) | ownT (l : List (List Key × D))
mutual
def C.toD : C → D
  | .frz d => d
  | .own l => .lst (C.toDs l)
  | .ownD l => .dct l
  | .ownT l => .dcT l
def C.toDs : List C → List D
  | [] => []
  | c :: r => C.toD c :: C.toDs r
end
theorem toDs_map : ∀ l : List C, C.toDs l = l.map C.toD
  | [] => rfl
  | c :: r => by rw [C.toDs, toDs_map r]; rfl
theorem toDs_frz (l : List D) : C.toDs (l.map C.frz) = l := by
  induction l with
  | nil => rfl
  | cons d r ih => rw [List.map_cons, C.toDs, ih, C.toD]

def RoK (K : PySem.W.Frag) (a : Addr) (xs : List V) : Prop :=
  ∃ (o : Obj) (its : Array Value) (n : Nat), K.lookup a = some o ∧ o.cls = .type "list" ∧ o.dict = none ∧ o.data = .seq its n ∧ its.size ≤ sizeLine ∧ Vals xs its.toList
section
variable (K : PySem.W.Frag) (W : Addr → Prop) (H : Hp)
mutual
/-- v stands for d; no object of it lies in W -/
def Is : D → V → Prop
  | .non, v => v = .non
  | .bl b, v => v = .bl b
  | .int i, v => v = .int i
  | .str s, v => v = .str s
  | .tup l, v => ∃ a xs, v = .ref a ∧ H a = some (.tup xs) ∧ ¬ W a ∧ IsL l xs
  | .lst l, v => ∃ a xs, v = .ref a ∧ H a = some (.lst xs) ∧ ¬ W a ∧ IsL l xs
  | .dct l, v => ∃ a kvs, v = .ref a ∧ H a = some (.dK kvs) ∧ ¬ W a ∧ IsP l kvs
  | .dcT l, v => ∃ a kvs, v = .ref a ∧ H a = some (.dT kvs) ∧ ¬ W a ∧ IsQ l kvs
  | .dcL l, v => ∃ a o kvs, v = .ref a ∧ H a = some (.frz o (.dT kvs)) ∧ ¬ W a ∧ IsQ l kvs
  | .ro l, v => ∃ a, v = .ref a ∧ ((Rd H a (.lst (l.map V.int)) ∧ ¬ W a) ∨ RoK K a (l.map V.int))
  | .opq u, v => v = u
def IsL : List D → List V → Prop
  | [], xs => xs = []
  | d :: r, xs => ∃ x ys, xs = x :: ys ∧ Is d x ∧ IsL r ys
def IsP : List (Key × D) → List (Key × V) → Prop
  | [], xs => xs = []
  | (k, d) :: r, xs => ∃ x ys, xs = (k, x) :: ys ∧ Is d x ∧ IsP r ys
def IsQ : List (List Key × D) → List (List Key × V) → Prop
  | [], xs => xs = []
  | (k, d) :: r, xs => ∃ x ys, xs = (k, x) :: ys ∧ Is d x ∧ IsQ r ys
end
end

section
variable {K : PySem.W.Frag} {W W' : Addr → Prop} {H H' : Hp}
/-- what was outside W stands, and is outside W' -/
def Kp (W : Addr → Prop) (H : Hp) (W' : Addr → Prop) (H' : Hp) : Prop := ∀ a o, ¬ W a → H a = some o → H' a = some o ∧ ¬ W' a
theorem Kp.refl : Kp W H W H := fun _ _ w h => ⟨h, w⟩
theorem Kp.trans {W'' H''} (p : Kp W H W' H') (q : Kp W' H' W'' H'') : Kp W H W'' H'' := fun a o w h => q a o (p a o w h).2 (p a o w h).1
theorem Kp.less (h : ∀ a, W' a → W a) : Kp W H W' H := fun a _ w e => ⟨e, fun z => w (h a z)⟩
mutual
theorem Is.kp (p : Kp W H W' H') : ∀ (d : D) (v : V), Is K W H d v → Is K W' H' d v
  | .non, v, h => h
  | .bl b, v, h => h
  | .int i, v, h => h
  | .str s, v, h => h
  | .opq u, v, h => h
  | .tup l, v, h => by
    obtain ⟨a, xs, e, ha, w, r⟩ := h
    exact ⟨a, xs, e, (p a _ w ha).1, (p a _ w ha).2, IsL.kp p l xs r⟩
  | .lst l, v, h => by
    obtain ⟨a, xs, e, ha, w, r⟩ := h
    exact ⟨a, xs, e, (p a _ w ha).1, (p a _ w ha).2, IsL.kp p l xs r⟩
  | .dct l, v, h => by
    obtain ⟨a, xs, e, ha, w, r⟩ := h
    exact ⟨a, xs, e, (p a _ w ha).1, (p a _ w ha).2, IsP.kp p l xs r⟩
  | .dcT l, v, h => by
    obtain ⟨a, xs, e, ha, w, r⟩ := h
    exact ⟨a, xs, e, (p a _ w ha).1, (p a _ w ha).2, IsQ.kp p l xs r⟩
  | .dcL l, v, h => by
    obtain ⟨a, o, xs, e, ha, w, r⟩ := h
    exact ⟨a, o, xs, e, (p a _ w ha).1, (p a _ w ha).2, IsQ.kp p l xs r⟩
  | .ro l, v, h => by
    obtain ⟨a, e, h⟩ := h
    refine ⟨a, e, ?_⟩
    rcases h with ⟨h, w⟩ | h
    · rcases h with h | ⟨o, h⟩
      · exact .inl ⟨.inl (p a _ w h).1, (p a _ w h).2⟩
      · exact .inl ⟨.inr ⟨o, (p a _ w h).1⟩, (p a _ w h).2⟩
    · exact .inr h
theorem IsL.kp (p : Kp W H W' H') : ∀ (l : List D) (xs : List V), IsL K W H l xs → IsL K W' H' l xs
  | [], xs, h => h
  | d :: r, xs, h => by
    obtain ⟨x, ys, e, h1, h2⟩ := h
    exact ⟨x, ys, e, Is.kp p d x h1, IsL.kp p r ys h2⟩
theorem IsP.kp (p : Kp W H W' H') : ∀ (l : List (Key × D)) (xs : List (Key × V)), IsP K W H l xs → IsP K W' H' l xs
  | [], xs, h => h
  | (k, d) :: r, xs, h => by
    obtain ⟨x, ys, e, h1, h2⟩ := h
    exact ⟨x, ys, e, Is.kp p d x h1, IsP.kp p r ys h2⟩
theorem IsQ.kp (p : Kp W H W' H') : ∀ (l : List (List Key × D)) (xs : List (List Key × V)), IsQ K W H l xs → IsQ K W' H' l xs
  | [], xs, h => h
  | (k, d) :: r, xs, h => by
    obtain ⟨x, ys, e, h1, h2⟩ := h
    exact ⟨x, ys, e, Is.kp p d x h1, IsQ.kp p r ys h2⟩
end
theorem IsL.length : ∀ {l : List D} {xs : List V}, IsL K W H l xs → xs.length = l.length
  | [], xs, h => by rw [show xs = [] from h]; rfl
  | d :: r, xs, h => by
    obtain ⟨x, ys, e, h1, h2⟩ := h
    rw [e, List.length_cons, List.length_cons, IsL.length h2]
theorem IsL.get : ∀ {l : List D} {xs : List V} {i : Nat} {d : D}, IsL K W H l xs → l[i]? = some d → ∃ x, xs[i]? = some x ∧ Is K W H d x
  | [], xs, i, d, h, e => by simp at e
  | d :: r, xs, 0, d', h, e => by
    obtain ⟨x, ys, e1, h1, h2⟩ := h
    simp at e; subst e
    exact ⟨x, by rw [e1]; rfl, h1⟩
  | d :: r, xs, i + 1, d', h, e => by
    obtain ⟨x, ys, e1, h1, h2⟩ := h
    obtain ⟨y, e2, h3⟩ := IsL.get (i := i) h2 (by simpa using e)
    exact ⟨y, by rw [e1]; simpa using e2, h3⟩
theorem IsL.append : ∀ {l l' : List D} {xs ys : List V}, IsL K W H l xs → IsL K W H l' ys → IsL K W H (l ++ l') (xs ++ ys)
  | [], l', xs, ys, h, h' => by rw [show xs = [] from h]; exact h'
  | d :: r, l', xs, ys, h, h' => by
    obtain ⟨x, zs, e1, h1, h2⟩ := h
    exact ⟨x, zs ++ ys, by rw [e1]; rfl, h1, IsL.append h2 h'⟩
theorem IsL.take : ∀ {l : List D} {xs : List V} (n : Nat), IsL K W H l xs → IsL K W H (l.take n) (xs.take n)
  | l, xs, 0, h => by simp [IsL]
  | [], xs, n + 1, h => by rw [show xs = [] from h]; simp [IsL]
  | d :: r, xs, n + 1, h => by
    obtain ⟨x, zs, e1, h1, h2⟩ := h
    rw [e1]
    exact ⟨x, zs.take n, rfl, h1, IsL.take n h2⟩
theorem IsL.drop : ∀ {l : List D} {xs : List V} (n : Nat), IsL K W H l xs → IsL K W H (l.drop n) (xs.drop n)
  | l, xs, 0, h => h
  | [], xs, n + 1, h => by rw [show xs = [] from h]; simp [IsL]
  | d :: r, xs, n + 1, h => by
    obtain ⟨x, zs, e1, h1, h2⟩ := h
    rw [e1]
    exact IsL.drop n h2
theorem IsL.rep {l : List D} {xs : List V} (h : IsL K W H l xs) : ∀ n : Nat, IsL K W H (List.replicate n l).flatten (List.replicate n xs).flatten
  | 0 => by simp [IsL]
  | n + 1 => by
    rw [List.replicate_succ, List.replicate_succ, List.flatten_cons, List.flatten_cons]
    exact h.append (IsL.rep h n)
theorem IsL.set {d : D} {x : V} (h : Is K W H d x) : ∀ {l : List D} {xs : List V} (i : Nat), IsL K W H l xs → IsL K W H (l.set i d) (xs.set i x)
  | [], xs, i, r => by rw [show xs = [] from r]; simp [IsL]
  | e :: r, xs, 0, q => by
    obtain ⟨y, zs, e1, h1, h2⟩ := q
    rw [e1]
    exact ⟨x, zs, rfl, h, h2⟩
  | e :: r, xs, i + 1, q => by
    obtain ⟨y, zs, e1, h1, h2⟩ := q
    rw [e1]
    exact ⟨y, zs.set i x, rfl, h1, IsL.set h i h2⟩
theorem IsL.ints : ∀ (l : List Int), IsL K W H (l.map D.int) (l.map V.int)
  | [] => rfl
  | i :: r => ⟨.int i, r.map V.int, rfl, rfl, IsL.ints r⟩
theorem IsL.of_ints : ∀ {l : List Int} {xs : List V}, IsL K W H (l.map D.int) xs → xs = l.map V.int
  | [], xs, h => h
  | i :: r, xs, h => by
    obtain ⟨x, ys, e, h1, h2⟩ := h
    rw [e, show x = V.int i from h1, IsL.of_ints h2]; rfl
end

/-- a thing that can change -/
abbrev MHO := {u : HO // Mut (some u)}
/-! ### cells -/
section
variable (K : PySem.W.Frag) (W : Addr → Prop) (H : Hp)
mutual
/-- v stands for the cell c; A: the objects that c alone holds -/
def RepC : C → V → List Addr → Prop
  | .frz d, v, A => A = [] ∧ Is K W H d v
  | .own l, v, A => ∃ a xs B, v = .ref a ∧ A = a :: B ∧ H a = some (.lst xs) ∧ RepL l xs B
  | .ownD l, v, A => ∃ a kvs, v = .ref a ∧ A = [a] ∧ H a = some (.dK kvs) ∧ IsP K W H l kvs
  | .ownT l, v, A => ∃ a kvs, v = .ref a ∧ A = [a] ∧ H a = some (.dT kvs) ∧ IsQ K W H l kvs
def RepL : List C → List V → List Addr → Prop
  | [], xs, A => xs = [] ∧ A = []
  | c :: r, xs, A => ∃ x ys B B', xs = x :: ys ∧ A = B ++ B' ∧ RepC c x B ∧ RepL r ys B'
end
end
section
variable {K : PySem.W.Frag} {W W' : Addr → Prop} {H H' : Hp}
mutual
/-- carried over: frozen parts by p, its own objects stand -/
theorem RepC.kp (p : Kp W H W' H') : ∀ (c : C) (v : V) (A : List Addr), (∀ a ∈ A, ∀ o, H a = some o → H' a = some o) → RepC K W H c v A → RepC K W' H' c v A
  | .frz d, v, A, _, h => ⟨h.1, Is.kp p d v h.2⟩
  | .own l, v, A, q, h => by
    obtain ⟨a, xs, B, e, eA, ha, r⟩ := h
    subst eA
    exact ⟨a, xs, B, e, rfl, q a (by simp) _ ha, RepL.kp p l xs B (fun b hb => q b (by simp [hb])) r⟩
  | .ownD l, v, A, q, h => by
    obtain ⟨a, xs, e, eA, ha, r⟩ := h
    subst eA
    exact ⟨a, xs, e, rfl, q a (by simp) _ ha, IsP.kp p l xs r⟩
  | .ownT l, v, A, q, h => by
    obtain ⟨a, xs, e, eA, ha, r⟩ := h
    subst eA
    exact ⟨a, xs, e, rfl, q a (by simp) _ ha, IsQ.kp p l xs r⟩
theorem RepL.kp (p : Kp W H W' H') : ∀ (l : List C) (xs : List V) (A : List Addr), (∀ a ∈ A, ∀ o, H a = some o → H' a = some o) → RepL K W H l xs A → RepL K W' H' l xs A
  | [], xs, A, _, h => h
  | c :: r, xs, A, q, h => by
    obtain ⟨x, ys, B, B', e, eA, h1, h2⟩ := h
    subst eA
    exact ⟨x, ys, B, B', e, rfl, RepC.kp p c x B (fun a ha => q a (by simp [ha])) h1, RepL.kp p r ys B' (fun a ha => q a (by simp [ha])) h2⟩
end
mutual
/-- a cell read as plain data: its objects are given up -/
theorem RepC.is (hw : ∀ a, W' a → W a) : ∀ (c : C) (v : V) (A : List Addr), (∀ a ∈ A, ¬ W' a) → RepC K W H c v A → Is K W' H c.toD v
  | .frz d, v, A, _, h => Is.kp (Kp.less hw) d v h.2
  | .own l, v, A, q, h => by
    obtain ⟨a, xs, B, e, eA, ha, r⟩ := h
    subst eA
    exact ⟨a, xs, e, ha, q a (by simp), RepL.is hw l xs B (fun b hb => q b (by simp [hb])) r⟩
  | .ownD l, v, A, q, h => by
    obtain ⟨a, xs, e, eA, ha, r⟩ := h
    subst eA
    exact ⟨a, xs, e, ha, q a (by simp), IsP.kp (Kp.less hw) l xs r⟩
  | .ownT l, v, A, q, h => by
    obtain ⟨a, xs, e, eA, ha, r⟩ := h
    subst eA
    exact ⟨a, xs, e, ha, q a (by simp), IsQ.kp (Kp.less hw) l xs r⟩
theorem RepL.is (hw : ∀ a, W' a → W a) : ∀ (l : List C) (xs : List V) (A : List Addr), (∀ a ∈ A, ¬ W' a) → RepL K W H l xs A → IsL K W' H (C.toDs l) xs
  | [], xs, A, _, h => h.1
  | c :: r, xs, A, q, h => by
    obtain ⟨x, ys, B, B', e, eA, h1, h2⟩ := h
    subst eA
    exact ⟨x, ys, e, RepC.is hw c x B (fun a ha => q a (by simp [ha])) h1, RepL.is hw r ys B' (fun a ha => q a (by simp [ha])) h2⟩
end
mutual
/-- its objects are tracked -/
theorem RepC.trk : ∀ (c : C) (v : V) (A : List Addr), RepC K W H c v A → ∀ a ∈ A, ∃ o : MHO, H a = some o.1
  | .frz d, v, A, h => by rw [h.1]; simp
  | .own l, v, A, h => by
    obtain ⟨a, xs, B, e, eA, ha, r⟩ := h
    subst eA
    intro b hb
    rcases List.mem_cons.mp hb with z | z
    · exact ⟨⟨.lst xs, True.intro⟩, z ▸ ha⟩
    · exact RepL.trk l xs B r b z
  | .ownD l, v, A, h => by
    obtain ⟨a, xs, e, eA, ha, r⟩ := h
    subst eA
    intro b hb
    rw [List.mem_singleton.mp hb]
    exact ⟨⟨.dK xs, True.intro⟩, ha⟩
  | .ownT l, v, A, h => by
    obtain ⟨a, xs, e, eA, ha, r⟩ := h
    subst eA
    intro b hb
    rw [List.mem_singleton.mp hb]
    exact ⟨⟨.dT xs, True.intro⟩, ha⟩
theorem RepL.trk : ∀ (l : List C) (xs : List V) (A : List Addr), RepL K W H l xs A → ∀ a ∈ A, ∃ o : MHO, H a = some o.1
  | [], xs, A, h => by rw [h.2]; simp
  | c :: r, xs, A, h => by
    obtain ⟨x, ys, B, B', e, eA, h1, h2⟩ := h
    subst eA
    intro b hb
    rcases List.mem_append.mp hb with z | z
    · exact RepC.trk c x B h1 b z
    · exact RepL.trk r ys B' h2 b z
end
theorem RepL.append : ∀ {l l' : List C} {xs ys : List V} {A B : List Addr}, RepL K W H l xs A → RepL K W H l' ys B → RepL K W H (l ++ l') (xs ++ ys) (A ++ B)
  | [], l', xs, ys, A, B, h, h' => by rw [h.1, h.2]; exact h'
  | c :: r, l', xs, ys, A, B, h, h' => by
    obtain ⟨x, zs, A1, A2, e1, e2, h1, h2⟩ := h
    exact ⟨x, zs ++ ys, A1, A2 ++ B, by rw [e1]; rfl, by rw [e2, List.append_assoc], h1, RepL.append h2 h'⟩
theorem RepL.one {c : C} {x : V} {A : List Addr} (h : RepC K W H c x A) : RepL K W H [c] [x] A := ⟨x, [], A, [], rfl, by simp, h, rfl, rfl⟩
theorem RepL.length : ∀ {l : List C} {xs : List V} {A : List Addr}, RepL K W H l xs A → xs.length = l.length
  | [], xs, A, h => by rw [h.1]; rfl
  | c :: r, xs, A, h => by
    obtain ⟨x, zs, A1, A2, e1, e2, h1, h2⟩ := h
    rw [e1, List.length_cons, List.length_cons, RepL.length h2]
theorem RepL.frz : ∀ {l : List D} {xs : List V}, IsL K W H l xs → RepL K W H (l.map C.frz) xs []
  | [], xs, h => ⟨h, rfl⟩
  | d :: r, xs, h => by
    obtain ⟨x, ys, e, h1, h2⟩ := h
    exact ⟨x, ys, [], [], e, rfl, ⟨rfl, h1⟩, RepL.frz h2⟩
/-- split at a place -/
theorem RepL.at : ∀ {l : List C} {xs : List V} {A : List Addr} {i : Nat} {c : C}, RepL K W H l xs A → l[i]? = some c →
    ∃ x A1 A2 A3, xs[i]? = some x ∧ A = A1 ++ (A2 ++ A3) ∧ RepC K W H c x A2 ∧
      ∀ (W' : Addr → Prop) (H' : Hp) (c' : C) (x' : V) (A2' : List Addr), Kp W H W' H' → (∀ a ∈ A1 ++ A3, ∀ o, H a = some o → H' a = some o) → RepC K W' H' c' x' A2' → RepL K W' H' (l.set i c') (xs.set i x') (A1 ++ (A2' ++ A3))
  | [], xs, A, i, c, h, e => by simp at e
  | c0 :: r, xs, A, 0, c, h, e => by
    obtain ⟨x, zs, B, B', e1, e2, h1, h2⟩ := h
    simp at e
    subst e
    refine ⟨x, [], B, B', by rw [e1]; rfl, e2, h1, fun W' H' c' x' A2' p q h' => ?_⟩
    rw [e1]
    exact ⟨x', zs, A2', B', rfl, rfl, h', RepL.kp p r zs B' (fun a ha => q a (by simp [ha])) h2⟩
  | c0 :: r, xs, A, i + 1, c, h, e => by
    obtain ⟨x, zs, B, B', e1, e2, h1, h2⟩ := h
    obtain ⟨y, A1, A2, A3, g1, g2, g3, g4⟩ := RepL.at (i := i) h2 (by simpa using e)
    refine ⟨y, B ++ A1, A2, A3, by rw [e1]; simpa using g1, by rw [e2, g2]; simp, g3, fun W' H' c' x' A2' p q h' => ?_⟩
    rw [e1]
    exact ⟨x, zs.set i x', B, A1 ++ (A2' ++ A3), rfl, by simp, RepC.kp p c0 x B (fun a ha => q a (by simp [ha])) h1, g4 W' H' c' x' A2' p (fun a ha => q a (by
      rcases List.mem_append.mp ha with z | z <;> simp [z])) h'⟩
end
end PL
namespace PL
open PySem PySem.Spec PyProof.Rows L2

abbrev Slots := List (Option C)
section
variable (K : PySem.W.Frag) (W : Addr → Prop) (H : Hp)
/-- a slot: nothing is known, or a cell -/
def RepO : Option C → Option V → List Addr → Prop
  | none, _, A => A = []
  | some c, o, A => ∃ x, o = some x ∧ RepC K W H c x A
def RepE : Slots → List (Option V) → List Addr → Prop
  | [], σ, A => σ = [] ∧ A = []
  | oc :: r, σ, A => ∃ o τ A1 A2, σ = o :: τ ∧ A = A1 ++ A2 ∧ RepO K W H oc o A1 ∧ RepE r τ A2
end
section
variable {K : PySem.W.Frag} {W W' : Addr → Prop} {H H' : Hp}
theorem RepO.kp (p : Kp W H W' H') {oc : Option C} {o : Option V} {A : List Addr} (q : ∀ a ∈ A, ∀ o, H a = some o → H' a = some o) (h : RepO K W H oc o A) : RepO K W' H' oc o A := by
  cases oc with
  | none => exact h
  | some c =>
    obtain ⟨x, e, h⟩ := h
    exact ⟨x, e, RepC.kp p c x A q h⟩
theorem RepO.trk {oc : Option C} {o : Option V} {A : List Addr} (h : RepO K W H oc o A) : ∀ a ∈ A, ∃ u : MHO, H a = some u.1 := by
  cases oc with
  | none => rw [show A = [] from h]; simp
  | some c =>
    obtain ⟨x, e, h⟩ := h
    exact RepC.trk c x A h
theorem RepE.kp (p : Kp W H W' H') : ∀ {env : Slots} {σ : List (Option V)} {A : List Addr}, (∀ a ∈ A, ∀ o, H a = some o → H' a = some o) → RepE K W H env σ A → RepE K W' H' env σ A
  | [], σ, A, _, h => h
  | oc :: r, σ, A, q, h => by
    obtain ⟨o, τ, A1, A2, e1, e2, h1, h2⟩ := h
    subst e2
    exact ⟨o, τ, A1, A2, e1, rfl, h1.kp p (fun a ha => q a (by simp [ha])), RepE.kp p (fun a ha => q a (by simp [ha])) h2⟩
theorem RepE.trk : ∀ {env : Slots} {σ : List (Option V)} {A : List Addr}, RepE K W H env σ A → ∀ a ∈ A, ∃ u : MHO, H a = some u.1
  | [], σ, A, h => by rw [h.2]; simp
  | oc :: r, σ, A, h => by
    obtain ⟨o, τ, A1, A2, e1, e2, h1, h2⟩ := h
    subst e2
    intro b hb
    rcases List.mem_append.mp hb with z | z
    · exact h1.trk b z
    · exact RepE.trk h2 b z
theorem RepE.length : ∀ {env : Slots} {σ : List (Option V)} {A : List Addr}, RepE K W H env σ A → σ.length = env.length
  | [], σ, A, h => by rw [h.1]; rfl
  | oc :: r, σ, A, h => by
    obtain ⟨o, τ, A1, A2, e1, e2, h1, h2⟩ := h
    rw [e1, List.length_cons, List.length_cons, RepE.length h2]
/-- at a slot: its own objects lie in the middle; it may be put anew -/
theorem RepE.at : ∀ {env : Slots} {σ : List (Option V)} {A : List Addr} {i : Nat} {oc : Option C}, RepE K W H env σ A → env[i]? = some oc →
    ∃ o A1 A2 A3, σ[i]? = some o ∧ A = A1 ++ (A2 ++ A3) ∧ RepO K W H oc o A2 ∧
      ∀ (W' : Addr → Prop) (H' : Hp) (oc' : Option C) (o' : Option V) (A2' : List Addr), Kp W H W' H' → (∀ a ∈ A1 ++ A3, ∀ o, H a = some o → H' a = some o) → RepO K W' H' oc' o' A2' → RepE K W' H' (env.set i oc') (σ.set i o') (A1 ++ (A2' ++ A3))
  | [], σ, A, i, oc, h, e => by simp at e
  | c0 :: r, σ, A, 0, oc, h, e => by
    obtain ⟨o, τ, B, B', e1, e2, h1, h2⟩ := h
    simp at e
    subst e
    refine ⟨o, [], B, B', by rw [e1]; rfl, e2, h1, fun W' H' c' x' A2' p q h' => ?_⟩
    rw [e1]
    exact ⟨x', τ, A2', B', rfl, rfl, h', RepE.kp p (fun a ha => q a (by simp [ha])) h2⟩
  | c0 :: r, σ, A, i + 1, oc, h, e => by
    obtain ⟨o, τ, B, B', e1, e2, h1, h2⟩ := h
    obtain ⟨y, A1, A2, A3, g1, g2, g3, g4⟩ := RepE.at (i := i) h2 (by simpa using e)
    refine ⟨y, B ++ A1, A2, A3, by rw [e1]; simpa using g1, by rw [e2, g2]; simp, g3, fun W' H' c' x' A2' p q h' => ?_⟩
    rw [e1]
    exact ⟨o, τ.set i x', B, A1 ++ (A2' ++ A3), rfl, by simp, h1.kp p (fun a ha => q a (by simp [ha])), g4 W' H' c' x' A2' p (fun a ha => q a (by
      rcases List.mem_append.mp ha with z | z <;> simp [z])) h'⟩
end

/-- the slots stand for env; O: what they alone hold; B: what must be left alone -/
structure Stt (K : PySem.W.Frag) (B : Addr → Prop) (H : Hp) (σ : List (Option V)) (env : Slots) (O : List Addr) : Prop where
  rep : RepE K (fun a => B a ∨ a ∈ O) H env σ O
  nd : O.Nodup
  dj : ∀ a ∈ O, ¬ B a
  tr : ∀ a, B a → ∃ u : MHO, H a = some u.1
/-- what was not the slots' own stands, and is no one's own -/
abbrev Frm (O : List Addr) (H : Hp) (A O' : List Addr) (H' : Hp) : Prop := Kp (fun a => a ∈ O) H (fun a => a ∈ A ∨ a ∈ O') H'
/-- behind an expression: its value v stands for c, whose own objects are A -/
structure Res (K : PySem.W.Frag) (B : Addr → Prop) (O : List Addr) (H : Hp) (σ : List (Option V)) (c : C) (env : Slots) (v : V) (H' : Hp) (A O' : List Addr) : Prop where
  rep : RepC K (fun a => (B a ∨ a ∈ A) ∨ a ∈ O') H' c v A
  stt : Stt K (fun a => B a ∨ a ∈ A) H' σ env O'
  nd : A.Nodup
  dj : ∀ a ∈ A, ¬ B a
  frm : Frm O H A O' H'

theorem Stt.less {K : PySem.W.Frag} {B B' : Addr → Prop} {H : Hp} {σ : List (Option V)} {env : Slots} {O : List Addr} (s : Stt K B H σ env O) (h : ∀ a, B' a → B a) : Stt K B' H σ env O :=
  ⟨RepE.kp (Kp.less fun a z => z.imp (h a) id) (fun _ _ _ e => e) s.rep, s.nd, fun a ha z => s.dj a ha (h a z), fun a z => s.tr a (h a z)⟩
/-- the heap has grown; B may take new things -/
theorem Stt.grow {K : PySem.W.Frag} {B B' : Addr → Prop} {H H' : Hp} {σ : List (Option V)} {env : Slots} {O : List Addr} (s : Stt K B H σ env O) (g : ∀ a o, H a = some o → H' a = some o)
    (hb : ∀ a, B' a → B a ∨ H a = none) (ht : ∀ a, B' a → ∃ u : MHO, H' a = some u.1) : Stt K B' H' σ env O := by
  have tro := RepE.trk s.rep
  refine ⟨RepE.kp (fun a o hw ha => ⟨g a o ha, fun z => ?_⟩) (fun a _ o e => g a o e) s.rep, s.nd, fun a ha z => ?_, ht⟩
  · rcases z with z | z
    · rcases hb a z with q | q
      · exact hw (.inl q)
      · rw [q] at ha; cases ha
    · exact hw (.inr z)
  · rcases hb a z with q | q
    · exact s.dj a ha q
    · obtain ⟨u, e⟩ := tro a ha
      rw [q] at e; cases e

/-! ### readings -/
structure Exn where
  cls : Str
  fs : Option (List (Str × D))
inductive Out (α : Type) where
  | ok (a : α) (e : Slots) | err (x : Exn) (e : Slots) | no
def Out.bind {α β : Type} (o : Out α) (k : α → Slots → Out β) : Out β := match o with
  | .ok a e => k a e
  | .err x e => .err x e
  | .no => .no
abbrev M (α : Type) := Slots → Out α
inductive SOut where
  | nx (e : Slots) | rt (c : C) (e : Slots) | bk (e : Slots) | ct (e : Slots) | err (x : Exn) (e : Slots) | no
abbrev SS := Slots → SOut

def IsX (K : PySem.W.Frag) (W : Addr → Prop) (H : Hp) : List (Str × D) → List (Str × V) → Prop
  | [], xs => xs = []
  | (k, d) :: r, xs => ∃ x ys, xs = (k, x) :: ys ∧ Is K W H d x ∧ IsX K W H r ys
/-- an exception -/
structure XRes (K : PySem.W.Frag) (mg : Str → Option Value) (B : Addr → Prop) (O : List Addr) (H : Hp) (σ : List (Option V)) (x : Exn) (env : Slots) (cls : Value) (d : Option Addr) (H' : Hp) (O' : List Addr) : Prop where
  cls : mg x.cls = some cls
  fs : match x.fs with
    | none => d = none
    | some fs => ∃ dd vs, d = some dd ∧ H' dd = some (.xd vs) ∧ ¬ B dd ∧ dd ∉ O' ∧ IsX K (fun a => B a ∨ a ∈ O') H' fs vs
  stt : Stt K B H' σ env O'
  frm : Frm O H [] O' H'

section
variable (X : Cx) (w : WX)
def rdE (f : M C) : TE := fun σ H Q => ∃ B env O, Stt X.K B H σ env O ∧ match f env with
  | .ok c env' => ∀ v H' A O', Res X.K B O H σ c env' v H' A O' → Q v H'
  | .err x env' => ∀ cls d H' O', XRes X.K X.mg B O H σ x env' cls d H' O' → w cls d σ H'
  | .no => False
def rdT (f : M Bool) : TT := fun σ H Q => ∃ B env O, Stt X.K B H σ env O ∧ match f env with
  | .ok b env' => ∀ H' O', Stt X.K B H' σ env' O' → Frm O H [] O' H' → Q b H'
  | .err x env' => ∀ cls d H' O', XRes X.K X.mg B O H σ x env' cls d H' O' → w cls d σ H'
  | .no => False
end
abbrev EOk (X : Cx) (w : WX) (e : Expr) (f : M C) : Prop := PE X e (rdE X w f)
abbrev TOk (X : Cx) (w : WX) (e : Expr) (f : M Bool) : Prop := PT X e (rdT X w f)
theorem _root_.L2.PE.imp {X : Cx} {e : Expr} {t t' : TE} (h : PE X e t) (i : ∀ σ H Q, t' σ H Q → t σ H Q) : PE X e t' := ⟨fun pins s σ H Q I hw => h.run pins s σ H Q I (i σ H Q hw)⟩
theorem _root_.L2.PT.imp {X : Cx} {e : Expr} {t t' : TT} (h : PT X e t) (i : ∀ σ H Q, t' σ H Q → t σ H Q) : PT X e t' := ⟨fun pins s σ H Q I hw => h.run pins s σ H Q I (i σ H Q hw)⟩
theorem _root_.L2.PA.imp {X : Cx} {es : List Expr} {t t' : TA} (h : PA X es t) (i : ∀ σ H Q, t' σ H Q → t σ H Q) : PA X es t' := ⟨fun pos pins s σ H Q I hw => h.run pos pins s σ H Q I (i σ H Q hw)⟩
theorem _root_.L2.PS.imp {X : Cx} {e : Stmt} {t t' : TS} (h : PS X e t) (i : ∀ D σ H, t' D σ H → t D σ H) : PS X e t' := ⟨fun pins s σ H D I hw => h.run pins s σ H D I (i D σ H hw)⟩
theorem _root_.L2.PSs.imp {X : Cx} {e : List Stmt} {t t' : TS} (h : PSs X e t) (i : ∀ D σ H, t' D σ H → t D σ H) : PSs X e t' := ⟨fun pins s σ H D I hw => h.run pins s σ H D I (i D σ H hw)⟩

section
variable {X : Cx} {w : WX} {K : PySem.W.Frag} {mg : Str → Option Value} {B : Addr → Prop} {O O1 O2 A A1 A2 : List Addr} {H H1 H2 H3 : Hp} {σ : List (Option V)} {env e1 e2 : Slots} {c c1 c2 : C} {v v1 v2 : V}
/-- two frames in a row: A1 (told as B's) is kept, then given up -/
theorem Frm.seq (f1 : Frm O H A1 O1 H1) (f2 : Frm O1 H1 A2 O2 H2) : Kp (fun a => a ∈ O) H (fun a => a ∈ A1 ∨ a ∈ A2 ∨ a ∈ O2) H2 := fun a o w h => by
  obtain ⟨h1, n1⟩ := f1 a o w h
  obtain ⟨h2, n2⟩ := f2 a o (fun z => n1 (.inr z)) h1
  exact ⟨h2, fun z => z.elim (fun z => n1 (.inl z)) n2⟩
theorem Frm.seq' (f1 : Frm O H A1 O1 H1) (f2 : Frm O1 H1 A2 O2 H2) : Frm O H A2 O2 H2 := fun a o w h => by
  obtain ⟨h1, n1⟩ := f1.seq f2 a o w h
  exact ⟨h1, fun z => n1 (.inr z)⟩
/-- a value that was held while another thing ran -/
theorem Res.held (r : Res K B O H σ c1 e1 v1 H1 A1 O1) (s2 : Stt K (fun a => B a ∨ a ∈ A1) H2 σ e2 O2) (f2 : Frm O1 H1 A2 O2 H2) (nb : ∀ a ∈ A2, ¬ (B a ∨ a ∈ A1)) :
    RepC K (fun a => ((B a ∨ a ∈ A1) ∨ a ∈ A2) ∨ a ∈ O2) H2 c1 v1 A1 := by
  refine RepC.kp (fun a o hw ha => ?_) _ _ _ (fun a ha o e => ?_) r.rep
  · obtain ⟨q, n⟩ := f2 a o (fun z => hw (.inr z)) ha
    refine ⟨q, fun z => ?_⟩
    rcases z with (z | z) | z
    · exact hw (.inl z)
    · exact n (.inl z)
    · exact n (.inr z)
  · exact (f2 a o (fun z => r.stt.dj a z (.inr ha)) e).1
theorem Res.heldIs (r : Res K B O H σ c1 e1 v1 H1 A1 O1) (s2 : Stt K (fun a => B a ∨ a ∈ A1) H2 σ e2 O2) (f2 : Frm O1 H1 A2 O2 H2) (nb : ∀ a ∈ A2, ¬ (B a ∨ a ∈ A1)) :
    Is K (fun a => B a ∨ a ∈ O2) H2 c1.toD v1 :=
  RepC.is (fun a z => z.elim (fun z => .inl (.inl (.inl z))) .inr) _ _ _ (fun a ha z => z.elim (r.dj a ha) fun z => s2.dj a z (.inr ha)) (r.held s2 f2 nb)
theorem Res.is (r : Res K B O H σ c e1 v H1 A O1) : Is K (fun a => B a ∨ a ∈ O1) H1 c.toD v :=
  RepC.is (fun a z => z.elim (fun z => .inl (.inl z)) .inr) _ _ _ (fun a ha z => z.elim (r.dj a ha) fun z => r.stt.dj a z (.inr ha)) r.rep

/-- a new value over a heap that has grown -/
structure New (K : PySem.W.Frag) (W : Addr → Prop) (H : Hp) (c : C) (v : V) (H' : Hp) (A : List Addr) : Prop where
  grow : ∀ a o, H a = some o → H' a = some o
  rep : RepC K (fun a => W a ∨ a ∈ A) H' c v A
  nd : A.Nodup
  fresh : ∀ a ∈ A, H a = none
theorem New.of_is {W : Addr → Prop} {d : D} (h : Is K W H d v) : New K W H (.frz d) v H [] := ⟨fun _ _ e => e, ⟨rfl, Is.kp (Kp.less fun a z => z.elim id fun z => nomatch z) _ _ h⟩, .nil, fun _ z => nomatch z⟩
theorem Res.new (s : Stt K B H1 σ env O1) (f : Frm O H [] O1 H1) (n : New K (fun a => B a ∨ a ∈ O1) H1 c v H2 A) : Res K B O H σ c env v H2 A O1 := by
  have nb : ∀ a ∈ A, ¬ B a := fun a ha z => by
    obtain ⟨u, e⟩ := s.tr a z
    rw [n.fresh a ha] at e; cases e
  have no : ∀ a ∈ A, a ∉ O1 := fun a ha z => by
    obtain ⟨u, e⟩ := RepE.trk s.rep a z
    rw [n.fresh a ha] at e; cases e
  refine ⟨?_, ?_, n.nd, nb, fun a o hw ha => ?_⟩
  · refine RepC.kp (Kp.less fun a z => ?_) _ _ _ (fun _ _ _ e => e) n.rep
    rcases z with (z | z) | z
    · exact .inl (.inl z)
    · exact .inr z
    · exact .inl (.inr z)
  · refine s.grow n.grow (fun a z => z.imp id (n.fresh a)) fun a z => ?_
    rcases z with z | z
    · obtain ⟨u, e⟩ := s.tr a z
      exact ⟨u, n.grow a u e⟩
    · exact RepC.trk _ _ _ n.rep a z
  · obtain ⟨h1, n1⟩ := f a o hw ha
    refine ⟨n.grow a o h1, fun z => ?_⟩
    rcases z with z | z
    · rw [n.fresh a z] at h1; cases h1
    · exact n1 (.inr z)
/-- an exception behind a held value -/
theorem XRes.under {x : Exn} {cls : Value} {d : Option Addr} (f1 : Frm O H A1 O1 H1) (x2 : XRes K mg (fun a => B a ∨ a ∈ A1) O1 H1 σ x e2 cls d H2 O2) : XRes K mg B O H σ x e2 cls d H2 O2 := by
  refine ⟨x2.cls, ?_, x2.stt.less fun a z => .inl z, f1.seq' x2.frm⟩
  have q := x2.fs
  cases e : x.fs with
  | none => rw [e] at q; exact q
  | some fs =>
    rw [e] at q
    obtain ⟨dd, vs, h1, h2, h3, h4, h5⟩ := q
    refine ⟨dd, vs, h1, h2, fun z => h3 (.inl z), h4, ?_⟩
    have go : ∀ (l : List (Str × D)) (xs : List (Str × V)), IsX K (fun a => (B a ∨ a ∈ A1) ∨ a ∈ O2) H2 l xs → IsX K (fun a => B a ∨ a ∈ O2) H2 l xs := by
      intro l
      induction l with
      | nil => intro xs h; exact h
      | cons p r ih =>
        intro xs h
        obtain ⟨y, ys, g1, g2, g3⟩ := h
        exact ⟨y, ys, g1, Is.kp (Kp.less fun a z => z.imp .inl id) _ _ g2, ih ys g3⟩
    exact go fs vs h5
theorem Frm.refl : Frm O H [] O H := fun a o w h => ⟨h, fun z => z.elim (fun z => nomatch z) w⟩

/-! ### a name, by its value: what it alone held is given up -/
def eV (i : Nat) : M C := fun env => match env[i]? with
  | some (some (.frz d)) => .ok (.frz d) env
  | some (some c) => .ok (.frz c.toD) (env.set i (some (.frz c.toD)))
  | _ => .no
theorem set_same {α : Type} : ∀ {l : List α} {i : Nat} {x : α}, l[i]? = some x → l.set i x = l
  | [], i, x, h => rfl
  | y :: r, 0, x, h => by simp at h; simp [h]
  | y :: r, i + 1, x, h => by
    simp only [List.set_cons_succ, List.cons.injEq, true_and]
    exact set_same (by simpa using h)
/-- a slot's cell given up -/
theorem Stt.give {i : Nat} (s : Stt K B H σ env O) (e : env[i]? = some (some c)) : ∃ x O', σ[i]? = some (some x) ∧ Stt K B H σ (env.set i (some (.frz c.toD))) O' ∧ Frm O H [] O' H ∧ Is K (fun a => B a ∨ a ∈ O') H c.toD x := by
  obtain ⟨o, A1, A2, A3, h1, h2, h3, h4⟩ := RepE.at s.rep e
  obtain ⟨x, rfl, hc⟩ := h3
  have nd := s.nd
  rw [h2] at nd
  have sub : ∀ a, a ∈ A1 ++ A3 → a ∈ O := fun a ha => by rw [h2]; simp at ha ⊢; rcases ha with z | z <;> simp [z]
  have n2 : ∀ a ∈ A2, a ∉ A1 ++ A3 := fun a ha z => by
    have q1 := (List.nodup_append.mp nd).2.2
    have q2 := (List.nodup_append.mp (List.nodup_append.mp nd).2.1).2.2
    rcases List.mem_append.mp z with z | z
    · exact q1 a z a (by simp [ha]) rfl
    · exact q2 a ha a z rfl
  have his : Is K (fun a => B a ∨ a ∈ A1 ++ A3) H c.toD x := RepC.is (fun a z => z.imp id (sub a)) _ _ _ (fun a ha z => z.elim (s.dj a (by rw [h2]; simp [ha])) (n2 a ha)) hc
  refine ⟨x, A1 ++ A3, h1, ⟨?_, ?_, fun a ha => s.dj a (sub a ha), s.tr⟩, fun a o hw ha => ⟨ha, fun z => z.elim (fun z => nomatch z) fun z => hw (sub a z)⟩, his⟩
  · have q := h4 (fun a => B a ∨ a ∈ A1 ++ A3) H (some (.frz c.toD)) (some x) [] (Kp.less fun a z => z.imp id (sub a)) (fun _ _ _ e => e) ⟨x, rfl, rfl, his⟩
    rw [set_same h1] at q
    simpa using q
  · have q := List.nodup_append.mp nd
    have q2 := List.nodup_append.mp q.2.1
    exact List.nodup_append.mpr ⟨q.1, q2.2.1, fun a ha b hb => q.2.2 a ha b (by simp [hb])⟩
theorem e_V {i : Nat} {x : Str} {pos : Pos} (hN : X.N[i]? = some x) (hv : Vis X.env.scope x) (hd : (x == ("__debug__" : Str)) = false := by decide) (hcd : (x == ("__classdict__" : Str)) = false := by decide) :
    EOk X w (.Name x pos) (eV i) := by
  refine (pe_var (i := i) hN hv hd hcd).imp fun σ H Q h => ?_
  obtain ⟨B, env, O, s, h⟩ := h
  have key : ∀ c, env[i]? = some (some c) → (∀ v O', Res X.K B O H σ (.frz c.toD) (env.set i (some (.frz c.toD))) v H [] O' → Q v H) → tVar i σ H Q := fun c e k => by
    obtain ⟨x, O', h1, h2, h3, h4⟩ := s.give e
    exact ⟨x, h1, k x O' (Res.new h2 h3 (New.of_is h4))⟩
  unfold eV at h
  cases e : env[i]? with
  | none => rw [e] at h; exact h.elim
  | some oc =>
    cases oc with
    | none => rw [e] at h; exact h.elim
    | some c =>
      refine key c e fun v O' r => ?_
      rw [e] at h
      cases c with
      | frz d =>
        rw [show (C.frz d).toD = d from by simp [C.toD], set_same e] at r
        exact h v _ _ _ r
      | own l => exact h v _ _ _ r
      | ownD l => exact h v _ _ _ r
      | ownT l => exact h v _ _ _ r

/-! ### constants -/
def eK (d : D) : M C := fun env => .ok (.frz d) env
theorem e_C {e : Expr} {d : D} {v : V} (h : PE X e (tC v)) (hi : ∀ K W H, Is K W H d v) : EOk X w e (eK d) := h.imp fun σ H Q h => by
  obtain ⟨B, env, O, s, h⟩ := h
  exact h v H [] O (Res.new s Frm.refl (New.of_is (hi _ _ _)))
theorem e_int {i j pos} : EOk X w (.Constant (.int i) j pos) (eK (.int i)) := e_C pe_int fun _ _ _ => rfl
theorem e_bl {b j pos} : EOk X w (.Constant (.bool b) j pos) (eK (.bl b)) := e_C pe_bl fun _ _ _ => rfl
theorem e_non {j pos} : EOk X w (.Constant .none j pos) (eK .non) := e_C pe_non fun _ _ _ => rfl
theorem e_str {x j pos} : EOk X w (.Constant (.str x) j pos) (eK (.str x)) := e_C pe_str fun _ _ _ => rfl
theorem e_glob {x : Str} {v : V} {d : D} {u : Value} {pos : Pos} (hg : Gl X x) (hm : X.mg x = some u) (r : RelV v u) (hi : ∀ K W H, Is K W H d v) (hd : (x == ("__debug__" : Str)) = false := by decide) : EOk X w (.Name x pos) (eK d) := e_C (pe_glob hg hm r hd) hi

/-! ### operators -/
/-- a rule of the layer serves an operation on plain data -/
def OpS (K : PySem.W.Frag) (r : R2) (op : D → D → Option C) : Prop := ∀ (W : Addr → Prop) (H : Hp) (x y : V) (d1 d2 : D) (c : C) (Q : VK), (∀ a, W a → ∃ u : MHO, H a = some u.1) → Is K W H d1 x → Is K W H d2 y → op d1 d2 = some c →
  (∀ v H' A, New K W H c v H' A → Q v H') → r x y H Q
def eBin (op : D → D → Option C) (f g : M C) : M C := fun env => (f env).bind fun c e1 => (g e1).bind fun c' e2 => match op c.toD c'.toD with
  | some r => .ok r e2
  | none => .no
theorem Stt.trk (s : Stt K B H σ env O) : ∀ a, B a ∨ a ∈ O → ∃ u : MHO, H a = some u.1 := fun a z => z.elim (s.tr a) (RepE.trk s.rep a)
theorem tOp_of {r : R2} {op : D → D → Option C} {f g : M C} (h : OpS X.K r op) (σ : L2.St) (H : Hp) (Q : VK) (hq : rdE X w (eBin op f g) σ H Q) : tOp r (rdE X w f) (rdE X w g) σ H Q := by
  obtain ⟨B, env, O, s, hq⟩ := hq
  refine ⟨B, env, O, s, ?_⟩
  unfold eBin at hq
  cases ef : f env with
  | no => rw [ef] at hq; exact hq.elim
  | err x e => rw [ef] at hq; exact hq
  | ok c e1 =>
    rw [ef] at hq
    intro v H1 A O1 r1
    refine ⟨fun a => B a ∨ a ∈ A, e1, O1, r1.stt, ?_⟩
    simp only [Out.bind] at hq
    cases eg : g e1 with
    | no => rw [eg] at hq; exact hq.elim
    | err x e => 
      rw [eg] at hq
      exact fun cls d H' O' x2 => hq cls d H' O' (XRes.under r1.frm x2)
    | ok c' e2 =>
      rw [eg] at hq
      intro v' H2 A' O2 r2
      simp only [] at hq
      cases eo : op c.toD c'.toD with
      | none => rw [eo] at hq; exact hq.elim
      | some cr =>
        rw [eo] at hq
        have s2 : Stt X.K (fun a => B a ∨ a ∈ A) H2 σ e2 O2 := r2.stt.less fun a z => .inl z
        have s3 : Stt X.K B H2 σ e2 O2 := s2.less fun a z => .inl z
        have i1 := r1.heldIs s2 r2.frm r2.dj
        have i2 : Is X.K (fun a => B a ∨ a ∈ O2) H2 c'.toD v' := Is.kp (Kp.less fun a z => z.imp .inl id) _ _ r2.is
        refine h _ H2 v v' _ _ cr Q s3.trk i1 i2 eo fun u H' A'' n => hq u H' A'' O2 (Res.new s3 (r1.frm.seq' ?_) n)
        exact fun a o hw ha => let ⟨q1, q2⟩ := r2.frm a o hw ha; ⟨q1, fun z => z.elim (fun z => nomatch z) fun z => q2 (.inr z)⟩
theorem e_bin {a b : Expr} {o : Operator} {f g : M C} {r : R2} {op : D → D → Option C} {pos : Pos} (ho : OpR X (binaryOp o) r) (h : OpS X.K r op) (ha : EOk X w a f) (hb : EOk X w b g) : EOk X w (.BinOp a o b pos) (eBin op f g) :=
  (pe_op ho ha hb).imp (tOp_of h)
end
end PL
namespace PL
open PySem PySem.Spec PyProof.Rows L2

/-! ### pure expressions: the slots stay, the heap stays -/
abbrev P := Slots → Option D
abbrev PB := Slots → Option Bool
def NoW : Addr → Prop := fun _ => False
abbrev Grw (H H' : Hp) : Prop := ∀ a o, H a = some o → H' a = some o
section
variable (X : Cx)
/-- a pure expression: the slots stay, the heap may grow -/
def rdP (p : P) : TE := fun σ H Q => ∃ B env O, Stt X.K B H σ env O ∧ ∃ d, p env = some d ∧ ∀ v H', Grw H H' → Is X.K (fun a => B a ∨ a ∈ O) H' d v → Q v H'
/-- the same of a value that may be a slot's own -/
def rdB (p : P) : TE := fun σ H Q => ∃ B env O, Stt X.K B H σ env O ∧ ∃ d, p env = some d ∧ ∀ v H', Grw H H' → Is X.K NoW H' d v → Q v H'
def rdQ (p : PB) : TT := fun σ H Q => ∃ B env O, Stt X.K B H σ env O ∧ ∃ b, p env = some b ∧ ∀ H', Grw H H' → Q b H'
end
abbrev POk (X : Cx) (e : Expr) (p : P) : Prop := PE X e (rdP X p)
abbrev BOk (X : Cx) (e : Expr) (p : P) : Prop := PE X e (rdB X p)
abbrev QOk (X : Cx) (e : Expr) (p : PB) : Prop := PT X e (rdQ X p)
theorem Is.noW {K : PySem.W.Frag} {W : Addr → Prop} {H : Hp} {d : D} {v : V} (h : Is K W H d v) : Is K NoW H d v := Is.kp (Kp.less fun _ z => z.elim) _ _ h
theorem IsL.noW {K : PySem.W.Frag} {W : Addr → Prop} {H : Hp} {d : List D} {v : List V} (h : IsL K W H d v) : IsL K NoW H d v := IsL.kp (Kp.less fun _ z => z.elim) _ _ h
theorem Grw.refl {H : Hp} : Grw H H := fun _ _ e => e
theorem Grw.trans {H H1 H2 : Hp} (g : Grw H H1) (g' : Grw H1 H2) : Grw H H2 := fun a o e => g' a o (g a o e)
theorem Grw.kp {W : Addr → Prop} {H H' : Hp} (g : Grw H H') : Kp W H W H' := fun a o w e => ⟨g a o e, w⟩
theorem Is.grw {K : PySem.W.Frag} {W : Addr → Prop} {H H' : Hp} {d : D} {v : V} (g : Grw H H') (h : Is K W H d v) : Is K W H' d v := Is.kp g.kp _ _ h
theorem IsL.grw {K : PySem.W.Frag} {W : Addr → Prop} {H H' : Hp} {d : List D} {v : List V} (g : Grw H H') (h : IsL K W H d v) : IsL K W H' d v := IsL.kp g.kp _ _ h
theorem Stt.grw {K : PySem.W.Frag} {B : Addr → Prop} {H H' : Hp} {σ : List (Option V)} {env : Slots} {O : List Addr} (s : Stt K B H σ env O) (g : Grw H H') : Stt K B H' σ env O :=
  s.grow g (fun _ z => .inl z) fun a z => let ⟨u, e⟩ := s.tr a z; ⟨u, g a u e⟩

/-- scalars -/
def ofV : V → D
  | .non => .non
  | .bl b => .bl b
  | .int i => .int i
  | .str s => .str s
  | v => .opq v
theorem is_ofV {K : PySem.W.Frag} {W : Addr → Prop} {H : Hp} : ∀ {x v : V}, Is K W H (ofV x) v → v = x
  | .non, v, h => h | .bl b, v, h => h | .int i, v, h => h | .str s, v, h => h
  | .byt b, v, h => h | .flt b, v, h => h | .ref a, v, h => h | .ty n, v, h => h
theorem ofV_is (K : PySem.W.Frag) (W : Addr → Prop) (H : Hp) : ∀ (x : V), Is K W H (ofV x) x
  | .non => rfl | .bl b => rfl | .int i => rfl | .str s => rfl
  | .byt b => rfl | .flt b => rfl | .ref a => rfl | .ty n => rfl
@[simp] theorem ofV_non : ofV .non = .non := rfl
@[simp] theorem ofV_bl (b) : ofV (.bl b) = .bl b := rfl
@[simp] theorem ofV_int (i) : ofV (.int i) = .int i := rfl
@[simp] theorem ofV_str (i) : ofV (.str i) = .str i := rfl

section
variable {X : Cx} {w : WX} {H : Hp} {σ : L2.St} {e : Expr} {p q r : P} {pos : Pos}
theorem b_P (h : POk X e p) : BOk X e p := h.imp fun σ H Q h => by
  obtain ⟨B, env, O, s, d, hp, h⟩ := h
  exact ⟨B, env, O, s, d, hp, fun v H' g hv => h v H' g hv.noW⟩
/-- a pure expression among the others -/
def eP (p : P) : M C := fun env => match p env with | some d => .ok (.frz d) env | none => .no
theorem e_P (h : POk X e p) : EOk X w e (eP p) := h.imp fun σ H Q h => by
  obtain ⟨B, env, O, s, h⟩ := h
  unfold eP at h
  cases hp : p env with
  | none => rw [hp] at h; exact h.elim
  | some d =>
    rw [hp] at h
    exact ⟨B, env, O, s, d, hp, fun v H' g hv => h v H' [] O (Res.new s Frm.refl ⟨g, ⟨rfl, Is.kp (Kp.less fun a z => z.elim id fun z => nomatch z) _ _ hv⟩, .nil, fun _ z => nomatch z⟩)⟩
def tP (p : PB) : M Bool := fun env => match p env with | some b => .ok b env | none => .no
theorem t_P {p : PB} (h : QOk X e p) : TOk X w e (tP p) := h.imp fun σ H Q h => by
  obtain ⟨B, env, O, s, h⟩ := h
  unfold tP at h
  cases hp : p env with
  | none => rw [hp] at h; exact h.elim
  | some b =>
    rw [hp] at h
    exact ⟨B, env, O, s, b, hp, fun H' g => h H' O (s.grw g) fun a o hw ha => ⟨g a o ha, fun z => z.elim (fun z => nomatch z) hw⟩⟩

/-! ### names, constants -/
def pV (i : Nat) : P := fun env => match env[i]? with
  | some (some (.frz d)) => some d
  | _ => none
def bV (i : Nat) : P := fun env => match env[i]? with
  | some (some c) => some c.toD
  | _ => none
theorem p_V {i : Nat} {x : Str} (hN : X.N[i]? = some x) (hv : Vis X.env.scope x) (hd : (x == ("__debug__" : Str)) = false := by decide) (hcd : (x == ("__classdict__" : Str)) = false := by decide) :
    POk X (.Name x pos) (pV i) := (pe_var (i := i) hN hv hd hcd).imp fun σ H Q h => by
  obtain ⟨B, env, O, s, d, hp, h⟩ := h
  unfold pV at hp
  split at hp
  · rename_i d' e
    cases hp
    obtain ⟨x, O', h1, h2, h3, h4⟩ := s.give e
    obtain ⟨o, A1, A2, A3, g1, g2, ⟨y, g3, g4, g5⟩, _⟩ := RepE.at s.rep e
    exact ⟨y, by rw [g1, g3], h y H Grw.refl g5⟩
  · cases hp
theorem b_V {i : Nat} {x : Str} (hN : X.N[i]? = some x) (hv : Vis X.env.scope x) (hd : (x == ("__debug__" : Str)) = false := by decide) (hcd : (x == ("__classdict__" : Str)) = false := by decide) :
    BOk X (.Name x pos) (bV i) := (pe_var (i := i) hN hv hd hcd).imp fun σ H Q h => by
  obtain ⟨B, env, O, s, d, hp, h⟩ := h
  unfold bV at hp
  split at hp
  · rename_i c e
    cases hp
    obtain ⟨x, O', h1, h2, h3, h4⟩ := s.give e
    exact ⟨x, h1, h x H Grw.refl h4.noW⟩
  · cases hp
def pK (d : D) : P := fun _ => some d
theorem p_C {d : D} {v : V} (h : PE X e (tC v)) (hi : ∀ K W H, Is K W H d v) : POk X e (pK d) := h.imp fun σ H Q h => by
  obtain ⟨B, env, O, s, d', hp, h⟩ := h
  cases hp
  exact h v H Grw.refl (hi _ _ _)
theorem p_int {i j} : POk X (.Constant (.int i) j pos) (pK (.int i)) := p_C pe_int fun _ _ _ => rfl
theorem p_bl {b j} : POk X (.Constant (.bool b) j pos) (pK (.bl b)) := p_C pe_bl fun _ _ _ => rfl
theorem p_non {j} : POk X (.Constant .none j pos) (pK .non) := p_C pe_non fun _ _ _ => rfl
theorem p_str {x j} : POk X (.Constant (.str x) j pos) (pK (.str x)) := p_C pe_str fun _ _ _ => rfl
theorem p_glob {x : Str} {v : V} {u : Value} (hg : Gl X x) (hm : X.mg x = some u) (r : RelV v u) (hd : (x == ("__debug__" : Str)) = false := by decide) : POk X (.Name x pos) (pK (ofV v)) := p_C (pe_glob hg hm r hd) fun _ _ _ => ofV_is _ _ _ v

/-! ### operators on scalars -/
def PureS (K : PySem.W.Frag) (r : R2) (op : D → D → Option V) : Prop := ∀ (H : Hp) (x y : V) (d1 d2 : D) (v : V) (Q : VK), Is K NoW H d1 x → Is K NoW H d2 y → op d1 d2 = some v → Q v H → r x y H Q
def pOp (op : D → D → Option V) (p q : P) : P := fun env => match p env, q env with
  | some a, some b => (op a b).map ofV
  | _, _ => none
theorem pOp_of {r : R2} {op : D → D → Option V} {pp qq : P} (h : PureS X.K r op) (σ : L2.St) (H : Hp) (Q : VK) (hq : rdP X (pOp op pp qq) σ H Q) : tOp r (rdB X pp) (rdB X qq) σ H Q := by
  obtain ⟨B, env, O, s, d, hp, hq⟩ := hq
  unfold pOp at hp
  cases e1 : pp env with
  | none => rw [e1] at hp; simp at hp
  | some d1 =>
    cases e2 : qq env with
    | none => rw [e1, e2] at hp; simp at hp
    | some d2 =>
      rw [e1, e2] at hp
      simp only [Option.map_eq_some_iff] at hp
      obtain ⟨v, hv, rfl⟩ := hp
      exact ⟨B, env, O, s, d1, e1, fun x H1 g1 hx => ⟨B, env, O, s.grw g1, d2, e2, fun y H2 g2 hy => h H2 x y d1 d2 v Q (hx.grw g2) hy hv (hq v H2 (g1.trans g2) (ofV_is _ _ _ v))⟩⟩
theorem p_op {a b : Expr} {o : Operator} {op : D → D → Option V} {r : R2} (ho : OpR X (binaryOp o) r) (h : PureS X.K r op) (ha : BOk X a p) (hb : BOk X b q) : POk X (.BinOp a o b pos) (pOp op p q) :=
  (pe_op ho ha hb).imp (pOp_of h)
theorem p_cmp {a b : Expr} {o : CmpOp} {op : D → D → Option V} {r : R2} (ho : OpR X (compareOp o) r) (h : PureS X.K r op) (hm : behindInMarks o b = false) (ha : BOk X a p) (hb : BOk X b q) : POk X (.Compare a [o] [b] pos) (pOp op p q) :=
  (pe_cmpR ho ha hb hm).imp (pOp_of h)
/-- as a test -/
def qOf (p : P) : PB := fun env => match p env with | some (.bl b) => some b | _ => none
theorem qOf_of {t : TE} (ht : ∀ σ H Q, rdP X p σ H Q → t σ H Q) (σ : L2.St) (H : Hp) (Q : Bool → Hp → Prop) (h : rdQ X (qOf p) σ H Q) : tTest t σ H Q := by
  obtain ⟨B, env, O, s, b, hp, h⟩ := h
  unfold qOf at hp
  split at hp
  · rename_i c e
    cases hp
    exact ht σ H _ ⟨B, env, O, s, _, e, fun v H' g hv => ⟨b, hv, h H' g⟩⟩
  · cases hp
theorem q_cmp {a b : Expr} {o : CmpOp} {op : D → D → Option V} {r : R2} (ho : OpR X (compareOp o) r) (h : PureS X.K r op) (hm : behindInMarks o b = false) (ha : BOk X a p) (hb : BOk X b q) : QOk X (.Compare a [o] [b] pos) (qOf (pOp op p q)) :=
  (pt_cmpR ho ha hb hm).imp (qOf_of (pOp_of h))
theorem q_val (h : POk X e p) (he : ∀ whole, isTrue e X.env whole = (do let v ← whole; standAt e.pos; holding [v] (truthy v)) := by intro _; rfl) : QOk X e (qOf p) :=
  (pt_val h he).imp (qOf_of fun _ _ _ h => h)

/-- (a op b op' c) -/
def pChain (op op' : D → D → Option V) (p q r : P) : P := fun env => match p env, q env with
  | some a, some b => match op a b with
    | some (.bl true) => match r env with
      | some c => (op' b c).map ofV
      | none => none
    | some (.bl false) => some (.bl false)
    | _ => none
  | _, _ => none
theorem pChain_of {r r' : R2} {op op' : D → D → Option V} {pp qq rr : P} (h : PureS X.K r op) (h' : PureS X.K r' op') (σ : L2.St) (H : Hp) (Q : VK) (hq : rdP X (pChain op op' pp qq rr) σ H Q) : tChain r r' (rdB X pp) (rdB X qq) (rdB X rr) σ H Q := by
  obtain ⟨B, env, O, s, d, hp, hq⟩ := hq
  unfold pChain at hp
  cases e1 : pp env with
  | none => rw [e1] at hp; simp at hp
  | some d1 =>
    cases e2 : qq env with
    | none => rw [e1, e2] at hp; simp at hp
    | some d2 =>
      rw [e1, e2] at hp
      refine ⟨B, env, O, s, d1, e1, fun x H1 g1 hx => ⟨B, env, O, s.grw g1, d2, e2, fun y H2 g2 hy => ?_⟩⟩
      cases eo : op d1 d2 with
      | none => simp [eo] at hp
      | some k =>
        refine h H2 x y d1 d2 k _ (hx.grw g2) hy eo ?_
        cases k with
        | bl k =>
          refine ⟨k, rfl, ?_⟩
          cases k with
          | true =>
            simp only [eo] at hp
            cases e3 : rr env with
            | none => simp [e3] at hp
            | some d3 =>
              simp only [e3, Option.map_eq_some_iff] at hp
              obtain ⟨v, hv, rfl⟩ := hp
              rw [if_pos rfl]
              exact ⟨B, env, O, (s.grw g1).grw g2, d3, e3, fun z H3 g3 hz => h' H3 y z d2 d3 v Q (hy.grw g3) hz hv (hq v H3 ((g1.trans g2).trans g3) (ofV_is _ _ _ v))⟩
          | false =>
            simp only [eo, Option.some.injEq] at hp
            subst hp
            rw [if_neg Bool.false_ne_true]
            exact hq _ H2 (g1.trans g2) rfl
        | non => simp [eo] at hp
        | int _ => simp [eo] at hp
        | str _ => simp [eo] at hp
        | byt _ => simp [eo] at hp
        | flt _ => simp [eo] at hp
        | ref _ => simp [eo] at hp
        | ty _ => simp [eo] at hp
theorem p_chain {a b c : Expr} {o o' : CmpOp} {op op' : D → D → Option V} {r1 r2 : R2} (ho : OpR X (compareOp o) r1) (ho' : OpR X (compareOp o') r2) (h : PureS X.K r1 op) (h' : PureS X.K r2 op') (hm : lastMarks [o, o'] [b, c] = false) (ha : BOk X a p) (hb : BOk X b q) (hc : BOk X c r) :
    POk X (.Compare a [o, o'] [b, c] pos) (pChain op op' p q r) := (pe_chain ho ho' ha hb hc hm).imp (pChain_of h h')
theorem q_chain {a b c : Expr} {o o' : CmpOp} {op op' : D → D → Option V} {r1 r2 : R2} (ho : OpR X (compareOp o) r1) (ho' : OpR X (compareOp o') r2) (h : PureS X.K r1 op) (h' : PureS X.K r2 op') (hm : lastMarks [o, o'] [b, c] = false) (ha : BOk X a p) (hb : BOk X b q) (hc : BOk X c r) :
    QOk X (.Compare a [o, o'] [b, c] pos) (qOf (pChain op op' p q r)) := (pt_chain ho ho' ha hb hc hm).imp (qOf_of (pChain_of h h'))

/-! #### the operations -/
def addI : D → D → Option V
  | .int a, .int b => some (.int (a + b))
  | .str a, .str b => if a.length + b.length ≤ sizeLine then some (.str (a ++ b)) else none
  | _, _ => none
def subI : D → D → Option V
  | .int a, .int b => some (.int (a - b))
  | _, _ => none
def mulOk (a b : Int) : Bool := a.natAbs.log2 + b.natAbs.log2 < 134217000 || (decide (-(2 ^ 64) < a) && decide (a < 2 ^ 64)) || (decide (-(2 ^ 64) < b) && decide (b < 2 ^ 64))
def mulI : D → D → Option V
  | .int a, .int b => if mulOk a b then some (.int (a * b)) else none
  | _, _ => none
def divOk (a b : Int) : Bool := b != 0 && !(Builtin.divisionGoesByPylong a b)
def fdivI : D → D → Option V
  | .int a, .int b => if divOk a b then some (.int (a.fdiv b)) else none
  | _, _ => none
def modI : D → D → Option V
  | .int a, .int b => if b ≠ 0 then some (.int (a.fmod b)) else none
  | _, _ => none
def powI : D → D → Option V
  | .int a, .int b => if 0 ≤ b ∧ b ≤ 1000000 ∧ a.natAbs < 2 ^ 64 then some (.int (a ^ b.toNat)) else none
  | _, _ => none
def cmpI (f : Int → Int → Bool) : D → D → Option V
  | .int a, .int b => some (.bl (f a b))
  | _, _ => none
def CMulY (i j : Int) : Prop := mulOk i j = true
theorem CMulY.ok {i j : Int} (h : CMulY i j) : IntMulOk i j := by
  unfold CMulY mulOk at h
  simp only [Bool.or_eq_true, Bool.and_eq_true, decide_eq_true_eq] at h
  rcases h with (h | h) | h
  · have b : ∀ z : Int, Builtin.Int.intBits z ≤ z.natAbs.log2 + 1 := fun z => by
      unfold Builtin.Int.intBits
      split <;> omega
    have h1 := b i
    have h2 := b j
    have e : bitsLine = 134217728 := by decide
    unfold IntMulOk
    intro z
    rw [Bool.and_eq_true] at z
    have z2 := z.2
    unfold Builtin.Int.intTooBig at z2
    have z3 := of_decide_eq_true z2
    rw [e] at z3
    omega
  · exact .of_left (intBits_le_64 h.1 h.2)
  · exact .of_right (intBits_le_64 h.1 h.2)
theorem op_mulY : OpR X (binaryOp .Mult) (rI CMulY fun i j => .int (i * j)) := opI fun _ _ _ _ _ _ _ hc q => mul_int q hc.ok
def CDivY (i j : Int) : Prop := divOk i j = true
theorem op_fdivY : OpR X (binaryOp .FloorDiv) (rI CDivY fun i j => .int (i.fdiv j)) := opI fun i j _ _ _ _ _ hc q => by
  have hc : divOk i j = true := hc
  unfold divOk at hc
  simp only [Bool.and_eq_true, bne_iff_ne, Bool.not_eq_true'] at hc
  exact floordiv_int hc.1 q (.inl hc.2)
theorem pure_rI {K : PySem.W.Frag} {C : Int → Int → Prop} {g : Int → Int → V} {op : D → D → Option V} (h : ∀ d1 d2 v, op d1 d2 = some v → ∃ i j, d1 = .int i ∧ d2 = .int j ∧ C i j ∧ v = g i j) : PureS K (rI C g) op := fun H x y d1 d2 v Q h1 h2 e q => by
  obtain ⟨i, j, rfl, rfl, hc, rfl⟩ := h d1 d2 v e
  exact ⟨i, j, h1, h2, hc, q⟩
theorem pure_rI0 {K : PySem.W.Frag} {g : Int → Int → V} {op : D → D → Option V} (h : ∀ d1 d2 v, op d1 d2 = some v → ∃ i j, d1 = .int i ∧ d2 = .int j ∧ v = g i j) : PureS K (rI0 g) op := fun H x y d1 d2 v Q h1 h2 e q => by
  obtain ⟨i, j, rfl, rfl, rfl⟩ := h d1 d2 v e
  exact ⟨i, j, h1, h2, q⟩
theorem pure_sub {K} : PureS K (rI0 fun i j => .int (i - j)) subI := pure_rI0 fun d1 d2 v h => by
  unfold subI at h; split at h <;> simp at h; exact ⟨_, _, rfl, rfl, h.symm⟩
theorem pure_mul {K} : PureS K (rI CMulY fun i j => .int (i * j)) mulI := pure_rI fun d1 d2 v h => by
  unfold mulI at h; split at h <;> simp at h; exact ⟨_, _, rfl, rfl, h.1, h.2.symm⟩
theorem pure_fdiv {K} : PureS K (rI CDivY fun i j => .int (i.fdiv j)) fdivI := pure_rI fun d1 d2 v h => by
  unfold fdivI at h; split at h <;> simp at h; exact ⟨_, _, rfl, rfl, h.1, h.2.symm⟩
theorem pure_mod {K} : PureS K (rI (fun _ j => j ≠ 0) fun i j => .int (i.fmod j)) modI := pure_rI fun d1 d2 v h => by
  unfold modI at h; split at h <;> simp at h; exact ⟨_, _, rfl, rfl, h.1, h.2.symm⟩
theorem pure_pow {K} : PureS K (rI CPow fun i j => .int (i ^ j.toNat)) powI := pure_rI fun d1 d2 v h => by
  unfold powI at h; split at h <;> simp only [Option.ite_none_right_eq_some, Option.some.injEq, reduceCtorEq] at h; exact ⟨_, _, rfl, rfl, h.1, h.2.symm⟩
theorem pure_cmp {K} (f : Int → Int → Bool) : PureS K (rI0 fun i j => .bl (f i j)) (cmpI f) := pure_rI0 fun d1 d2 v h => by
  unfold cmpI at h; split at h <;> simp at h; exact ⟨_, _, rfl, rfl, h.symm⟩
theorem pure_add {K} : PureS K (fun x y H Q => rI0 (fun i j => .int (i + j)) x y H Q ∨ ∃ i j, x = .str i ∧ y = .str j ∧ i.length + j.length ≤ sizeLine ∧ Q (.str (i ++ j)) H) addI := fun H x y d1 d2 v Q h1 h2 e q => by
  unfold addI at e
  split at e
  · simp at e; subst e; exact .inl ⟨_, _, h1, h2, q⟩
  · simp at e
    obtain ⟨e1, rfl⟩ := e
    exact .inr ⟨_, _, h1, h2, e1, q⟩
  · cases e
abbrev iLt (i j : Int) : Bool := decide (i < j)
abbrev iLe (i j : Int) : Bool := decide (i ≤ j)
abbrev iGt (i j : Int) : Bool := decide (j < i)
abbrev iGe (i j : Int) : Bool := decide (j ≤ i)
section
variable {a b : Expr}
theorem p_add (ha : BOk X a p) (hb : BOk X b q) : POk X (.BinOp a .Add b pos) (pOp addI p q) := p_op (op_add.or op_add_str) pure_add ha hb
theorem p_sub (ha : BOk X a p) (hb : BOk X b q) : POk X (.BinOp a .Sub b pos) (pOp subI p q) := p_op op_sub pure_sub ha hb
theorem p_mul (ha : BOk X a p) (hb : BOk X b q) : POk X (.BinOp a .Mult b pos) (pOp mulI p q) := p_op op_mulY pure_mul ha hb
theorem p_fdiv (ha : BOk X a p) (hb : BOk X b q) : POk X (.BinOp a .FloorDiv b pos) (pOp fdivI p q) := p_op op_fdivY pure_fdiv ha hb
theorem p_mod (ha : BOk X a p) (hb : BOk X b q) : POk X (.BinOp a .Mod b pos) (pOp modI p q) := p_op op_modN pure_mod ha hb
theorem p_pow (ha : BOk X a p) (hb : BOk X b q) : POk X (.BinOp a .Pow b pos) (pOp powI p q) := p_op op_pow pure_pow ha hb
theorem p_lt (ha : BOk X a p) (hb : BOk X b q) : POk X (.Compare a [.Lt] [b] pos) (pOp (cmpI iLt) p q) := p_cmp op_lt (pure_cmp _) (nomark _) ha hb
theorem p_le (ha : BOk X a p) (hb : BOk X b q) : POk X (.Compare a [.LtE] [b] pos) (pOp (cmpI iLe) p q) := p_cmp op_le (pure_cmp _) (nomark _) ha hb
theorem p_gt (ha : BOk X a p) (hb : BOk X b q) : POk X (.Compare a [.Gt] [b] pos) (pOp (cmpI iGt) p q) := p_cmp op_gt (pure_cmp _) (nomark _) ha hb
theorem p_ge (ha : BOk X a p) (hb : BOk X b q) : POk X (.Compare a [.GtE] [b] pos) (pOp (cmpI iGe) p q) := p_cmp op_ge (pure_cmp _) (nomark _) ha hb
theorem q_lt (ha : BOk X a p) (hb : BOk X b q) : QOk X (.Compare a [.Lt] [b] pos) (qOf (pOp (cmpI iLt) p q)) := q_cmp op_lt (pure_cmp _) (nomark _) ha hb
theorem q_le (ha : BOk X a p) (hb : BOk X b q) : QOk X (.Compare a [.LtE] [b] pos) (qOf (pOp (cmpI iLe) p q)) := q_cmp op_le (pure_cmp _) (nomark _) ha hb
theorem q_gt (ha : BOk X a p) (hb : BOk X b q) : QOk X (.Compare a [.Gt] [b] pos) (qOf (pOp (cmpI iGt) p q)) := q_cmp op_gt (pure_cmp _) (nomark _) ha hb
theorem q_ge (ha : BOk X a p) (hb : BOk X b q) : QOk X (.Compare a [.GtE] [b] pos) (qOf (pOp (cmpI iGe) p q)) := q_cmp op_ge (pure_cmp _) (nomark _) ha hb
end
/-! #### == and != of plain data -/
mutual
def toPy : D → Option PyData
  | .non => some .none
  | .bl b => some (.bool b)
  | .int i => some (.int i)
  | .str s => some (.str s)
  | .tup l => (toPys l).map .tuple
  | .lst l => (toPys l).map .list
  | _ => none
def toPys : List D → Option (List PyData)
  | [] => some []
  | d :: r => match toPy d, toPys r with
    | some x, some xs => some (x :: xs)
    | _, _ => none
end
mutual
theorem toPy_dp {K : PySem.W.Frag} {W : Addr → Prop} {H : Hp} : ∀ (d : D) (v : V) (y : PyData), Is K W H d v → toPy d = some y → Dp K H v y
  | .non, v, y, h, e => by cases e; rw [show v = .non from h]; exact .non
  | .bl b, v, y, h, e => by cases e; rw [show v = .bl b from h]; exact .bl b
  | .int i, v, y, h, e => by cases e; rw [show v = .int i from h]; exact .int i
  | .str x, v, y, h, e => by cases e; rw [show v = .str x from h]; exact .str x
  | .tup l, v, y, h, e => by
    obtain ⟨a, xs, rfl, ha, _, r⟩ := h
    simp only [toPy, Option.map_eq_some_iff] at e
    obtain ⟨ys, e, rfl⟩ := e
    exact .tup (.inl (.inl ha)) (toPys_dp l xs ys r e)
  | .lst l, v, y, h, e => by
    obtain ⟨a, xs, rfl, ha, _, r⟩ := h
    simp only [toPy, Option.map_eq_some_iff] at e
    obtain ⟨ys, e, rfl⟩ := e
    exact .lst (.inl (.inl ha)) (toPys_dp l xs ys r e)
  | .dct l, v, y, h, e => by cases e
  | .dcT l, v, y, h, e => by cases e
  | .dcL l, v, y, h, e => by cases e
  | .ro l, v, y, h, e => by cases e
  | .opq l, v, y, h, e => by cases e
theorem toPys_dp {K : PySem.W.Frag} {W : Addr → Prop} {H : Hp} : ∀ (l : List D) (xs : List V) (ys : List PyData), IsL K W H l xs → toPys l = some ys → DpAll K H xs ys
  | [], xs, ys, h, e => by cases e; rw [show xs = [] from h]; exact .nil
  | d :: r, xs, ys, h, e => by
    obtain ⟨x, zs, rfl, h1, h2⟩ := h
    simp only [toPys] at e
    cases e1 : toPy d with
    | none => rw [e1] at e; cases e
    | some y1 =>
      cases e2 : toPys r with
      | none => rw [e1, e2] at e; cases e
      | some y2 =>
        rw [e1, e2] at e
        cases e
        exact .cons (toPy_dp d x y1 h1 e1) (toPys_dp r zs y2 h2 e2)
end
def eqD (a b : D) : Option Bool := match toPy a, toPy b with
  | some x, some y => if SeqAt.shaped x && SeqAt.shaped y then some (PyData.eqv x y) else none
  | _, _ => none
def eqV' (a b : D) : Option V := (eqD a b).map V.bl
def neV' (a b : D) : Option V := (eqD a b).map fun c => V.bl !c
theorem eqD_of {a b : D} {c : Bool} (h : eqD a b = some c) : ∃ x y, toPy a = some x ∧ toPy b = some y ∧ SeqAt.shaped x = true ∧ SeqAt.shaped y = true ∧ c = PyData.eqv x y := by
  unfold eqD at h
  split at h
  · rename_i x y e1 e2
    simp at h
    exact ⟨x, y, e1, e2, h.1.1, h.1.2, h.2.symm⟩
  · cases h
theorem pure_eq {K} : PureS K (rEqD K) eqV' := fun H x y d1 d2 v Q h1 h2 e q => by
  unfold eqV' at e
  simp only [Option.map_eq_some_iff] at e
  obtain ⟨c, e, rfl⟩ := e
  obtain ⟨y1, y2, e1, e2, s1, s2, rfl⟩ := eqD_of e
  exact ⟨y1, y2, toPy_dp _ _ _ h1 e1, toPy_dp _ _ _ h2 e2, s1, s2, q⟩
theorem pure_ne {K} : PureS K (rNeD K) neV' := fun H x y d1 d2 v Q h1 h2 e q => by
  unfold neV' at e
  simp only [Option.map_eq_some_iff] at e
  obtain ⟨c, e, rfl⟩ := e
  obtain ⟨y1, y2, e1, e2, s1, s2, rfl⟩ := eqD_of e
  exact ⟨y1, y2, toPy_dp _ _ _ h1 e1, toPy_dp _ _ _ h2 e2, s1, s2, q⟩
section
variable {a b : Expr} {k : Nat}
theorem p_eq (hr : Room k X.A) (ha : BOk X a p) (hb : BOk X b q) : POk X (.Compare a [.Eq] [b] pos) (pOp eqV' p q) := p_cmp (op_eqD hr.units) pure_eq (nomark _) ha hb
theorem p_ne (hr : Room k X.A) (ha : BOk X a p) (hb : BOk X b q) : POk X (.Compare a [.NotEq] [b] pos) (pOp neV' p q) := p_cmp (op_neD hr.units) pure_ne (nomark _) ha hb
theorem q_eq (hr : Room k X.A) (ha : BOk X a p) (hb : BOk X b q) : QOk X (.Compare a [.Eq] [b] pos) (qOf (pOp eqV' p q)) := q_cmp (op_eqD hr.units) pure_eq (nomark _) ha hb
theorem q_ne (hr : Room k X.A) (ha : BOk X a p) (hb : BOk X b q) : QOk X (.Compare a [.NotEq] [b] pos) (qOf (pOp neV' p q)) := q_cmp (op_neD hr.units) pure_ne (nomark _) ha hb
end
/-! #### is None -/
def isNonD : D → Bool
  | .non => true
  | _ => false
theorem isNonD_iff {K W H} {d : D} {v : V} (h : Is K W H d v) (hq : ∀ u, d ≠ .opq u) : decide (v = .non) = isNonD d := by
  cases d with
  | non => rw [show v = .non from h]; rfl
  | bl b => rw [show v = .bl b from h]; rfl
  | int b => rw [show v = .int b from h]; rfl
  | str b => rw [show v = .str b from h]; rfl
  | opq u => exact absurd rfl (hq u)
  | tup l => obtain ⟨a, _, rfl, _⟩ := h; rfl
  | lst l => obtain ⟨a, _, rfl, _⟩ := h; rfl
  | dct l => obtain ⟨a, _, rfl, _⟩ := h; rfl
  | dcT l => obtain ⟨a, _, rfl, _⟩ := h; rfl
  | dcL l => obtain ⟨a, _, _, rfl, _⟩ := h; rfl
  | ro l => obtain ⟨a, rfl, _⟩ := h; rfl
def isN : D → D → Option V
  | .opq _, _ => none
  | d, .non => some (.bl (isNonD d))
  | _, _ => none
def notN : D → D → Option V
  | .opq _, _ => none
  | d, .non => some (.bl (!isNonD d))
  | _, _ => none
theorem pure_isN {K} : PureS K (fun x y H Q => y = .non ∧ Q (.bl (decide (x = .non))) H) isN := fun H x y d1 d2 v Q h1 h2 e q => by
  unfold isN at e
  split at e
  · cases e
  · rename_i hq
    simp at e
    subst e
    refine ⟨h2, ?_⟩
    rw [isNonD_iff h1 hq]
    exact q
  · cases e
theorem pure_notN {K} : PureS K (fun x y H Q => y = .non ∧ Q (.bl (!decide (x = .non))) H) notN := fun H x y d1 d2 v Q h1 h2 e q => by
  unfold notN at e
  split at e
  · cases e
  · rename_i hq
    simp at e
    subst e
    refine ⟨h2, ?_⟩
    rw [isNonD_iff h1 hq]
    exact q
  · cases e
section
variable {a b : Expr}
theorem p_isN (ha : BOk X a p) (hb : BOk X b q) : POk X (.Compare a [.Is] [b] pos) (pOp isN p q) := p_cmp op_isN pure_isN (nomark _) ha hb
theorem p_notN (ha : BOk X a p) (hb : BOk X b q) : POk X (.Compare a [.IsNot] [b] pos) (pOp notN p q) := p_cmp op_notN pure_notN (nomark _) ha hb
theorem q_isN (ha : BOk X a p) (hb : BOk X b q) : QOk X (.Compare a [.Is] [b] pos) (qOf (pOp isN p q)) := q_cmp op_isN pure_isN (nomark _) ha hb
theorem q_notN (ha : BOk X a p) (hb : BOk X b q) : QOk X (.Compare a [.IsNot] [b] pos) (qOf (pOp notN p q)) := q_cmp op_notN pure_notN (nomark _) ha hb
end
/-! ### and, or, not, if -/
section
variable {a b c : Expr} {rest : List Expr} {s t u : PB}
def qAnd (s t : PB) : PB := fun env => match s env with
  | some true => t env
  | some false => some false
  | none => none
def qOr (s t : PB) : PB := fun env => match s env with
  | some true => some true
  | some false => t env
  | none => none
def qNot (s : PB) : PB := fun env => (s env).map (!·)
abbrev WOk (X : Cx) (e : Expr) (p : PB) : Prop := PW X e (rdQ X p)
theorem _root_.L2.PW.imp {X : Cx} {e : Expr} {t t' : TT} (h : PW X e t) (i : ∀ σ H Q, t' σ H Q → t σ H Q) : PW X e t' := ⟨fun wh pins s σ H Q I hw => h.run wh pins s σ H Q I (i σ H Q hw)⟩
theorem w_and1 (ha : QOk X a s) : WOk X (.BoolOp .And [a] pos) s := pw_and1 ha
theorem w_or1 (ha : QOk X a s) : WOk X (.BoolOp .Or [a] pos) s := pw_or1 ha
theorem w_and (ha : QOk X a s) (hb : WOk X (.BoolOp .And (b :: rest) pos) t) : WOk X (.BoolOp .And (a :: b :: rest) pos) (qAnd s t) := (pw_and ha hb).imp fun σ H Q h => by
  obtain ⟨B, env, O, st, k, hp, h⟩ := h
  unfold qAnd at hp
  cases e1 : s env with
  | none => rw [e1] at hp; cases hp
  | some c =>
    rw [e1] at hp
    refine ⟨B, env, O, st, c, e1, fun H1 g1 => ?_⟩
    cases c with
    | true => rw [if_pos rfl]; exact ⟨B, env, O, st.grw g1, k, hp, fun H2 g2 => h H2 (g1.trans g2)⟩
    | false => rw [if_neg Bool.false_ne_true]; cases hp; exact h H1 g1
theorem w_or (ha : QOk X a s) (hb : WOk X (.BoolOp .Or (b :: rest) pos) t) : WOk X (.BoolOp .Or (a :: b :: rest) pos) (qOr s t) := (pw_or ha hb).imp fun σ H Q h => by
  obtain ⟨B, env, O, st, k, hp, h⟩ := h
  unfold qOr at hp
  cases e1 : s env with
  | none => rw [e1] at hp; cases hp
  | some c =>
    rw [e1] at hp
    refine ⟨B, env, O, st, c, e1, fun H1 g1 => ?_⟩
    cases c with
    | true => rw [if_pos rfl]; cases hp; exact h H1 g1
    | false => rw [if_neg Bool.false_ne_true]; exact ⟨B, env, O, st.grw g1, k, hp, fun H2 g2 => h H2 (g1.trans g2)⟩
theorem q_W (h : WOk X e s) : QOk X e s := h.pt
theorem q_not (ha : QOk X a s) : QOk X (.UnaryOp .Not a pos) (qNot s) := (pt_not ha).imp fun σ H Q h => by
  obtain ⟨B, env, O, st, k, hp, h⟩ := h
  unfold qNot at hp
  simp only [Option.map_eq_some_iff] at hp
  obtain ⟨c, e1, rfl⟩ := hp
  exact ⟨B, env, O, st, c, e1, h⟩
/-- as values -/
def pAnd (p q : P) : P := fun env => match p env with
  | some (.bl true) => q env
  | some (.bl false) => some (.bl false)
  | _ => none
def pOr (p q : P) : P := fun env => match p env with
  | some (.bl true) => some (.bl true)
  | some (.bl false) => q env
  | _ => none
def pNot (p : P) : P := fun env => match p env with
  | some (.bl c) => some (.bl (!c))
  | _ => none
theorem p_one {op} (h : POk X a p) : POk X (.BoolOp op [a] pos) p := pe_one h
theorem p_and (ha : POk X a p) (hb : POk X (.BoolOp .And (b :: rest) pos) q) : POk X (.BoolOp .And (a :: b :: rest) pos) (pAnd p q) := (pe_and ha hb).imp fun σ H Q h => by
  obtain ⟨B, env, O, st, d, hp, h⟩ := h
  unfold pAnd at hp
  split at hp
  · rename_i e1
    refine ⟨B, env, O, st, _, e1, fun v H1 g1 hv => ⟨true, hv, ?_⟩⟩
    rw [if_pos rfl]
    exact ⟨B, env, O, st.grw g1, d, hp, fun v H2 g2 hv => h v H2 (g1.trans g2) hv⟩
  · rename_i e1
    cases hp
    refine ⟨B, env, O, st, _, e1, fun v H1 g1 hv => ⟨false, hv, ?_⟩⟩
    rw [if_neg Bool.false_ne_true]
    exact h _ H1 g1 rfl
  · cases hp
theorem p_or (ha : POk X a p) (hb : POk X (.BoolOp .Or (b :: rest) pos) q) : POk X (.BoolOp .Or (a :: b :: rest) pos) (pOr p q) := (pe_or ha hb).imp fun σ H Q h => by
  obtain ⟨B, env, O, st, d, hp, h⟩ := h
  unfold pOr at hp
  split at hp
  · rename_i e1
    cases hp
    refine ⟨B, env, O, st, _, e1, fun v H1 g1 hv => ⟨true, hv, ?_⟩⟩
    rw [if_pos rfl]
    exact h _ H1 g1 rfl
  · rename_i e1
    refine ⟨B, env, O, st, _, e1, fun v H1 g1 hv => ⟨false, hv, ?_⟩⟩
    rw [if_neg Bool.false_ne_true]
    exact ⟨B, env, O, st.grw g1, d, hp, fun v H2 g2 hv => h v H2 (g1.trans g2) hv⟩
  · cases hp
theorem p_not (ha : POk X a p) : POk X (.UnaryOp .Not a pos) (pNot p) := (pe_not ha).imp fun σ H Q h => by
  obtain ⟨B, env, O, st, d, hp, h⟩ := h
  unfold pNot at hp
  split at hp
  · rename_i c e1
    cases hp
    exact ⟨B, env, O, st, _, e1, fun v H1 g1 hv => ⟨c, hv, h _ H1 g1 rfl⟩⟩
  · cases hp
def pIf (s : PB) (p q : P) : P := fun env => match s env with
  | some true => p env
  | some false => q env
  | none => none
theorem p_if (hc : QOk X c s) (ha : POk X a p) (hb : POk X b q) : POk X (.IfExp c a b pos) (pIf s p q) := (pe_ifExp hc ha hb).imp fun σ H Q h => by
  obtain ⟨B, env, O, st, d, hp, h⟩ := h
  unfold pIf at hp
  cases e1 : s env with
  | none => rw [e1] at hp; cases hp
  | some k =>
    rw [e1] at hp
    refine ⟨B, env, O, st, k, e1, fun H1 g1 => ?_⟩
    have k2 : ∀ v H2, Grw H1 H2 → Is X.K (fun a => B a ∨ a ∈ O) H2 d v → Q v H2 := fun v H2 g2 hv => h v H2 (g1.trans g2) hv
    cases k with
    | true => exact iteT (show rdP X p σ H1 Q from ⟨B, env, O, st.grw g1, d, hp, k2⟩)
    | false => exact iteF (show rdP X q σ H1 Q from ⟨B, env, O, st.grw g1, d, hp, k2⟩)
def pNeg (p : P) : P := fun env => match p env with
  | some (.int i) => some (.int (-i))
  | _ => none
theorem p_neg (ha : BOk X a p) : POk X (.UnaryOp .USub a pos) (pNeg p) := (pe_un un_neg ha).imp fun σ H Q h => by
  obtain ⟨B, env, O, st, d, hp, h⟩ := h
  unfold pNeg at hp
  split at hp
  · rename_i i e1
    cases hp
    exact ⟨B, env, O, st, _, e1, fun v H1 g1 hv => ⟨i, hv, h _ H1 g1 rfl⟩⟩
  · cases hp
end
end
end PL
namespace PL
open PySem PySem.Spec PyProof.Rows L2

/-! ### argument lists -/
def evPs : List P → Slots → Option (List D)
  | [], _ => some []
  | p :: r, env => match p env, evPs r env with
    | some d, some ds => some (d :: ds)
    | _, _ => none
section
variable (X : Cx)
def rdD (ps : List P) : TA := fun σ H Q => ∃ B env O, Stt X.K B H σ env O ∧ ∃ ds, evPs ps env = some ds ∧ ∀ vs H', Grw H H' → IsL X.K (fun a => B a ∨ a ∈ O) H' ds vs → Q vs H'
def rdDB (ps : List P) : TA := fun σ H Q => ∃ B env O, Stt X.K B H σ env O ∧ ∃ ds, evPs ps env = some ds ∧ ∀ vs H', Grw H H' → IsL X.K NoW H' ds vs → Q vs H'
/-- a new list of frozen things -/
def rdF (p : Slots → Option (List D)) : TE := fun σ H Q => ∃ B env O, Stt X.K B H σ env O ∧ ∃ l, p env = some l ∧ ∀ a xs H1, Grw H H1 → H1 a = none → IsL X.K (fun a => B a ∨ a ∈ O) H1 l xs → Q (.ref a) (upd H1 a (.lst xs))
/-- a list whose things are frozen -/
def rdL (p : Slots → Option (List D)) : TE := fun σ H Q => ∃ B env O, Stt X.K B H σ env O ∧ ∃ l, p env = some l ∧ ∀ a xs H', Grw H H' → H' a = some (.lst xs) → IsL X.K (fun a => B a ∨ a ∈ O) H' l xs → Q (.ref a) H'
/-- a part of a slot's cell -/
def rdK (f : Slots → Option C) : TE := fun σ H Q => ∃ B env O, Stt X.K B H σ env O ∧ ∃ c, f env = some c ∧ ∀ v H', Grw H H' → (∃ A, (∀ a ∈ A, a ∈ O) ∧ RepC X.K (fun a => B a ∨ a ∈ O) H' c v A) → Q v H'
end
abbrev PLs := Slots → Option (List D)
abbrev ADk (X : Cx) (es : List Expr) (ps : List P) : Prop := PA X es (rdD X ps)
abbrev ABk (X : Cx) (es : List Expr) (ps : List P) : Prop := PA X es (rdDB X ps)
abbrev FOk (X : Cx) (e : Expr) (p : PLs) : Prop := PE X e (rdF X p)
abbrev LOk (X : Cx) (e : Expr) (p : PLs) : Prop := PE X e (rdL X p)
abbrev KOk (X : Cx) (e : Expr) (f : Slots → Option C) : Prop := PE X e (rdK X f)
section
variable {X : Cx} {w : WX} {H : Hp} {σ : L2.St} {e : Expr} {es : List Expr} {p q r : P} {ps : List P} {pos : Pos}
theorem ad_nil : ADk X [] [] := pa_nil.imp fun σ H Q h => by
  obtain ⟨B, env, O, s, ds, hp, h⟩ := h
  cases hp
  exact h [] H Grw.refl rfl
theorem ab_nil : ABk X [] [] := pa_nil.imp fun σ H Q h => by
  obtain ⟨B, env, O, s, ds, hp, h⟩ := h
  cases hp
  exact h [] H Grw.refl rfl
theorem evPs_cons {env : Slots} {ds : List D} (h : evPs (p :: ps) env = some ds) : ∃ d r, p env = some d ∧ evPs ps env = some r ∧ ds = d :: r := by
  unfold evPs at h
  split at h
  · rename_i d r e1 e2
    exact ⟨d, r, e1, e2, (Option.some.inj h).symm⟩
  · cases h
theorem ad_cons (ha : POk X e p) (hr : ADk X es ps) (hs : starEach (e :: es) X.env = (false, eval e X.env) :: starEach es X.env := by rfl) : ADk X (e :: es) (p :: ps) := (pa_cons ha hr hs).imp fun σ H Q h => by
  obtain ⟨B, env, O, s, ds, hp, h⟩ := h
  obtain ⟨d, r, e1, e2, rfl⟩ := evPs_cons hp
  exact ⟨B, env, O, s, d, e1, fun v H1 g1 hv => ⟨B, env, O, s.grw g1, r, e2, fun vs H2 g2 hvs => h (v :: vs) H2 (g1.trans g2) ⟨v, vs, rfl, hv.grw g2, hvs⟩⟩⟩
theorem ab_cons (ha : BOk X e p) (hr : ABk X es ps) (hs : starEach (e :: es) X.env = (false, eval e X.env) :: starEach es X.env := by rfl) : ABk X (e :: es) (p :: ps) := (pa_cons ha hr hs).imp fun σ H Q h => by
  obtain ⟨B, env, O, s, ds, hp, h⟩ := h
  obtain ⟨d, r, e1, e2, rfl⟩ := evPs_cons hp
  exact ⟨B, env, O, s, d, e1, fun v H1 g1 hv => ⟨B, env, O, s.grw g1, r, e2, fun vs H2 g2 hvs => h (v :: vs) H2 (g1.trans g2) ⟨v, vs, rfl, hv.grw g2, hvs⟩⟩⟩
theorem evPs_len {env : Slots} : ∀ {ps : List P} {ds : List D}, evPs ps env = some ds → ds.length = ps.length
  | [], ds, h => by cases h; rfl
  | p :: r, ds, h => by
    obtain ⟨d, r', e1, e2, rfl⟩ := evPs_cons h
    rw [List.length_cons, List.length_cons, evPs_len e2]

/-! ### new lists -/
def pF (p : PLs) : P := fun env => (p env).map .lst
theorem rdF_new {K : PySem.W.Frag} {B : Addr → Prop} {O : List Addr} {H H1 : Hp} {env : Slots} {l : List D} {xs : List V} {a : Addr} (s : Stt K B H σ env O) (g : Grw H H1) (ha : H1 a = none) (hl : IsL K (fun a => B a ∨ a ∈ O) H1 l xs) :
    Grw H (upd H1 a (.lst xs)) ∧ Grw H1 (upd H1 a (.lst xs)) ∧ ¬ (B a ∨ a ∈ O) := by
  have g1 : Grw H1 (upd H1 a (.lst xs)) := fun b o e => by rw [upd_ne (ne_of_none e ha)]; exact e
  refine ⟨g.trans g1, g1, fun z => ?_⟩
  obtain ⟨u, e⟩ := (s.grw g).trk a z
  rw [ha] at e; cases e
theorem p_F {p : PLs} (h : FOk X e p) : POk X e (pF p) := h.imp fun σ H Q h => by
  obtain ⟨B, env, O, s, d, hp, h⟩ := h
  unfold pF at hp
  simp only [Option.map_eq_some_iff] at hp
  obtain ⟨l, hp, rfl⟩ := hp
  refine ⟨B, env, O, s, l, hp, fun a xs H1 g ha hl => ?_⟩
  obtain ⟨g2, g1, nw⟩ := rdF_new s g ha hl
  exact h _ _ g2 ⟨a, xs, rfl, upd_same, nw, hl.grw g1⟩
def eF (p : PLs) : M C := fun env => match p env with | some l => .ok (.own (l.map .frz)) env | none => .no
theorem eF_of {p : PLs} (σ : L2.St) (H : Hp) (Q : VK) (h : rdE X w (eF p) σ H Q) : rdF X p σ H Q := by
  obtain ⟨B, env, O, s, h⟩ := h
  unfold eF at h
  cases hp : p env with
  | none => rw [hp] at h; exact h.elim
  | some l =>
    rw [hp] at h
    refine ⟨B, env, O, s, l, hp, fun a xs H1 g ha hl => ?_⟩
    obtain ⟨g2, g1, nw⟩ := rdF_new s g ha hl
    refine h (.ref a) (upd H1 a (.lst xs)) [a] O (Res.new (s.grw g) (fun b o hw e => ⟨g b o e, fun z => z.elim (fun z => nomatch z) hw⟩) ⟨g1, ⟨a, xs, [], rfl, rfl, upd_same, ?_⟩, by simp, fun b hb => by rw [List.mem_singleton.mp hb]; exact ha⟩)
    have q : IsL X.K (fun b => (B b ∨ b ∈ O) ∨ b ∈ [a]) (upd H1 a (.lst xs)) l xs := IsL.kp (fun b o hw e => ⟨g1 b o e, fun z => z.elim hw fun z => by rw [List.mem_singleton.mp z, ha] at e; cases e⟩) _ _ hl
    exact RepL.frz q
theorem e_F {p : PLs} (h : FOk X e p) : EOk X w e (eF p) := h.imp eF_of
theorem l_F {p : PLs} (h : FOk X e p) : LOk X e p := h.imp fun σ H Q h => by
  obtain ⟨B, env, O, s, l, hp, h⟩ := h
  refine ⟨B, env, O, s, l, hp, fun a xs H1 g ha hl => ?_⟩
  obtain ⟨g2, g1, nw⟩ := rdF_new s g ha hl
  exact h a xs _ g2 upd_same (hl.grw g1)
/-- a frozen list -/
def lP (p : P) : PLs := fun env => match p env with | some (.lst l) => some l | _ => none
theorem l_P (h : POk X e p) : LOk X e (lP p) := h.imp fun σ H Q h => by
  obtain ⟨B, env, O, s, l, hp, h⟩ := h
  unfold lP at hp
  split at hp
  · rename_i l' e1
    cases hp
    refine ⟨B, env, O, s, _, e1, fun v H' g hv => ?_⟩
    obtain ⟨a, xs, rfl, ha, nw, hl⟩ := hv
    exact h a xs H' g ha hl
  · cases hp
/-- display -/
theorem f_lst (h : ADk X es ps) (hz : ps.length ≤ 100000 := by decide) : FOk X (.List es pos) (evPs ps) := (pe_lst h).imp fun σ H Q h => by
  obtain ⟨B, env, O, s, l, hp, h⟩ := h
  refine ⟨B, env, O, s, l, hp, fun vs H' g hv => ⟨?_, fun a ha => h a vs H' g ha hv⟩⟩
  rw [hv.length, evPs_len hp, sizeLine_eq]; omega
def pTup (ps : List P) : P := fun env => (evPs ps env).map .tup
theorem p_tup {k} (h : ADk X es ps) (hz : ps.length ≤ 100000 := by decide) : POk X (.Tuple es k pos) (pTup ps) := (pe_tup h).imp fun σ H Q h => by
  obtain ⟨B, env, O, s, d, hp, h⟩ := h
  unfold pTup at hp
  simp only [Option.map_eq_some_iff] at hp
  obtain ⟨l, hp, rfl⟩ := hp
  refine ⟨B, env, O, s, l, hp, fun vs H1 g hv => ⟨by rw [hv.length, evPs_len hp, sizeLine_eq]; omega, fun a ha => ?_⟩⟩
  have g1 : Grw H1 (upd H1 a (.tup vs)) := fun b o e => by rw [upd_ne (ne_of_none e ha)]; exact e
  refine h _ _ (g.trans g1) ⟨a, vs, rfl, upd_same, fun z => ?_, hv.grw g1⟩
  obtain ⟨u, e⟩ := (s.grw g).trk a z
  rw [ha] at e; cases e

/-! ### + and * of lists -/
def fCat (p q : PLs) : PLs := fun env => match p env, q env with
  | some a, some b => if a.length + b.length ≤ 16777216 then some (a ++ b) else none
  | _, _ => none
theorem f_cat {a b : Expr} {p q : PLs} (ha : LOk X a p) (hb : LOk X b q) : FOk X (.BinOp a .Add b pos) (fCat p q) := (pe_op op_cat ha hb).imp fun σ H Q h => by
  obtain ⟨B, env, O, s, l, hp, h⟩ := h
  unfold fCat at hp
  split at hp
  · rename_i l1 l2 e1 e2
    split at hp
    · rename_i hz
      cases hp
      refine ⟨B, env, O, s, l1, e1, fun a1 xs H1 g1 h1 i1 => ⟨B, env, O, s.grw g1, l2, e2, fun a2 ys H2 g2 h2 i2 => ?_⟩⟩
      exact ⟨a1, a2, xs, ys, rfl, rfl, g2 _ _ h1, h2, by rw [i1.length, i2.length, sizeLine_eq]; exact hz, fun z hz => h z _ H2 (g1.trans g2) hz ((i1.grw g2).append i2)⟩
    · cases hp
  · cases hp
def fRep (p : PLs) (q : P) : PLs := fun env => match p env, q env with
  | some a, some (.int k) => if -(2 ^ 63) ≤ k ∧ k < 2 ^ 63 ∧ a.length * k.toNat ≤ 16777216 then some (List.replicate k.toNat a).flatten else none
  | _, _ => none
theorem f_rep {a b : Expr} {p : PLs} (ha : LOk X a p) (hb : BOk X b q) : FOk X (.BinOp a .Mult b pos) (fRep p q) := (pe_op op_rep ha hb).imp fun σ H Q h => by
  obtain ⟨B, env, O, s, l, hp, h⟩ := h
  unfold fRep at hp
  split at hp
  · rename_i l1 k e1 e2
    split at hp
    · rename_i hz
      cases hp
      refine ⟨B, env, O, s, l1, e1, fun a1 xs H1 g1 h1 i1 => ⟨B, env, O, s.grw g1, _, e2, fun v H2 g2 h2 => ?_⟩⟩
      exact ⟨a1, k, xs, rfl, h2, g2 _ _ h1, hz.1, hz.2.1, by rw [i1.length, sizeLine_eq]; exact hz.2.2, fun z hz => h z _ H2 (g1.trans g2) hz ((i1.grw g2).rep _)⟩
    · cases hp
  · cases hp
/-! ### slices -/
def evO : Option P → Slots → Option (Option Int)
  | none, _ => some none
  | some p, env => match p env with
    | some (.int i) => some (some i)
    | _ => none
def rdO (X : Cx) (o : Option P) : L2.TO := fun σ H Q => ∃ B env O, Stt X.K B H σ env O ∧ ∃ k, evO o env = some k ∧ ∀ H', Grw H H' → Q k H'
theorem _root_.L2.PO.imp {X : Cx} {e : Option Expr} {t t' : L2.TO} (h : PO X e t) (i : ∀ σ H Q, t' σ H Q → t σ H Q) : PO X e t' := ⟨fun pins s σ H Q I hw => h.run pins s σ H Q I (i σ H Q hw)⟩
theorem o_none : PO X none (rdO X none) := po_none.imp fun σ H Q h => by
  obtain ⟨B, env, O, s, k, hp, h⟩ := h
  cases hp
  exact h H Grw.refl
theorem o_some (h : BOk X e p) : PO X (some e) (rdO X (some p)) := (po_some h).imp fun σ H Q h => by
  obtain ⟨B, env, O, s, k, hp, h⟩ := h
  simp only [evO] at hp
  split at hp
  · rename_i i e1
    cases hp
    exact ⟨B, env, O, s, _, e1, fun v H' g hv => ⟨i, hv, h H' g⟩⟩
  · cases hp
/-- a list cut as a slice cuts it -/
def cutD {α : Type} (l : List α) (lo hi : Option Int) : List α := (l.drop (HT.sIx l.length 0 lo)).take (HT.sIx l.length l.length hi - HT.sIx l.length 0 lo)
theorem IsL.cut {K : PySem.W.Frag} {W : Addr → Prop} {l : List D} {xs : List V} (h : IsL K W H l xs) (lo hi : Option Int) : IsL K W H (cutD l lo hi) (cutV xs lo hi) := by
  unfold cutD cutV
  rw [h.length]
  exact (h.drop _).take _
def fSl (p : PLs) (lo hi : Option P) : PLs := fun env => match p env, evO lo env, evO hi env with
  | some l, some a, some b => some (cutD l a b)
  | _, _, _ => none
theorem f_slice {lo hi : Option Expr} {a b : Option P} {p : PLs} {p2 : Pos} (he : LOk X e p) (hl : PO X lo (rdO X a)) (hu : PO X hi (rdO X b)) : FOk X (.Subscript e (.Slice lo hi none p2) pos) (fSl p a b) := (pe_slice sl_list he hl hu).imp fun σ H Q h => by
  obtain ⟨B, env, O, s, l, hp, h⟩ := h
  unfold fSl at hp
  split at hp
  · rename_i l1 k1 k2 e1 e2 e3
    cases hp
    exact ⟨B, env, O, s, l1, e1, fun a1 xs H1 g1 h1 i1 => ⟨B, env, O, s.grw g1, k1, e2, fun H2 g2 => ⟨B, env, O, (s.grw g1).grw g2, k2, e3, fun H3 g3 =>
      ⟨a1, xs, rfl, SqL.of (g3 _ _ (g2 _ _ h1)), fun z hz => h z _ H3 ((g1.trans g2).trans g3) hz (((i1.grw g2).grw g3).cut k1 k2)⟩⟩⟩⟩
  · cases hp
/-- tuples, texts -/
def slD (d : D) (lo hi : Option Int) : Option D := match d with
  | .tup l => some (.tup (cutD l lo hi))
  | .str z => if z.length ≤ 16777216 then some (.str (cutS z lo hi)) else none
  | _ => none
def pSl (p : P) (lo hi : Option P) : P := fun env => match p env, evO lo env, evO hi env with
  | some d, some a, some b => slD d a b
  | _, _, _ => none
theorem p_slice {lo hi : Option Expr} {a b : Option P} {p2 : Pos} (he : POk X e p) (hl : PO X lo (rdO X a)) (hu : PO X hi (rdO X b)) : POk X (.Subscript e (.Slice lo hi none p2) pos) (pSl p a b) := (pe_slice (sl_tupA.or sl_str) he hl hu).imp fun σ H Q h => by
  obtain ⟨B, env, O, s, l, hp, h⟩ := h
  unfold pSl at hp
  split at hp
  · rename_i d k1 k2 e1 e2 e3
    refine ⟨B, env, O, s, d, e1, fun v H1 g1 i1 => ⟨B, env, O, s.grw g1, k1, e2, fun H2 g2 => ⟨B, env, O, (s.grw g1).grw g2, k2, e3, fun H3 g3 => ?_⟩⟩⟩
    have g := (g1.trans g2).trans g3
    have i3 := (i1.grw g2).grw g3
    unfold slD at hp
    split at hp
    · rename_i l1
      cases hp
      obtain ⟨a1, xs, rfl, h1, nw, il⟩ := i3
      refine .inl ⟨a1, xs, rfl, SqT.of h1, fun q => ?_, fun q z hz => ?_⟩
      · refine h _ H3 g ⟨a1, xs, rfl, h1, nw, ?_⟩
        have e4 := il.cut k1 k2
        have e5 : cutV xs k1 k2 = xs := by
          unfold cutV
          rw [q.1, q.2]; simp
        rw [e5] at e4
        exact e4
      · have g4 : Grw H3 (upd H3 z (.tup (cutV xs k1 k2))) := fun b o e => by rw [upd_ne (ne_of_none e hz)]; exact e
        refine h _ _ (g.trans g4) ⟨z, _, rfl, upd_same, fun y => ?_, (il.cut k1 k2).grw g4⟩
        obtain ⟨u, e⟩ := (s.grw g).trk z y
        rw [hz] at e; cases e
    · split at hp
      · rename_i z hz
        cases hp
        exact .inr ⟨_, i3, by rw [sizeLine_eq]; exact hz, h _ H3 g rfl⟩
      · cases hp
    · cases hp
  · cases hp
def fRev (p : PLs) : PLs := fun env => (p env).map List.reverse
theorem IsL.rev {K : PySem.W.Frag} {W : Addr → Prop} : ∀ {l : List D} {xs : List V}, IsL K W H l xs → IsL K W H l.reverse xs.reverse
  | [], xs, h => by rw [show xs = [] from h]; exact rfl
  | d :: r, xs, h => by
    obtain ⟨x, ys, rfl, h1, h2⟩ := h
    rw [List.reverse_cons, List.reverse_cons]
    exact (IsL.rev h2).append ⟨x, [], rfl, h1, rfl⟩
theorem f_rev {k : Nat} {p1 p2 p3 : Pos} {p : PLs} (he : LOk X e p) : FOk X (.Subscript e (.Slice none none (some (.UnaryOp .USub (.Constant (.int 1) k p1) p2)) p3) pos) (fRev p) := (pe_revL he).imp fun σ H Q h => by
  obtain ⟨B, env, O, s, l, hp, h⟩ := h
  unfold fRev at hp
  simp only [Option.map_eq_some_iff] at hp
  obtain ⟨l, hp, rfl⟩ := hp
  exact ⟨B, env, O, s, l, hp, fun a1 xs H1 g1 h1 i1 => ⟨a1, xs, rfl, SqL.of h1, fun z hz => h z _ H1 g1 hz i1.rev⟩⟩

/-! ### an item -/
def ixD : D → D → Option D
  | .lst l, .int i => atI l i
  | .tup l, .int i => atI l i
  | .str z, .int i => if z.length ≤ 16777216 then (atI z.cps.toList i).map fun c => .str ⟨#[c]⟩ else none
  | .ro l, .int i => (atI l i).map D.int
  | _, _ => none
def pIx (p q : P) : P := fun env => match p env, q env with
  | some d, some k => ixD d k
  | _, _ => none
theorem atI_is {K : PySem.W.Frag} {W : Addr → Prop} {l : List D} {xs : List V} {i : Int} {d : D} (h : IsL K W H l xs) (e : atI l i = some d) : ∃ x, atI xs i = some x ∧ Is K W H d x := by
  unfold atI at e ⊢
  rw [h.length]
  cases eN : ixN l.length i with
  | none => rw [eN] at e; cases e
  | some j =>
    rw [eN] at e
    exact h.get e
theorem ixD_of {K : PySem.W.Frag} {W : Addr → Prop} {d k r : D} {x y : V} {Q : VK} (h1 : Is K W H d x) (h2 : Is K NoW H k y) (e : ixD d k = some r) (h : ∀ v, Is K W H r v → Q v H) : rIx K x y H Q := by
  unfold ixD at e
  split at e
  · obtain ⟨a1, xs, rfl, h3, nw, il⟩ := h1
    obtain ⟨v, e2, hv⟩ := atI_is il e
    exact .inl ⟨a1, xs, _, v, rfl, h2, SqL.of h3, e2, h v hv⟩
  · obtain ⟨a1, xs, rfl, h3, nw, il⟩ := h1
    obtain ⟨v, e2, hv⟩ := atI_is il e
    exact .inr (.inl ⟨a1, xs, _, v, rfl, h2, SqT.of h3, e2, h v hv⟩)
  · split at e
    · rename_i hz
      simp only [Option.map_eq_some_iff] at e
      obtain ⟨c, e, rfl⟩ := e
      exact .inr (.inr ⟨_, _, c, h1, h2, by rw [sizeLine_eq]; exact hz, e, h _ rfl⟩)
    · cases e
  · simp only [Option.map_eq_some_iff] at e
    obtain ⟨c, e, rfl⟩ := e
    obtain ⟨a1, rfl, h3⟩ := h1
    rename_i l i
    have e2 : atI (l.map V.int) i = some (.int c) := by
      unfold atI at e ⊢
      rw [List.length_map]
      cases eN : ixN l.length i with
      | none => rw [eN] at e; cases e
      | some j =>
        rw [eN] at e
        have e' : l[j]? = some c := e
        show (l.map V.int)[j]? = some (.int c)
        rw [List.getElem?_map, e']; rfl
    refine .inl ⟨a1, _, _, _, rfl, h2, ?_, e2, h _ rfl⟩
    rcases h3 with ⟨h3, _⟩ | h3
    · exact .inl h3
    · exact .inr h3
  · cases e
theorem p_ix {a b : Expr} (ha : POk X a p) (hb : BOk X b q) (hs : PlainIx b) : POk X (.Subscript a b pos) (pIx p q) := (pe_ix ix_seq ha hb hs).imp fun σ H Q h => by
  obtain ⟨B, env, O, s, l, hp, h⟩ := h
  unfold pIx at hp
  split at hp
  · rename_i d k e1 e2
    exact ⟨B, env, O, s, d, e1, fun v H1 g1 i1 => ⟨B, env, O, s.grw g1, k, e2, fun u H2 g2 i2 => ixD_of (i1.grw g2) i2 hp fun z hz => h z H2 (g1.trans g2) hz⟩⟩
  · cases hp
/-! #### parts of a slot's own cell -/
def kV (i : Nat) : Slots → Option C := fun env => match env[i]? with
  | some (some c) => some c
  | _ => none
theorem k_V {i : Nat} {x : Str} (hN : X.N[i]? = some x) (hv : Vis X.env.scope x) (hd : (x == ("__debug__" : Str)) = false := by decide) (hcd : (x == ("__classdict__" : Str)) = false := by decide) :
    KOk X (.Name x pos) (kV i) := (pe_var (i := i) hN hv hd hcd).imp fun σ H Q h => by
  obtain ⟨B, env, O, s, d, hp, h⟩ := h
  unfold kV at hp
  split at hp
  · rename_i c e1
    cases hp
    obtain ⟨o, A1, A2, A3, g1, g2, ⟨y, g3, g4⟩, _⟩ := RepE.at s.rep e1
    exact ⟨y, by rw [g1, g3], h y H Grw.refl ⟨A2, fun a ha => by rw [g2]; simp [ha], g4⟩⟩
  · cases hp
def ixC : C → D → Option C
  | .frz d, k => (ixD d k).map .frz
  | .own l, .int i => atI l i
  | _, _ => none
def kIx (f : Slots → Option C) (q : P) : Slots → Option C := fun env => match f env, q env with
  | some c, some k => ixC c k
  | _, _ => none
theorem k_ix {a b : Expr} {f : Slots → Option C} (ha : KOk X a f) (hb : BOk X b q) (hs : PlainIx b) : KOk X (.Subscript a b pos) (kIx f q) := (pe_ix ix_seq ha hb hs).imp fun σ H Q h => by
  obtain ⟨B, env, O, s, l, hp, h⟩ := h
  unfold kIx at hp
  split at hp
  · rename_i c k e1 e2
    refine ⟨B, env, O, s, c, e1, fun v H1 g1 i1 => ⟨B, env, O, s.grw g1, k, e2, fun u H2 g2 i2 => ?_⟩⟩
    obtain ⟨A, hA, i1⟩ := i1
    have i3 : RepC X.K (fun a => B a ∨ a ∈ O) H2 c v A := RepC.kp g2.kp _ _ _ (fun a _ o e => g2 a o e) i1
    unfold ixC at hp
    split at hp
    · rename_i d
      simp only [Option.map_eq_some_iff] at hp
      obtain ⟨r, hp, rfl⟩ := hp
      exact ixD_of i3.2 i2 hp fun z hz => h z H2 (g1.trans g2) ⟨[], by simp, rfl, hz⟩
    · rename_i cs i
      obtain ⟨a1, xs, B1, rfl, rfl, h3, hr⟩ := i3
      unfold atI at hp
      cases eN : ixN cs.length i with
      | none => rw [eN] at hp; cases hp
      | some j =>
        rw [eN] at hp
        obtain ⟨x, A1, A2, A3, q1, q2, q3, _⟩ := RepL.at hr hp
        refine .inl ⟨a1, xs, i, x, rfl, i2, SqL.of h3, ?_, h x H2 (g1.trans g2) ⟨A2, fun b hb => hA b (by simp [q2, hb]), q3⟩⟩
        unfold atI
        rw [hr.length, eN]
        exact q1
    · cases hp
  · cases hp
/-- its plain data, where it is frozen -/
def pKf (f : Slots → Option C) : P := fun env => match f env with
  | some (.frz d) => some d
  | _ => none
theorem p_Kf {f : Slots → Option C} (h : KOk X e f) : POk X e (pKf f) := h.imp fun σ H Q h => by
  obtain ⟨B, env, O, s, l, hp, h⟩ := h
  unfold pKf at hp
  split at hp
  · rename_i d e1
    cases hp
    exact ⟨B, env, O, s, _, e1, fun v H' g ⟨A, hA, i⟩ => h v H' g i.2⟩
  · cases hp
def bKf (f : Slots → Option C) : P := fun env => (f env).map C.toD
theorem b_Kf {f : Slots → Option C} (h : KOk X e f) : BOk X e (bKf f) := h.imp fun σ H Q h => by
  obtain ⟨B, env, O, s, l, hp, h⟩ := h
  unfold bKf at hp
  simp only [Option.map_eq_some_iff] at hp
  obtain ⟨c, hp, rfl⟩ := hp
  exact ⟨B, env, O, s, _, hp, fun v H' g ⟨A, hA, i⟩ => h v H' g (RepC.is (fun _ z => z.elim) _ _ _ (fun _ _ z => z) i)⟩
/-- a slot's own list whose things are frozen -/
def frzs : List C → Option (List D)
  | [] => some []
  | .frz d :: r => (frzs r).map (d :: ·)
  | _ => none
theorem frzs_is {K : PySem.W.Frag} {W : Addr → Prop} : ∀ {cs : List C} {xs : List V} {A : List Addr} {l : List D}, RepL K W H cs xs A → frzs cs = some l → IsL K W H l xs
  | [], xs, A, l, h, e => by cases e; exact h.1
  | .frz d :: r, xs, A, l, h, e => by
    simp only [frzs, Option.map_eq_some_iff] at e
    obtain ⟨l, e, rfl⟩ := e
    obtain ⟨x, ys, A1, A2, rfl, rfl, h1, h2⟩ := h
    exact ⟨x, ys, rfl, h1.2, frzs_is h2 e⟩
  | .own _ :: r, xs, A, l, h, e => by simp [frzs] at e
  | .ownD _ :: r, xs, A, l, h, e => by simp [frzs] at e
  | .ownT _ :: r, xs, A, l, h, e => by simp [frzs] at e
@[simp] theorem frzs_map (l : List D) : frzs (l.map .frz) = some l := by
  induction l with
  | nil => rfl
  | cons d r ih => simp [frzs, ih]
def lKf (f : Slots → Option C) : PLs := fun env => match f env with
  | some (.own cs) => frzs cs
  | some (.frz (.lst l)) => some l
  | _ => none
theorem l_Kf {f : Slots → Option C} (h : KOk X e f) : LOk X e (lKf f) := h.imp fun σ H Q h => by
  obtain ⟨B, env, O, s, l, hp, h⟩ := h
  unfold lKf at hp
  split at hp
  · rename_i cs e1
    refine ⟨B, env, O, s, _, e1, fun v H' g ⟨A, hA, i⟩ => ?_⟩
    obtain ⟨a1, xs, B1, rfl, rfl, h3, hr⟩ := i
    exact h a1 xs H' g h3 (frzs_is hr hp)
  · rename_i l' e1
    cases hp
    refine ⟨B, env, O, s, _, e1, fun v H' g ⟨A, hA, i⟩ => ?_⟩
    obtain ⟨_, a1, xs, rfl, h3, nw, hl⟩ := i
    exact h a1 xs H' g h3 hl
  · cases hp

/-! ### built-in functions whose answer is a scalar -/
def CalS (K : PySem.W.Frag) (r : List V → Hp → VK → Prop) (fn : List D → Option V) : Prop := ∀ (H : Hp) (xs : List V) (ds : List D) (v : V) (Q : VK), IsL K NoW H ds xs → fn ds = some v → Q v H → r xs H Q
def pCall (fn : List D → Option V) (ps : List P) : P := fun env => match evPs ps env with
  | some ds => (fn ds).map ofV
  | none => none
theorem pCall_of {rr : List V → Hp → VK → Prop} {fn : List D → Option V} (h : CalS X.K rr fn) (σ : L2.St) (H : Hp) (Q : VK) (hq : rdP X (pCall fn ps) σ H Q) : tCB rr (rdDB X ps) σ H Q := by
  obtain ⟨B, env, O, s, d, hp, hq⟩ := hq
  unfold pCall at hp
  split at hp
  · rename_i ds e1
    simp only [Option.map_eq_some_iff] at hp
    obtain ⟨v, hv, rfl⟩ := hp
    exact ⟨B, env, O, s, ds, e1, fun vs H1 g1 i1 => h H1 vs ds v Q i1 hv (hq v H1 g1 (ofV_is _ _ _ v))⟩
  · cases hp
theorem IsL.one {K : PySem.W.Frag} {W : Addr → Prop} {d : D} {xs : List V} (h : IsL K W H [d] xs) : ∃ x, xs = [x] ∧ Is K W H d x := by
  obtain ⟨x, ys, rfl, h1, h2⟩ := h
  rw [show ys = [] from h2]
  exact ⟨x, rfl, h1⟩
theorem IsL.two {K : PySem.W.Frag} {W : Addr → Prop} {d e : D} {xs : List V} (h : IsL K W H [d, e] xs) : ∃ x y, xs = [x, y] ∧ Is K W H d x ∧ Is K W H e y := by
  obtain ⟨x, ys, rfl, h1, h2⟩ := h
  obtain ⟨y, rfl, h3⟩ := h2.one
  exact ⟨x, y, rfl, h1, h3⟩
def lenF : List D → Option V
  | [.lst l] => some (.int l.length)
  | [.tup l] => some (.int l.length)
  | [.ro l] => some (.int l.length)
  | [.str z] => if z.length ≤ 16777216 then some (.int z.length) else none
  | [.dct l] => some (.int l.length)
  | [.dcT l] => some (.int l.length)
  | _ => none
theorem IsP.length {K : PySem.W.Frag} {W : Addr → Prop} : ∀ {l : List (Key × D)} {xs : List (Key × V)}, IsP K W H l xs → xs.length = l.length
  | [], xs, h => by rw [show xs = [] from h]; rfl
  | (k, d) :: r, xs, h => by
    obtain ⟨x, ys, rfl, h1, h2⟩ := h
    rw [List.length_cons, List.length_cons, IsP.length h2]
theorem IsQ.length {K : PySem.W.Frag} {W : Addr → Prop} : ∀ {l : List (List Key × D)} {xs : List (List Key × V)}, IsQ K W H l xs → xs.length = l.length
  | [], xs, h => by rw [show xs = [] from h]; rfl
  | (k, d) :: r, xs, h => by
    obtain ⟨x, ys, rfl, h1, h2⟩ := h
    rw [List.length_cons, List.length_cons, IsQ.length h2]
theorem cal_len : CalS X.K (fun xs H Q => (∃ x n, xs = [x] ∧ LenV X.K x H n ∧ Q (.int n) H) ∨ (∃ a kvs, xs = [V.ref a] ∧ H a = some (.dK kvs) ∧ Q (.int kvs.length) H) ∨ rLenT xs H Q) lenF := fun H xs ds v Q h e q => by
  unfold lenF at e
  split at e
  · cases e
    obtain ⟨x, rfl, a, ys, rfl, ha, _, il⟩ := h.one
    exact .inl ⟨_, _, rfl, .inl ⟨ys, SqL.of ha, rfl⟩, by rw [il.length]; exact q⟩
  · cases e
    obtain ⟨x, rfl, a, ys, rfl, ha, _, il⟩ := h.one
    exact .inl ⟨_, _, rfl, .inr ⟨ys, SqT.of ha, rfl⟩, by rw [il.length]; exact q⟩
  · rename_i l
    cases e
    obtain ⟨x, rfl, a, rfl, ha⟩ := h.one
    refine .inl ⟨_, l.length, rfl, .inl ⟨l.map V.int, ?_, by simp⟩, q⟩
    rcases ha with ⟨h3, _⟩ | h3
    · exact .inl h3
    · exact .inr h3
  · split at e
    · rename_i z hz
      cases e
      obtain ⟨x, rfl, hx⟩ := h.one
      rw [show x = _ from hx]
      exact .inl ⟨_, _, rfl, ⟨by rw [sizeLine_eq]; exact hz, rfl⟩, q⟩
    · cases e
  · cases e
    obtain ⟨x, rfl, a, ys, rfl, ha, _, il⟩ := h.one
    exact .inr (.inl ⟨_, _, rfl, ha, by rw [il.length]; exact q⟩)
  · cases e
    obtain ⟨x, rfl, a, ys, rfl, ha, _, il⟩ := h.one
    exact .inr (.inr ⟨_, _, rfl, ha, by rw [il.length]; exact q⟩)
  · cases e
def absF : List D → Option V
  | [.int i] => some (.int (if i < 0 then -i else i))
  | _ => none
theorem cal_abs : CalS X.K (fun xs H Q => ∃ i, xs = [.int i] ∧ Q (.int (if i < 0 then -i else i)) H) absF := fun H xs ds v Q h e q => by
  unfold absF at e
  split at e
  · cases e
    obtain ⟨x, rfl, hx⟩ := h.one
    rw [show x = _ from hx]
    exact ⟨_, rfl, q⟩
  · cases e
def intF : List D → Option V
  | [.int i] => some (.int i)
  | [.bl k] => some (.int (if k then 1 else 0))
  | _ => none
theorem cal_int : CalS X.K (fun xs H Q => (∃ i, xs = [.int i] ∧ Q (.int i) H) ∨ ∃ k, xs = [.bl k] ∧ Q (.int (if k then 1 else 0)) H) intF := fun H xs ds v Q h e q => by
  unfold intF at e
  split at e
  · cases e
    obtain ⟨x, rfl, hx⟩ := h.one
    rw [show x = _ from hx]
    exact .inl ⟨_, rfl, q⟩
  · cases e
    obtain ⟨x, rfl, hx⟩ := h.one
    rw [show x = _ from hx]
    exact .inr ⟨_, rfl, q⟩
  · cases e
def strF : List D → Option V
  | [.int i] => if i.natAbs.log2 < 1920 then some (.str (toString i)) else none
  | _ => none
theorem cal_str : CalS X.K (fun xs H Q => ∃ i, xs = [.int i] ∧ i.natAbs.log2 < 1920 ∧ Q (.str (toString i)) H) strF := fun H xs ds v Q h e q => by
  unfold strF at e
  split at e
  · split at e
    · rename_i hz
      cases e
      obtain ⟨x, rfl, hx⟩ := h.one
      rw [show x = _ from hx]
      exact ⟨_, rfl, hz, q⟩
    · cases e
  · cases e
def intsOf : List D → Option (List Int)
  | [] => some []
  | .int i :: r => (intsOf r).map (i :: ·)
  | _ => none
@[simp] theorem intsOf_map (l : List Int) : intsOf (l.map .int) = some l := by
  induction l with
  | nil => rfl
  | cons d r ih => simp [intsOf, ih]
theorem intsOf_is : ∀ {l : List D} {ns : List Int}, intsOf l = some ns → l = ns.map .int
  | [], ns, h => by cases h; rfl
  | .int i :: r, ns, h => by
    simp only [intsOf, Option.map_eq_some_iff] at h
    obtain ⟨m, h, rfl⟩ := h
    rw [intsOf_is h]; rfl
  | .non :: _, ns, h | .bl _ :: _, ns, h | .str _ :: _, ns, h | .tup _ :: _, ns, h | .lst _ :: _, ns, h | .dct _ :: _, ns, h | .dcT _ :: _, ns, h | .dcL _ :: _, ns, h | .ro _ :: _, ns, h | .opq _ :: _, ns, h => by simp [intsOf] at h
def blsOf : List D → Option (List Bool)
  | [] => some []
  | .bl i :: r => (blsOf r).map (i :: ·)
  | _ => none
@[simp] theorem blsOf_map (l : List Bool) : blsOf (l.map .bl) = some l := by
  induction l with
  | nil => rfl
  | cons d r ih => simp [blsOf, ih]
theorem blsOf_is : ∀ {l : List D} {ns : List Bool}, blsOf l = some ns → l = ns.map .bl
  | [], ns, h => by cases h; rfl
  | .bl i :: r, ns, h => by
    simp only [blsOf, Option.map_eq_some_iff] at h
    obtain ⟨m, h, rfl⟩ := h
    rw [blsOf_is h]; rfl
  | .non :: _, ns, h | .int _ :: _, ns, h | .str _ :: _, ns, h | .tup _ :: _, ns, h | .lst _ :: _, ns, h | .dct _ :: _, ns, h | .dcT _ :: _, ns, h | .dcL _ :: _, ns, h | .ro _ :: _, ns, h | .opq _ :: _, ns, h => by simp [blsOf] at h
theorem IsL.of_bls {K : PySem.W.Frag} {W : Addr → Prop} : ∀ {l : List Bool} {xs : List V}, IsL K W H (l.map D.bl) xs → xs = l.map V.bl
  | [], xs, h => h
  | i :: r, xs, h => by
    obtain ⟨x, ys, e, h1, h2⟩ := h
    rw [e, show x = V.bl i from h1, IsL.of_bls h2]; rfl
/-- the greatest of a list -/
def maxL : List Int → Option Int
  | [] => none
  | x :: r => some (r.foldl max x)
theorem foldl_max_mem : ∀ (r : List Int) (x : Int), r.foldl max x ∈ x :: r ∧ ∀ y ∈ x :: r, y ≤ r.foldl max x
  | [], x => by simp
  | z :: r, x => by
    obtain ⟨h1, h2⟩ := foldl_max_mem r (max x z)
    refine ⟨?_, fun y hy => ?_⟩
    · rw [List.foldl_cons]
      rcases List.mem_cons.mp h1 with h1 | h1
      · rw [h1]
        rcases Int.le_total x z with h | h
        · rw [Int.max_eq_right h]; simp
        · rw [Int.max_eq_left h]; simp
      · simp [h1]
    · rw [List.foldl_cons]
      have h3 := h2 (max x z) (by simp)
      rcases List.mem_cons.mp hy with rfl | hy
      · omega
      · rcases List.mem_cons.mp hy with rfl | hy
        · omega
        · exact h2 y (by simp [hy])
theorem maxL_eq {l : List Int} {m k : Int} (h : maxL l = some m) (h1 : k ∈ l) (h2 : ∀ y ∈ l, y ≤ k) : k = m := by
  cases l with
  | nil => cases h
  | cons x r =>
    obtain ⟨g1, g2⟩ := foldl_max_mem r x
    simp only [maxL, Option.some.injEq] at h
    subst h
    have a1 := h2 _ g1
    have a2 := g2 _ h1
    omega
def maxF : List D → Option V
  | [.lst l] => (intsOf l).bind fun ns => (maxL ns).map .int
  | [.int i, .int j] => some (.int (if j > i then j else i))
  | _ => none
theorem cal_max : CalS X.K (fun xs H Q => rMax X.K xs H Q ∨ ∃ i j, xs = [.int i, .int j] ∧ Q (.int (if j > i then j else i)) H) maxF := fun H xs ds v Q h e q => by
  unfold maxF at e
  split at e
  · simp only [Option.bind_eq_some_iff, Option.map_eq_some_iff] at e
    obtain ⟨ns, e1, m, e2, rfl⟩ := e
    rw [intsOf_is e1] at h
    obtain ⟨x, rfl, a, ys, rfl, ha, _, il⟩ := h.one
    rw [il.of_ints] at ha
    refine .inl ⟨a, ns, rfl, SqL.of ha, ?_, fun k h1 h2 => ?_⟩
    · cases ns with
      | nil => cases e2
      | cons _ _ => simp
    · rw [maxL_eq e2 h1 h2]; exact q
  · cases e
    obtain ⟨x, y, rfl, hx, hy⟩ := h.two
    rw [show x = _ from hx, show y = _ from hy]
    exact .inr ⟨_, _, rfl, q⟩
  · cases e
def minF : List D → Option V
  | [.int i, .int j] => some (.int (if j < i then j else i))
  | _ => none
theorem cal_min : CalS X.K (fun xs H Q => ∃ i j, xs = [.int i, .int j] ∧ Q (.int (if j < i then j else i)) H) minF := fun H xs ds v Q h e q => by
  unfold minF at e
  split at e
  · cases e
    obtain ⟨x, y, rfl, hx, hy⟩ := h.two
    rw [show x = _ from hx, show y = _ from hy]
    exact ⟨_, _, rfl, q⟩
  · cases e
def sumF : List D → Option V
  | [.lst l] => (intsOf l).map fun ns => .int ns.sum
  | _ => none
theorem cal_sum : CalS X.K (rSum X.K) sumF := fun H xs ds v Q h e q => by
  unfold sumF at e
  split at e
  · simp only [Option.map_eq_some_iff] at e
    obtain ⟨ns, e1, rfl⟩ := e
    rw [intsOf_is e1] at h
    obtain ⟨x, rfl, a, ys, rfl, ha, _, il⟩ := h.one
    rw [il.of_ints] at ha
    exact ⟨a, ns, rfl, SqL.of ha, q⟩
  · cases e
def allF : List D → Option V
  | [.lst l] => (blsOf l).map fun ns => .bl (ns.all id)
  | _ => none
theorem cal_all : CalS X.K (rAll X.K) allF := fun H xs ds v Q h e q => by
  unfold allF at e
  split at e
  · simp only [Option.map_eq_some_iff] at e
    obtain ⟨ns, e1, rfl⟩ := e
    rw [blsOf_is e1] at h
    obtain ⟨x, rfl, a, ys, rfl, ha, _, il⟩ := h.one
    rw [il.of_bls] at ha
    exact ⟨a, ns, rfl, SqL.of ha, q⟩
  · cases e
def anyF : List D → Option V
  | [.lst l] => (blsOf l).map fun ns => .bl (ns.any id)
  | _ => none
theorem cal_any : CalS X.K (rAny X.K) anyF := fun H xs ds v Q h e q => by
  unfold anyF at e
  split at e
  · simp only [Option.map_eq_some_iff] at e
    obtain ⟨ns, e1, rfl⟩ := e
    rw [blsOf_is e1] at h
    obtain ⟨x, rfl, a, ys, rfl, ha, _, il⟩ := h.one
    rw [il.of_bls] at ha
    exact ⟨a, ns, rfl, SqL.of ha, q⟩
  · cases e
section
variable {id T : String} {x : Str} {pp : Pos} {fn : List D → Option V} {rr : List V → Hp → VK → Prop}
theorem p_callB (hc : CallR X (.builtin id) rr) (h : CalS X.K rr fn) (hg : Gl X x) (hm : X.mg x = none) (hv : bootBuiltins x = some (.builtin id)) (ha : ABk X (e :: es) ps) (hn : x ≠ "__name__" := by decide) (hdb : (x == ("__debug__" : Str)) = false := by decide)
    (he : starEach (e :: es) X.env = (false, eval e X.env) :: starEach es X.env := by rfl) (hpl : (backTo pos (starEach es X.env)).any (·.1) = false := by rfl) : POk X (.Call (.Name x pp) (e :: es) [] pos) (pCall fn ps) :=
  (pe_callB hc hg hm hv ha hn hdb he hpl).imp (pCall_of h)
theorem p_callT (hc : CallR X (.type T) rr) (h : CalS X.K rr fn) (hg : Gl X x) (hm : X.mg x = none) (hv : bootBuiltins x = some (.type T)) (ha : ABk X (e :: es) ps) (hn : x ≠ "__name__" := by decide) (hdb : (x == ("__debug__" : Str)) = false := by decide)
    (he : starEach (e :: es) X.env = (false, eval e X.env) :: starEach es X.env := by rfl) (hpl : (backTo pos (starEach es X.env)).any (·.1) = false := by rfl) : POk X (.Call (.Name x pp) (e :: es) [] pos) (pCall fn ps) :=
  (pe_callTy hc hg hm hv ha hn hdb he hpl).imp (pCall_of h)
end
end
end PL
namespace PL
open PySem PySem.Spec PyProof.Rows L2
section
variable {X : Cx} {w : WX} {H : Hp} {σ : L2.St} {e : Expr} {es : List Expr} {p q r : P} {ps : List P} {pos : Pos}
/-! ### isinstance -/
def tyN : D → Option String
  | .non => some "NoneType"
  | .bl _ => some "bool"
  | .int _ => some "int"
  | .str _ => some "str"
  | .tup _ => some "tuple"
  | .lst _ => some "list"
  | .ro _ => some "list"
  | .dct _ => some "dict"
  | .dcT _ => some "dict"
  | .dcL _ => none
  | .opq _ => none
def isSubN (a b : String) : Bool := a == b || (a == "bool" && b == "int")
abbrev clsNs : List String := ["int", "bool", "str", "list", "tuple", "dict"]
theorem kits : ((["NoneType", "bool", "int", "str", "tuple", "list", "dict"] : List String).all fun a => clsNs.all fun b => kitB a b == some (isSubN a b)) = true := by decide +kernel
theorem kit_D {K : PySem.W.Frag} {W : Addr → Prop} {d : D} {v : V} {t c : String} (h : Is K W H d v) (e : tyN d = some t) (hc : clsNs.contains c = true) : TyX K H v (.type t) ∧ PySem.W.kitOne K (.type t) (.type c) = some (isSubN t c) := by
  have k2 : ∀ a, a ∈ (["NoneType", "bool", "int", "str", "tuple", "list", "dict"] : List String) → PySem.W.kitOne K (.type a) (.type c) = some (isSubN a c) := fun a ha => by
    have q := List.all_eq_true.mp kits a ha
    have q2 := List.all_eq_true.mp q c (List.contains_iff_mem.mp hc)
    exact kit_ty (eq_of_beq q2)
  cases d with
  | non => cases e; rw [show v = _ from h]; exact ⟨.base .non, k2 _ (by simp)⟩
  | bl b => cases e; rw [show v = _ from h]; exact ⟨.base (.bl b), k2 _ (by simp)⟩
  | int b => cases e; rw [show v = _ from h]; exact ⟨.base (.int b), k2 _ (by simp)⟩
  | str b => cases e; rw [show v = _ from h]; exact ⟨.base (.str b), k2 _ (by simp)⟩
  | tup l => cases e; obtain ⟨a, xs, rfl, ha, _⟩ := h; exact ⟨.base (.tup ha), k2 _ (by simp)⟩
  | lst l => cases e; obtain ⟨a, xs, rfl, ha, _⟩ := h; exact ⟨.base (.lst ha), k2 _ (by simp)⟩
  | dct l => cases e; obtain ⟨a, xs, rfl, ha, _⟩ := h; exact ⟨.base (.dK ha), k2 _ (by simp)⟩
  | dcT l => cases e; obtain ⟨a, xs, rfl, ha, _⟩ := h; exact ⟨.base (.dT ha), k2 _ (by simp)⟩
  | dcL l => cases e
  | opq l => cases e
  | ro l =>
    cases e
    obtain ⟨a, rfl, h⟩ := h
    refine ⟨?_, k2 _ (by simp)⟩
    rcases h with ⟨h | ⟨o, h⟩, _⟩ | ⟨o, its, n, h1, h2, _⟩
    · exact .base (.lst h)
    · exact .base (.frz h)
    · exact .kList h1 h2
def clsD : List D → Option (List String)
  | [] => some []
  | .opq (.ty c) :: r => if clsNs.contains c then (clsD r).map (c :: ·) else none
  | _ => none
def isiF : List D → Option V
  | [d, .opq (.ty c)] => match tyN d with
    | some t => if clsNs.contains c then some (.bl (isSubN t c)) else none
    | none => none
  | [d, .tup cs] => match tyN d, clsD cs with
    | some t, some ns => some (.bl (ns.any (isSubN t)))
    | _, _ => none
  | _ => none
theorem clsD_is {K : PySem.W.Frag} {W : Addr → Prop} {t : String} (ht : ∀ c, clsNs.contains c = true → PySem.W.kitOne K (.type t) (.type c) = some (isSubN t c)) : ∀ {cs : List D} {ns : List String} {xs : List V}, clsD cs = some ns → IsL K W H cs xs →
    Paired ClsV xs (ns.map fun c => Value.type c) ∧ PySem.W.kitAny K (.type t) (ns.map fun c => Value.type c) = some (ns.any (isSubN t))
  | [], ns, xs, e, h => by
    cases e
    rw [show xs = [] from h]
    exact ⟨.nil, kitAny_nil⟩
  | .opq (.ty c) :: r, ns, xs, e, h => by
    simp only [clsD] at e
    split at e
    · rename_i hc
      simp only [Option.map_eq_some_iff] at e
      obtain ⟨ms, e, rfl⟩ := e
      obtain ⟨x, ys, rfl, h1, h2⟩ := h
      obtain ⟨g1, g2⟩ := clsD_is ht e h2
      rw [show x = V.ty c from h1]
      refine ⟨.cons (.ty c) g1, kitAny_cons (ht c hc) (fun hb => ?_) fun hb => ?_⟩
      · rw [g2, List.any_cons, hb, Bool.false_or]
      · rw [List.any_cons, hb, Bool.true_or]
    · cases e
  | .opq .non :: _, ns, xs, e, h | .opq (.bl _) :: _, ns, xs, e, h | .opq (.int _) :: _, ns, xs, e, h | .opq (.str _) :: _, ns, xs, e, h | .opq (.byt _) :: _, ns, xs, e, h | .opq (.flt _) :: _, ns, xs, e, h | .opq (.ref _) :: _, ns, xs, e, h => by simp [clsD] at e
  | .non :: _, ns, xs, e, h | .bl _ :: _, ns, xs, e, h | .int _ :: _, ns, xs, e, h | .str _ :: _, ns, xs, e, h | .tup _ :: _, ns, xs, e, h | .lst _ :: _, ns, xs, e, h | .dct _ :: _, ns, xs, e, h | .dcT _ :: _, ns, xs, e, h | .dcL _ :: _, ns, xs, e, h | .ro _ :: _, ns, xs, e, h => by simp [clsD] at e
theorem cal_isi : CalS X.K (fun xs H Q => rIsi X.K xs H Q ∨ rIsiT X.K xs H Q) isiF := fun H xs ds v Q h e q => by
  unfold isiF at e
  split at e
  · rename_i d c
    split at e
    · rename_i t et
      split at e
      · rename_i hc
        cases e
        obtain ⟨x, y, rfl, hx, hy⟩ := h.two
        obtain ⟨k1, k2⟩ := kit_D hx et hc
        rw [show y = V.ty c from hy]
        exact .inl ⟨x, .ty c, _, _, _, rfl, .ty c, k1, k2, q⟩
      · cases e
    · cases e
  · rename_i d cs
    split at e
    · rename_i t ns et ens
      cases e
      obtain ⟨x, y, rfl, hx, hy⟩ := h.two
      obtain ⟨a, ys, rfl, ha, _, il⟩ := hy
      obtain ⟨k1, _⟩ := kit_D (c := "int") hx et rfl
      obtain ⟨g1, g2⟩ := clsD_is (t := t) (fun c hc => (kit_D hx et hc).2) ens il
      exact .inr ⟨x, a, ys, _, _, _, rfl, ha, g1, k1, g2, q⟩
    · cases e
  · cases e
theorem p_ty {x : Str} {n : String} (hg : Gl X x) (hm : X.mg x = none) (hv : bootBuiltins x = some (.type n)) (hn : x ≠ "__name__" := by decide) (hd : (x == ("__debug__" : Str)) = false := by decide) : POk X (.Name x pos) (pK (.opq (.ty n))) :=
  p_C (pe_bltn hg hm hv (v := .ty n) rfl hn hd) fun _ _ _ => rfl

/-! ### repr -/
def rRepr (K : PySem.W.Frag) : List V → Hp → VK → Prop := fun xs H Q => ∃ x y, xs = [x] ∧ Dp K H x y ∧ y.showable = true ∧ y.hasDict = false ∧ y.depth ≤ 60 ∧ y.shown.length ≤ sizeLine ∧ Q (.str y.shown) H
theorem call_repr {k : Nat} (hr : Room k X.A) (hg : X.A.guards = some []) : CallR X (.builtin "repr") (rRepr X.K) := by
  intro pins s σ H xs us Q I r h
  obtain ⟨x, y, rfl, hd, h1, h2, h3, h4, q⟩ := h
  obtain ⟨u, rfl, ru⟩ : ∃ u, us = [u] ∧ RelV x u := by
    cases r with
    | cons p t => cases t; exact ⟨_, rfl, p⟩
  have fin : ∀ t tk, EP X pins σ Q (.str y.shown t) { s with toks := tk } := fun t tk => ⟨.str y.shown, H, I.tok tk, ⟨t, rfl⟩, q⟩
  cases hd with
  | non => cases ru; exact PySem.P.repr_of_none (fin _ _)
  | bl b => cases ru; exact PySem.P.repr_of_bool (fin _ _)
  | int i =>
    obtain ⟨t, rfl⟩ := ru
    refine PySem.P.repr_of_int (by simpa [PyData.showable] using h1) (fin _ _)
  | str z =>
    obtain ⟨t, rfl⟩ := ru
    exact PySem.P.repr_of_str (fin _ _) h4
  | lst hs ha =>
    cases ru
    obtain ⟨as, rr⟩ := Dp.reads I _ _ _ (.lst hs ha) rfl
    exact repr_of_reads' rr h1 (fun z => by rw [h2] at z; cases z) hg (by have := hr.units; omega) (fun _ _ e => e) (fun h' u tk hk => ⟨.str _, H, I.kept (t' := tk) hk, ⟨u, rfl⟩, q⟩) h4
  | tup hs ha =>
    cases ru
    obtain ⟨as, rr⟩ := Dp.reads I _ _ _ (.tup hs ha) rfl
    exact repr_of_reads' rr h1 (fun z => by rw [h2] at z; cases z) hg (by have := hr.units; omega) (fun _ _ e => e) (fun h' u tk hk => ⟨.str _, H, I.kept (t' := tk) hk, ⟨u, rfl⟩, q⟩) h4
mutual
theorem toPy_noDict : ∀ (d : D) (y : PyData), toPy d = some y → y.hasDict = false
  | .non, y, e => by cases e; simp [PyData.hasDict]
  | .bl b, y, e => by cases e; simp [PyData.hasDict]
  | .int i, y, e => by cases e; simp [PyData.hasDict]
  | .str x, y, e => by cases e; simp [PyData.hasDict]
  | .tup l, y, e => by
    simp only [toPy, Option.map_eq_some_iff] at e
    obtain ⟨ys, e, rfl⟩ := e
    simpa [PyData.hasDict] using toPys_noDict l ys e
  | .lst l, y, e => by
    simp only [toPy, Option.map_eq_some_iff] at e
    obtain ⟨ys, e, rfl⟩ := e
    simpa [PyData.hasDict] using toPys_noDict l ys e
  | .dct l, y, e => by cases e
  | .dcT l, y, e => by cases e
  | .dcL l, y, e => by cases e
  | .ro l, y, e => by cases e
  | .opq l, y, e => by cases e
theorem toPys_noDict : ∀ (l : List D) (ys : List PyData), toPys l = some ys → PyData.hasDictAll ys = false
  | [], ys, e => by cases e; simp [PyData.hasDictAll]
  | d :: r, ys, e => by
    simp only [toPys] at e
    cases e1 : toPy d with
    | none => rw [e1] at e; cases e
    | some y1 =>
      cases e2 : toPys r with
      | none => rw [e1, e2] at e; cases e
      | some y2 =>
        rw [e1, e2] at e
        cases e
        simp [PyData.hasDictAll, toPy_noDict d y1 e1, toPys_noDict r y2 e2]
end
def reprF : List D → Option V
  | [d] => match toPy d with
    | some y => if y.showable && decide (y.depth ≤ 60) && decide (y.shown.length ≤ 16777216) then some (.str y.shown) else none
    | none => none
  | _ => none
theorem cal_repr : CalS X.K (rRepr X.K) reprF := fun H xs ds v Q h e q => by
  unfold reprF at e
  split at e
  · rename_i d
    split at e
    · rename_i y ey
      split at e
      · rename_i hz
        cases e
        simp only [Bool.and_eq_true, decide_eq_true_eq] at hz
        obtain ⟨x, rfl, hx⟩ := h.one
        exact ⟨x, y, rfl, toPy_dp _ _ _ hx ey, hz.1.1, toPy_noDict _ _ ey, hz.1.2, by rw [sizeLine_eq]; exact hz.2, q⟩
      · cases e
    · cases e
  · cases e

/-! ### list(x), tuple(x) -/
def fList (p : PLs) : PLs := p
theorem f_list {x : Str} {pp : Pos} {p : PLs} (hg : Gl X x) (hm : X.mg x = none) (hv : bootBuiltins x = some (.type "list")) (ha : LOk X e p) (hn : x ≠ "__name__" := by decide) (hdb : (x == ("__debug__" : Str)) = false := by decide)
    (he : starEach [e] X.env = (false, eval e X.env) :: starEach [] X.env := by rfl) (hpl : (backTo pos (starEach [] X.env)).any (·.1) = false := by rfl) : FOk X (.Call (.Name x pp) [e] [] pos) p :=
  (pe_callTy call_list_of hg hm hv (pa_cons ha pa_nil he) hn hdb he hpl).imp fun σ H Q h => by
    obtain ⟨B, env, O, s, l, hp, h⟩ := h
    exact ⟨B, env, O, s, l, hp, fun a xs H1 g1 h1 i1 => ⟨a, xs, rfl, .inl (SqL.of h1), fun z hz => h z xs H1 g1 hz i1⟩⟩
/-- any sequence: a list or a tuple -/
def sqD : D → Option (List D)
  | .lst l => some l
  | .tup l => some l
  | _ => none
def fSq (p : P) : PLs := fun env => (p env).bind sqD
theorem f_listS {x : Str} {pp : Pos} (hg : Gl X x) (hm : X.mg x = none) (hv : bootBuiltins x = some (.type "list")) (ha : POk X e p) (hn : x ≠ "__name__" := by decide) (hdb : (x == ("__debug__" : Str)) = false := by decide)
    (he : starEach [e] X.env = (false, eval e X.env) :: starEach [] X.env := by rfl) (hpl : (backTo pos (starEach [] X.env)).any (·.1) = false := by rfl) : FOk X (.Call (.Name x pp) [e] [] pos) (fSq p) :=
  (pe_callTy call_list_of hg hm hv (pa_cons ha pa_nil he) hn hdb he hpl).imp fun σ H Q h => by
    obtain ⟨B, env, O, s, l, hp, h⟩ := h
    unfold fSq at hp
    simp only [Option.bind_eq_some_iff] at hp
    obtain ⟨d, e1, e2⟩ := hp
    refine ⟨B, env, O, s, d, e1, fun v H1 g1 hv => ?_⟩
    unfold sqD at e2
    split at e2
    · cases e2
      obtain ⟨a, xs, rfl, ha, nw, il⟩ := hv
      exact ⟨a, xs, rfl, .inl (SqL.of ha), fun z hz => h z xs H1 g1 hz il⟩
    · cases e2
      obtain ⟨a, xs, rfl, ha, nw, il⟩ := hv
      exact ⟨a, xs, rfl, .inr (SqT.of ha), fun z hz => h z xs H1 g1 hz il⟩
    · cases e2
def pTupL (p : PLs) : P := fun env => (p env).map .tup
theorem p_tupL {x : Str} {pp : Pos} {p : PLs} (hg : Gl X x) (hm : X.mg x = none) (hv : bootBuiltins x = some (.type "tuple")) (ha : LOk X e p) (hn : x ≠ "__name__" := by decide) (hdb : (x == ("__debug__" : Str)) = false := by decide)
    (he : starEach [e] X.env = (false, eval e X.env) :: starEach [] X.env := by rfl) (hpl : (backTo pos (starEach [] X.env)).any (·.1) = false := by rfl) : POk X (.Call (.Name x pp) [e] [] pos) (pTupL p) :=
  (pe_callTy call_tuple_of hg hm hv (pa_cons ha pa_nil he) hn hdb he hpl).imp fun σ H Q h => by
    obtain ⟨B, env, O, s, d, hp, h⟩ := h
    unfold pTupL at hp
    simp only [Option.map_eq_some_iff] at hp
    obtain ⟨l, hp, rfl⟩ := hp
    refine ⟨B, env, O, s, l, hp, fun a xs H1 g1 h1 i1 => ⟨a, xs, rfl, .inl ⟨SqL.of h1, fun z hz => ?_⟩⟩⟩
    have g2 : Grw H1 (upd H1 z (.tup xs)) := fun b o e => by rw [upd_ne (ne_of_none e hz)]; exact e
    refine h _ _ (g1.trans g2) ⟨z, xs, rfl, upd_same, fun y => ?_, i1.grw g2⟩
    obtain ⟨u, e⟩ := (s.grw g1).trk z y
    rw [hz] at e; cases e
end
end PL
namespace PL
open PySem PySem.Spec PyProof.Rows L2
/-! ### a def's promise, where no repr is under way (guards) -/
abbrev CY (Pr : Program) (w : World) : CXT := L2.CX Pr w
structure FnG (Pr : Program) (w : World) (K : PySem.W.Frag) (mg : Str → Option Value) (base : Heap) (k : Nat) (f : Addr) (fd : FuncData) (ps : List Str) (sp : Sp) : Prop where
  len : ∀ vs H Q E, sp vs H Q E → vs.length = ps.length
  run : ∀ (A : Around) (outer : List Env) (s : Shared) (H : Hp) (args : Args) (us : List Value) (vs : List V) (Q : VK) (E : XK), A.guards = some [] → Room k A → Env0 Pr w K mg base A outer s H → BindsTo s fd args (ps.zip us) → Vals vs us → sp vs H Q E →
    codeAny (model Pr w) A (.call (.ref f) args) (CR (CY Pr w) outer Pr w H s Q E) s
theorem fn_ofG {Pr : Program} {w : World} {K : PySem.W.Frag} {mg : Str → Option Value} {base : Heap} {k : Nat} {f : Addr} {nm qu : Str} {pa : Arguments} {body : List Stmt} {sc : Scope} {dV kV doc pm cdv ct oc : Value} {an od : Option Addr}
    {osl : Array (Option Value)} {N ps : List Str} {sp : Sp} (lk : K.lookup f = some ⟨oc, od, .func (PySem.W.fnOf nm qu pa body sc dV kV doc pm an cdv ct), osl⟩) (hcd : PySem.W.codeIn K cdv qu = true) (S : FnScope N ps sc)
    (len : ∀ vs H Q E, sp vs H Q E → vs.length = ps.length)
    (hb : ∀ (A : Around) (outer : List Env) (s : Shared) (H : Hp) (vs : List V) (Q : VK) (E : XK), A.guards = some [] → Room k (A.deeper (envOfC qu sc s.heap.objs.size f cdv)) → sp vs H Q E →
      ∃ t, PSs (cxOf (CY Pr w) Pr w K mg base N qu sc f cdv A outer s H E) body t ∧ t { nx := fun _ H' => Q .non H', rt := Q } (start N vs) H) :
    FnG Pr w K mg base (k + 1) f (PySem.W.fnOf nm qu pa body sc dV kV doc pm an cdv ct) ps sp :=
  ⟨len, fun A outer s H args us vs Q E hg room e0 bd rel want => by
    have stay := fun b o e => (e0.bs b o e).1
    have kin : K.In s.heap := e0.mod.kin.keeps stay
    refine codeAny_call_function room.depth (kin _ _ lk) rfl S.co S.gen rfl (PySem.W.codeRec_of kin hcd) (bd _ _ _ _ ?_)
    have kinds : ∀ y ∈ ps.zip us, sc.names.lookup y.1 = some .local ∨ (sc.names.lookup y.1 = some .cell ∧ ((cellsFrom (s.heap.objs.size + 1) sc.names []).lookup y.1).isSome = true) := by
      rintro ⟨n, v⟩ hy
      exact (S.par n (List.of_mem_zip hy).1).imp id fun q => ⟨q, PySem.W.cellsFrom_some _ _ _ (.inl q)⟩
    refine wpAny_newFunctionEnv_cells S.kind kinds fun ev he s1 ic => ?_
    subst he
    obtain ⟨t, ht, hq⟩ := hb A outer s H vs Q E hg (room.deeper _) want
    refine ⟨(e0.mod.nolimit.keeps stay).keeps ic.toInCall.keep, codeAny_func (wpAny_mono (ht.run [] s1 (start N vs) H _ (inv_start S room.hd e0 (len _ _ _ _ want) rel ic) hq) ?_ fun _ _ z => z)⟩
    intro fl s2 hs
    cases fl with
    | ret u => obtain ⟨v, τ, H2, J, rv, q⟩ := hs; exact ⟨v, H2, J.os, J.bare, J.base, J.hok, rv, q⟩
    | next => obtain ⟨τ, H2, J, q⟩ := hs; exact ⟨.non, H2, J.os, J.bare, J.base, J.hok, rfl, q⟩
    | brk => obtain ⟨_, _, _, z⟩ := hs; exact z.elim
    | cont => obtain ⟨_, _, _, z⟩ := hs; exact z.elim⟩
section
variable {X : Cx} {k : Nat} {f : Addr} {fd : FuncData} {ps ks : List Str} {sp : Sp} {E : XK}
/-- what a callee lets out is taken, at this state -/
abbrev PassI (X : Cx) (H : Hp) (s : Shared) (E : XK) : Prop := ∀ e s', CY X.prog X.w X.stack H s E e s' → X.xe e s'
theorem end_of {pins : List (Addr × Obj)} {σ : L2.St} {H : Hp} {s s' : Shared} {Q : VK} {r : Result} (I : Inv X pins σ H s) (hx : PassI X H s E) (hq : CR (CY X.prog X.w) X.stack X.prog X.w H s Q E r s') :
    match r with | .ok (.ret u) => EP X pins σ Q u s' | .ok _ => False | .error e => X.xe e s' := by
  cases r with
  | error e => exact hx e s' hq
  | ok fl => cases fl <;> first | exact I.after hq | exact hq
theorem run_G {pins : List (Addr × Obj)} {σ : L2.St} {H : Hp} {s : Shared} {Q : VK} {us zs : List Value} {kw : List (Str × Value)} {vs : List V} (F : FnG X.prog X.w X.K X.mg X.base k f fd ps sp) (hg : X.A.guards = some []) (hr : Room k X.A) (hx : PassI X H s E)
    (bd : BindsTo s fd ⟨us, kw⟩ (ps.zip zs)) (I : Inv X pins σ H s) (r : Vals vs zs) (h : sp vs H Q E) : wpAny (model X.prog X.w) X.A (call (.ref f) us kw) (EP X pins σ Q) X.xe s :=
  wpAny_call (codeAny_mono (F.run X.A X.stack s H _ zs vs Q E hg hr I.env0 bd r h) fun r s' hq => by
    have z := end_of I hx hq
    cases r with
    | error e => exact z
    | ok fl => cases fl <;> first | exact z | exact z.elim)
end

/-! ### a def of the text, by what it makes of plain data -/
/-- the promise: m of the arguments' cells; m hands back what becomes of those that it may change -/
def spM (K : PySem.W.Frag) (mg : Str → Option Value) (n : Nat) (m : List C → Out C) : Sp := fun vs H Q E => vs.length = n ∧ ∃ B cs O, Stt K B H (vs.map some) (cs.map some) O ∧ match m cs with
  | .ok c outs => ∀ u H' A O', Res K B O H (vs.map some) c outs u H' A O' → Q u H'
  | .err x outs => ∀ cls d H' O', XRes K mg B O H (vs.map some) x outs cls d H' O' → E cls d H'
  | .no => False
structure FnM (Pr : Program) (w : World) (K : PySem.W.Frag) (mg : Str → Option Value) (base : Heap) (k : Nat) (x : Str) (st : Stmt) (ps : List Str) (m : List C → Out C) : Prop where
  ex : ∃ (f : Addr) (kV doc pm : Value) (an : Option Addr) (cdv ct : Value), mg x = some (.ref f) ∧ PySem.W.keepIn K (.ref f) = true ∧
    FnG Pr w K mg base k f (PySem.W.fnOf x x (defArgs st) (defBody st) (defScope st) .none kV doc pm an cdv ct) ps (spM K mg ps.length m)
/-- the i-th parameter is the (g i)-th written value -/
def pick {α : Type} (js : List Nat) (l : List α) : List α := js.filterMap fun j => l[j]?
/-- how the written arguments bind -/
def BindP (x : Str) (st : Stmt) (ps : List Str) : Prop := ∀ (kV doc pm : Value) (an : Option Addr) (cdv ct : Value) (us : List Value), us.length = ps.length → bindArgs (PySem.W.fnOf x x (defArgs st) (defBody st) (defScope st) .none kV doc pm an cdv ct) ⟨us, []⟩ = pure (ps.zip us)
def BindK (x : Str) (st : Stmt) (ps ks : List Str) (js : List Nat) : Prop := ∀ (kV doc pm : Value) (an : Option Addr) (cdv ct : Value) (ws : List Value), ws.length = ks.length →
  bindArgs (PySem.W.fnOf x x (defArgs st) (defBody st) (defScope st) .none kV doc pm an cdv ct) ⟨[], ks.zip ws⟩ = pure (ps.zip (pick js ws))
theorem passX0 {X : Cx} {H : Hp} {s : Shared} : PassI X H s E0 := fun _ _ h => by
  obtain ⟨_, _, _, _, _, _, _, _, _, _, _, _, z⟩ := h
  exact z.elim
section
variable {X : Cx} {w : WX} {H : Hp} {σ : L2.St} {e : Expr} {es : List Expr} {p q r : P} {ps : List P} {pos pp : Pos} {K : PySem.W.Frag} {B : Addr → Prop} {O : List Addr} {env : Slots}
theorem IsL.repE {W : Addr → Prop} : ∀ {ds : List D} {vs : List V}, IsL K W H ds vs → RepE K W H ((ds.map C.frz).map some) (vs.map some) []
  | [], vs, h => by rw [show vs = [] from h]; exact ⟨rfl, rfl⟩
  | d :: r, vs, h => by
    obtain ⟨x, ys, rfl, h1, h2⟩ := h
    exact ⟨some x, ys.map some, [], [], rfl, rfl, ⟨x, rfl, rfl, h1⟩, IsL.repE h2⟩
theorem IsL.stt (s : Stt K B H σ env O) {ds : List D} {vs : List V} (h : IsL K (fun a => B a ∨ a ∈ O) H ds vs) : Stt K (fun a => B a ∨ a ∈ O) H (vs.map some) ((ds.map C.frz).map some) [] :=
  ⟨RepE.kp (Kp.less fun a z => z.elim id fun z => nomatch z) (fun _ _ _ e => e) h.repE, .nil, fun _ z => (nomatch z), s.trk⟩
def pFn (m : List C → Out C) (ps : List P) : P := fun env => match evPs ps env with
  | some ds => match m (ds.map .frz) with
    | .ok c _ => some c.toD
    | _ => none
  | none => none
/-- the reading of a call on plain data -/
theorem spM_pure {m : List C → Out C} {ds : List D} {vs : List V} {c : C} {outs : Slots} {n : Nat} {Q : VK} {mg : Str → Option Value} (s : Stt K B H σ env O) (hv : IsL K (fun a => B a ∨ a ∈ O) H ds vs) (hm : m (ds.map .frz) = .ok c outs) (hn : ds.length = n)
    (h : ∀ v H', Grw H H' → Is K (fun a => B a ∨ a ∈ O) H' c.toD v → Q v H') : spM K mg n m vs H Q E0 := by
  refine ⟨hv.length.trans hn, fun a => B a ∨ a ∈ O, ds.map .frz, [], hv.stt s, ?_⟩
  rw [hm]
  intro u H' A O' r
  exact h u H' (fun a o e => (r.frm a o (fun z => nomatch z) e).1) (Is.kp (Kp.less fun a z => .inl z) _ _ r.is)
theorem p_fn {k : Nat} {x : Str} {st : Stmt} {qs : List Str} {m : List C → Out C} (F : FnM X.prog X.w X.K X.mg X.base k x st qs m) (bd : BindP x st qs) (hg : X.A.guards = some []) (hr : Room k X.A) (gl : Gl X x) (ha : ADk X (e :: es) ps) (hl : ps.length = qs.length := by rfl)
    (hdb : (x == ("__debug__" : Str)) = false := by decide) (he : starEach (e :: es) X.env = (false, eval e X.env) :: starEach es X.env := by rfl) (hpl : (backTo pos (starEach es X.env)).any (·.1) = false := by rfl) :
    POk X (.Call (.Name x pp) (e :: es) [] pos) (pFn m ps) := by
  obtain ⟨f, kV, doc, pm, an, cdv, ct, hm, kp, G⟩ := F.ex
  refine ⟨fun pins s σ H Q I h => ?_⟩
  obtain ⟨B, env, O, st, d, hp, h⟩ := h
  unfold pFn at hp
  split at hp
  · rename_i ds e1
    split at hp
    · rename_i c outs e2
      cases hp
      have want : rdD X ps σ H fun vs H1 => spM X.K X.mg qs.length m vs H1 Q E0 := ⟨B, env, O, st, ds, e1, fun vs H1 g1 hv => spM_pure (st.grw g1) hv e2 (by rw [evPs_len e1]; exact hl) fun v H' g2 hv => h v H' (g1.trans g2) hv⟩
      refine wpAny_Call_Name_kw (ld_glob I gl hm ?_ hdb)
      refine PySem.W.callWith_K (h₀ := X.base) I.ok.mod.kin kp (thn (ha.run pos pins s σ H _ I want) ?_) he hpl
      rintro us s1 ⟨vs, H1, I1, r1, q1⟩
      exact ⟨I1.kIn, run_G G hg hr passX0 (.of_eq (bd kV doc pm an cdv ct us (r1.length.symm.trans q1.1))) I1 r1 q1⟩
    · cases hp
  · cases hp
/-! #### by keywords alone -/
def rdKw (X : Cx) (ps : List P) : TA := rdD X ps
abbrev KDk (X : Cx) (kws : List Keyword) (ps : List P) : Prop := PK X kws (rdD X ps)
theorem _root_.L2.PK.imp {X : Cx} {es : List Keyword} {t t' : TA} (h : PK X es t) (i : ∀ σ H Q, t' σ H Q → t σ H Q) : PK X es t' := ⟨fun pos pins s σ H Q I hw => h.run pos pins s σ H Q I (i σ H Q hw)⟩
theorem kd_nil : KDk X [] [] := pk_nil.imp fun σ H Q h => by
  obtain ⟨B, env, O, s, ds, hp, h⟩ := h
  cases hp
  exact h [] H Grw.refl rfl
theorem kd_cons {nm : Option Str} {kpos : Pos} {kws : List Keyword} (ha : POk X e p) (hr : KDk X kws ps) : KDk X (⟨nm, e, kpos⟩ :: kws) (p :: ps) := (pk_cons ha hr).imp fun σ H Q h => by
  obtain ⟨B, env, O, s, ds, hp, h⟩ := h
  obtain ⟨d, r, e1, e2, rfl⟩ := evPs_cons hp
  exact ⟨B, env, O, s, d, e1, fun v H1 g1 hv => ⟨B, env, O, s.grw g1, r, e2, fun vs H2 g2 hvs => h (v :: vs) H2 (g1.trans g2) ⟨v, vs, rfl, hv.grw g2, hvs⟩⟩⟩
theorem pick_len {α β : Type} {l : List α} {l' : List β} (h : l.length = l'.length) : ∀ js : List Nat, (pick js l).length = (pick js l').length
  | [] => rfl
  | j :: js => by
    have ih := pick_len h js
    unfold pick at ih ⊢
    rw [List.filterMap_cons, List.filterMap_cons]
    by_cases hj : j < l.length
    · rw [List.getElem?_eq_getElem hj, List.getElem?_eq_getElem (by omega : j < l'.length)]
      simp only [List.length_cons, ih]
    · rw [List.getElem?_eq_none (by omega), List.getElem?_eq_none (by omega : l'.length ≤ j)]
      exact ih
theorem pick_vals {vs : List V} {us : List Value} (h : Vals vs us) : ∀ js : List Nat, Vals (pick js vs) (pick js us)
  | [] => .nil
  | j :: js => by
    have ih := pick_vals h js
    unfold pick at ih ⊢
    rw [List.filterMap_cons, List.filterMap_cons]
    cases e : vs[j]? with
    | none => rw [h.none_of e]; exact ih
    | some x =>
      obtain ⟨u, hu, ru⟩ := h.get e
      rw [hu]
      exact .cons ru ih
theorem pick_is {W : Addr → Prop} {ds : List D} {vs : List V} (h : IsL K W H ds vs) : ∀ js : List Nat, IsL K W H (pick js ds) (pick js vs)
  | [] => rfl
  | j :: js => by
    have ih := pick_is h js
    unfold pick at ih ⊢
    rw [List.filterMap_cons, List.filterMap_cons]
    cases e : ds[j]? with
    | none =>
      have e2 : vs[j]? = none := List.getElem?_eq_none (by rw [h.length]; exact List.getElem?_eq_none_iff.mp e)
      rw [e2]; exact ih
    | some x =>
      obtain ⟨u, hu, ru⟩ := h.get e
      rw [hu]
      exact ⟨u, _, rfl, ru, ih⟩
def pFnK (m : List C → Out C) (js : List Nat) (ps : List P) : P := fun env => match evPs ps env with
  | some ds => match m ((pick js ds).map .frz) with
    | .ok c _ => some c.toD
    | _ => none
  | none => none
theorem p_fnK0 {k : Nat} {x : Str} {st : Stmt} {qs ks : List Str} {js : List Nat} {m : List C → Out C} {kws : List Keyword} (F : FnM X.prog X.w X.K X.mg X.base k x st qs m) (bd : BindK x st qs ks js) (hg : X.A.guards = some []) (hr : Room k X.A) (gl : Gl X x)
    (ha : KDk X kws ps) (hl : ps.length = ks.length := by rfl) (hall : (backToKw pos (keywordEach kws X.env)).all (·.1.isSome) = true := by rfl) (hks : (backToKw pos (keywordEach kws X.env)).filterMap (·.1) = ks := by rfl) (hdb : (x == ("__debug__" : Str)) = false := by decide)
    (hpl : ((backTo pos (starEach [] X.env)).any (·.1) || (backToKw pos (keywordEach kws X.env)).any (·.1.isNone)) = false := by rfl) (hj : ∀ ds : List D, ds.length = ks.length → (pick js ds).length = qs.length := by intro ds h; match ds, h with | [_], _ => rfl | [_, _], _ => rfl | [_, _, _], _ => rfl) :
    POk X (.Call (.Name x pp) [] kws pos) (pFnK m js ps) := by
  obtain ⟨f, kV, doc, pm, an, cdv, ct, hm, kp, G⟩ := F.ex
  refine ⟨fun pins s σ H Q I h => ?_⟩
  obtain ⟨B, env, O, st, d, hp, h⟩ := h
  unfold pFnK at hp
  split at hp
  · rename_i ds e1
    split at hp
    · rename_i c outs e2
      cases hp
      have want : rdD X ps σ H fun vs H1 => vs.length = ks.length ∧ spM X.K X.mg qs.length m (pick js vs) H1 Q E0 := ⟨B, env, O, st, ds, e1, fun vs H1 g1 hv => ⟨by rw [hv.length, evPs_len e1]; exact hl, spM_pure (st.grw g1) (pick_is hv js) e2 (hj ds (by rw [evPs_len e1]; exact hl)) fun v H' g2 hv => h v H' (g1.trans g2) hv⟩⟩
      refine wpAny_Call_Name_kw (ld_glob I gl hm ?_ hdb)
      refine PySem.W.callWith_KW0 (h₀ := X.base) I.ok.mod.kin kp hall (thn (ha.run pos pins s σ H _ I want) ?_) hpl
      rintro us s1 ⟨vs, H1, I1, r1, q0, q1⟩
      rw [hks]
      exact ⟨I1.kIn, run_G G hg hr passX0 (.of_eq (bd kV doc pm an cdv ct us (r1.length.symm.trans q0))) I1 (pick_vals r1 js) q1⟩
    · cases hp
  · cases hp
end
end PL
namespace PL
open PySem PySem.Spec PyProof.Rows L2
section
variable {X : Cx} {w : WX} {H : Hp} {σ : L2.St} {e : Expr} {es : List Expr} {p q r : P} {ps : List P} {pos pp : Pos} {K : PySem.W.Frag} {B : Addr → Prop} {O : List Addr} {env : Slots}
/-! ### the others: operators -/
theorem opS_of_pure {r : R2} {op : D → D → Option V} (h : PureS K r op) : OpS K r (fun a b => (op a b).map fun v => .frz (ofV v)) := fun W H x y d1 d2 c Q tr h1 h2 e k => by
  simp only [Option.map_eq_some_iff] at e
  obtain ⟨v, e, rfl⟩ := e
  exact h H x y d1 d2 v Q h1.noW h2.noW e (k v H [] (New.of_is (ofV_is _ _ _ v)))
/-- a pure operation among the others -/
def eOp (op : D → D → Option V) (f g : M C) : M C := eBin (fun a b => (op a b).map fun v => .frz (ofV v)) f g
theorem e_op {a b : Expr} {o : Operator} {f g : M C} {r : R2} {op : D → D → Option V} (ho : OpR X (binaryOp o) r) (h : PureS X.K r op) (ha : EOk X w a f) (hb : EOk X w b g) : EOk X w (.BinOp a o b pos) (eOp op f g) := e_bin ho (opS_of_pure h) ha hb
theorem e_cmp {a b : Expr} {o : CmpOp} {f g : M C} {r : R2} {op : D → D → Option V} (ho : OpR X (compareOp o) r) (h : PureS X.K r op) (hm : behindInMarks o b = false) (ha : EOk X w a f) (hb : EOk X w b g) : EOk X w (.Compare a [o] [b] pos) (eOp op f g) :=
  (pe_cmpR ho ha hb hm).imp (tOp_of (opS_of_pure h))
def eIx (f g : M C) : M C := eBin (fun a b => (ixD a b).map .frz) f g
theorem e_ix {a b : Expr} {f g : M C} (ha : EOk X w a f) (hb : EOk X w b g) (hs : PlainIx b) : EOk X w (.Subscript a b pos) (eIx f g) := (pe_ix ix_seq ha hb hs).imp (tOp_of fun W H x y d1 d2 c Q tr h1 h2 e k => by
  simp only [Option.map_eq_some_iff] at e
  obtain ⟨d, e, rfl⟩ := e
  exact ixD_of h1 h2.noW e fun v hv => k v H [] (New.of_is hv))
/-- as a test -/
def tOfE (f : M C) : M Bool := fun env => (f env).bind fun c e1 => match c with
  | .frz (.bl b) => .ok b e1
  | _ => .no
theorem tOfE_of {f : M C} {t : TE} (ht : ∀ σ H Q, rdE X w f σ H Q → t σ H Q) (σ : L2.St) (H : Hp) (Q : Bool → Hp → Prop) (h : rdT X w (tOfE f) σ H Q) : tTest t σ H Q := by
  obtain ⟨B, env, O, s, h⟩ := h
  refine ht σ H _ ⟨B, env, O, s, ?_⟩
  unfold tOfE at h
  cases ef : f env with
  | no => rw [ef] at h; exact h.elim
  | err x e => rw [ef] at h; exact h
  | ok c e1 =>
    rw [ef] at h
    simp only [Out.bind] at h
    intro v H' A O' r
    cases c with
    | frz d =>
      cases d with
      | bl b =>
        obtain ⟨eA, hv⟩ := r.rep
        subst eA
        exact ⟨b, hv, h H' O' (r.stt.less fun a z => .inl z) r.frm⟩
      | non => exact h.elim
      | int _ => exact h.elim
      | str _ => exact h.elim
      | tup _ => exact h.elim
      | lst _ => exact h.elim
      | dct _ => exact h.elim
      | dcT _ => exact h.elim
      | dcL _ => exact h.elim
      | ro _ => exact h.elim
      | opq _ => exact h.elim
    | own _ => exact h.elim
    | ownD _ => exact h.elim
    | ownT _ => exact h.elim
theorem t_cmp {a b : Expr} {o : CmpOp} {f g : M C} {r : R2} {op : D → D → Option V} (ho : OpR X (compareOp o) r) (h : PureS X.K r op) (hm : behindInMarks o b = false) (ha : EOk X w a f) (hb : EOk X w b g) : TOk X w (.Compare a [o] [b] pos) (tOfE (eOp op f g)) :=
  (pt_cmpR ho ha hb hm).imp (tOfE_of (tOp_of (opS_of_pure h)))
theorem t_val {f : M C} (h : EOk X w e f) (he : ∀ whole, isTrue e X.env whole = (do let v ← whole; standAt e.pos; holding [v] (truthy v)) := by intro _; rfl) : TOk X w e (tOfE f) := (pt_val h he).imp (tOfE_of fun _ _ _ h => h)

/-! ### tests -/
section
variable {a b c : Expr} {rest : List Expr} {s t u : M Bool} {f g : M C}
def tAnd (s t : M Bool) : M Bool := fun env => (s env).bind fun b e1 => if b then t e1 else .ok false e1
def tOr (s t : M Bool) : M Bool := fun env => (s env).bind fun b e1 => if b then .ok true e1 else t e1
def tNot (s : M Bool) : M Bool := fun env => (s env).bind fun b e1 => .ok (!b) e1
abbrev VOk (X : Cx) (w : WX) (e : Expr) (f : M Bool) : Prop := PW X e (rdT X w f)
/-- a test, then what follows it -/
theorem rdT_then {k : Bool → M Bool} {Q : Bool → Hp → Prop} (h : rdT X w (fun env => (s env).bind fun b e1 => k b e1) σ H Q) : rdT X w s σ H fun c H1 => rdT X w (k c) σ H1 Q := by
  obtain ⟨B, env, O, st, h⟩ := h
  refine ⟨B, env, O, st, ?_⟩
  cases es : s env with
  | no => simp only [es, Out.bind] at h
  | err x e => simp only [es, Out.bind] at h; exact h
  | ok c e1 =>
    simp only [es, Out.bind] at h
    intro H1 O1 s1 f1
    refine ⟨B, e1, O1, s1, ?_⟩
    cases ek : k c e1 with
    | no => rw [ek] at h; exact h.elim
    | err x e => 
      rw [ek] at h
      intro cls d H' O' x2
      exact h cls d H' O' ⟨x2.cls, x2.fs, x2.stt, f1.seq' x2.frm⟩
    | ok c2 e2 =>
      rw [ek] at h
      intro H2 O2 s2 f2
      exact h H2 O2 s2 (f1.seq' f2)
theorem rdT_ok {b : Bool} {Q : Bool → Hp → Prop} (h : rdT X w (fun env => .ok b env) σ H Q) : Q b H := by
  obtain ⟨B, env, O, st, h⟩ := h
  exact h H O st Frm.refl
theorem v_and1 (ha : TOk X w a s) : VOk X w (.BoolOp .And [a] pos) s := pw_and1 ha
theorem v_or1 (ha : TOk X w a s) : VOk X w (.BoolOp .Or [a] pos) s := pw_or1 ha
theorem v_and (ha : TOk X w a s) (hb : VOk X w (.BoolOp .And (b :: rest) pos) t) : VOk X w (.BoolOp .And (a :: b :: rest) pos) (tAnd s t) := (pw_and ha hb).imp fun σ H Q h => by
  have h2 := rdT_then (k := fun b e1 => if b then t e1 else .ok false e1) h
  obtain ⟨B, env, O, st, h2⟩ := h2
  refine ⟨B, env, O, st, ?_⟩
  cases es : s env with
  | no => rw [es] at h2; exact h2
  | err x e => rw [es] at h2; exact h2
  | ok c e1 =>
    rw [es] at h2
    intro H' O' s1 f1
    have h3 := h2 H' O' s1 f1
    cases c with
    | true => exact iteT (by simpa using h3)
    | false => exact iteF (rdT_ok (by simpa using h3))
theorem v_or (ha : TOk X w a s) (hb : VOk X w (.BoolOp .Or (b :: rest) pos) t) : VOk X w (.BoolOp .Or (a :: b :: rest) pos) (tOr s t) := (pw_or ha hb).imp fun σ H Q h => by
  have h2 := rdT_then (k := fun b e1 => if b then .ok true e1 else t e1) h
  obtain ⟨B, env, O, st, h2⟩ := h2
  refine ⟨B, env, O, st, ?_⟩
  cases es : s env with
  | no => rw [es] at h2; exact h2
  | err x e => rw [es] at h2; exact h2
  | ok c e1 =>
    rw [es] at h2
    intro H' O' s1 f1
    have h3 := h2 H' O' s1 f1
    cases c with
    | true => exact iteT (rdT_ok (by simpa using h3))
    | false => exact iteF (by simpa using h3)
theorem t_V (h : VOk X w e s) : TOk X w e s := h.pt
theorem t_not (ha : TOk X w a s) : TOk X w (.UnaryOp .Not a pos) (tNot s) := (pt_not ha).imp fun σ H Q h => by
  have h2 := rdT_then (k := fun b e1 => .ok (!b) e1) h
  obtain ⟨B, env, O, st, h2⟩ := h2
  refine ⟨B, env, O, st, ?_⟩
  cases es : s env with
  | no => rw [es] at h2; exact h2
  | err x e => rw [es] at h2; exact h2
  | ok c e1 =>
    rw [es] at h2
    intro H' O' s1 f1
    exact rdT_ok (h2 H' O' s1 f1)
/-- values behind a test -/
theorem rdE_then {k : Bool → M C} {Q : VK} (h : rdE X w (fun env => (s env).bind fun b e1 => k b e1) σ H Q) : rdT X w s σ H fun c H1 => rdE X w (k c) σ H1 Q := by
  obtain ⟨B, env, O, st, h⟩ := h
  refine ⟨B, env, O, st, ?_⟩
  cases es : s env with
  | no => simp only [es, Out.bind] at h
  | err x e => simp only [es, Out.bind] at h; exact h
  | ok c e1 =>
    simp only [es, Out.bind] at h
    intro H1 O1 s1 f1
    refine ⟨B, e1, O1, s1, ?_⟩
    cases ek : k c e1 with
    | no => rw [ek] at h; exact h.elim
    | err x e => 
      rw [ek] at h
      intro cls d H' O' x2
      exact h cls d H' O' ⟨x2.cls, x2.fs, x2.stt, f1.seq' x2.frm⟩
    | ok c2 e2 =>
      rw [ek] at h
      intro v H2 A O2 r
      exact h v H2 A O2 ⟨r.rep, r.stt, r.nd, r.dj, f1.seq' r.frm⟩
def eIf (s : M Bool) (f g : M C) : M C := fun env => (s env).bind fun b e1 => if b then f e1 else g e1
theorem rdT_imp {s : M Bool} {Q Q' : Bool → Hp → Prop} (h : rdT X w s σ H Q) (i : ∀ b H, Q b H → Q' b H) : rdT X w s σ H Q' := by
  obtain ⟨B, env, O, st, h⟩ := h
  refine ⟨B, env, O, st, ?_⟩
  cases es : s env with
  | no => rw [es] at h; exact h
  | err x e => rw [es] at h; exact h
  | ok c e1 =>
    rw [es] at h
    intro H' O' s1 f1
    exact i _ _ (h H' O' s1 f1)
theorem e_if (hc : TOk X w c s) (ha : EOk X w a f) (hb : EOk X w b g) : EOk X w (.IfExp c a b pos) (eIf s f g) := (pe_ifExp hc ha hb).imp fun σ H Q h =>
  rdT_imp (rdE_then (k := fun b e1 => if b then f e1 else g e1) h) fun c H1 h3 => by
    cases c with
    | true => exact iteT (by simpa using h3)
    | false => exact iteF (by simpa using h3)
/-- and, or as values -/
def eAnd (f g : M C) : M C := fun env => (f env).bind fun c e1 => match c with
  | .frz (.bl true) => g e1
  | .frz (.bl false) => .ok (.frz (.bl false)) e1
  | _ => .no
def eOr (f g : M C) : M C := fun env => (f env).bind fun c e1 => match c with
  | .frz (.bl false) => g e1
  | .frz (.bl true) => .ok (.frz (.bl true)) e1
  | _ => .no
theorem rdE_res {m : M C} {A1 O1 : List Addr} {H1 : Hp} {e1 : Slots} {Q : VK} (s1 : Stt X.K B H1 σ e1 O1) (f1 : Frm O H A1 O1 H1) (h : match m e1 with
    | .ok c env' => ∀ v H' A O', Res X.K B O H σ c env' v H' A O' → Q v H'
    | .err x env' => ∀ cls d H' O', XRes X.K X.mg B O H σ x env' cls d H' O' → w cls d σ H'
    | .no => False) : rdE X w m σ H1 Q := by
  refine ⟨B, e1, O1, s1, ?_⟩
  cases em : m e1 with
  | no => rw [em] at h; exact h
  | err x e =>
    rw [em] at h
    intro cls d H' O' x2
    exact h cls d H' O' ⟨x2.cls, x2.fs, x2.stt, f1.seq' x2.frm⟩
  | ok c e2 =>
    rw [em] at h
    intro v H' A O' r
    exact h v H' A O' ⟨r.rep, r.stt, r.nd, r.dj, f1.seq' r.frm⟩
theorem e_one {op} (h : EOk X w a f) : EOk X w (.BoolOp op [a] pos) f := pe_one h
theorem e_and (ha : EOk X w a f) (hb : EOk X w (.BoolOp .And (b :: rest) pos) g) : EOk X w (.BoolOp .And (a :: b :: rest) pos) (eAnd f g) := (pe_and ha hb).imp fun σ H Q h => by
  obtain ⟨B, env, O, st, h⟩ := h
  refine ⟨B, env, O, st, ?_⟩
  unfold eAnd at h
  cases ef : f env with
  | no => rw [ef] at h; exact h
  | err x e => rw [ef] at h; exact h
  | ok c e1 =>
    rw [ef] at h
    simp only [Out.bind] at h
    intro v H1 A O1 r1
    have go : ∃ b, c = .frz (.bl b) := by
      cases c with
      | frz d => cases d <;> first | exact ⟨_, rfl⟩ | exact h.elim
      | own _ => exact h.elim
      | ownD _ => exact h.elim
      | ownT _ => exact h.elim
    obtain ⟨b, rfl⟩ := go
    obtain ⟨e, ev⟩ := r1.rep
    subst e
    cases b with
    | true => exact ⟨true, ev, iteT (rdE_res (r1.stt.less fun a z => .inl z) r1.frm h)⟩
    | false => exact ⟨false, ev, iteF (h _ H1 [] O1 ⟨⟨rfl, rfl⟩, r1.stt, r1.nd, r1.dj, r1.frm⟩)⟩
theorem e_or (ha : EOk X w a f) (hb : EOk X w (.BoolOp .Or (b :: rest) pos) g) : EOk X w (.BoolOp .Or (a :: b :: rest) pos) (eOr f g) := (pe_or ha hb).imp fun σ H Q h => by
  obtain ⟨B, env, O, st, h⟩ := h
  refine ⟨B, env, O, st, ?_⟩
  unfold eOr at h
  cases ef : f env with
  | no => rw [ef] at h; exact h
  | err x e => rw [ef] at h; exact h
  | ok c e1 =>
    rw [ef] at h
    simp only [Out.bind] at h
    intro v H1 A O1 r1
    have go : ∃ b, c = .frz (.bl b) := by
      cases c with
      | frz d => cases d <;> first | exact ⟨_, rfl⟩ | exact h.elim
      | own _ => exact h.elim
      | ownD _ => exact h.elim
      | ownT _ => exact h.elim
    obtain ⟨b, rfl⟩ := go
    obtain ⟨e, ev⟩ := r1.rep
    subst e
    cases b with
    | false => exact ⟨false, ev, iteF (rdE_res (r1.stt.less fun a z => .inl z) r1.frm h)⟩
    | true => exact ⟨true, ev, iteT (h _ H1 [] O1 ⟨⟨rfl, rfl⟩, r1.stt, r1.nd, r1.dj, r1.frm⟩)⟩
end

/-! ### argument lists of the others -/
/-- behind a list of expressions -/
structure ResL (K : PySem.W.Frag) (B : Addr → Prop) (O : List Addr) (H : Hp) (σ : List (Option V)) (cs : List C) (env : Slots) (vs : List V) (H' : Hp) (A O' : List Addr) : Prop where
  rep : RepL K (fun a => (B a ∨ a ∈ A) ∨ a ∈ O') H' cs vs A
  stt : Stt K (fun a => B a ∨ a ∈ A) H' σ env O'
  nd : A.Nodup
  dj : ∀ a ∈ A, ¬ B a
  frm : Frm O H A O' H'
def evMs : List (M C) → M (List C)
  | [], env => .ok [] env
  | f :: r, env => (f env).bind fun c e1 => (evMs r e1).bind fun cs e2 => .ok (c :: cs) e2
def rdM (X : Cx) (w : WX) (fs : List (M C)) : TA := fun σ H Q => ∃ B env O, Stt X.K B H σ env O ∧ match evMs fs env with
  | .ok cs env' => ∀ vs H' A O', ResL X.K B O H σ cs env' vs H' A O' → Q vs H'
  | .err x env' => ∀ cls d H' O', XRes X.K X.mg B O H σ x env' cls d H' O' → w cls d σ H'
  | .no => False
abbrev AMk (X : Cx) (w : WX) (es : List Expr) (fs : List (M C)) : Prop := PA X es (rdM X w fs)
theorem am_nil : AMk X w [] [] := pa_nil.imp fun σ H Q h => by
  obtain ⟨B, env, O, s, h⟩ := h
  exact h [] H [] O ⟨⟨rfl, rfl⟩, s.less fun a z => z.elim id fun z => (nomatch z), .nil, fun _ z => (nomatch z), Frm.refl⟩
theorem am_cons {f : M C} {fs : List (M C)} (ha : EOk X w e f) (hr : AMk X w es fs) (hs : starEach (e :: es) X.env = (false, eval e X.env) :: starEach es X.env := by rfl) : AMk X w (e :: es) (f :: fs) := (pa_cons ha hr hs).imp fun σ H Q h => by
  obtain ⟨B, env, O, s, h⟩ := h
  refine ⟨B, env, O, s, ?_⟩
  unfold evMs at h
  cases ef : f env with
  | no => rw [ef] at h; exact h
  | err x e => rw [ef] at h; exact h
  | ok c e1 =>
    rw [ef] at h
    simp only [Out.bind] at h
    intro v H1 A O1 r1
    refine ⟨fun a => B a ∨ a ∈ A, e1, O1, r1.stt, ?_⟩
    cases er : evMs fs e1 with
    | no => rw [er] at h; exact h
    | err x e => rw [er] at h; exact fun cls d H' O' x2 => h cls d H' O' (XRes.under r1.frm x2)
    | ok cs e2 =>
      rw [er] at h
      simp only [] at h
      intro vs H2 A2 O2 r2
      refine h (v :: vs) H2 (A ++ A2) O2 ⟨⟨v, vs, A, A2, rfl, rfl, ?_, ?_⟩, ?_, ?_, ?_, ?_⟩
      · refine RepC.kp (fun a o hw ha => ?_) _ _ _ (fun a ha o e => (r2.frm a o (fun z => r1.stt.dj a z (.inr ha)) e).1) r1.rep
        obtain ⟨q, n⟩ := r2.frm a o (fun z => hw (.inr z)) ha
        refine ⟨q, fun z => ?_⟩
        rcases z with (z | z) | z
        · exact hw (.inl (.inl z))
        · rcases List.mem_append.mp z with z | z
          · exact hw (.inl (.inr z))
          · exact n (.inl z)
        · exact n (.inr z)
      · refine RepL.kp (Kp.less fun a z => ?_) _ _ _ (fun _ _ _ e => e) r2.rep
        rcases z with (z | z) | z
        · exact .inl (.inl (.inl z))
        · rcases List.mem_append.mp z with z | z
          · exact .inl (.inl (.inr z))
          · exact .inl (.inr z)
        · exact .inr z
      · exact r2.stt.less fun a z => z.elim (fun z => .inl (.inl z)) fun z => (List.mem_append.mp z).elim (fun z => .inl (.inr z)) .inr
      · exact List.nodup_append.mpr ⟨r1.nd, r2.nd, fun a ha b hb e => r2.dj b hb (.inr (e ▸ ha))⟩
      · exact fun a ha => (List.mem_append.mp ha).elim (r1.dj a) fun z y => r2.dj a z (.inl y)
      · intro a o hw ha
        obtain ⟨q1, n1⟩ := r1.frm a o hw ha
        obtain ⟨q2, n2⟩ := r2.frm a o (fun z => n1 (.inr z)) q1
        exact ⟨q2, fun z => z.elim (fun z => (List.mem_append.mp z).elim (fun z => n1 (.inl z)) fun z => n2 (.inl z)) fun z => n2 (.inr z)⟩
theorem ResL.isL {cs : List C} {vs : List V} {H' : Hp} {A O' : List Addr} {e1 : Slots} (r : ResL K B O H σ cs e1 vs H' A O') : IsL K (fun a => B a ∨ a ∈ O') H' (C.toDs cs) vs :=
  RepL.is (fun a z => z.elim (fun z => .inl (.inl z)) .inr) _ _ _ (fun a ha z => z.elim (r.dj a ha) fun z => r.stt.dj a z (.inr ha)) r.rep
theorem ResL.frm0 {cs : List C} {vs : List V} {H' : Hp} {A O' : List Addr} {e1 : Slots} (r : ResL K B O H σ cs e1 vs H' A O') : Frm O H [] O' H' := fun a o hw ha => ⟨(r.frm a o hw ha).1, fun z => (r.frm a o hw ha).2 (z.elim (fun z => nomatch z) .inr)⟩
/-- an argument list, then a value by what the arguments stand for -/
theorem rdM_do {fs : List (M C)} {k : List C → M C} {Q : VK} {Q' : List V → Hp → Prop} (h : rdE X w (fun env => (evMs fs env).bind fun cs e1 => k cs e1) σ H Q)
    (i : ∀ (B : Addr → Prop) (O : List Addr) (cs : List C) (e1 : Slots) (vs : List V) (H' : Hp) (A O' : List Addr), ResL X.K B O H σ cs e1 vs H' A O' → (match k cs e1 with
      | .ok c env' => ∀ v H' A O', Res X.K B O H σ c env' v H' A O' → Q v H'
      | .err x env' => ∀ cls d H' O', XRes X.K X.mg B O H σ x env' cls d H' O' → w cls d σ H'
      | .no => False) → Q' vs H') : rdM X w fs σ H Q' := by
  obtain ⟨B, env, O, s, h⟩ := h
  refine ⟨B, env, O, s, ?_⟩
  cases er : evMs fs env with
  | no => simp only [er, Out.bind] at h
  | err x e => simp only [er, Out.bind] at h; exact h
  | ok cs e1 =>
    simp only [er, Out.bind] at h
    intro vs H' A O' r
    exact i B O cs e1 vs H' A O' r h
/-- displays -/
def eLst (fs : List (M C)) : M C := fun env => (evMs fs env).bind fun cs e1 => if cs.length ≤ 100000 then .ok (.own cs) e1 else .no
theorem ResL.own {cs : List C} {vs : List V} {H' : Hp} {A O' : List Addr} {e1 : Slots} (r : ResL K B O H σ cs e1 vs H' A O') {a : Addr} (ha : H' a = none) : Res K B O H σ (.own cs) e1 (.ref a) (upd H' a (.lst vs)) (a :: A) O' := by
  have g : Grw H' (upd H' a (.lst vs)) := fun b o e => by rw [upd_ne (ne_of_none e ha)]; exact e
  have nA : a ∉ A := fun z => by
    obtain ⟨u, e⟩ := RepL.trk _ _ _ r.rep a z
    rw [ha] at e; cases e
  have nB : ¬ B a := fun z => by
    obtain ⟨u, e⟩ := r.stt.tr a (.inl z)
    rw [ha] at e; cases e
  have nO : a ∉ O' := fun z => by
    obtain ⟨u, e⟩ := RepE.trk r.stt.rep a z
    rw [ha] at e; cases e
  refine ⟨⟨a, vs, A, rfl, rfl, upd_same, ?_⟩, ?_, List.nodup_cons.mpr ⟨nA, r.nd⟩, fun b hb => ?_, fun b o hw hb => ?_⟩
  · refine RepL.kp (fun b o hw hb => ⟨g b o hb, fun z => ?_⟩) _ _ _ (fun b _ o e => g b o e) r.rep
    rcases z with (z | z) | z
    · exact hw (.inl (.inl z))
    · rcases List.mem_cons.mp z with z | z
      · subst z; rw [ha] at hb; cases hb
      · exact hw (.inl (.inr z))
    · exact hw (.inr z)
  · refine r.stt.grow g (fun b z => ?_) fun b z => ?_
    · rcases z with z | z
      · exact .inl (.inl z)
      · rcases List.mem_cons.mp z with z | z
        · exact .inr (z ▸ ha)
        · exact .inl (.inr z)
    · rcases z with z | z
      · obtain ⟨u, e⟩ := r.stt.tr b (.inl z); exact ⟨u, g b u e⟩
      · rcases List.mem_cons.mp z with z | z
        · subst z; exact ⟨⟨.lst vs, True.intro⟩, upd_same⟩
        · obtain ⟨u, e⟩ := r.stt.tr b (.inr z); exact ⟨u, g b u e⟩
  · rcases List.mem_cons.mp hb with z | z
    · exact z ▸ nB
    · exact r.dj b z
  · obtain ⟨q, n⟩ := r.frm b o hw hb
    refine ⟨g b o q, fun z => ?_⟩
    rcases z with z | z
    · rcases List.mem_cons.mp z with z | z
      · subst z; rw [ha] at q; cases q
      · exact n (.inl z)
    · exact n (.inr z)
theorem e_lst {fs : List (M C)} (h : AMk X w es fs) : EOk X w (.List es pos) (eLst fs) := (pe_lst h).imp fun σ H Q h =>
  rdM_do (k := fun cs e1 => if cs.length ≤ 100000 then .ok (.own cs) e1 else .no) h fun B O cs e1 vs H' A O' r hk => by
    split at hk
    · rename_i e2 hc
      split at hc
      · rename_i hz
        cases hc
        exact ⟨by rw [r.rep.length, sizeLine_eq]; omega, fun a ha => hk _ _ _ _ (r.own ha)⟩
      · cases hc
    · rename_i hc; split at hc <;> cases hc
    · exact hk.elim
def eTup (fs : List (M C)) : M C := fun env => (evMs fs env).bind fun cs e1 => if cs.length ≤ 100000 then .ok (.frz (.tup (C.toDs cs))) e1 else .no
theorem e_tup {k} {fs : List (M C)} (h : AMk X w es fs) : EOk X w (.Tuple es k pos) (eTup fs) := (pe_tup h).imp fun σ H Q h =>
  rdM_do (k := fun cs e1 => if cs.length ≤ 100000 then .ok (.frz (.tup (C.toDs cs))) e1 else .no) h fun B O cs e1 vs H' A O' r hk => by
    split at hk
    · rename_i e2 hc
      split at hc
      · rename_i hz
        cases hc
        refine ⟨by rw [r.rep.length, sizeLine_eq]; omega, fun a ha => hk _ _ _ _ (Res.new (r.stt.less fun a z => .inl z) r.frm0 ⟨fun b o e => by rw [upd_ne (ne_of_none e ha)]; exact e, ⟨rfl, a, vs, rfl, upd_same, fun z => ?_, ?_⟩, .nil, fun _ z => nomatch z⟩)⟩
        · rcases z with z | z
          · obtain ⟨u, e⟩ := (r.stt.less (B' := B) fun a z => .inl z).trk a z
            rw [ha] at e; cases e
          · cases z
        · exact IsL.kp (fun b o hw hb => ⟨by rw [upd_ne (ne_of_none hb ha)]; exact hb, fun z => z.elim hw fun z => nomatch z⟩) _ _ r.isL
      · cases hc
    · rename_i hc; split at hc <;> cases hc
    · exact hk.elim
/-- built-in functions -/
def eCall (fn : List D → Option V) (fs : List (M C)) : M C := fun env => (evMs fs env).bind fun cs e1 => match fn (C.toDs cs) with
  | some v => .ok (.frz (ofV v)) e1
  | none => .no
theorem eCall_of {rr : List V → Hp → VK → Prop} {fn : List D → Option V} {fs : List (M C)} (h : CalS X.K rr fn) (σ : L2.St) (H : Hp) (Q : VK) (hq : rdE X w (eCall fn fs) σ H Q) : tCB rr (rdM X w fs) σ H Q :=
  rdM_do (k := fun cs e1 => match fn (C.toDs cs) with | some v => .ok (.frz (ofV v)) e1 | none => .no) hq fun B O cs e1 vs H' A O' r hk => by
    cases ev : fn (C.toDs cs) with
    | none => rw [ev] at hk; exact hk.elim
    | some v =>
      rw [ev] at hk
      exact h H' vs _ v Q r.isL.noW ev (hk v H' [] O' (Res.new (r.stt.less fun a z => .inl z) r.frm0 (New.of_is (ofV_is _ _ _ v))))
section
variable {id T : String} {x : Str} {fn : List D → Option V} {rr : List V → Hp → VK → Prop} {fs : List (M C)}
theorem e_callB (hc : CallR X (.builtin id) rr) (h : CalS X.K rr fn) (hg : Gl X x) (hm : X.mg x = none) (hv : bootBuiltins x = some (.builtin id)) (ha : AMk X w (e :: es) fs) (hn : x ≠ "__name__" := by decide) (hdb : (x == ("__debug__" : Str)) = false := by decide)
    (he : starEach (e :: es) X.env = (false, eval e X.env) :: starEach es X.env := by rfl) (hpl : (backTo pos (starEach es X.env)).any (·.1) = false := by rfl) : EOk X w (.Call (.Name x pp) (e :: es) [] pos) (eCall fn fs) :=
  (pe_callB hc hg hm hv ha hn hdb he hpl).imp (eCall_of h)
theorem e_callT (hc : CallR X (.type T) rr) (h : CalS X.K rr fn) (hg : Gl X x) (hm : X.mg x = none) (hv : bootBuiltins x = some (.type T)) (ha : AMk X w (e :: es) fs) (hn : x ≠ "__name__" := by decide) (hdb : (x == ("__debug__" : Str)) = false := by decide)
    (he : starEach (e :: es) X.env = (false, eval e X.env) :: starEach es X.env := by rfl) (hpl : (backTo pos (starEach es X.env)).any (·.1) = false := by rfl) : EOk X w (.Call (.Name x pp) (e :: es) [] pos) (eCall fn fs) :=
  (pe_callTy hc hg hm hv ha hn hdb he hpl).imp (eCall_of h)
end

/-! ### calls of the text's own defs -/
/-- what an exception is wished for, by the slots as they stand -/
def EofW (w : WX) (σ : L2.St) : XK := fun cls d H => w cls d σ H
def eFn (m : List C → Out C) (fs : List (M C)) : M C := fun env => (evMs fs env).bind fun cs e1 => match m cs with
  | .ok c _ => .ok (.frz c.toD) e1
  | .err x _ => .err x e1
  | .no => .no
/-- .. the first argument, a slot's own thing, lent -/
def lentTo (m : List C → Out C) (i : Nat) (cs : List C) (e1 : Slots) : Out C := match e1[i]? with
  | some (some c0) => match m (c0 :: cs) with
    | .ok c outs => match outs with
      | some c1 :: _ => .ok (.frz c.toD) (e1.set i (some c1))
      | _ => .no
    | .err x outs => match outs with
      | some c1 :: _ => .err x (e1.set i (some c1))
      | _ => .no
    | .no => .no
  | _ => .no
def eFnL (m : List C → Out C) (i : Nat) (fs : List (M C)) : M C := fun env => match env[i]? with
  | some (some _) => (evMs fs env).bind (lentTo m i)
  | _ => .no
end
end PL
namespace PL
open PySem PySem.Spec PyProof.Rows L2
section
variable {X : Cx} {w : WX} {H : Hp} {σ : L2.St} {e : Expr} {es : List Expr} {p q r : P} {ps : List P} {pos pp : Pos} {K : PySem.W.Frag} {mg : Str → Option Value} {B : Addr → Prop} {O : List Addr} {env : Slots}
theorem RepL.repE {W : Addr → Prop} : ∀ {cs : List C} {vs : List V} {A : List Addr}, RepL K W H cs vs A → RepE K W H (cs.map some) (vs.map some) A
  | [], vs, A, h => by rw [h.1, h.2]; exact ⟨rfl, rfl⟩
  | c :: r, vs, A, h => by
    obtain ⟨x, ys, A1, A2, rfl, rfl, h1, h2⟩ := h
    exact ⟨some x, ys.map some, A1, A2, rfl, rfl, ⟨x, rfl, h1⟩, RepL.repE h2⟩
/-- the slots behind a call that was handed A -/
theorem ResL.stay {cs : List C} {vs : List V} {H1 H' : Hp} {A O1 O2 A2 : List Addr} {e1 : Slots} (r : ResL K B O H σ cs e1 vs H1 A O1) (f : Frm A H1 A2 O2 H') : Stt K B H' σ e1 O1 ∧ Frm O H [] O1 H' := by
  have nA : ∀ a ∈ O1, a ∉ A := fun a ha z => r.stt.dj a ha (.inr z)
  refine ⟨⟨RepE.kp (fun a o hw ha => ?_) (fun a ha o e => (f a o (nA a ha) e).1) r.stt.rep, r.stt.nd, fun a ha z => r.stt.dj a ha (.inl z), fun a z => ?_⟩, fun a o hw ha => ?_⟩
  · exact ⟨(f a o (fun z => hw (.inl (.inr z))) ha).1, fun z => hw (z.imp .inl id)⟩
  · obtain ⟨u, e⟩ := r.stt.tr a (.inl z)
    exact ⟨u, (f a u (fun y => r.dj a y z) e).1⟩
  · obtain ⟨q, n⟩ := r.frm a o hw ha
    exact ⟨(f a o (fun z => n (.inl z)) q).1, fun z => n (z.elim (fun z => nomatch z) .inr)⟩
theorem ResL.args {cs : List C} {vs : List V} {H1 : Hp} {A O1 : List Addr} {e1 : Slots} (r : ResL K B O H σ cs e1 vs H1 A O1) : Stt K (fun a => B a ∨ a ∈ O1) H1 (vs.map some) (cs.map some) A :=
  ⟨RepE.kp (Kp.less fun a z => z.elim (fun z => z.elim (fun z => .inl (.inl z)) .inr) fun z => .inl (.inr z)) (fun _ _ _ e => e) (RepL.repE r.rep), r.nd, fun a ha z => z.elim (r.dj a ha) fun z => r.stt.dj a z (.inr ha), fun a z => z.elim (fun z => r.stt.tr a (.inl z)) fun z => RepE.trk r.stt.rep a z⟩
theorem IsX.kp {W W' : Addr → Prop} {H H' : Hp} (p : Kp W H W' H') : ∀ {l : List (Str × D)} {xs : List (Str × V)}, IsX K W H l xs → IsX K W' H' l xs
  | [], xs, h => h
  | (k, d) :: r, xs, h => by
    obtain ⟨x, ys, e, h1, h2⟩ := h
    exact ⟨x, ys, e, Is.kp p _ _ h1, IsX.kp p h2⟩
/-- the exception's own part -/
def XFs (K : PySem.W.Frag) (W : Addr → Prop) (H' : Hp) (x : Exn) (d : Option Addr) : Prop := match x.fs with
  | none => d = none
  | some fs => ∃ dd vs, d = some dd ∧ H' dd = some (.xd vs) ∧ ¬ W dd ∧ IsX K W H' fs vs
theorem XFs.less {W W' : Addr → Prop} {x : Exn} {d : Option Addr} (h : XFs K W H x d) (i : ∀ a, W' a → W a) : XFs K W' H x d := by
  unfold XFs at h ⊢
  cases e : x.fs with
  | none => rw [e] at h; exact h
  | some fs =>
    rw [e] at h
    obtain ⟨dd, vs, h1, h2, h3, h4⟩ := h
    exact ⟨dd, vs, h1, h2, fun z => h3 (i _ z), h4.kp (Kp.less i)⟩
theorem XRes.xfs {x : Exn} {cls : Value} {d : Option Addr} {H' : Hp} {O' : List Addr} {e1 : Slots} (r : XRes K mg B O H σ x e1 cls d H' O') : XFs K (fun a => B a ∨ a ∈ O') H' x d := by
  have q := r.fs
  unfold XFs
  cases e : x.fs with
  | none => rw [e] at q; exact q
  | some fs =>
    rw [e] at q
    obtain ⟨dd, vs, h1, h2, h3, h4, h5⟩ := q
    exact ⟨dd, vs, h1, h2, fun z => z.elim h3 h4, h5⟩
theorem XRes.mk' {x : Exn} {cls : Value} {d : Option Addr} {H' : Hp} {O' : List Addr} {e1 : Slots} (h1 : mg x.cls = some cls) (h2 : XFs K (fun a => B a ∨ a ∈ O') H' x d) (h3 : Stt K B H' σ e1 O') (h4 : Frm O H [] O' H') : XRes K mg B O H σ x e1 cls d H' O' := by
  refine ⟨h1, ?_, h3, h4⟩
  unfold XFs at h2
  cases e : x.fs with
  | none => rw [e] at h2; exact h2
  | some fs =>
    rw [e] at h2
    obtain ⟨dd, vs, g1, g2, g3, g4⟩ := h2
    exact ⟨dd, vs, g1, g2, fun z => g3 (.inl z), fun z => g3 (.inr z), g4⟩
theorem e_fn {k : Nat} {x : Str} {st : Stmt} {qs : List Str} {m : List C → Out C} {fs : List (M C)} (F : FnM X.prog X.w X.K X.mg X.base k x st qs m) (bd : BindP x st qs) (hg : X.A.guards = some []) (hr : Room k X.A) (tk : Takes X w) (gl : Gl X x) (ha : AMk X w (e :: es) fs) (hl : fs.length = qs.length := by rfl)
    (hdb : (x == ("__debug__" : Str)) = false := by decide) (he : starEach (e :: es) X.env = (false, eval e X.env) :: starEach es X.env := by rfl) (hpl : (backTo pos (starEach es X.env)).any (·.1) = false := by rfl) :
    EOk X w (.Call (.Name x pp) (e :: es) [] pos) (eFn m fs) := by
  obtain ⟨f, kV, doc, pm, an, cdv, ct, hm, kp, G⟩ := F.ex
  refine ⟨fun pins s σ H Q I h => ?_⟩
  have want : rdM X w fs σ H fun vs H1 => spM X.K X.mg qs.length m vs H1 Q (EofW w σ) := by
    obtain ⟨B, env, O, st, h⟩ := h
    refine ⟨B, env, O, st, ?_⟩
    unfold eFn at h
    have hlen : ∀ (gs : List (M C)) (e0 : Slots) (cs : List C) (e1 : Slots), evMs gs e0 = .ok cs e1 → cs.length = gs.length := by
      intro gs
      induction gs with
      | nil => intro e0 cs e1 z; cases z; rfl
      | cons g gs ih =>
        intro e0 cs e1 z
        unfold evMs at z
        cases eg : g e0 with
        | no => rw [eg] at z; cases z
        | err _ _ => rw [eg] at z; cases z
        | ok c e2 =>
          rw [eg] at z
          simp only [Out.bind] at z
          cases er : evMs gs e2 with
          | no => rw [er] at z; cases z
          | err _ _ => rw [er] at z; cases z
          | ok cs2 e3 =>
            rw [er] at z
            cases z
            rw [List.length_cons, List.length_cons, ih _ _ _ er]
    cases er : evMs fs env with
    | no => simp only [er, Out.bind] at h
    | err y e => simp only [er, Out.bind] at h; exact h
    | ok cs e1 =>
      simp only [er, Out.bind] at h
      intro vs H1 A O1 r
      refine ⟨by rw [r.rep.length, hlen _ _ _ _ er]; exact hl, fun a => B a ∨ a ∈ O1, cs, A, r.args, ?_⟩
      cases em : m cs with
      | no => rw [em] at h; exact h
      | err y outs =>
        rw [em] at h
        intro cls d H' O' x2
        obtain ⟨s2, f2⟩ := r.stay (A2 := []) x2.frm
        exact h cls d H' O1 (XRes.mk' x2.cls (x2.xfs.less fun a z => .inl z) s2 f2)
      | ok c outs =>
        rw [em] at h
        intro u H' A2 O2 r2
        obtain ⟨s2, f2⟩ := r.stay r2.frm
        exact h u H' [] O1 (Res.new s2 f2 (New.of_is (Is.kp (Kp.less fun a z => .inl z) _ _ r2.is)))
  refine wpAny_Call_Name_kw (ld_glob I gl hm ?_ hdb)
  refine PySem.W.callWith_K (h₀ := X.base) I.ok.mod.kin kp (thn (ha.run pos pins s σ H _ I want) ?_) he hpl
  rintro us s1 ⟨vs, H1, I1, r1, q1⟩
  exact ⟨I1.kIn, run_G G hg hr (fun e s' c => tk e s' (XE.of_call I1 (fun _ _ _ z => z) c)) (.of_eq (bd kV doc pm an cdv ct us (r1.length.symm.trans q1.1))) I1 r1 q1⟩
theorem evMs_len : ∀ {gs : List (M C)} {e0 : Slots} {cs : List C} {e1 : Slots}, evMs gs e0 = .ok cs e1 → cs.length = gs.length
  | [], e0, cs, e1, z => by cases z; rfl
  | g :: gs, e0, cs, e1, z => by
    unfold evMs at z
    cases eg : g e0 with
    | no => rw [eg] at z; cases z
    | err _ _ => rw [eg] at z; cases z
    | ok c e2 =>
      rw [eg] at z
      simp only [Out.bind] at z
      cases er : evMs gs e2 with
      | no => rw [er] at z; cases z
      | err _ _ => rw [er] at z; cases z
      | ok cs2 e3 =>
        rw [er] at z
        cases z
        rw [List.length_cons, List.length_cons, evMs_len er]
/-- the slots behind a call that was lent slot i's thing -/
theorem ResL.lend {i : Nat} {cs : List C} {vs : List V} {H1 : Hp} {A O1 : List Addr} {e1 : Slots} {c0 : C} (r : ResL K B O H σ cs e1 vs H1 A O1) (h0 : e1[i]? = some (some c0)) :
    ∃ x0 Bc O0, σ[i]? = some (some x0) ∧ Stt K Bc H1 ((x0 :: vs).map some) ((c0 :: cs).map some) O0 ∧ (∀ a, B a → Bc a) ∧
      ∀ (H' : Hp) (A2 O2 B1 B2 : List Addr) (c1 : C), Frm O0 H1 A2 O2 H' → (∀ a ∈ O2, ¬ (Bc a ∨ a ∈ A2)) → O2 = B1 ++ B2 → B1.Nodup → RepC K (fun a => (Bc a ∨ a ∈ A2) ∨ a ∈ O2) H' c1 x0 B1 →
        ∃ O3, Stt K B H' σ (e1.set i (some c1)) O3 ∧ Frm O H [] O3 H' ∧ ∀ a, (B a ∨ a ∈ O3) → (Bc a ∨ a ∈ O2) := by
  obtain ⟨o, A1, A2', A3, g1, g2, ⟨x0, rfl, hc0⟩, put⟩ := RepE.at r.stt.rep h0
  have nd := r.stt.nd
  rw [g2] at nd
  have sub : ∀ a, a ∈ A1 ++ A3 → a ∈ O1 := fun a ha => by rw [g2]; simp at ha ⊢; rcases ha with z | z <;> simp [z]
  have sub2 : ∀ a, a ∈ A2' → a ∈ O1 := fun a ha => by rw [g2]; simp [ha]
  have nd1 := List.nodup_append.mp nd
  have nd2 := List.nodup_append.mp nd1.2.1
  have n13 : ∀ a ∈ A2', a ∉ A1 ++ A3 := fun a ha z => by
    rcases List.mem_append.mp z with z | z
    · exact nd1.2.2 a z a (by simp [ha]) rfl
    · exact nd2.2.2 a ha a z rfl
  have nA : ∀ a ∈ O1, a ∉ A := fun a ha z => r.stt.dj a ha (.inr z)
  have ar := r.args
  have mem2 : ∀ a, a ∈ O1 ↔ a ∈ A2' ∨ a ∈ A1 ++ A3 := fun a => by rw [g2]; simp; constructor <;> intro h <;> rcases h with h | h | h <;> simp [h]
  refine ⟨x0, fun a => B a ∨ a ∈ A1 ++ A3, A2' ++ A, g1, ⟨?_, ?_, ?_, ?_⟩, fun a z => .inl z, fun H' Ar O2 B1 B2 c1 fr dj2 eO nB1 hc1 => ?_⟩
  · refine ⟨some x0, vs.map some, A2', A, rfl, rfl, ⟨x0, rfl, RepC.kp (Kp.less fun a z => ?_) _ _ _ (fun _ _ _ e => e) hc0⟩, RepE.kp (Kp.less fun a z => ?_) (fun _ _ _ e => e) (RepL.repE r.rep)⟩
    · rcases z with (z | z) | z
      · exact .inl (.inl z)
      · exact .inr (sub a z)
      · rcases List.mem_append.mp z with z | z
        · exact .inr (sub2 a z)
        · exact .inl (.inr z)
    · rcases z with (z | z) | z
      · exact .inl (.inl z)
      · exact .inr (sub a z)
      · rcases List.mem_append.mp z with z | z
        · exact .inr (sub2 a z)
        · exact .inl (.inr z)
  · exact List.nodup_append.mpr ⟨nd2.1, r.nd, fun a ha b hb e => nA a (sub2 a ha) (e ▸ hb)⟩
  · intro a ha z
    rcases List.mem_append.mp ha with ha | ha
    · exact z.elim (fun z => r.stt.dj a (sub2 a ha) (.inl z)) (n13 a ha)
    · exact z.elim (r.dj a ha) fun z => nA a (sub a z) ha
  · exact fun a z => z.elim (fun z => r.stt.tr a (.inl z)) fun z => RepE.trk r.stt.rep a (sub a z)
  · have keep13 : ∀ a ∈ A1 ++ A3, ∀ o, H1 a = some o → H' a = some o ∧ ¬ (a ∈ Ar ∨ a ∈ O2) := fun a ha o e => fr a o (fun z => (List.mem_append.mp z).elim (fun z => n13 a z ha) fun z => nA a (sub a ha) z) e
    have t13 : ∀ a ∈ A1 ++ A3, ∃ u : MHO, H1 a = some u.1 := fun a ha => RepE.trk r.stt.rep a (sub a ha)
    have b1 : ∀ a, a ∈ B1 → a ∈ O2 := fun a ha => by rw [eO]; simp [ha]
    have m3 : ∀ a, a ∈ A1 ++ (B1 ++ A3) → a ∈ A1 ++ A3 ∨ a ∈ B1 := fun a ha => by simp at ha ⊢; rcases ha with z | z | z <;> simp [z]
    refine ⟨A1 ++ (B1 ++ A3), ⟨?_, ?_, ?_, ?_⟩, ?_, fun a z => ?_⟩
    · have q := put (fun a => B a ∨ a ∈ A1 ++ (B1 ++ A3)) H' (some c1) (some x0) B1 ?_ (fun a ha o e => (keep13 a ha o e).1) ⟨x0, rfl, RepC.kp (Kp.less fun a z => ?_) _ _ _ (fun _ _ _ e => e) hc1⟩
      · rw [set_same g1] at q; exact q
      · intro a o hw ha
        obtain ⟨q1, q2⟩ := fr a o (fun z => (List.mem_append.mp z).elim (fun z => hw (.inr (sub2 a z))) fun z => hw (.inl (.inr z))) ha
        refine ⟨q1, fun z => ?_⟩
        rcases z with z | z
        · exact hw (.inl (.inl z))
        · rcases m3 a z with z | z
          · exact hw (.inr (sub a z))
          · exact q2 (.inr (b1 a z))
      · rcases z with z | z
        · exact .inl (.inl (.inl z))
        · rcases m3 a z with z | z
          · exact .inl (.inl (.inr z))
          · exact .inr (b1 a z)
    · have d13 : ∀ a ∈ B1, a ∉ A1 ++ A3 := fun a ha z => by
        obtain ⟨u, e⟩ := t13 a z
        exact (keep13 a z u e).2 (.inr (b1 a ha))
      refine List.nodup_append.mpr ⟨nd1.1, List.nodup_append.mpr ⟨nB1, nd2.2.1, fun a ha b hb e => d13 a ha (by subst e; simp [hb])⟩, fun a ha b hb e => ?_⟩
      subst e
      rcases List.mem_append.mp hb with z | z
      · exact d13 a z (by simp [ha])
      · exact nd1.2.2 a ha a (by simp [z]) rfl
    · intro a ha z
      rcases m3 a ha with ha | ha
      · exact r.stt.dj a (sub a ha) (.inl z)
      · exact dj2 a (b1 a ha) (.inl (.inl z))
    · intro a z
      obtain ⟨u, e⟩ := r.stt.tr a (.inl z)
      exact ⟨u, (fr a u (fun y => (List.mem_append.mp y).elim (fun y => r.stt.dj a (sub2 a y) (.inl z)) fun y => r.dj a y z) e).1⟩
    · intro a o hw ha
      obtain ⟨q, n⟩ := r.frm a o hw ha
      obtain ⟨q1, q2⟩ := fr a o (fun z => (List.mem_append.mp z).elim (fun z => n (.inr (sub2 a z))) fun z => n (.inl z)) q
      refine ⟨q1, fun z => z.elim (fun z => nomatch z) fun z => ?_⟩
      rcases m3 a z with z | z
      · exact n (.inr (sub a z))
      · exact q2 (.inr (b1 a z))
    · rcases z with z | z
      · exact .inl (.inl z)
      · rcases m3 a z with z | z
        · exact .inl (.inr z)
        · exact .inr (b1 a z)
/-- a call that is lent slot i's thing -/
theorem e_fnL {k i : Nat} {x y : Str} {py : Pos} {st : Stmt} {qs : List Str} {m : List C → Out C} {fs : List (M C)} (F : FnM X.prog X.w X.K X.mg X.base k x st qs m) (bd : BindP x st qs) (hg : X.A.guards = some []) (hr : Room k X.A) (tk : Takes X w) (gl : Gl X x)
    (hN : X.N[i]? = some y) (hv : Vis X.env.scope y) (ha : AMk X w es fs) (hl : fs.length + 1 = qs.length := by rfl) (hd : (y == ("__debug__" : Str)) = false := by decide) (hcd : (y == ("__classdict__" : Str)) = false := by decide)
    (hdb : (x == ("__debug__" : Str)) = false := by decide) (he : starEach (.Name y py :: es) X.env = (false, eval (.Name y py) X.env) :: starEach es X.env := by rfl) (hpl : (backTo pos (starEach es X.env)).any (·.1) = false := by rfl) :
    EOk X w (.Call (.Name x pp) (.Name y py :: es) [] pos) (eFnL m i fs) := by
  obtain ⟨f, kV, doc, pm, an, cdv, ct, hm, kp, G⟩ := F.ex
  refine ⟨fun pins s σ H Q I h => ?_⟩
  have want : tCons (tVar i) (rdM X w fs) σ H fun vs H1 => spM X.K X.mg qs.length m vs H1 Q (EofW w σ) := by
    obtain ⟨B, env, O, st, h⟩ := h
    unfold eFnL at h
    split at h
    · rename_i ent hent
      split at hent
      · rename_i c00 h00
        obtain ⟨o, A1, A2, A3, g1, g2, ⟨x0, rfl, hc0⟩, _⟩ := RepE.at st.rep h00
        refine ⟨x0, g1, B, env, O, st, ?_⟩
        cases er : evMs fs env with
        | no => rw [er] at hent; cases hent
        | err y e => rw [er] at hent; cases hent
        | ok cs e1 =>
          rw [er] at hent
          intro vs H1 A O1 r
          have hent : lentTo m i cs e1 = _ := hent
          unfold lentTo at hent
          split at hent
          · rename_i c0 h0
            obtain ⟨x0', Bc, O0, k1, k2, k3, k4⟩ := r.lend h0
            rw [g1] at k1
            cases k1
            refine ⟨by rw [List.length_cons, r.rep.length, evMs_len er]; exact hl, Bc, c0 :: cs, O0, k2, ?_⟩
            split at hent
            · rename_i c outs em
              split at hent
              · rename_i c1 rest
                cases hent
                try rw [em]
                intro u H' A2 O2 r2
                obtain ⟨o, τ, B1, B2, e1', e2', ⟨x1, e3', hc1⟩, _⟩ := r2.stt.rep
                rw [List.map_cons] at e1'
                cases e1'
                cases e3'
                have ndO2 := r2.stt.nd
                rw [e2'] at ndO2
                obtain ⟨O3, s3, f3, sb⟩ := k4 H' A2 O2 B1 B2 c1 r2.frm (fun a ha z => r2.stt.dj a ha z) e2' (List.nodup_append.mp ndO2).1 hc1
                exact h u H' [] O3 (Res.new s3 f3 (New.of_is (Is.kp (Kp.less sb) _ _ r2.is)))
              · cases hent
            · split at hent <;> cases hent
            · cases hent
          · cases hent
      · cases hent
    · rename_i x' ent hent
      split at hent
      · rename_i c00 h00
        obtain ⟨o, A1, A2, A3, g1, g2, ⟨x0, rfl, hc0⟩, _⟩ := RepE.at st.rep h00
        refine ⟨x0, g1, B, env, O, st, ?_⟩
        cases er : evMs fs env with
        | no => rw [er] at hent; cases hent
        | err y e =>
          rw [er] at hent
          cases hent
          exact h
        | ok cs e1 =>
          rw [er] at hent
          intro vs H1 A O1 r
          have hent : lentTo m i cs e1 = _ := hent
          unfold lentTo at hent
          split at hent
          · rename_i c0 h0
            obtain ⟨x0', Bc, O0, k1, k2, k3, k4⟩ := r.lend h0
            rw [g1] at k1
            cases k1
            refine ⟨by rw [List.length_cons, r.rep.length, evMs_len er]; exact hl, Bc, c0 :: cs, O0, k2, ?_⟩
            split at hent
            · split at hent <;> cases hent
            · rename_i y outs em
              split at hent
              · rename_i c1 rest
                cases hent
                try rw [em]
                intro cls d H' O2 r2
                obtain ⟨o, τ, B1, B2, e1', e2', ⟨x1, e3', hc1⟩, _⟩ := r2.stt.rep
                rw [List.map_cons] at e1'
                cases e1'
                cases e3'
                have ndO2 := r2.stt.nd
                rw [e2'] at ndO2
                obtain ⟨O3, s3, f3, sb⟩ := k4 H' [] O2 B1 B2 c1 r2.frm (fun a ha z => r2.stt.dj a ha (z.elim id fun z => nomatch z)) e2' (List.nodup_append.mp ndO2).1 (RepC.kp (Kp.less fun a z => z.imp (fun z => z.elim id fun z => nomatch z) id) _ _ _ (fun _ _ _ e => e) hc1)
                exact h cls d H' O3 (XRes.mk' r2.cls (r2.xfs.less sb) s3 f3)
              · cases hent
            · cases hent
          · cases hent
      · cases hent
    · exact h.elim
  refine wpAny_Call_Name_kw (ld_glob I gl hm ?_ hdb)
  refine PySem.W.callWith_K (h₀ := X.base) I.ok.mod.kin kp (thn ((pa_cons (pe_var (i := i) hN hv hd hcd) ha he).run pos pins s σ H _ I want) ?_) he hpl
  rintro us s1 ⟨vs, H1, I1, r1, q1⟩
  exact ⟨I1.kIn, run_G G hg hr (fun e s' c => tk e s' (XE.of_call I1 (fun _ _ _ z => z) c)) (.of_eq (bd kV doc pm an cdv ct us (r1.length.symm.trans q1.1))) I1 r1 q1⟩
end
end PL
namespace PL
open PySem PySem.Spec PyProof.Rows L2
section
variable {X : Cx} {w : WX} {H : Hp} {σ : L2.St} {e : Expr} {es : List Expr} {p q r : P} {ps : List P} {pos pp : Pos} {K : PySem.W.Frag} {mg : Str → Option Value} {B : Addr → Prop} {O : List Addr} {env : Slots}
/-! ### slots put, forgotten -/
theorem RepE.ext {W : Addr → Prop} : ∀ {env : Slots} {σ τ : List (Option V)} {A : List Addr}, RepE K W H env σ A → (∀ (i : Nat) (c : C), env[i]? = some (some c) → τ[i]? = σ[i]?) → τ.length = σ.length → RepE K W H env τ A
  | [], σ, τ, A, h, _, l => by
    obtain ⟨rfl, rfl⟩ := h
    exact ⟨List.eq_nil_of_length_eq_zero (by simpa using l), rfl⟩
  | oc :: r, σ, τ, A, h, q, l => by
    obtain ⟨o, ρ, A1, A2, rfl, rfl, h1, h2⟩ := h
    cases τ with
    | nil => simp at l
    | cons t τ =>
      refine ⟨t, τ, A1, A2, rfl, rfl, ?_, RepE.ext h2 (fun i c e => by simpa using q (i + 1) c (by simpa using e)) (by simpa using l)⟩
      cases oc with
      | none => exact h1
      | some c =>
        have z := q 0 c rfl
        simp at z
        subst z
        exact h1
theorem RepE.unset {W : Addr → Prop} {env : Slots} {σ : List (Option V)} {A : List Addr} (h : RepE K W H env σ A) (i : Nat) : ∃ A', A'.Sublist A ∧ RepE K W H (env.set i none) σ A' := by
  by_cases hi : i < env.length
  · obtain ⟨o, A1, A2, A3, g1, rfl, g3, g4⟩ := RepE.at h (List.getElem?_eq_getElem hi)
    have q := g4 W H none o [] Kp.refl (fun _ _ _ e => e) rfl
    rw [set_same g1] at q
    exact ⟨_, by simp, q⟩
  · rw [List.set_eq_of_length_le (by omega)]
    exact ⟨A, List.Sublist.refl _, h⟩
def wipeE (env : Slots) : List Nat → Slots
  | [] => env
  | v :: vs => (wipeE env vs).set v none
theorem RepE.wipe {W : Addr → Prop} {env : Slots} {σ : List (Option V)} {A : List Addr} (h : RepE K W H env σ A) : ∀ vs : List Nat, ∃ A', A'.Sublist A ∧ RepE K W H (wipeE env vs) σ A'
  | [] => ⟨A, List.Sublist.refl _, h⟩
  | v :: vs => by
    obtain ⟨A1, s1, h1⟩ := RepE.wipe h vs
    obtain ⟨A2, s2, h2⟩ := h1.unset v
    exact ⟨A2, s2.trans s1, h2⟩
theorem wipeE_length (env : Slots) : ∀ vs : List Nat, (wipeE env vs).length = env.length
  | [] => rfl
  | v :: vs => by unfold wipeE; rw [List.length_set, wipeE_length env vs]
theorem wipeE_none {env : Slots} {i : Nat} {c : C} : ∀ {vs : List Nat}, (wipeE env vs)[i]? = some (some c) → i ∉ vs
  | [], h => by simp
  | v :: vs, h => by
    unfold wipeE at h
    by_cases hv : v = i
    · subst hv
      rw [List.getElem?_set] at h
      split at h
      · split at h <;> cases h
      · rename_i z; exact absurd rfl z
    · rw [List.getElem?_set_ne hv] at h
      simp only [List.mem_cons, not_or]
      exact ⟨fun z => hv z.symm, wipeE_none h⟩
/-- only the slots at js may have changed -/
structure SetIn (js : List Nat) (σ τ : List (Option V)) : Prop where
  len : τ.length = σ.length
  out : ∀ i, i ∉ js → τ[i]? = σ[i]?
theorem SetIn.refl {js : List Nat} {σ : List (Option V)} : SetIn js σ σ := ⟨rfl, fun _ _ => rfl⟩
theorem SetIn.trans {js js' : List Nat} {σ τ ρ : List (Option V)} (h : SetIn js σ τ) (h' : SetIn js' τ ρ) : SetIn (js ++ js') σ ρ :=
  ⟨h'.len.trans h.len, fun i hi => (h'.out i fun z => hi (by simp [z])).trans (h.out i fun z => hi (by simp [z]))⟩
theorem SetIn.set {σ : List (Option V)} (i : Nat) (o : Option V) : SetIn [i] σ (σ.set i o) := ⟨by simp, fun j hj => List.getElem?_set_ne (fun z => hj (by simp [z]))⟩
theorem wipe_get (σ : List (Option V)) (i : Nat) : ∀ vs : List Nat, (L2.wipe σ vs)[i]? = if i ∈ vs then (σ[i]?).map fun _ => none else σ[i]?
  | [] => by simp [L2.wipe]
  | v :: vs => by
    unfold L2.wipe
    by_cases hv : v = i
    · subst hv
      have ih := wipe_get σ v vs
      rw [List.getElem?_set_self']
      rw [ih]
      simp only [List.mem_cons, true_or, if_true]
      split <;> cases σ[v]? <;> rfl
    · rw [List.getElem?_set_ne hv, wipe_get σ i vs]
      have : i ∈ v :: vs ↔ i ∈ vs := by
        rw [List.mem_cons]
        exact ⟨fun z => z.elim (fun z => absurd z.symm hv) id, .inr⟩
      simp only [this]
theorem SetIn.wipe {js vs : List Nat} {σ τ : List (Option V)} (h : SetIn js σ τ) (hs : ∀ j ∈ js, j ∈ vs) : L2.wipe τ vs = L2.wipe σ vs := by
  refine List.ext_getElem? fun i => ?_
  rw [wipe_get, wipe_get]
  by_cases hi : i ∈ vs
  · rw [if_pos hi, if_pos hi]
    by_cases hl : i < σ.length
    · rw [List.getElem?_eq_getElem hl, List.getElem?_eq_getElem (by rw [h.len]; exact hl)]; rfl
    · have hl' := h.len
      rw [List.getElem?_eq_none (show τ.length ≤ i by omega), List.getElem?_eq_none (show σ.length ≤ i by omega)]
  · rw [if_neg hi, if_neg hi]
    exact h.out i fun z => hi (hs i z)
theorem Stt.wiped {vs : List Nat} {τ : List (Option V)} (s : Stt K B H σ env O) (h : ∀ i, i ∉ vs → τ[i]? = σ[i]?) (hl : τ.length = σ.length) : ∃ O', O'.Sublist O ∧ Stt K B H τ (wipeE env vs) O' := by
  obtain ⟨A', sub, r⟩ := s.rep.wipe vs
  have r2 := RepE.ext r (τ := τ) (fun i c e => h i (wipeE_none e)) hl
  exact ⟨A', sub, RepE.kp (Kp.less fun a z => z.imp id (sub.subset ·)) (fun _ _ _ e => e) r2, s.nd.sublist sub, fun a ha => s.dj a (sub.subset ha), s.tr⟩
/-- .. what the slots let go is told as another's -/
theorem Stt.wipedB {vs : List Nat} {τ : List (Option V)} (s : Stt K B H σ env O) (h : ∀ i, i ∉ vs → τ[i]? = σ[i]?) (hl : τ.length = σ.length) : ∃ O', O'.Sublist O ∧ Stt K (fun a => B a ∨ (a ∈ O ∧ a ∉ O')) H τ (wipeE env vs) O' := by
  obtain ⟨A', sub, r⟩ := s.rep.wipe vs
  have r2 := RepE.ext r (τ := τ) (fun i c e => h i (wipeE_none e)) hl
  refine ⟨A', sub, RepE.kp (Kp.less fun a z => ?_) (fun _ _ _ e => e) r2, s.nd.sublist sub, fun a ha z => ?_, fun a z => z.elim (s.tr a) fun z => RepE.trk s.rep a z.1⟩
  · rcases z with (z | z) | z
    · exact .inl z
    · exact .inr z.1
    · exact .inr (sub.subset z)
  · exact z.elim (s.dj a (sub.subset ha)) fun z => z.2 ha
theorem Frm.sub {O O1 O2 A : List Addr} {H H' : Hp} (f : Frm O H A O1 H') (s : ∀ a ∈ O2, a ∈ O1) : Frm O H A O2 H' := fun a o w h => ⟨(f a o w h).1, fun z => (f a o w h).2 (z.imp id (s a))⟩
/-- a value put into a slot -/
theorem Res.put {c : C} {e1 : Slots} {v : V} {H' : Hp} {A O' : List Addr} {i : Nat} (r : Res K B O H σ c e1 v H' A O') (hi : i < e1.length) :
    ∃ O2, Stt K B H' (σ.set i (some v)) (e1.set i (some c)) O2 ∧ Frm O H [] O2 H' := by
  obtain ⟨o, A1, A2, A3, g1, g2, g3, g4⟩ := RepE.at r.stt.rep (List.getElem?_eq_getElem hi)
  have nd := r.stt.nd
  rw [g2] at nd
  have nd1 := List.nodup_append.mp nd
  have nd2 := List.nodup_append.mp nd1.2.1
  have sub : ∀ a, a ∈ A1 ++ A3 → a ∈ O' := fun a ha => by rw [g2]; simp at ha ⊢; rcases ha with z | z <;> simp [z]
  have m3 : ∀ a, a ∈ A1 ++ (A ++ A3) → a ∈ A ∨ a ∈ A1 ++ A3 := fun a ha => by simp at ha ⊢; rcases ha with z | z | z <;> simp [z]
  refine ⟨A1 ++ (A ++ A3), ⟨?_, ?_, ?_, ?_⟩, fun a o hw ha => ⟨(r.frm a o hw ha).1, fun z => (r.frm a o hw ha).2 (z.elim (fun z => nomatch z) fun z => (m3 a z).imp id (sub a))⟩⟩
  · refine g4 _ H' (some c) (some v) A (Kp.less fun a z => ?_) (fun _ _ _ e => e) ⟨v, rfl, RepC.kp (Kp.less fun a z => ?_) _ _ _ (fun _ _ _ e => e) r.rep⟩
    · rcases z with z | z
      · exact .inl (.inl z)
      · exact (m3 a z).imp .inr (sub a)
    · rcases z with z | z
      · exact .inl (.inl z)
      · exact (m3 a z).imp .inr (sub a)
  · refine List.nodup_append.mpr ⟨nd1.1, List.nodup_append.mpr ⟨r.nd, nd2.2.1, fun a ha b hb e => ?_⟩, fun a ha b hb e => ?_⟩
    · subst e; exact r.stt.dj a (sub a (by simp [hb])) (.inr ha)
    · subst e
      rcases List.mem_append.mp hb with z | z
      · exact r.stt.dj a (sub a (by simp [ha])) (.inr z)
      · exact nd1.2.2 a ha a (by simp [z]) rfl
  · exact fun a ha z => (m3 a ha).elim (fun y => r.dj a y z) fun y => r.stt.dj a (sub a y) (.inl z)
  · exact fun a z => r.stt.tr a (.inl z)
theorem Stt.put {d : D} {v : V} {i : Nat} (s : Stt K B H σ env O) (h : Is K (fun a => B a ∨ a ∈ O) H d v) (hi : i < env.length) : ∃ O2, Stt K B H (σ.set i (some v)) (env.set i (some (.frz d))) O2 ∧ Frm O H [] O2 H :=
  (Res.new s Frm.refl (New.of_is h)).put hi

/-! ### targets (n: of a comprehension: the slots are free ahead) -/
abbrev Tg := D → Slots → Option Slots
def rdG (X : Cx) (n : Bool) (js : List Nat) (t : Tg) : TG := fun v σ H Q => ∃ B env O d env', Stt X.K B H σ env O ∧ Is X.K (fun a => B a ∨ a ∈ O) H d v ∧ t d env = some env' ∧ ∀ σ' H' O', Stt X.K B H' σ' env' O' → Frm O H [] O' H' → SetIn js σ σ' → (n = true → H' = H ∧ O' = O) → Q σ' H'
def rdGs (X : Cx) (n : Bool) (js : List Nat) (t : List D → Slots → Option Slots) : TGs := fun vs σ H Q => ∃ B env O ds env', Stt X.K B H σ env O ∧ IsL X.K (fun a => B a ∨ a ∈ O) H ds vs ∧ t ds env = some env' ∧ ∀ σ' H' O', Stt X.K B H' σ' env' O' → Frm O H [] O' H' → SetIn js σ σ' → (n = true → H' = H ∧ O' = O) → Q σ' H'
abbrev GOk (X : Cx) (n : Bool) (tg : Expr) (js : List Nat) (t : Tg) : Prop := PG X tg (rdG X n js t)
abbrev GsOk (X : Cx) (n : Bool) (tg : List Expr) (js : List Nat) (t : List D → Slots → Option Slots) : Prop := PGs X tg (rdGs X n js t)
theorem _root_.L2.PG.imp {X : Cx} {e : Expr} {t t' : TG} (h : PG X e t) (i : ∀ v σ H Q, t' v σ H Q → t v σ H Q) : PG X e t' := ⟨fun pins s σ H v u Q I r hw => h.run pins s σ H v u Q I r (i v σ H Q hw)⟩
theorem _root_.L2.PGs.imp {X : Cx} {e : List Expr} {t t' : TGs} (h : PGs X e t) (i : ∀ v σ H Q, t' v σ H Q → t v σ H Q) : PGs X e t' := ⟨fun pins s σ H v u Q I r hw => h.run pins s σ H v u Q I r (i v σ H Q hw)⟩
def isFree : Option (Option C) → Bool
  | some none => true
  | _ => false
def gV (n : Bool) (i : Nat) : Tg := fun d env => if (!n || isFree env[i]?) then some (env.set i (some (.frz d))) else none
theorem Stt.putF {d : D} {v : V} {i : Nat} (s : Stt K B H σ env O) (h : Is K (fun a => B a ∨ a ∈ O) H d v) (hi : isFree env[i]? = true) : Stt K B H (σ.set i (some v)) (env.set i (some (.frz d))) O := by
  have hi' : env[i]? = some none := by
    cases e : env[i]? with
    | none => rw [e] at hi; cases hi
    | some o =>
      cases o with
      | none => rfl
      | some c => rw [e] at hi; cases hi
  obtain ⟨o, A1, A2, A3, g1, g2, g3, g4⟩ := RepE.at s.rep hi'
  have e2 : A2 = [] := g3
  subst e2
  have q := g4 (fun a => B a ∨ a ∈ O) H (some (.frz d)) (some v) [] Kp.refl (fun _ _ _ e => e) ⟨v, rfl, rfl, h⟩
  rw [← g2] at q
  exact ⟨q, s.nd, s.dj, s.tr⟩
theorem Stt.len (s : Stt K B H σ env O) : σ.length = env.length := RepE.length s.rep
theorem g_V {n : Bool} {i : Nat} {x : Str} (hN : X.N.Nodup) (hi : X.N[i]? = some x) (hx : Loc X.env.scope x) (hf : X.fn x = true ∨ X.env.scope.names.lookup x = some .local := by first | exact .inl rfl | exact .inr rfl | assumption) : GOk X n (.Name x pos) [i] (gV n i) := ⟨fun pins s σ H v u Q I r h => (pg_name hN hi hx hf).run pins s σ H v u Q I r (by
  obtain ⟨B, env, O, d, env', st, hd, ht, h⟩ := h
  have hl : i < env.length := by
    rw [← st.len, I.len]
    by_cases q : i < X.N.length
    · exact q
    · rw [List.getElem?_eq_none (by omega)] at hi; cases hi
  cases n with
  | true =>
    simp only [gV, Bool.not_true, Bool.false_or] at ht
    split at ht
    · rename_i hl
      cases ht
      exact h _ H O (st.putF hd hl) Frm.refl (SetIn.set i _) fun _ => ⟨rfl, rfl⟩
    · cases ht
  | false =>
    cases ht
    obtain ⟨O2, s2, f2⟩ := st.put hd hl
    exact h _ H O2 s2 f2 (SetIn.set i _) fun z => nomatch z)⟩
def gsNil : List D → Slots → Option Slots
  | [], env => some env
  | _, _ => none
def gsCons (t : Tg) (u : List D → Slots → Option Slots) : List D → Slots → Option Slots
  | d :: r, env => (t d env).bind (u r)
  | _, _ => none
theorem gs_nil {n : Bool} : GsOk X n [] [] gsNil := pgs_nil.imp fun vs σ H Q h => by
  obtain ⟨B, env, O, ds, env', s, hd, ht, h⟩ := h
  unfold gsNil at ht
  split at ht
  · cases ht
    exact ⟨hd, h σ H O s Frm.refl SetIn.refl fun _ => ⟨rfl, rfl⟩⟩
  · cases ht
theorem gs_cons {n : Bool} {js js' : List Nat} {t : Tg} {u : List D → Slots → Option Slots} (h1 : GOk X n e js t) (h2 : GsOk X n es js' u)
    (hs : (assignEach (e :: es) X.env).map (·.2) = assign e X.env :: (assignEach es X.env).map (·.2) := by rfl) : GsOk X n (e :: es) (js ++ js') (gsCons t u) := (pgs_cons h1 h2 hs).imp fun vs σ H Q h => by
  obtain ⟨B, env, O, ds, env', s, hd, ht, h⟩ := h
  unfold gsCons at ht
  split at ht
  · simp only [Option.bind_eq_some_iff] at ht
    obtain ⟨e1, ht1, ht2⟩ := ht
    obtain ⟨x, ys, rfl, i1, i2⟩ := hd
    refine ⟨x, ys, rfl, B, _, O, _, e1, s, i1, ht1, fun σ1 H1 O1 s1 f1 z1 q1 => ⟨B, e1, O1, _, env', s1, IsL.kp (fun a o hw ha => ?_) _ _ i2, ht2, fun σ2 H2 O2 s2 f2 z2 q2 => h σ2 H2 O2 s2 (f1.seq' f2) (z1.trans z2) fun z => ⟨(q2 z).1.trans (q1 z).1, (q2 z).2.trans (q1 z).2⟩⟩⟩
    obtain ⟨q, n⟩ := f1 a o (fun z => hw (.inr z)) ha
    exact ⟨q, fun z => z.elim (fun z => hw (.inl z)) fun z => n (.inr z)⟩
  · cases ht
def gTupD (n : Nat) (u : List D → Slots → Option Slots) : Tg := fun d env => match d with
  | .tup l => if l.length = n then u l env else none
  | _ => none
theorem g_tup {nn : Bool} {k n : Nat} {js : List Nat} {u : List D → Slots → Option Slots} (hc : X.calm = true) (h : GsOk X nn es js u) (hn : (assignEach es X.env).length = n := by rfl) (hst : (assignEach es X.env).findIdx? (·.1) = none := by rfl) : GOk X nn (.Tuple es k pos) js (gTupD n u) :=
  (pg_tup hc h hn hst).imp fun v σ H Q h => by
    obtain ⟨B, env, O, d, env', s, hd, ht, h⟩ := h
    unfold gTupD at ht
    split at ht
    · rename_i l
      split at ht
      · rename_i hl
        obtain ⟨a, xs, rfl, ha, nw, il⟩ := hd
        exact ⟨a, xs, rfl, SqT.of ha, il.length.trans hl, B, env, O, l, env', s, il, ht, h⟩
      · cases ht
    · cases ht

/-! ### what is walked -/
/-- a walk of l, whatever happens outside W -/
def WalkD (K : PySem.W.Frag) (W : Addr → Prop) (H : Hp) (J : It) (l : List D) : Prop := ∀ (W2 : Addr → Prop) (H2 : Hp), Kp W H W2 H2 → (∀ a, W2 a → ∃ u : MHO, H2 a = some u.1) →
  (∀ i, i < l.length → J.go i H2) ∧ J.stop l.length H2 ∧ ∀ i x H3, i < l.length → J.yld i H2 x H3 → Grw H2 H3 ∧ ∃ d, l[i]? = some d ∧ Is K W2 H3 d x
/-- .. while the heap but grows (the object at D aside) -/
def WalkG (K : PySem.W.Frag) (W : Addr → Prop) (H : Hp) (J : It) (l : List D) : Prop := ∀ (D : Addr) (H2 : Hp), H D = none → (∃ u : MHO, H2 D = some u.1) → (∀ a o, H a = some o → H2 a = some o) → (∀ a, W a → ∃ u : MHO, H2 a = some u.1) →
  (∀ i, i < l.length → J.go i H2) ∧ J.stop l.length H2 ∧ ∀ i x H3, i < l.length → J.yld i H2 x H3 → Grw H2 H3 ∧ ∃ d, l[i]? = some d ∧ Is K (fun a => W a ∨ a = D) H3 d x
theorem WalkD.g {W : Addr → Prop} {J : It} {l : List D} (h : WalkD K W H J l) : WalkG K W H J l := fun D H2 hD hD2 g tr =>
  h (fun a => W a ∨ a = D) H2 (fun a o w ha => ⟨g a o ha, fun z => z.elim w fun z => by subst z; rw [hD] at ha; cases ha⟩) fun a z => z.elim (tr a) fun z => z ▸ hD2
def rdIG (X : Cx) (src : PLs) : TI := fun σ H R => ∃ B env O, Stt X.K B H σ env O ∧ ∃ l, src env = some l ∧ ∀ J H', Grw H H' → WalkG X.K (fun a => B a ∨ a ∈ O) H' J l → R J H'
def rdID (X : Cx) (w : WX) (src : M (List D)) : TI := fun σ H R => ∃ B env O, Stt X.K B H σ env O ∧ match src env with
  | .ok l env' => ∀ J H' O', Stt X.K B H' σ env' O' → Frm O H [] O' H' → WalkD X.K (fun a => B a ∨ a ∈ O') H' J l → R J H'
  | .err x env' => ∀ cls d H' O', XRes X.K X.mg B O H σ x env' cls d H' O' → w cls d σ H'
  | .no => False
abbrev IGk (X : Cx) (tg e : Expr) (src : PLs) : Prop := PI X tg e (rdIG X src)
abbrev IDk (X : Cx) (w : WX) (tg e : Expr) (src : M (List D)) : Prop := PI X tg e (rdID X w src)
theorem _root_.L2.PI.imp {X : Cx} {tg e : Expr} {t t' : TI} (h : PI X tg e t) (i : ∀ σ H Q, t' σ H Q → t σ H Q) : PI X tg e t' := ⟨fun pins s σ H R I hw => h.run pins s σ H R I (i σ H R hw)⟩
theorem _root_.L2.PI.or {X : Cx} {tg e : Expr} {t t' : TI} (h : PI X tg e t) (h' : PI X tg e t') : PI X tg e (fun σ H R => t σ H R ∨ t' σ H R) := ⟨fun pins s σ H R I hw => hw.elim (h.run pins s σ H R I) (h'.run pins s σ H R I)⟩
theorem walkD_list {W : Addr → Prop} {a : Addr} {xs : List V} {l : List D} (ha : H a = some (.lst xs)) (nw : ¬ W a) (il : IsL K W H l xs) : WalkD K W H (Itl K a) l := fun W2 H2 kp tr => by
  have h2 := (kp a _ nw ha).1
  have i2 := IsL.kp kp _ _ il
  have hl := il.length
  refine ⟨fun i hi => ⟨xs, xs[i]'(by omega), SqL.of h2, by simp [hl, hi]⟩, ⟨xs, SqL.of h2, by omega⟩, fun i x H3 hi y => ?_⟩
  obtain ⟨rfl, y⟩ := y
  refine ⟨Grw.refl, l[i], by simp [hi], ?_⟩
  obtain ⟨x', e, h⟩ := i2.get (List.getElem?_eq_getElem hi)
  rw [y xs (SqL.of h2)] at e
  cases e
  exact h
theorem walkD_tup {W : Addr → Prop} {a : Addr} {xs : List V} {l : List D} (ha : H a = some (.tup xs)) (nw : ¬ W a) (il : IsL K W H l xs) : WalkD K W H (Itt K a) l := fun W2 H2 kp tr => by
  have h2 := (kp a _ nw ha).1
  have i2 := IsL.kp kp _ _ il
  have hl := il.length
  refine ⟨fun i hi => ⟨xs, xs[i]'(by omega), SqT.of h2, by simp [hl, hi]⟩, ⟨xs, SqT.of h2, by omega⟩, fun i x H3 hi y => ?_⟩
  obtain ⟨rfl, y⟩ := y
  refine ⟨Grw.refl, l[i], by simp [hi], ?_⟩
  obtain ⟨x', e, h⟩ := i2.get (List.getElem?_eq_getElem hi)
  rw [y xs (SqT.of h2)] at e
  cases e
  exact h
theorem walkG_list {W : Addr → Prop} {a : Addr} {xs : List V} {l : List D} (ha : H a = some (.lst xs)) (il : IsL K W H l xs) : WalkG K W H (Itl K a) l := fun D H2 hD hD2 g tr => by
  have h2 := g _ _ ha
  have i2 : IsL K (fun b => W b ∨ b = D) H2 l xs := IsL.kp (fun b o w hb => ⟨g b o hb, fun z => z.elim w fun z => by subst z; rw [hD] at hb; cases hb⟩) _ _ il
  have hl := il.length
  refine ⟨fun i hi => ⟨xs, xs[i]'(by omega), SqL.of h2, by simp [hl, hi]⟩, ⟨xs, SqL.of h2, by omega⟩, fun i x H3 hi y => ?_⟩
  obtain ⟨rfl, y⟩ := y
  refine ⟨Grw.refl, l[i], by simp [hi], ?_⟩
  obtain ⟨x', e, h⟩ := i2.get (List.getElem?_eq_getElem hi)
  rw [y xs (SqL.of h2)] at e
  cases e
  exact h
theorem walkD_range {W : Addr → Prop} (lo : Int) (n : Nat) : WalkD K W H (Itr lo n) ((List.range n).map fun (i : Nat) => D.int (lo + (i : Int))) := fun W2 H2 kp tr => by
  refine ⟨fun i hi => (by simpa using hi : i < n), by simp [Itr], fun i x H3 hi y => ?_⟩
  obtain ⟨rfl, rfl⟩ := y
  have hi : i < n := by simpa using hi
  exact ⟨Grw.refl, .int (lo + i), by simp [List.getElem?_range hi], rfl⟩
theorem walkD_rangeC {W : Addr → Prop} (lo c : Int) (n : Nat) : WalkD K W H (Itc lo c n) ((List.range n).map fun (i : Nat) => D.int (lo + (i : Int) * c)) := fun W2 H2 kp tr => by
  refine ⟨fun i hi => (by simpa using hi : i < n), by simp [Itc], fun i x H3 hi y => ?_⟩
  obtain ⟨rfl, rfl⟩ := y
  have hi : i < n := by simpa using hi
  exact ⟨Grw.refl, .int (lo + i * c), by simp [List.getElem?_range hi], rfl⟩
def enumD (l : List D) : List D := l.zipIdx.map fun p => .tup [.int (p.2 : Int), p.1]
theorem enumD_get {l : List D} {i : Nat} (hi : i < l.length) : (enumD l)[i]? = some (.tup [.int (i : Int), l[i]]) := by
  unfold enumD
  rw [List.getElem?_map, List.getElem?_zipIdx, List.getElem?_eq_getElem hi]
  simp
theorem enumD_length (l : List D) : (enumD l).length = l.length := by simp [enumD]
theorem walkG_enum {W : Addr → Prop} {a : Addr} {xs : List V} {l : List D} (ha : H a = some (.lst xs)) (il : IsL K W H l xs) : WalkG K W H (Ite K a) (enumD l) := fun D H2 hD hD2 g tr => by
  have h2 := g _ _ ha
  have i2 : IsL K (fun b => W b ∨ b = D) H2 l xs := IsL.kp (fun b o w hb => ⟨g b o hb, fun z => z.elim w fun z => by subst z; rw [hD] at hb; cases hb⟩) _ _ il
  have hl := il.length
  rw [enumD_length]
  refine ⟨fun i hi => ⟨xs, xs[i]'(by omega), SqL.of h2, by simp [hl, hi]⟩, ⟨xs, SqL.of h2, by omega⟩, fun i x H3 hi y => ?_⟩
  obtain ⟨T, z, rfl, hT, rfl, y⟩ := y
  have g1 : Grw H2 (upd H2 T (.tup [.int (i : Nat), z])) := fun b o e => by rw [upd_ne (ne_of_none e hT)]; exact e
  refine ⟨g1, _, enumD_get hi, T, _, rfl, upd_same, fun q => ?_, ?_⟩
  · rcases q with q | q
    · obtain ⟨u, e⟩ := tr T q; rw [hT] at e; cases e
    · subst q; obtain ⟨u, e⟩ := hD2; rw [hT] at e; cases e
  · obtain ⟨x', e, h⟩ := i2.get (List.getElem?_eq_getElem hi)
    rw [y xs (SqL.of h2)] at e
    cases e
    exact ⟨_, _, rfl, rfl, _, _, rfl, h.grw g1, rfl⟩
theorem walkD_enum {W : Addr → Prop} {a : Addr} {xs : List V} {l : List D} (ha : H a = some (.lst xs)) (nw : ¬ W a) (il : IsL K W H l xs) : WalkD K W H (Ite K a) (enumD l) := fun W2 H2 kp tr => by
  have h2 := (kp a _ nw ha).1
  have i2 := IsL.kp kp _ _ il
  have hl := il.length
  rw [enumD_length]
  refine ⟨fun i hi => ⟨xs, xs[i]'(by omega), SqL.of h2, by simp [hl, hi]⟩, ⟨xs, SqL.of h2, by omega⟩, fun i x H3 hi y => ?_⟩
  obtain ⟨T, z, rfl, hT, rfl, y⟩ := y
  have g1 : Grw H2 (upd H2 T (.tup [.int (i : Nat), z])) := fun b o e => by rw [upd_ne (ne_of_none e hT)]; exact e
  refine ⟨g1, _, enumD_get hi, T, _, rfl, upd_same, fun q => ?_, ?_⟩
  · obtain ⟨u, e⟩ := tr T q; rw [hT] at e; cases e
  · obtain ⟨x', e, h⟩ := i2.get (List.getElem?_eq_getElem hi)
    rw [y xs (SqL.of h2)] at e
    cases e
    exact ⟨_, _, rfl, rfl, _, _, rfl, h.grw g1, rfl⟩
def zipD (l m : List D) : List D := List.zipWith (fun a b => D.tup [a, b]) l m
theorem zipD_length (l m : List D) : (zipD l m).length = min l.length m.length := by simp [zipD]
theorem zipD_get {l m : List D} {i : Nat} {a b : D} (h1 : l[i]? = some a) (h2 : m[i]? = some b) : (zipD l m)[i]? = some (.tup [a, b]) := by
  unfold zipD
  rw [List.getElem?_zipWith, h1, h2]
theorem walkG_zip {W : Addr → Prop} {a b : Addr} {xs ys : List V} {l m : List D} (ha : H a = some (.lst xs)) (hb : H b = some (.lst ys)) (il : IsL K W H l xs) (im : IsL K W H m ys) : WalkG K W H (Itz K a b) (zipD l m) := fun D H2 hD hD2 g tr => by
  have h2 := g _ _ ha
  have h3 := g _ _ hb
  have kp : ∀ {l : List PL.D} {xs : List V}, IsL K W H l xs → IsL K (fun b => W b ∨ b = D) H2 l xs := fun il => IsL.kp (fun b o w hb => ⟨g b o hb, fun z => z.elim w fun z => by subst z; rw [hD] at hb; cases hb⟩) _ _ il
  have i2 := kp il
  have i3 := kp im
  have hl := il.length
  have hm := im.length
  rw [zipD_length]
  refine ⟨fun i hi => ⟨xs, ys, xs[i]'(by omega), ys[i]'(by omega), SqL.of h2, SqL.of h3, by simp, by simp⟩, ⟨xs, ys, SqL.of h2, SqL.of h3, by omega⟩, fun i x H3 hi y => ?_⟩
  obtain ⟨T, z, u, rfl, hT, rfl, y1, y2⟩ := y
  have g1 : Grw H2 (upd H2 T (.tup [z, u])) := fun b o e => by rw [upd_ne (ne_of_none e hT)]; exact e
  refine ⟨g1, _, zipD_get (List.getElem?_eq_getElem (by omega : i < l.length)) (List.getElem?_eq_getElem (by omega : i < m.length)), T, _, rfl, upd_same, fun q => ?_, ?_⟩
  · rcases q with q | q
    · obtain ⟨u, e⟩ := tr T q; rw [hT] at e; cases e
    · subst q; obtain ⟨u, e⟩ := hD2; rw [hT] at e; cases e
  · obtain ⟨x', e, h⟩ := i2.get (List.getElem?_eq_getElem (by omega : i < l.length))
    obtain ⟨y', e', h'⟩ := i3.get (List.getElem?_eq_getElem (by omega : i < m.length))
    rw [y1 xs (SqL.of h2)] at e
    rw [y2 ys (SqL.of h3)] at e'
    cases e
    cases e'
    exact ⟨_, _, rfl, h.grw g1, _, _, rfl, h'.grw g1, rfl⟩
theorem walkD_zip {W : Addr → Prop} {a b : Addr} {xs ys : List V} {l m : List D} (ha : H a = some (.lst xs)) (hb : H b = some (.lst ys)) (na : ¬ W a) (nb : ¬ W b) (il : IsL K W H l xs) (im : IsL K W H m ys) : WalkD K W H (Itz K a b) (zipD l m) := fun W2 H2 kp tr => by
  have h2 := (kp a _ na ha).1
  have h3 := (kp b _ nb hb).1
  have i2 := IsL.kp kp _ _ il
  have i3 := IsL.kp kp _ _ im
  have hl := il.length
  have hm := im.length
  rw [zipD_length]
  refine ⟨fun i hi => ⟨xs, ys, xs[i]'(by omega), ys[i]'(by omega), SqL.of h2, SqL.of h3, by simp, by simp⟩, ⟨xs, ys, SqL.of h2, SqL.of h3, by omega⟩, fun i x H3 hi y => ?_⟩
  obtain ⟨T, z, u, rfl, hT, rfl, y1, y2⟩ := y
  have g1 : Grw H2 (upd H2 T (.tup [z, u])) := fun b o e => by rw [upd_ne (ne_of_none e hT)]; exact e
  refine ⟨g1, _, zipD_get (List.getElem?_eq_getElem (by omega : i < l.length)) (List.getElem?_eq_getElem (by omega : i < m.length)), T, _, rfl, upd_same, fun q => ?_, ?_⟩
  · obtain ⟨u, e⟩ := tr T q; rw [hT] at e; cases e
  · obtain ⟨x', e, h⟩ := i2.get (List.getElem?_eq_getElem (by omega : i < l.length))
    obtain ⟨y', e', h'⟩ := i3.get (List.getElem?_eq_getElem (by omega : i < m.length))
    rw [y1 xs (SqL.of h2)] at e
    rw [y2 ys (SqL.of h3)] at e'
    cases e
    cases e'
    exact ⟨_, _, rfl, h.grw g1, _, _, rfl, h'.grw g1, rfl⟩
/-! #### sources -/
section
variable {tg : Expr} {k1 k2 : Nat} {tpos : Pos} {elts : List Expr}
theorem iG_list {p : PLs} (h : LOk X e p) : IGk X tg e p := (pi_list h).imp fun σ H R hr => by
  obtain ⟨B, env, O, s, l, hp, hr⟩ := hr
  exact ⟨B, env, O, s, l, hp, fun a xs H1 g ha il => ⟨a, rfl, ⟨xs, SqL.of ha⟩, hr _ H1 g (walkG_list ha il)⟩⟩
/-- a frozen list or tuple -/
theorem iG_seq (h : POk X e p) : IGk X tg e (fSq p) := ((pi_list h).or (pi_tup h)).imp fun σ H R hr => by
  obtain ⟨B, env, O, s, l, hp, hr⟩ := hr
  unfold fSq at hp
  simp only [Option.bind_eq_some_iff] at hp
  obtain ⟨d, e1, e2⟩ := hp
  cases d with
  | lst l' =>
    cases e2
    exact .inl ⟨B, env, O, s, _, e1, fun v H1 g hv => let ⟨a, xs, ev, ha, nw, il⟩ := hv; ⟨a, ev, ⟨xs, SqL.of ha⟩, hr _ H1 g (walkD_list ha nw il).g⟩⟩
  | tup l' =>
    cases e2
    exact .inr ⟨B, env, O, s, _, e1, fun v H1 g hv => let ⟨a, xs, ev, ha, nw, il⟩ := hv; ⟨a, ev, ⟨xs, SqT.of ha⟩, hr _ H1 g (walkD_tup ha nw il).g⟩⟩
  | non => cases e2
  | bl _ => cases e2
  | int _ => cases e2
  | str _ => cases e2
  | dct _ => cases e2
  | dcT _ => cases e2
  | dcL _ => cases e2
  | ro _ => cases e2
  | opq _ => cases e2
def mSq (f : M C) : M (List D) := fun env => (f env).bind fun c e1 => match sqD c.toD with
  | some l => .ok l e1
  | none => .no
theorem iD_seq {f : M C} (h : EOk X w e f) : IDk X w tg e (mSq f) := ((pi_list h).or (pi_tup h)).imp fun σ H R hr => by
  obtain ⟨B, env, O, s, hr⟩ := hr
  unfold mSq at hr
  cases ef : f env with
  | no => simp only [ef, Out.bind] at hr
  | err x e1 =>
    simp only [ef, Out.bind] at hr
    exact .inl ⟨B, env, O, s, by rw [ef]; exact hr⟩
  | ok c e1 =>
    simp only [ef, Out.bind] at hr
    cases hd : c.toD with
    | lst l' =>
      rw [hd] at hr
      refine .inl ⟨B, env, O, s, ?_⟩
      rw [ef]
      intro v H1 A O1 r
      have hv := r.is
      rw [hd] at hv
      obtain ⟨a, xs, ev, ha, nw, il⟩ := hv
      exact ⟨a, ev, ⟨xs, SqL.of ha⟩, hr _ H1 O1 (r.stt.less fun a z => .inl z) (fun a o hw ha => ⟨(r.frm a o hw ha).1, fun z => (r.frm a o hw ha).2 (z.elim (fun z => nomatch z) .inr)⟩) (walkD_list ha nw il)⟩
    | tup l' =>
      rw [hd] at hr
      refine .inr ⟨B, env, O, s, ?_⟩
      rw [ef]
      intro v H1 A O1 r
      have hv := r.is
      rw [hd] at hv
      obtain ⟨a, xs, ev, ha, nw, il⟩ := hv
      exact ⟨a, ev, ⟨xs, SqT.of ha⟩, hr _ H1 O1 (r.stt.less fun a z => .inl z) (fun a o hw ha => ⟨(r.frm a o hw ha).1, fun z => (r.frm a o hw ha).2 (z.elim (fun z => nomatch z) .inr)⟩) (walkD_tup ha nw il)⟩
    | non => rw [hd] at hr; exact hr.elim
    | bl _ => rw [hd] at hr; exact hr.elim
    | int _ => rw [hd] at hr; exact hr.elim
    | str _ => rw [hd] at hr; exact hr.elim
    | dct _ => rw [hd] at hr; exact hr.elim
    | dcT _ => rw [hd] at hr; exact hr.elim
    | dcL _ => rw [hd] at hr; exact hr.elim
    | ro _ => rw [hd] at hr; exact hr.elim
    | opq _ => rw [hd] at hr; exact hr.elim
def rngL : List D → Option (List D)
  | [.int j] => if -(2 ^ 62) ≤ j ∧ j < 2 ^ 62 then some ((List.range j.toNat).map fun (i : Nat) => .int (0 + (i : Int))) else none
  | [.int i, .int j] => if (-(2 ^ 62) ≤ i ∧ i < 2 ^ 62) ∧ -(2 ^ 62) ≤ j ∧ j < 2 ^ 62 then some ((List.range (j - i).toNat).map fun (k : Nat) => .int (i + (k : Int))) else none
  | _ => none
def rngP (ps : List P) : PLs := fun env => (evPs ps env).bind rngL
def rngM (fs : List (M C)) : M (List D) := fun env => (evMs fs env).bind fun cs e1 => match rngL (C.toDs cs) with
  | some l => .ok l e1
  | none => .no
theorem iG_rng1 {a : Expr} {pa pb : Pos} (hg : Gl X "range") (hm : X.mg "range" = none) (ha : ABk X [a] [p]) (hs : starEach [a] X.env = [(false, eval a X.env)] := by rfl) : IGk X tg (.Call (.Name "range" pa) [a] [] pb) (rngP [p]) := (pi_range1 hg hm ha hs).imp fun σ H R hr => by
  obtain ⟨B, env, O, s, l, hp, hr⟩ := hr
  unfold rngP at hp
  simp only [Option.bind_eq_some_iff] at hp
  obtain ⟨ds, e1, e2⟩ := hp
  refine ⟨B, env, O, s, ds, e1, fun vs H1 g hv => ?_⟩
  have hl := evPs_len e1
  unfold rngL at e2
  split at e2
  · rename_i j
    split at e2
    · rename_i hj
      cases e2
      obtain ⟨x, rfl, hx⟩ := hv.one
      rw [show x = _ from hx]
      exact ⟨j, rfl, hj.1, hj.2, hr _ H1 g (walkD_range 0 _).g⟩
    · cases e2
  · simp at hl
  · cases e2
theorem iG_rng2 {a b : Expr} {pa pb : Pos} (hg : Gl X "range") (hm : X.mg "range" = none) (ha : ABk X [a, b] [p, q]) (hs : starEach [a, b] X.env = [(false, eval a X.env), (false, eval b X.env)] := by rfl) (hs2 : starEach [b] X.env = [(false, eval b X.env)] := by rfl) : IGk X tg (.Call (.Name "range" pa) [a, b] [] pb) (rngP [p, q]) := (pi_range2 hg hm ha hs hs2).imp fun σ H R hr => by
  obtain ⟨B, env, O, s, l, hp, hr⟩ := hr
  unfold rngP at hp
  simp only [Option.bind_eq_some_iff] at hp
  obtain ⟨ds, e1, e2⟩ := hp
  refine ⟨B, env, O, s, ds, e1, fun vs H1 g hv => ?_⟩
  have hl := evPs_len e1
  unfold rngL at e2
  split at e2
  · simp at hl
  · rename_i i j
    split at e2
    · rename_i hj
      cases e2
      obtain ⟨x, y, rfl, hx, hy⟩ := hv.two
      rw [show x = _ from hx, show y = _ from hy]
      exact ⟨i, j, rfl, ⟨hj.1.1, hj.1.2, hj.2.1, hj.2.2⟩, hr _ H1 g (walkD_range i _).g⟩
    · cases e2
  · cases e2
end
end
end PL
namespace PL
open PySem PySem.Spec PyProof.Rows L2
section
variable {X : Cx} {w : WX} {H : Hp} {σ : L2.St} {e : Expr} {es : List Expr} {p q r : P} {ps : List P} {pos pp : Pos} {K : PySem.W.Frag} {mg : Str → Option Value} {B : Addr → Prop} {O : List Addr} {env : Slots}
theorem toDs_length (l : List C) : (C.toDs l).length = l.length := by rw [toDs_map, List.length_map]
section
variable {tg : Expr} {kk : Nat} {tpos : Pos} {elts : List Expr}
/-- a source whose parts are pure -/
def mP (src : PLs) : M (List D) := fun env => match src env with | some l => .ok l env | none => .no
theorem rdID_args {fs : List (M C)} {k : List D → Option (List D)} {R : It → Hp → Prop} {Q : List V → Hp → Prop} (h : rdID X w (fun env => (evMs fs env).bind fun cs e1 => match k (C.toDs cs) with | some l => .ok l e1 | none => .no) σ H R)
    (i : ∀ (B : Addr → Prop) (O : List Addr) (l : List D) (ds : List D) (vs : List V) (H' : Hp), ds.length = fs.length → k ds = some l → IsL X.K (fun a => B a ∨ a ∈ O) H' ds vs → (∀ J, WalkD X.K (fun a => B a ∨ a ∈ O) H' J l → R J H') → Q vs H') : rdM X w fs σ H Q := by
  obtain ⟨B, env, O, s, h⟩ := h
  refine ⟨B, env, O, s, ?_⟩
  cases er : evMs fs env with
  | no => simp only [er, Out.bind] at h
  | err x e => simp only [er, Out.bind] at h; exact h
  | ok cs e1 =>
    simp only [er, Out.bind] at h
    intro vs H' A O' r
    cases el : k (C.toDs cs) with
    | none => rw [el] at h; exact h.elim
    | some l =>
      rw [el] at h
      exact i B O' l _ vs H' (by rw [toDs_length, evMs_len er]) el r.isL fun J wk => h J H' O' (r.stt.less fun a z => .inl z) r.frm0 wk
theorem iD_rng1 {a : Expr} {f : M C} {pa pb : Pos} (hg : Gl X "range") (hm : X.mg "range" = none) (ha : AMk X w [a] [f]) (hs : starEach [a] X.env = [(false, eval a X.env)] := by rfl) : IDk X w tg (.Call (.Name "range" pa) [a] [] pb) (rngM [f]) := (pi_range1 hg hm ha hs).imp fun σ H R hr =>
  rdID_args (k := rngL) hr fun B O l ds vs H' hl e2 hv k => by
    unfold rngL at e2
    split at e2
    · rename_i j
      split at e2
      · rename_i hj
        cases e2
        obtain ⟨x, rfl, hx⟩ := hv.one
        rw [show x = _ from hx]
        exact ⟨j, rfl, hj.1, hj.2, k _ (walkD_range 0 _)⟩
      · cases e2
    · simp at hl
    · cases e2
theorem iD_rng2 {a b : Expr} {f g : M C} {pa pb : Pos} (hg : Gl X "range") (hm : X.mg "range" = none) (ha : AMk X w [a, b] [f, g]) (hs : starEach [a, b] X.env = [(false, eval a X.env), (false, eval b X.env)] := by rfl) (hs2 : starEach [b] X.env = [(false, eval b X.env)] := by rfl) : IDk X w tg (.Call (.Name "range" pa) [a, b] [] pb) (rngM [f, g]) := (pi_range2 hg hm ha hs hs2).imp fun σ H R hr =>
  rdID_args (k := rngL) hr fun B O l ds vs H' hl e2 hv k => by
    unfold rngL at e2
    split at e2
    · simp at hl
    · rename_i i j
      split at e2
      · rename_i hj
        cases e2
        obtain ⟨x, y, rfl, hx, hy⟩ := hv.two
        rw [show x = _ from hx, show y = _ from hy]
        exact ⟨i, j, rfl, ⟨hj.1.1, hj.1.2, hj.2.1, hj.2.2⟩, k _ (walkD_range i _)⟩
      · cases e2
    · cases e2
def enumL : List D → Option (List D)
  | [.lst l] => some (enumD l)
  | _ => none
def enumP (p : PLs) : PLs := fun env => (p env).map enumD
def enumM (f : M C) : M (List D) := fun env => (evMs [f] env).bind fun cs e1 => match enumL (C.toDs cs) with
  | some l => .ok l e1
  | none => .no
theorem a_L1 {a : Expr} {src : PLs} (ha : LOk X a src) (hs : starEach [a] X.env = [(false, eval a X.env)] := by rfl) : PA X [a] (tCons (rdL X src) tNil) := pa_cons ha pa_nil (by simpa [starEach] using hs)
theorem iG_enum {a : Expr} {src : PLs} {pa pb : Pos} (hg : Gl X "enumerate") (hm : X.mg "enumerate" = none) (ha : LOk X a src) (hs : starEach [a] X.env = [(false, eval a X.env)] := by rfl) :
    IGk X (.Tuple elts kk tpos) (.Call (.Name "enumerate" pa) [a] [] pb) (enumP src) := (pi_enum hg hm (pa_cons ha pa_nil (by rw [hs]; rfl)) hs).imp fun σ H R hr => by
  obtain ⟨B, env, O, s, l, hp, hr⟩ := hr
  unfold enumP at hp
  simp only [Option.map_eq_some_iff] at hp
  obtain ⟨l, hp, rfl⟩ := hp
  exact ⟨B, env, O, s, l, hp, fun a xs H1 g ha il => ⟨a, xs, rfl, SqL.of ha, hr _ H1 g (walkG_enum ha il)⟩⟩
theorem iD_enum {a : Expr} {f : M C} {pa pb : Pos} (hg : Gl X "enumerate") (hm : X.mg "enumerate" = none) (ha : AMk X w [a] [f]) (hs : starEach [a] X.env = [(false, eval a X.env)] := by rfl) :
    IDk X w (.Tuple elts kk tpos) (.Call (.Name "enumerate" pa) [a] [] pb) (enumM f) := (pi_enum hg hm ha hs).imp fun σ H R hr =>
  rdID_args (k := enumL) hr fun B O l ds vs H' hl e2 hv k => by
    unfold enumL at e2
    split at e2
    · cases e2
      obtain ⟨x, rfl, a, xs, rfl, ha, nw, il⟩ := hv.one
      exact ⟨a, xs, rfl, SqL.of ha, k _ (walkD_enum ha nw il)⟩
    · cases e2
def zipL : List D → Option (List D)
  | [.lst l, .lst m] => some (zipD l m)
  | _ => none
def zipP (p q : PLs) : PLs := fun env => match p env, q env with
  | some l, some m => some (zipD l m)
  | _, _ => none
def zipM (f g : M C) : M (List D) := fun env => (evMs [f, g] env).bind fun cs e1 => match zipL (C.toDs cs) with
  | some l => .ok l e1
  | none => .no
theorem iG_zip {a b : Expr} {p q : PLs} {pa pb : Pos} (hg : Gl X "zip") (hm : X.mg "zip" = none) (ha : LOk X a p) (hb : LOk X b q) (hs : starEach [a, b] X.env = (false, eval a X.env) :: starEach [b] X.env := by rfl) (hs2 : starEach [b] X.env = (false, eval b X.env) :: starEach [] X.env := by rfl) (hpl : (backTo pb (starEach [b] X.env)).any (·.1) = false := by rfl) :
    IGk X (.Tuple elts kk tpos) (.Call (.Name "zip" pa) [a, b] [] pb) (zipP p q) := (pi_zip hg hm (pa_cons ha (pa_cons hb pa_nil hs2) hs) hs hpl).imp fun σ H R hr => by
  obtain ⟨B, env, O, s, l, hp, hr⟩ := hr
  unfold zipP at hp
  split at hp
  · rename_i l1 l2 e1 e2
    cases hp
    exact ⟨B, env, O, s, l1, e1, fun a xs H1 g ha il => ⟨B, env, O, s.grw g, l2, e2, fun b ys H2 g2 hb im => ⟨a, b, xs, ys, rfl, SqL.of (g2 _ _ ha), SqL.of hb, hr _ H2 (g.trans g2) (walkG_zip (g2 _ _ ha) hb (il.grw g2) im)⟩⟩⟩
  · cases hp
theorem iD_zip {a b : Expr} {f g : M C} {pa pb : Pos} (hg : Gl X "zip") (hm : X.mg "zip" = none) (ha : AMk X w [a, b] [f, g]) (hs : starEach [a, b] X.env = (false, eval a X.env) :: starEach [b] X.env := by rfl) (hpl : (backTo pb (starEach [b] X.env)).any (·.1) = false := by rfl) :
    IDk X w (.Tuple elts kk tpos) (.Call (.Name "zip" pa) [a, b] [] pb) (zipM f g) := (pi_zip hg hm ha hs hpl).imp fun σ H R hr =>
  rdID_args (k := zipL) hr fun B O l ds vs H' hl e2 hv k => by
    unfold zipL at e2
    split at e2
    · cases e2
      obtain ⟨x, y, rfl, ⟨a, xs, rfl, ha, nw, il⟩, ⟨b, ys, rfl, hb, nw2, im⟩⟩ := hv.two
      exact ⟨a, b, xs, ys, rfl, SqL.of ha, SqL.of hb, k _ (walkD_zip ha hb nw nw2 il im)⟩
    · cases e2
end

/-! ### comprehensions of pure parts -/
def compF (t : Tg) (q : PB) (p : P) (env : Slots) : List D → Option (List D)
  | [] => some []
  | x :: r => match t x env with
    | none => none
    | some e1 => match q e1 with
      | none => none
      | some false => compF t q p env r
      | some true => match p e1, compF t q p env r with
        | some d, some ds => some (d :: ds)
        | _, _ => none
def fComp (vs : List Nat) (t : Tg) (q : PB) (p : P) (src : PLs) : PLs := fun env => (src env).bind fun l => if l.length ≤ 100000 then compF t q p (wipeE env vs) l else none
abbrev TsOk (X : Cx) (es : List Expr) (q : PB) : Prop := PTs X es (rdQ X q)
theorem ts_nil : TsOk X [] (fun _ => some true) := ⟨fun pins s σ H Q I h => pts_nil.run pins s σ H Q I (by
  obtain ⟨B, env, O, st, b, hp, h⟩ := h
  cases hp
  exact h H Grw.refl)⟩
theorem ts_one {q : PB} (h : QOk X e q) : TsOk X [e] q := pts_one h
/-- the new list of a comprehension, seen without it -/
theorem without {D : Addr} {xs : List V} {H : Hp} (h : H D = some (.lst xs)) : upd (fun b => if b = D then none else H b) D (.lst xs) = H := by
  funext b
  by_cases hb : b = D
  · subst hb; rw [upd_same, h]
  · rw [upd_ne hb, if_neg hb]
theorem lc_of {js : List Nat} {t : Tg} {q : PB} {p : P} {src : PLs} {vs : List Nat} (hj : ∀ j ∈ js, j ∈ vs) (σ : L2.St) (H : Hp) (Q : VK) (h : rdF X (fComp vs t q p src) σ H Q) : tLc (rdIG X src) (rdG X true js t) (rdQ X q) (rdP X p) vs σ H Q := by
  obtain ⟨B, env, O, s, l, hp, h⟩ := h
  unfold fComp at hp
  simp only [Option.bind_eq_some_iff] at hp
  obtain ⟨its, hsrc, hp⟩ := hp
  split at hp
  case isFalse => cases hp
  rename_i hlen
  refine ⟨B, env, O, s, its, hsrc, fun J H1 g1 wk D hD => ?_⟩
  have s1 := s.grw g1
  have gD : ∀ a o, H1 a = some o → upd H1 D (.lst []) a = some o := fun a o e => by rw [upd_ne (ne_of_none e hD)]; exact e
  -- the state between two turns
  let Iv : Nat → Hp → Prop := fun i H2 => ∃ acc xs rest, H2 D = some (.lst xs) ∧ (∀ a o, H1 a = some o → H2 a = some o) ∧ IsL X.K (fun a => (B a ∨ a ∈ O) ∨ a = D) H2 acc xs ∧
    compF t q p (wipeE env vs) (its.drop i) = some rest ∧ acc ++ rest = l ∧ acc.length ≤ i
  refine ⟨fun i m H2 => m = its.length - i ∧ i ≤ its.length ∧ Iv i H2, ⟨its.length, by simp, Nat.zero_le _, [], [], l, upd_same, gD, rfl, by simpa using hp, rfl, Nat.le_refl _⟩, ?_⟩
  rintro i m H2 ⟨rfl, hi2, acc, xs, rest, k1, k2, k3, k4, k5, k6⟩
  have tr2 : ∀ a, B a ∨ a ∈ O → ∃ u : MHO, H2 a = some u.1 := fun a z => let ⟨u, e⟩ := s1.trk a z; ⟨u, k2 a u e⟩
  obtain ⟨w1, w2, w3⟩ := wk D H2 hD ⟨⟨.lst xs, True.intro⟩, k1⟩ k2 tr2
  have nWD : ¬ (B D ∨ D ∈ O) := fun z => by
    obtain ⟨u, e⟩ := s1.trk D z
    rw [hD] at e; cases e
  by_cases hlt : i < its.length
  · refine .inr ⟨w1 i hlt, fun H' => Iv (i + 1) H', fun H' z => ⟨its.length - (i + 1), by omega, rfl, hlt, z⟩, fun x H3 y => ?_⟩
    obtain ⟨g3, d, hd, hx⟩ := w3 i x H3 hlt y
    have edrop : its.drop i = d :: its.drop (i + 1) := by
      rw [List.drop_eq_getElem_cons hlt]
      rw [List.getElem?_eq_getElem hlt] at hd
      cases hd; rfl
    rw [edrop] at k4
    unfold compF at k4
    cases et : t d (wipeE env vs) with
    | none => rw [et] at k4; cases k4
    | some e1 =>
      rw [et] at k4
      simp only [] at k4
      -- the wiped slots
      have sB : Stt X.K (fun a => B a ∨ a = D) H3 σ env O := by
        refine s1.grow (B' := fun a => B a ∨ a = D) (H' := H3) (fun a o e => g3 a o (k2 a o e)) (fun a z => z.imp id fun z => by rw [show a = D from z]; exact hD) fun a z => ?_
        rcases z with z | z
        · obtain ⟨u, e⟩ := tr2 a (.inl z); exact ⟨u, g3 a u e⟩
        · exact ⟨⟨.lst xs, True.intro⟩, by rw [z]; exact g3 _ _ k1⟩
      obtain ⟨Ow, subw, sw⟩ := sB.wipedB (vs := vs) (τ := L2.wipe σ vs) (fun i hi => by rw [wipe_get, if_neg hi]) (L2.wipe_length σ vs)
      have wIff : ∀ a, ((B a ∨ a ∈ O) ∨ a = D) → ((B a ∨ a = D) ∨ (a ∈ O ∧ a ∉ Ow)) ∨ a ∈ Ow := fun a z => by
        rcases z with (z | z) | z
        · exact .inl (.inl (.inl z))
        · by_cases ho : a ∈ Ow
          · exact .inr ho
          · exact .inl (.inr ⟨z, ho⟩)
        · exact .inl (.inl (.inr z))
      refine ⟨_, wipeE env vs, Ow, d, e1, sw, Is.kp (Kp.less fun a z => ?_) _ _ hx, et, fun σ2 H3' O2 s2 f2 z2 q2 => ⟨?_, ?_⟩⟩
      · rcases z with ((z | z) | z) | z
        · exact .inl (.inl z)
        · exact .inr z
        · exact .inl (.inr z.1)
        · exact .inl (.inr (subw.subset z))
      · rw [z2.wipe hj, show L2.wipe (L2.wipe σ vs) vs = L2.wipe σ vs from ?_]
        refine List.ext_getElem? fun i => ?_
        rw [wipe_get, wipe_get]
        by_cases hi : i ∈ vs
        · simp only [hi, if_true]; cases σ[i]? <;> rfl
        · simp only [hi, if_false]
      · obtain ⟨rfl, rfl⟩ := q2 rfl
        cases eq : q e1 with
        | none => rw [eq] at k4; cases k4
        | some b =>
          rw [eq] at k4
          refine ⟨_, e1, O2, s2, b, eq, fun H4 g4 => ?_⟩
          have k24 : ∀ a o, H1 a = some o → H4 a = some o := fun a o e => g4 a o (g3 a o (k2 a o e))
          cases b with
          | false => exact iteF ⟨acc, xs, rest, g4 _ _ (g3 _ _ k1), k24, (k3.grw g3).grw g4, k4, k5, by omega⟩
          | true =>
            simp only [] at k4
            cases ep : p e1 with
            | none => rw [ep] at k4; cases k4
            | some dd =>
              cases er : compF t q p (wipeE env vs) (its.drop (i + 1)) with
              | none => rw [ep, er] at k4; cases k4
              | some ds =>
                rw [ep, er] at k4
                cases k4
                refine iteT ⟨_, e1, O2, s2.grw g4, dd, ep, fun v H5 g5 hv => ?_⟩
                have h5D : H5 D = some (.lst xs) := g5 _ _ (g4 _ _ (g3 _ _ k1))
                have kU : Kp (fun a => (B a ∨ a ∈ O) ∨ a = D) H5 (fun a => (B a ∨ a ∈ O) ∨ a = D) (upd H5 D (.lst (xs ++ [v]))) := fun a o hw ha => ⟨by rw [upd_ne fun z => hw (.inr z)]; exact ha, hw⟩
                have k35 : IsL X.K (fun a => (B a ∨ a ∈ O) ∨ a = D) H5 acc xs := ((k3.grw g3).grw g4).grw g5
                have hv5 : Is X.K (fun a => (B a ∨ a ∈ O) ∨ a = D) H5 dd v := Is.kp (Kp.less wIff) _ _ hv
                refine ⟨xs, h5D, by rw [k35.length, sizeLine_eq]; omega, acc ++ [dd], xs ++ [v], ds, upd_same, fun a o e => ?_, (IsL.kp kU _ _ k35).append ⟨v, [], rfl, Is.kp kU _ _ hv5, rfl⟩, er, by rw [List.append_assoc]; exact k5, by rw [List.length_append]; simp; omega⟩
                rw [upd_ne (ne_of_none e hD)]
                exact g5 a o (k24 a o e)
  · have e : i = its.length := by omega
    subst e
    refine .inl ⟨w2, ?_⟩
    rw [List.drop_length] at k4
    cases k4
    rw [List.append_nil] at k5
    subst k5
    have q2 := h D xs (fun b => if b = D then none else H2 b) (fun a o e => ?_) (if_pos rfl) (IsL.kp (fun a o w ha => ⟨?_, fun z => w (.inl z)⟩) _ _ k3)
    · rw [without k1] at q2; exact q2
    · exact (if_neg (ne_of_none (g1 a o e) hD)).trans (k2 a o (g1 a o e))
    · exact (if_neg fun z => w (.inr z)).trans ha
theorem f_comp {elt tg iter : Expr} {ifs : List Expr} {scope : Scope} {own : List (Str × Nat)} {js : List Nat} {t : Tg} {q : PB} {p : P} {src : PLs} (hc : X.calm = true) (hN : X.N.Nodup) (hi : IGk X tg iter src) (ok : BlkOk X.N X.env.scope scope own)
    (hg : ∀ (s : Shared) (H : Hp) (C : Addr) (cl : List (Str × Addr)) (fp : List Addr), GOk (X.blk s H scope (compEnvC scope cl C X.env) fp) true tg js t) (ht : ∀ (s : Shared) (H : Hp) (C : Addr) (cl : List (Str × Addr)) (fp : List Addr), TsOk (X.blk s H scope (compEnvC scope cl C X.env) fp) ifs q)
    (he : ∀ (s : Shared) (H : Hp) (C : Addr) (cl : List (Str × Addr)) (fp : List Addr), POk (X.blk s H scope (compEnvC scope cl C X.env) fp) elt p) (hj : ∀ j ∈ js, j ∈ own.map (·.2)) (hs : ∀ x, foldedSetIterable iter X.env x = pure x := by intro _; rfl) :
    FOk X (.ListComp elt [⟨tg, iter, ifs, 0⟩] scope pos) (fComp (own.map (·.2)) t q p src) :=
  (pe_lc (g := rdG X true js t) (tt := rdQ X q) (te := rdP X p) hc hN hi ok hg ht he hs).imp (lc_of hj)
theorem s_setLc {i : Nat} {y : Str} {py spos : Pos} {w : WX} {pn : List Nat} {elt tg iter : Expr} {ifs : List Expr} {scope : Scope} {own : List (Str × Nat)} {js : List Nat} {t : Tg} {q : PB} {p : P} {src : PLs} (hc : X.calm = true) (hN : X.N.Nodup) (hy : X.N[i]? = some y) (hyl : X.env.scope.names.lookup y = some .local)
    (hsw : swapsWith (.ListComp elt [⟨tg, iter, ifs, 0⟩] scope pos) (some (.Name y py)) spos.line X.env = pure true) (hi : IGk X tg iter src) (ok : BlkOk X.N X.env.scope scope own)
    (hg : ∀ (s : Shared) (H : Hp) (C : Addr) (cl : List (Str × Addr)) (fp : List Addr), GOk (X.blk s H scope (compEnvC scope cl C X.env) fp) true tg js t) (ht : ∀ (s : Shared) (H : Hp) (C : Addr) (cl : List (Str × Addr)) (fp : List Addr), TsOk (X.blk s H scope (compEnvC scope cl C X.env) fp) ifs q)
    (he : ∀ (s : Shared) (H : Hp) (C : Addr) (cl : List (Str × Addr)) (fp : List Addr), POk (X.blk s H scope (compEnvC scope cl C X.env) fp) elt p) (hj : ∀ j ∈ js, j ∈ own.map (·.2)) (hs : ∀ x, foldedSetIterable iter X.env x = pure x := by intro _; rfl) :
    PS X (.Assign [.Name y py] (.ListComp elt [⟨tg, iter, ifs, 0⟩] scope pos) spos) (tAsg (rdF X (fComp (own.map (·.2)) t q p src)) (gName i)) :=
  (ps_setLc hc hN hy hyl hsw hi ok hg ht he hs).imp fun D σ H h => lc_of hj σ H _ h
end
end PL
namespace PL
open PySem PySem.Spec PyProof.Rows L2
section
variable {X : Cx} {w : WX} {H : Hp} {σ : L2.St} {e : Expr} {es : List Expr} {p q r : P} {ps : List P} {pos pp : Pos} {K : PySem.W.Frag} {mg : Str → Option Value} {B : Addr → Prop} {O : List Addr} {env : Slots} {st : Stmt} {rest : List Stmt} {pn : List Nat}
/-! ### statements -/
/-- the slots at pn keep their values -/
def Pin (pn : List Nat) (σ τ : List (Option V)) : Prop := τ.length = σ.length ∧ ∀ i ∈ pn, τ[i]? = σ[i]?
theorem Pin.refl {σ : List (Option V)} : Pin pn σ σ := ⟨rfl, fun _ _ => rfl⟩
theorem Pin.trans {σ τ ρ : List (Option V)} (h : Pin pn σ τ) (h' : Pin pn τ ρ) : Pin pn σ ρ := ⟨h'.1.trans h.1, fun i hi => (h'.2 i hi).trans (h.2 i hi)⟩
theorem Pin.set {σ : List (Option V)} {i : Nat} {o : Option V} (hi : i ∉ pn) : Pin pn σ (σ.set i o) := ⟨List.length_set, fun j hj => List.getElem?_set_ne fun z => hi (by rw [show i = j from z]; exact hj)⟩
theorem SetIn.pin {js : List Nat} {σ τ : List (Option V)} (h : SetIn js σ τ) (hj : ∀ j ∈ js, j ∉ pn) : Pin pn σ τ := ⟨h.len, fun i hi => h.out i fun z => hj i z hi⟩
/-- what a statement is to do, by the outcome that the reading has -/
def SPost (X : Cx) (w : WX) (pn : List Nat) (D : Ends) (B : Addr → Prop) (O : List Addr) (σ : L2.St) (H : Hp) : SOut → Prop
  | .nx e => ∀ σ' H' O', Stt X.K B H' σ' e O' → Frm O H [] O' H' → Pin pn σ σ' → D.nx σ' H'
  | .bk e => ∀ σ' H' O', Stt X.K B H' σ' e O' → Frm O H [] O' H' → Pin pn σ σ' → D.bk σ' H'
  | .ct e => ∀ σ' H' O', Stt X.K B H' σ' e O' → Frm O H [] O' H' → Pin pn σ σ' → D.ct σ' H'
  | .rt c e => ∀ σ' v H' A O', Res X.K B O H σ' c e v H' A O' → Pin pn σ σ' → D.rt v H'
  | .err x e => ∀ σ' cls d H' O', XRes X.K X.mg B O H σ' x e cls d H' O' → Pin pn σ σ' → w cls d σ' H'
  | .no => False
def rdS (X : Cx) (w : WX) (pn : List Nat) (f : SS) : TS := fun D σ H => ∃ B env O, Stt X.K B H σ env O ∧ SPost X w pn D B O σ H (f env)
abbrev SOk (X : Cx) (w : WX) (pn : List Nat) (st : Stmt) (f : SS) : Prop := PS X st (rdS X w pn f)
abbrev SsOk (X : Cx) (w : WX) (pn : List Nat) (st : List Stmt) (f : SS) : Prop := PSs X st (rdS X w pn f)
/-- .. from a later state -/
theorem SPost.later {D : Ends} {O1 : List Addr} {H1 : Hp} {σ1 : L2.St} (f1 : Frm O H [] O1 H1) (p1 : Pin pn σ σ1) : ∀ {o : SOut}, SPost X w pn D B O σ H o → SPost X w pn D B O1 σ1 H1 o
  | .nx e, h => fun σ' H' O' s f p => h σ' H' O' s (f1.seq' f) (p1.trans p)
  | .bk e, h => fun σ' H' O' s f p => h σ' H' O' s (f1.seq' f) (p1.trans p)
  | .ct e, h => fun σ' H' O' s f p => h σ' H' O' s (f1.seq' f) (p1.trans p)
  | .rt c e, h => fun σ' v H' A O' r p => h σ' v H' A O' ⟨r.rep, r.stt, r.nd, r.dj, f1.seq' r.frm⟩ (p1.trans p)
  | .err x e, h => fun σ' cls d H' O' r p => h σ' cls d H' O' ⟨r.cls, r.fs, r.stt, f1.seq' r.frm⟩ (p1.trans p)
  | .no, h => h
def sSeq (f g : SS) : SS := fun env => match f env with
  | .nx e => g e
  | o => o
def sNx : SS := .nx
theorem s_nil : SsOk X w pn [] sNx := ⟨fun pins s σ H D I h => pss_nil.run pins s σ H D I (let ⟨_, _, _, st, h⟩ := h; h σ H _ st Frm.refl Pin.refl)⟩
theorem SPost.seq {f g : SS} {D : Ends} (h : SPost X w pn D B O σ H (sSeq f g env)) : SPost X w pn { D with nx := rdS X w pn g D } B O σ H (f env) := by
  unfold sSeq at h
  cases ef : f env with
  | nx e =>
    rw [ef] at h
    exact fun σ' H' O' s fr p => ⟨B, e, O', s, h.later fr p⟩
  | bk e => rw [ef] at h; exact h
  | ct e => rw [ef] at h; exact h
  | rt c e => rw [ef] at h; exact h
  | err x e => rw [ef] at h; exact h
  | no => rw [ef] at h; exact h
theorem s_cons {f g : SS} (h1 : SOk X w pn st f) (h2 : SsOk X w pn rest g) : SsOk X w pn (st :: rest) (sSeq f g) := (pss_cons h1 h2).imp fun D σ H h => by
  obtain ⟨B, env, O, s, h⟩ := h
  exact ⟨B, env, O, s, h.seq⟩
theorem s_one {f : SS} (h1 : SOk X w pn st f) : SsOk X w pn [st] f := pss_one h1
theorem s_pass : SOk X w pn (.Pass pos) sNx := ps_pass.imp fun D σ H h => let ⟨_, _, _, st, h⟩ := h; h σ H _ st Frm.refl Pin.refl
def sBk : SS := .bk
def sCt : SS := .ct
theorem s_break : SOk X w pn (.Break pos) sBk := ps_break.imp fun D σ H h => let ⟨_, _, _, st, h⟩ := h; h σ H _ st Frm.refl Pin.refl
theorem s_cont : SOk X w pn (.Continue pos) sCt := ps_continue.imp fun D σ H h => let ⟨_, _, _, st, h⟩ := h; h σ H _ st Frm.refl Pin.refl
/-- code that is not come to -/
def sNo : SS := fun _ => .no
theorem s_never : SOk X w pn st sNo := ps_never.imp fun D σ H h => let ⟨_, _, _, _, h⟩ := h; h
theorem ss_never : SsOk X w pn rest sNo := pss_never.imp fun D σ H h => let ⟨_, _, _, _, h⟩ := h; h

/-- behind an expression -/
def sOf {α : Type} (o : Out α) (k : α → Slots → SOut) : SOut := match o with
  | .ok a e => k a e
  | .err x e => .err x e
  | .no => .no
/-- an expression's reading from a statement's -/
theorem rdE_s {f : M C} {k : C → Slots → SOut} {D : Ends} {Q : VK} (s : Stt X.K B H σ env O) (h : SPost X w pn D B O σ H (sOf (f env) k))
    (i : ∀ c e v H' A O', Res X.K B O H σ c e v H' A O' → SPost X w pn D B O σ H (k c e) → Q v H') : rdE X w f σ H Q := by
  refine ⟨B, env, O, s, ?_⟩
  unfold sOf at h
  cases ef : f env with
  | no => rw [ef] at h; exact h
  | err x e => rw [ef] at h; exact fun cls d H' O' x => h σ cls d H' O' x Pin.refl
  | ok c e => rw [ef] at h; exact fun v H' A O' r => i c e v H' A O' r h
theorem rdT_s {f : M Bool} {k : Bool → Slots → SOut} {D : Ends} {Q : Bool → Hp → Prop} (s : Stt X.K B H σ env O) (h : SPost X w pn D B O σ H (sOf (f env) k))
    (i : ∀ c e H' O', f env = .ok c e → Stt X.K B H' σ e O' → Frm O H [] O' H' → SPost X w pn D B O σ H (k c e) → Q c H') : rdT X w f σ H Q := by
  refine ⟨B, env, O, s, ?_⟩
  unfold sOf at h
  cases ef : f env with
  | no => rw [ef] at h; exact h
  | err x e => rw [ef] at h; exact fun cls d H' O' x => h σ cls d H' O' x Pin.refl
  | ok c e => rw [ef] at h; exact fun H' O' s' f' => i c e H' O' ef s' f' h
/-- the value given up for good -/
def eFrz (f : M C) : M C := fun env => (f env).bind fun c e => .ok (.frz c.toD) e
theorem Res.frz {c : C} {e1 : Slots} {v : V} {H' : Hp} {A O' : List Addr} (r : Res K B O H σ c e1 v H' A O') : Res K B O H σ (.frz c.toD) e1 v H' [] O' :=
  Res.new (r.stt.less fun a z => .inl z) (fun a o hw ha => ⟨(r.frm a o hw ha).1, fun z => (r.frm a o hw ha).2 (z.elim (fun z => nomatch z) .inr)⟩) (New.of_is r.is)
theorem e_frz {f : M C} (h : EOk X w e f) : EOk X w e (eFrz f) := h.imp fun σ H Q h => by
  obtain ⟨B, env, O, s, h⟩ := h
  refine ⟨B, env, O, s, ?_⟩
  unfold eFrz at h
  cases ef : f env with
  | no => rw [ef] at h; exact h
  | err x e => rw [ef] at h; exact h
  | ok c e => rw [ef] at h; exact fun v H' A O' r => h v H' [] O' r.frz
def sSet (i : Nat) (f : M C) : SS := fun env => sOf (f env) fun c e => .nx (e.set i (some c))
theorem Res.len {c : C} {e1 : Slots} {v : V} {H' : Hp} {A O' : List Addr} (r : Res K B O H σ c e1 v H' A O') : e1.length = σ.length := r.stt.len.symm
theorem lt_of_N {N : List Str} {i : Nat} {x : Str} (h : N[i]? = some x) : i < N.length := by
  by_cases q : i < N.length
  · exact q
  · rw [List.getElem?_eq_none (by omega)] at h; cases h
theorem s_set {i : Nat} {x : Str} {f : M C} {pos' : Pos} (hN : X.N.Nodup) (hi : X.N[i]? = some x) (hx : Loc X.env.scope x) (he : EOk X w e f) (hp : i ∉ pn := by decide) (hs : swapsWith e (some (.Name x pos')) pos.line X.env = pure false := by rfl) (hf : X.fn x = true ∨ X.env.scope.names.lookup x = some .local := by first | exact .inl rfl | exact .inr rfl | assumption) :
    SOk X w pn (.Assign [.Name x pos'] e pos) (sSet i f) := ⟨fun pins s σ H D I h => (ps_set hN hi hx he hs hf).run pins s σ H D I (by
  obtain ⟨B, env, O, st, h⟩ := h
  refine rdE_s st h fun c e v H' A O' r h => ?_
  obtain ⟨O2, s2, f2⟩ := r.put (i := i) (by rw [r.len, I.len]; exact lt_of_N hi)
  exact h _ H' O2 s2 f2 (Pin.set hp))⟩
def sRet (f : M C) : SS := fun env => sOf (f env) fun c e => .rt c e
theorem s_ret {f : M C} (he : EOk X w e f) : SOk X w pn (.Return (some e) pos) (sRet f) := (ps_ret he).imp fun D σ H h => by
  obtain ⟨B, env, O, st, h⟩ := h
  exact rdE_s st h fun c e v H' A O' r h => h σ v H' A O' r Pin.refl
def sRetN : SS := fun env => .rt (.frz .non) env
theorem s_retN : SOk X w pn (.Return none pos) sRetN := ps_retN.imp fun D σ H h => by
  obtain ⟨B, env, O, st, h⟩ := h
  exact h σ .non H [] O (Res.new st Frm.refl (New.of_is rfl)) Pin.refl
/-- a value dropped -/
def sDrop (f : M C) : SS := fun env => sOf (f env) fun _ e => .nx e
theorem s_expr {f : M C} (he : EOk X w e f) (hs : swapsWith e none pos.line X.env = pure false := by rfl) : SOk X w pn (.Expr e pos) (sDrop f) := (ps_expr he hs).imp fun D σ H h => by
  obtain ⟨B, env, O, st, h⟩ := h
  exact rdE_s st h fun c e v H' A O' r h => h σ H' O' (r.stt.less fun a z => .inl z) r.frz.frm Pin.refl
theorem s_doc {x : Str} {j : Nat} {pos'} : SOk X w pn (.Expr (.Constant (.str x) j pos) pos') sNx := ps_doc.imp fun D σ H h => let ⟨_, _, _, st, h⟩ := h; h σ H _ st Frm.refl Pin.refl
def sIf (c : M Bool) (f g : SS) : SS := fun env => sOf (c env) fun b e => if b then f e else g e
theorem s_if {c : Expr} {a b : List Stmt} {q : M Bool} {f g : SS} (hc : TOk X w c q) (ha : SsOk X w pn a f) (hb : SsOk X w pn b g) : SOk X w pn (.If c a b pos) (sIf q f g) := (ps_if hc ha hb).imp fun D σ H h => by
  obtain ⟨B, env, O, st, h⟩ := h
  refine rdT_s st h fun c e H' O' _ s' f' h => ?_
  cases c with
  | true => exact iteT ⟨B, e, O', s', SPost.later f' Pin.refl h⟩
  | false => exact iteF ⟨B, e, O', s', SPost.later f' Pin.refl h⟩
/-! #### while -/
def whileN (c : M Bool) (b : SS) : Nat → SS
  | 0 => fun _ => .no
  | n + 1 => fun env => sOf (c env) fun t e => if t then (match b e with
      | .nx e1 => whileN c b n e1
      | .ct e1 => whileN c b n e1
      | .bk e1 => .nx e1
      | o => o) else .nx e
open Classical in
noncomputable def sWhile (c : M Bool) (b : SS) : SS := fun env => if h : ∃ n, whileN c b n env ≠ .no then whileN c b h.choose env else .no
theorem whileN_mono {c : M Bool} {b : SS} : ∀ {n m : Nat} {env : Slots}, n ≤ m → whileN c b n env ≠ .no → whileN c b m env = whileN c b n env
  | 0, m, env, _, h => absurd rfl h
  | n + 1, 0, env, hl, _ => by omega
  | n + 1, m + 1, env, hl, h => by
    unfold whileN at h ⊢
    cases ec : c env with
    | no => rfl
    | err x e => rfl
    | ok t e =>
      rw [ec] at h
      simp only [sOf] at h ⊢
      cases t with
      | false => rfl
      | true =>
        simp only [if_true] at h ⊢
        cases eb : b e with
        | nx e1 => rw [eb] at h; exact whileN_mono (by omega) h
        | ct e1 => rw [eb] at h; exact whileN_mono (by omega) h
        | bk e1 => rfl
        | rt c e1 => rfl
        | err x e1 => rfl
        | no => rfl
theorem sWhile_of {c : M Bool} {b : SS} {n : Nat} {env : Slots} (h : whileN c b n env ≠ .no) : sWhile c b env = whileN c b n env := by
  unfold sWhile
  have h' : ∃ n, whileN c b n env ≠ .no := ⟨n, h⟩
  rw [dif_pos h']
  rcases Nat.le_total h'.choose n with q | q
  · exact (whileN_mono q h'.choose_spec).symm
  · exact whileN_mono q h
theorem sWhile_ex {c : M Bool} {b : SS} {env : Slots} (h : sWhile c b env ≠ .no) : ∃ n, whileN c b n env = sWhile c b env := by
  by_cases h' : ∃ n, whileN c b n env ≠ .no
  · obtain ⟨n, hn⟩ := h'
    exact ⟨n, (sWhile_of hn).symm⟩
  · unfold sWhile at h
    rw [dif_neg h'] at h
    exact absurd rfl h
/-- one turn -/
theorem sWhile_eq (c : M Bool) (b : SS) (env : Slots) : sWhile c b env = sOf (c env) fun t e => if t then (match b e with
      | .nx e1 => sWhile c b e1
      | .ct e1 => sWhile c b e1
      | .bk e1 => .nx e1
      | o => o) else .nx e := by
  by_cases hl : sWhile c b env = .no
  · by_cases hr : (sOf (c env) fun t e => if t then (match b e with
      | .nx e1 => sWhile c b e1
      | .ct e1 => sWhile c b e1
      | .bk e1 => .nx e1
      | o => o) else .nx e) = .no
    · rw [hl, hr]
    · exfalso
      -- the right side has an outcome: so has the left
      have go : ∀ e1, sWhile c b e1 ≠ .no → ∃ n, whileN c b n e1 = sWhile c b e1 := fun e1 h => sWhile_ex h
      have : ∃ n, whileN c b n env ≠ .no := by
        cases ec : c env with
        | no => rw [ec] at hr; exact absurd rfl hr
        | err x e => exact ⟨1, by unfold whileN; rw [ec]; exact fun z => nomatch z⟩
        | ok t e =>
          rw [ec] at hr
          simp only [sOf] at hr
          cases t with
          | false => exact ⟨1, by unfold whileN; rw [ec]; exact fun z => nomatch z⟩
          | true =>
            simp only [if_true] at hr
            cases eb : b e with
            | nx e1 =>
              rw [eb] at hr
              obtain ⟨n, hn⟩ := go e1 hr
              exact ⟨n + 1, by unfold whileN; rw [ec]; simp only [sOf, if_true, eb]; rw [hn]; exact hr⟩
            | ct e1 =>
              rw [eb] at hr
              obtain ⟨n, hn⟩ := go e1 hr
              exact ⟨n + 1, by unfold whileN; rw [ec]; simp only [sOf, if_true, eb]; rw [hn]; exact hr⟩
            | bk e1 => exact ⟨1, by unfold whileN; rw [ec]; simp only [sOf, if_true, eb]; exact fun z => nomatch z⟩
            | rt c' e1 => exact ⟨1, by unfold whileN; rw [ec]; simp only [sOf, if_true, eb]; exact fun z => nomatch z⟩
            | err x e1 => exact ⟨1, by unfold whileN; rw [ec]; simp only [sOf, if_true, eb]; exact fun z => nomatch z⟩
            | no => rw [eb] at hr; exact absurd rfl hr
      obtain ⟨n, hn⟩ := this
      rw [sWhile_of hn] at hl
      exact hn hl
  · obtain ⟨n, hn⟩ := sWhile_ex hl
    cases n with
    | zero => exact absurd hn.symm hl
    | succ n =>
      have hn' := hn
      unfold whileN at hn'
      rw [← hn']
      cases ec : c env with
      | no => rfl
      | err x e => rfl
      | ok t e =>
        simp only [sOf]
        cases t with
        | false => rfl
        | true =>
          simp only [if_true]
          rw [ec] at hn'
          simp only [sOf, if_true] at hn'
          cases eb : b e with
          | nx e1 =>
            rw [eb] at hn'
            simp only [] at hn'
            exact (sWhile_of (by rw [hn']; exact hl)).symm
          | ct e1 =>
            rw [eb] at hn'
            simp only [] at hn'
            exact (sWhile_of (by rw [hn']; exact hl)).symm
          | bk e1 => rfl
          | rt c' e1 => rfl
          | err x e1 => rfl
          | no => rfl
theorem s_while {c : Expr} {body : List Stmt} {q : M Bool} {b : SS} (hpa : PassesOwn (model X.prog X.w) X.A X.env X.xe) (hc : TOk X w c q) (hb : SsOk X w pn body b) : SOk X w pn (.While c body [] pos) (sWhile q b) := (ps_while hpa hc hb).imp fun D σ H h => by
  obtain ⟨B, env, O, st, h⟩ := h
  generalize eo : sWhile q b env = out at h
  have ne : out ≠ .no := fun z => by rw [z] at h; exact h
  obtain ⟨n, hn⟩ := sWhile_ex (by rw [eo]; exact ne)
  rw [eo] at hn
  refine ⟨fun m σ1 H1 => ∃ e1 O1, Stt X.K B H1 σ1 e1 O1 ∧ Frm O H [] O1 H1 ∧ Pin pn σ σ1 ∧ whileN q b m e1 = out, ⟨n, env, O, st, Frm.refl, Pin.refl, hn⟩, ?_⟩
  rintro m σ1 H1 ⟨e1, O1, s1, f1, p1, hm⟩
  have h1 := h.later f1 p1
  cases m with
  | zero => exact absurd hm.symm ne
  | succ m =>
    unfold whileN at hm
    rw [← hm] at h1
    refine rdT_s s1 h1 fun t e2 H2 O2 ec s2 f2 h2 => ?_
    rw [ec] at hm
    simp only [sOf] at hm
    cases t with
    | false => exact iteF (h2 σ1 H2 O2 s2 f2 Pin.refl)
    | true =>
      refine iteT ⟨fun σ3 H3 => ∃ e3 O3, Stt X.K B H3 σ3 e3 O3 ∧ Frm O H [] O3 H3 ∧ Pin pn σ σ3 ∧ whileN q b m e3 = out, fun σ3 H3 z => ⟨m, Nat.lt_succ_self _, z⟩, B, e2, O2, s2, ?_⟩
      simp only [if_true] at h2 hm
      cases eb : b e2 with
      | nx e3 => rw [eb] at hm; exact fun σ3 H3 O3 s3 f3 p3 => ⟨e3, O3, s3, (f1.seq' f2).seq' f3, p1.trans p3, hm⟩
      | ct e3 => rw [eb] at hm; exact fun σ3 H3 O3 s3 f3 p3 => ⟨e3, O3, s3, (f1.seq' f2).seq' f3, p1.trans p3, hm⟩
      | bk e3 => rw [eb] at h2; exact h2.later f2 Pin.refl
      | rt c e3 => rw [eb] at h2; exact h2.later f2 Pin.refl
      | err x e3 => rw [eb] at h2; exact h2.later f2 Pin.refl
      | no => rw [eb] at h2; exact h2
/-! #### for -/
def forL (t : Tg) (b : SS) : List D → SS
  | [], env => .nx env
  | d :: r, env => match t d env with
    | none => .no
    | some e => match b e with
      | .nx e1 => forL t b r e1
      | .ct e1 => forL t b r e1
      | .bk e1 => .nx e1
      | o => o
def sFor (src : M (List D)) (t : Tg) (b : SS) : SS := fun env => sOf (src env) (forL t b)
theorem s_for {tg iter : Expr} {body : List Stmt} {src : M (List D)} {js : List Nat} {t : Tg} {b : SS} (hpa : PassesOwn (model X.prog X.w) X.A X.env X.xe) (hc : X.calm = true) (hi : IDk X w tg iter src) (hg : GOk X false tg js t) (hb : SsOk X w pn body b) (hj : ∀ j ∈ js, j ∉ pn := by decide)
    (hs : ∀ x, foldedSetIterable iter X.env x = pure x := by intro _; rfl) : SOk X w pn (.For tg iter body [] pos) (sFor src t b) := (ps_for hpa hc hi hg hb hs).imp fun D σ H h => by
  obtain ⟨B, env, O, st, h⟩ := h
  refine ⟨B, env, O, st, ?_⟩
  unfold sFor sOf at h
  cases es : src env with
  | no => rw [es] at h; exact h
  | err x e => rw [es] at h; exact fun cls d H' O' x => h σ cls d H' O' x Pin.refl
  | ok l e0 =>
    rw [es] at h
    simp only [] at h ⊢
    intro J H0 O0 s0 f0 wk
    generalize eo : forL t b l e0 = out at h
    have ne : out ≠ .no := fun z => by rw [z] at h; exact h
    refine ⟨fun i m σ1 H1 => m = l.length - i ∧ i ≤ l.length ∧ ∃ e1 O1, Stt X.K B H1 σ1 e1 O1 ∧ Frm O0 H0 [] O1 H1 ∧ Pin pn σ σ1 ∧ forL t b (l.drop i) e1 = out, ⟨l.length, by simp, Nat.zero_le _, e0, O0, s0, Frm.refl, Pin.refl, by simpa using eo⟩, ?_⟩
    rintro i m σ1 H1 ⟨rfl, hi2, e1, O1, s1, f1, p1, hm⟩
    obtain ⟨w1, w2, w3⟩ := wk (fun a => B a ∨ a ∈ O1) H1 (fun a o hw ha => ⟨(f1 a o (fun z => hw (.inr z)) ha).1, fun z => z.elim (fun z => hw (.inl z)) fun z => (f1 a o (fun z => hw (.inr z)) ha).2 (.inr z)⟩) s1.trk
    have h1 := (h.later f0 Pin.refl).later f1 p1
    by_cases hlt : i < l.length
    · refine .inr ⟨w1 i hlt, fun σ3 H3 => ∃ e3 O3, Stt X.K B H3 σ3 e3 O3 ∧ Frm O0 H0 [] O3 H3 ∧ Pin pn σ σ3 ∧ forL t b (l.drop (i + 1)) e3 = out, fun σ' H' z => ⟨l.length - (i + 1), by omega, rfl, hlt, z⟩, fun x H2 y => ?_⟩
      obtain ⟨g2, d, hd, hx⟩ := w3 i x H2 hlt y
      have edrop : l.drop i = d :: l.drop (i + 1) := by
        rw [List.drop_eq_getElem_cons hlt]
        rw [List.getElem?_eq_getElem hlt] at hd
        cases hd; rfl
      rw [edrop] at hm
      unfold forL at hm
      cases et : t d e1 with
      | none => rw [et] at hm; exact absurd hm.symm ne
      | some e2 =>
        rw [et] at hm
        simp only [] at hm
        have f2 : Frm O0 H0 [] O1 H2 := fun a o hw ha => ⟨g2 a o (f1 a o hw ha).1, (f1 a o hw ha).2⟩
        have f2' : Frm O1 H1 [] O1 H2 := fun a o hw ha => ⟨g2 a o ha, fun z => z.elim (fun z => nomatch z) hw⟩
        refine ⟨B, e1, O1, d, e2, s1.grw g2, hx, et, fun σ3 H3 O3 s3 f3 z3 _ => ⟨B, e2, O3, s3, ?_⟩⟩
        have p3 := z3.pin hj
        cases eb : b e2 with
        | nx e4 => rw [eb] at hm; exact fun σ4 H4 O4 s4 f4 p4 => ⟨e4, O4, s4, (f2.seq' f3).seq' f4, (p1.trans p3).trans p4, hm⟩
        | ct e4 => rw [eb] at hm; exact fun σ4 H4 O4 s4 f4 p4 => ⟨e4, O4, s4, (f2.seq' f3).seq' f4, (p1.trans p3).trans p4, hm⟩
        | bk e4 => rw [eb] at hm; subst hm; exact (h1.later f2' Pin.refl).later f3 p3
        | rt c e4 => rw [eb] at hm; subst hm; exact (h1.later f2' Pin.refl).later f3 p3
        | err x e4 => rw [eb] at hm; subst hm; exact (h1.later f2' Pin.refl).later f3 p3
        | no => rw [eb] at hm; exact absurd hm.symm ne
    · have e : i = l.length := by omega
      subst e
      refine .inl ⟨w2, ?_⟩
      rw [List.drop_length] at hm
      subst hm
      exact h1 σ1 H1 O1 s1 Frm.refl Pin.refl
end
end PL
namespace PL
open PySem PySem.Spec PyProof.Rows L2
section
variable {X : Cx} {w : WX} {H : Hp} {σ : L2.St} {e : Expr} {es : List Expr} {p q r : P} {ps : List P} {pos pp : Pos} {K : PySem.W.Frag} {mg : Str → Option Value} {B : Addr → Prop} {O : List Addr} {env : Slots} {st : Stmt} {rest : List Stmt} {pn : List Nat}
/-! ### places inside a slot's own thing -/
def getP : C → List Nat → Option C
  | c, [] => some c
  | .own l, j :: js => (l[j]?).bind fun c => getP c js
  | _, _ :: _ => none
def setP : C → List Nat → C → C
  | _, [], c' => c'
  | .own l, j :: js, c' => match l[j]? with
    | some c => .own (l.set j (setP c js c'))
    | none => .own l
  | c, _ :: _, _ => c
def VAt (H : Hp) : V → List Nat → V → Prop
  | v, [], x => v = x
  | v, j :: js, x => ∃ a xs y, v = .ref a ∧ H a = some (.lst xs) ∧ xs[j]? = some y ∧ VAt H y js x
theorem VAt.grw {H H' : Hp} (g : Grw H H') : ∀ {js : List Nat} {v x : V}, VAt H v js x → VAt H' v js x
  | [], v, x, h => h
  | j :: js, v, x, h => by
    obtain ⟨a, xs, y, h1, h2, h3, h4⟩ := h
    exact ⟨a, xs, y, h1, g _ _ h2, h3, VAt.grw g h4⟩
theorem VAt.inj {H : Hp} : ∀ {js : List Nat} {v x y : V}, VAt H v js x → VAt H v js y → x = y
  | [], v, x, y, h, h' => h.symm.trans h'
  | j :: js, v, x, y, h, h' => by
    obtain ⟨a, xs, z, rfl, h2, h3, h4⟩ := h
    obtain ⟨a', xs', z', h1', h2', h3', h4'⟩ := h'
    cases h1'
    rw [h2] at h2'
    cases h2'
    rw [h3] at h3'
    cases h3'
    exact VAt.inj h4 h4'
theorem RepC.foc {W : Addr → Prop} : ∀ {js : List Nat} {c c1 : C} {v : V} {A : List Addr}, RepC K W H c v A → getP c js = some c1 → ∃ x A1 A2 A3, A = A1 ++ (A2 ++ A3) ∧ VAt H v js x ∧ RepC K W H c1 x A2 ∧
    ∀ (W' : Addr → Prop) (H' : Hp) (c' : C) (A2' : List Addr), Kp W H W' H' → (∀ a ∈ A1 ++ A3, ∀ o, H a = some o → H' a = some o) → RepC K W' H' c' x A2' → RepC K W' H' (setP c js c') v (A1 ++ (A2' ++ A3))
  | [], c, c1, v, A, h, e => by
    cases e
    refine ⟨v, [], A, [], by simp, rfl, h, fun W' H' c' A2' _ _ h' => ?_⟩
    simpa [setP] using h'
  | j :: js, c, c1, v, A, h, e => by
    cases c with
    | own l =>
      simp only [getP, Option.bind_eq_some_iff] at e
      obtain ⟨c2, e1, e2⟩ := e
      obtain ⟨a, xs, B1, rfl, rfl, ha, hl⟩ := h
      obtain ⟨y, D1, D2, D3, g1, g2, g3, g4⟩ := RepL.at hl e1
      obtain ⟨x, A1, A2, A3, k1, k2, k3, k4⟩ := RepC.foc g3 e2
      refine ⟨x, a :: (D1 ++ A1), A2, A3 ++ D3, ?_, ⟨a, xs, y, rfl, ha, g1, k2⟩, k3, fun W' H' c' A2' kp q h' => ?_⟩
      · rw [g2, k1]; simp
      · have z := g4 W' H' (setP c2 js c') y (A1 ++ (A2' ++ A3)) kp (fun b hb o eb => q b (by
          rcases List.mem_append.mp hb with z | z <;> simp [z]) o eb) (k4 W' H' c' A2' kp (fun b hb o eb => q b (by
          rcases List.mem_append.mp hb with z | z <;> simp [z]) o eb) h')
        rw [set_same g1] at z
        simp only [setP, e1]
        refine ⟨a, xs, D1 ++ (A1 ++ (A2' ++ A3) ++ D3), rfl, by simp, q a (by simp) _ ha, z⟩
    | frz d => cases e
    | ownD l => cases e
    | ownT l => cases e
theorem mem3 {α : Type} {L1 A2 L3 : List α} {a b : α} : b ∈ L1 ++ ((a :: A2) ++ L3) ↔ b ∈ L1 ∨ (b = a ∨ b ∈ A2) ∨ b ∈ L3 := by
  simp only [List.mem_append, List.mem_cons]
theorem Stt.mut {A O1 : List Addr} {H1 : Hp} {e1 : Slots} {i : Nat} {js : List Nat} {c0 : C} {l : List C} (s1 : Stt K (fun a => B a ∨ a ∈ A) H1 σ e1 O1) (nA : A.Nodup) (dA : ∀ a ∈ A, ¬ B a) (f : Frm O H A O1 H1) (he : e1[i]? = some (some c0)) (hg : getP c0 js = some (.own l)) :
    ∃ v0 a xs A2, σ[i]? = some (some v0) ∧ VAt H1 v0 js (.ref a) ∧ H1 a = some (.lst xs) ∧ RepL K (fun a => (B a ∨ a ∈ A) ∨ a ∈ O1) H1 l xs A2 ∧ A2.Nodup ∧ (a ∉ A2 ∧ a ∈ O1 ∧ ∀ b ∈ A2, b ∈ O1) ∧
      ∀ (l' : List C) (xs' : List V) (A2' : List Addr), RepL K (fun a => (B a ∨ a ∈ A) ∨ a ∈ O1) H1 l' xs' A2' → A2'.Nodup → (∀ b ∈ A2', b ∈ A2 ∨ b ∈ A) →
        ∃ O2, Stt K B (upd H1 a (.lst xs')) σ (e1.set i (some (setP c0 js (.own l')))) O2 ∧ Frm O H [] O2 (upd H1 a (.lst xs')) ∧ ∀ b ∈ O2, (b ∈ O1 ∨ b ∈ A) ∧ (b ∈ A2 → b ∈ A2') ∧ (b ∈ A → b ∈ A2') := by
  obtain ⟨o, D1, D2, D3, g1, g2, ⟨v0, rfl, hc0⟩, g4⟩ := RepE.at s1.rep he
  obtain ⟨x, A1, A2, A3, k1, k2, ⟨a, xs, A2t, rfl, rfl, ha, hl⟩, k4⟩ := RepC.foc hc0 hg
  have nd := s1.nd
  rw [g2, k1] at nd
  have perm : O1 = (D1 ++ A1) ++ ((a :: A2t) ++ (A3 ++ D3)) := by rw [g2, k1]; simp
  have nd' : ((D1 ++ A1) ++ ((a :: A2t) ++ (A3 ++ D3))).Nodup := by rw [← perm]; exact s1.nd
  have n1 := List.nodup_append.mp nd'
  have n2 := List.nodup_append.mp n1.2.1
  have n3 := List.nodup_cons.mp n2.1
  have mO : ∀ b, b ∈ O1 ↔ b ∈ D1 ++ A1 ∨ (b = a ∨ b ∈ A2t) ∨ b ∈ A3 ++ D3 := fun b => by rw [perm]; exact mem3
  have aO : a ∈ O1 := (mO a).mpr (.inr (.inl (.inl rfl)))
  have tO : ∀ b ∈ A2t, b ∈ O1 := fun b hb => (mO b).mpr (.inr (.inl (.inr hb)))
  have nAO : ∀ b ∈ A, b ∉ O1 := fun b hb z => s1.dj b z (.inr hb)
  refine ⟨v0, a, xs, A2t, g1, k2, ha, hl, n3.2, ⟨n3.1, aO, tO⟩, fun l' xs' A2' hl' nd2 sub => ?_⟩
  have sO : ∀ b, b ∈ (D1 ++ A1) ++ ((a :: A2') ++ (A3 ++ D3)) → b ∈ O1 ∨ b ∈ A := fun b hb => by
    rcases mem3.mp hb with z | (z | z) | z
    · exact .inl ((mO b).mpr (.inl z))
    · exact .inl (z ▸ aO)
    · exact (sub b z).imp (tO b) id
    · exact .inl ((mO b).mpr (.inr (.inr z)))
  have kp : Kp (fun a => (B a ∨ a ∈ A) ∨ a ∈ O1) H1 (fun b => B b ∨ b ∈ (D1 ++ A1) ++ ((a :: A2') ++ (A3 ++ D3))) (upd H1 a (.lst xs')) := fun b o hw hb => by
    refine ⟨(upd_ne fun z : b = a => hw (.inr (by rw [z]; exact aO))).trans hb, fun z => ?_⟩
    rcases z with z | z
    · exact hw (.inl (.inl z))
    · exact (sO b z).elim (fun z => hw (.inr z)) fun z => hw (.inl (.inr z))
  have na : ∀ b, b ∈ D1 ++ A1 ∨ b ∈ A3 ++ D3 → b ≠ a := fun b hb z => by
    rcases hb with hb | hb
    · exact n1.2.2 b hb a (by simp) z
    · exact n2.2.2 a (by simp) b hb z.symm
  have na2 : ∀ b ∈ A2', b ≠ a := fun b hb z => by
    rcases sub b hb with y | y
    · exact n3.1 (z ▸ y)
    · exact nAO b y (z ▸ aO)
  have z1 : RepC K (fun b => B b ∨ b ∈ (D1 ++ A1) ++ ((a :: A2') ++ (A3 ++ D3))) (upd H1 a (.lst xs')) (.own l') (.ref a) (a :: A2') :=
    ⟨a, xs', A2', rfl, rfl, upd_same, RepL.kp kp _ _ _ (fun b hb o eb => by rw [upd_ne (na2 b hb)]; exact eb) hl'⟩
  have z2 := k4 _ _ _ _ kp (fun b hb o eb => by rw [upd_ne (na b ((List.mem_append.mp hb).imp (fun z => by simp [z]) fun z => by simp [z]))]; exact eb) z1
  have z3 := g4 _ _ (some (setP c0 js (.own l'))) (some v0) _ kp (fun b hb o eb => by rw [upd_ne (na b ((List.mem_append.mp hb).imp (fun z => by simp [z]) fun z => by simp [z]))]; exact eb) ⟨v0, rfl, z2⟩
  rw [set_same g1] at z3
  refine ⟨(D1 ++ A1) ++ ((a :: A2') ++ (A3 ++ D3)), ⟨?_, ?_, ?_, ?_⟩, fun b o hw hb => ?_, fun b hb => ⟨sO b hb, fun z => ?_, fun z => ?_⟩⟩
  · have eq : (D1 ++ A1) ++ ((a :: A2') ++ (A3 ++ D3)) = D1 ++ (A1 ++ (a :: A2' ++ A3) ++ D3) := by simp
    have z4 := z3
    rw [← eq] at z4
    exact z4
  · refine List.nodup_append.mpr ⟨n1.1, List.nodup_append.mpr ⟨List.nodup_cons.mpr ⟨fun z => na2 a z rfl, nd2⟩, n2.2.1, fun b hb d hd eq => ?_⟩, fun b hb d hd eq => ?_⟩
    · subst eq
      rcases List.mem_cons.mp hb with z | z
      · exact na b (.inr hd) z
      · rcases sub b z with y | y
        · exact n2.2.2 b (by simp [y]) b hd rfl
        · exact nAO b y ((mO b).mpr (.inr (.inr hd)))
    · subst eq
      rw [List.mem_append, List.mem_cons] at hd
      rcases hd with (z | z) | z
      · exact na b (.inl hb) z
      · rcases sub b z with y | y
        · exact n1.2.2 b hb b (by simp [y]) rfl
        · exact nAO b y ((mO b).mpr (.inl hb))
      · exact n1.2.2 b hb b (by rw [List.mem_append]; exact .inr z) rfl
  · exact fun b hb z => (sO b hb).elim (fun y => s1.dj b y (.inl z)) fun y => dA b y z
  · intro b z
    by_cases hba : b = a
    · exact ⟨⟨.lst xs', True.intro⟩, by rw [hba]; exact upd_same⟩
    · obtain ⟨u, eu⟩ := s1.tr b (.inl z)
      exact ⟨u, by rw [upd_ne hba]; exact eu⟩
  · obtain ⟨q1, q2⟩ := f b o hw hb
    refine ⟨(upd_ne fun z : b = a => q2 (.inr (by rw [z]; exact aO))).trans q1, fun z => ?_⟩
    rcases z with z | z
    · cases z
    · exact (sO b z).elim (fun z => q2 (.inr z)) fun z => q2 (.inl z)
  · rcases mem3.mp hb with y | (y | y) | y
    · exact absurd rfl (n1.2.2 b y b (by simp [z]))
    · exact absurd (y ▸ z) n3.1
    · exact y
    · exact absurd rfl (n2.2.2 b (by simp [z]) b y)
  · rcases mem3.mp hb with y | (y | y) | y
    · exact absurd ((mO b).mpr (.inl y)) (nAO b z)
    · exact absurd (y ▸ aO) (nAO b z)
    · exact y
    · exact absurd ((mO b).mpr (.inr (.inr y))) (nAO b z)
end
end PL
namespace PL
open PySem PySem.Spec PyProof.Rows L2
section
variable {X : Cx} {w : WX} {H : Hp} {σ : L2.St} {e : Expr} {es : List Expr} {p q r : P} {ps : List P} {pos pp : Pos} {K : PySem.W.Frag} {mg : Str → Option Value} {B : Addr → Prop} {O : List Addr} {env : Slots} {st : Stmt} {rest : List Stmt} {pn : List Nat}
/-! ### paths -/
abbrev Pa := Slots → Option (List Nat)
def rdPa (X : Cx) (i : Nat) (pa : Pa) : TE := fun σ H Q => ∃ B env O, Stt X.K B H σ env O ∧ ∃ js, pa env = some js ∧ ∀ v0 x H', σ[i]? = some (some v0) → VAt H' v0 js x → Grw H H' → Q x H'
abbrev PaOk (X : Cx) (e : Expr) (i : Nat) (pa : Pa) : Prop := PE X e (rdPa X i pa)
def paV (i : Nat) : Pa := fun env => match env[i]? with
  | some (some _) => some []
  | _ => none
theorem pa_V {i : Nat} {x : Str} (hN : X.N[i]? = some x) (hv : Vis X.env.scope x) (hd : (x == ("__debug__" : Str)) = false := by decide) (hcd : (x == ("__classdict__" : Str)) = false := by decide) : PaOk X (.Name x pos) i (paV i) :=
  (pe_var (i := i) hN hv hd hcd).imp fun σ H Q h => by
    obtain ⟨B, env, O, s, js, hp, h⟩ := h
    unfold paV at hp
    split at hp
    · rename_i c e1
      cases hp
      obtain ⟨o, A1, A2, A3, g1, g2, ⟨y, rfl, g4⟩, _⟩ := RepE.at s.rep e1
      exact ⟨y, g1, h y y H g1 rfl Grw.refl⟩
    · cases hp
/-- the own list at a path -/
def ownAt (i : Nat) (js : List Nat) (env : Slots) : Option (List C) := match env[i]? with
  | some (some c0) => match getP c0 js with
    | some (.own l) => some l
    | _ => none
  | _ => none
def setAt (i : Nat) (js : List Nat) (l : List C) (env : Slots) : Slots := match env[i]? with
  | some (some c0) => env.set i (some (setP c0 js (.own l)))
  | _ => env
theorem ownAt_some {i : Nat} {js : List Nat} {env : Slots} {l : List C} (h : ownAt i js env = some l) : ∃ c0, env[i]? = some (some c0) ∧ getP c0 js = some (.own l) ∧ ∀ l', setAt i js l' env = env.set i (some (setP c0 js (.own l'))) := by
  unfold ownAt at h
  split at h
  · rename_i c0 e0
    split at h
    · rename_i l0 e1
      cases h
      exact ⟨c0, e0, e1, fun l' => by unfold setAt; rw [e0]⟩
    · cases h
  · cases h
theorem VAt.snoc {H : Hp} : ∀ {js : List Nat} {v : V} {a : Addr} {xs : List V} {j : Nat} {y : V}, VAt H v js (.ref a) → H a = some (.lst xs) → xs[j]? = some y → VAt H v (js ++ [j]) y
  | [], v, a, xs, j, y, h, h1, h2 => ⟨a, xs, y, h, h1, h2, rfl⟩
  | k :: js, v, a, xs, j, y, h, h1, h2 => by
    obtain ⟨b, zs, z, e1, e2, e3, e4⟩ := h
    exact ⟨b, zs, z, e1, e2, e3, VAt.snoc e4 h1 h2⟩
def intOf : Option D → Option Int
  | some (.int k) => some k
  | _ => none
theorem intOf_some {o : Option D} {k : Int} (h : intOf o = some k) : o = some (.int k) := by
  unfold intOf at h
  split at h
  · cases h; rfl
  · cases h
def paIx (i : Nat) (pa : Pa) (q : P) : Pa := fun env => (pa env).bind fun js => (ownAt i js env).bind fun l => (intOf (q env)).bind fun k => (ixN l.length k).map fun j => js ++ [j]
/-- the list that is found at a path -/
theorem Stt.look {i : Nat} {js : List Nat} {l : List C} {v0 x : V} {H' : Hp} (s : Stt K B H σ env O) (g : Grw H H') (ho : ownAt i js env = some l) (h0 : σ[i]? = some (some v0)) (hx : VAt H' v0 js x) : ∃ a xs A2, x = .ref a ∧ H' a = some (.lst xs) ∧ RepL K (fun a => B a ∨ a ∈ O) H' l xs A2 := by
  obtain ⟨c0, e0, e1, _⟩ := ownAt_some ho
  have s' := s.grw g
  obtain ⟨o, A1, A2, A3, g1, g2, ⟨y, rfl, g4⟩, _⟩ := RepE.at s'.rep e0
  rw [h0] at g1
  cases g1
  obtain ⟨x', B1, B2, B3, k1, k2, ⟨a, xs, A2t, rfl, rfl, ha, hl⟩, _⟩ := RepC.foc g4 e1
  exact ⟨a, xs, A2t, VAt.inj hx k2, ha, hl⟩
theorem pa_ix {a b : Expr} {i : Nat} {pa : Pa} (ha : PaOk X a i pa) (hb : BOk X b q) (hs : PlainIx b) : PaOk X (.Subscript a b pos) i (paIx i pa q) := (pe_ix ix_seq ha hb hs).imp fun σ H Q h => by
  obtain ⟨B, env, O, s, js2, hp, h⟩ := h
  unfold paIx at hp
  simp only [Option.bind_eq_some_iff, Option.map_eq_some_iff] at hp
  obtain ⟨js, e1, l, e2, k, e3, j, e4, rfl⟩ := hp
  refine ⟨B, env, O, s, js, e1, fun v0 x H1 h0 hx g1 => ⟨B, env, O, s.grw g1, _, intOf_some e3, fun v H2 g2 hv => ?_⟩⟩
  obtain ⟨a1, xs, A2, rfl, ha1, hl⟩ := s.look (g1.trans g2) e2 h0 (hx.grw g2)
  have hj := (ixN_seq e4).2.1
  have hjx : j < xs.length := by rw [hl.length]; exact hj
  refine .inl ⟨a1, xs, k, xs[j], rfl, hv, SqL.of ha1, ?_, h v0 _ H2 h0 (VAt.snoc (hx.grw g2) ha1 (List.getElem?_eq_getElem hjx)) (g1.trans g2)⟩
  unfold atI
  rw [hl.length, e4]
  exact List.getElem?_eq_getElem hjx

/-! ### o[i] = a frozen value -/
def gIx (i : Nat) (pa : Pa) (q : P) : Tg := fun d env => (pa env).bind fun js => (ownAt i js env).bind fun l => (intOf (q env)).bind fun k => (ixN l.length k).map fun j => setAt i js (l.set j (.frz d)) env
theorem RepL.setF {W : Addr → Prop} {l : List C} {xs : List V} {A : List Addr} {d : D} {v : V} (h : RepL K W H l xs A) {j : Nat} (hj : j < l.length) (hv : Is K W H d v) (nd : A.Nodup) : ∃ A', RepL K W H (l.set j (.frz d)) (xs.set j v) A' ∧ A'.Nodup ∧ ∀ b ∈ A', b ∈ A := by
  obtain ⟨x, A1, A2, A3, g1, rfl, g3, g4⟩ := RepL.at h (List.getElem?_eq_getElem hj)
  have n1 := List.nodup_append.mp nd
  have n2 := List.nodup_append.mp n1.2.1
  refine ⟨A1 ++ ([] ++ A3), g4 W H (.frz d) v [] Kp.refl (fun _ _ _ e => e) ⟨rfl, hv⟩, ?_, fun b hb => ?_⟩
  · rw [List.nil_append]
    exact List.nodup_append.mpr ⟨n1.1, n2.2.1, fun a ha b hb => n1.2.2 a ha b (by simp [hb])⟩
  · simp at hb ⊢
    rcases hb with z | z <;> simp [z]
theorem Stt.grwF {H' : Hp} (s : Stt K B H σ env O) (g : Grw H H') : Frm O H [] O H' := fun a o hw ha => ⟨g a o ha, fun z => z.elim (fun z => nomatch z) hw⟩
theorem Stt.nilB (s : Stt K B H σ env O) : Stt K (fun a => B a ∨ a ∈ ([] : List Addr)) H σ env O := s.less fun a z => z.elim id fun z => nomatch z
theorem g_ix {o k : Expr} {i : Nat} {pa : Pa} {tpos : Pos} (ho : PaOk X o i pa) (hk : BOk X k q)
    (ha : ∀ v : Value, assign (.Subscript o k tpos) X.env v = (do
      let ov ← holding [v] (eval o X.env)
      let iv ← holding [v, ov] (eval k X.env)
      standAt tpos
      holding [v, ov, iv] (setItem ov iv v)
      release [v, ov, iv] []) := by intro _; rfl) : GOk X false (.Subscript o k tpos) [] (gIx i pa q) := (pg_sub ho hk set_list ha).imp fun v σ H Q h => by
  obtain ⟨B, env, O, d, env', s, hd, ht, h⟩ := h
  unfold gIx at ht
  simp only [Option.bind_eq_some_iff, Option.map_eq_some_iff] at ht
  obtain ⟨js, e1, l, e2, kk, e3, j, e4, rfl⟩ := ht
  refine ⟨B, env, O, s, js, e1, fun v0 x H1 h0 hx g1 => ⟨B, env, O, s.grw g1, _, intOf_some e3, fun iv H2 g2 hv => ?_⟩⟩
  obtain ⟨c0, k0, k1, k2⟩ := ownAt_some e2
  have g := g1.trans g2
  have s2 := s.grw g
  obtain ⟨w0, a, xs, A2, m1, m2, m3, m4, m5, m6, m7⟩ := s2.nilB.mut .nil (fun _ z => nomatch z) (s.grwF g) k0 k1
  rw [h0] at m1
  cases m1
  have ex : x = .ref a := VAt.inj (hx.grw g2) m2
  subst ex
  have hj := (ixN_seq e4).2.1
  obtain ⟨A', r1, r2, r3⟩ := m4.setF (j := j) (d := d) (v := v) hj (Is.kp (fun b o w hb => ⟨g b o hb, fun z => w (z.elim (fun z => .inl (z.elim id fun z => nomatch z)) .inr)⟩) _ _ hd) m5
  obtain ⟨O2, t1, t2, t3⟩ := m7 _ _ _ r1 r2 fun b hb => .inl (r3 b hb)
  refine ⟨a, xs, kk, j, rfl, hv, m3, by rw [m4.length]; exact e4, ?_⟩
  rw [k2] at h
  exact h σ _ O2 t1 t2 SetIn.refl fun z => nomatch z
/-- a value given to a target -/
def sAsg (f : M C) (t : Tg) : SS := fun env => sOf (f env) fun c e => match t c.toD e with
  | some e' => .nx e'
  | none => .no
theorem s_asg {tg : Expr} {f : M C} {js : List Nat} {t : Tg} (he : EOk X w e f) (hg : GOk X false tg js t) (hj : ∀ j ∈ js, j ∉ pn := by decide) (hs : swapsWithSole [tg] e pos.line X.env = pure false := by rfl) (hw : swappedStores [tg] e X.env = pure none := by rfl)
    (h1 : (assignEach [tg] X.env).map (·.2) = [assign tg X.env] := by rfl) : SOk X w pn (.Assign [tg] e pos) (sAsg f t) := (ps_asg he hg hs hw h1).imp fun D σ H h => by
  obtain ⟨B, env, O, s, h⟩ := h
  refine rdE_s s h fun c e v H' A O' r h => ?_
  have rf := r.frz
  cases et : t c.toD e with
  | none => rw [et] at h; exact h.elim
  | some e' =>
    rw [et] at h
    have s1 : Stt X.K B H' σ e O' := r.stt.less fun a z => .inl z
    exact ⟨B, e, O', c.toD, e', s1, r.is, et, fun σ' H2 O2 s2 f2 z _ => h σ' H2 O2 s2 (rf.frm.seq' f2) (z.pin hj)⟩
/-! ### o[i] op= .. -/
def sAugIx (op : D → D → Option V) (i : Nat) (pa : Pa) (q p : P) : SS := fun env => match (pa env).bind fun js => (ownAt i js env).bind fun l => (intOf (q env)).bind fun k => (ixN l.length k).bind fun j => (l[j]?).bind fun c => (p env).bind fun d => (op c.toD d).map fun v => setAt i js (l.set j (.frz (ofV v))) env with
  | some e => .nx e
  | none => .no
theorem RepL.getIs {W : Addr → Prop} {l : List C} {xs : List V} {A : List Addr} {j : Nat} {c : C} (h : RepL K W H l xs A) (e : l[j]? = some c) : ∃ x, xs[j]? = some x ∧ Is K NoW H c.toD x := by
  obtain ⟨x, A1, A2, A3, g1, g2, g3, g4⟩ := RepL.at h e
  exact ⟨x, g1, RepC.is (fun a z => z.elim) _ _ _ (fun a _ z => z.elim) g3⟩
theorem get_seqL : PGet X (rIxL X.K) := by
  intro pins s σ H x y v u Q I rx ry h
  obtain ⟨p, xs, i, z, rfl, rfl, hq, he, q⟩ := h
  cases rx
  obtain ⟨t, rfl⟩ := ry
  obtain ⟨its, r, pl, hz⟩ := I.list hq
  obtain ⟨j, h1, h2, h3, h4, h5⟩ := atI_get he
  obtain ⟨w, ew, rw'⟩ := r.get h2
  have hl := r.length
  have hn := line63
  have fin : EP X pins σ Q w s := ⟨z, H, I, rw', q⟩
  by_cases h0 : 0 ≤ i
  · have hj : i.toNat = j := by
      rw [seqIndex_of h0 h5] at h1
      exact Option.some.inj h1
    exact wpAny_getItem_list pl.isList h0 (by omega) (by rw [hj]; simpa using ew) fin
  · have hj : (i + (its.toArray.size : Int)).toNat = j := by
      rw [seqIndex_neg (by omega) h4] at h1
      rw [List.size_toArray, ← hl]
      exact Option.some.inj h1
    exact wpAny_getItem_list_neg pl.isList (by omega) (by rw [List.size_toArray] <;> omega) (by omega) (by rw [hj]; simpa using ew) fin
theorem s_augIx {o k v : Expr} {i : Nat} {pa : Pa} {tpos : Pos} {oop : Operator} {rr : R2} {op : D → D → Option V} (ho : PaOk X o i pa) (hk : BOk X k q) (he : BOk X v p) (hop : OpR X (inplaceOp oop) rr) (h : PureS X.K rr op)
    (ha : ∀ ov iv new, augStore k ov iv new = (do holding [new, ov, iv] (setItem ov iv new); release [new, ov, iv] []; pure .next) := by intros; rfl) : SOk X w pn (.AugAssign (.Subscript o k tpos) oop v pos) (sAugIx op i pa q p) :=
  (ps_augS ho hk get_seqL he hop set_list ha).imp fun D σ H hh => by
    obtain ⟨B, env, O, s, hh⟩ := hh
    unfold sAugIx at hh
    split at hh
    · rename_i e' he'
      simp only [Option.bind_eq_some_iff, Option.map_eq_some_iff] at he'
      obtain ⟨js, e1, l, e2, kk, e3, j, e4, c, e5, d, e6, z, e7, rfl⟩ := he'
      refine ⟨B, env, O, s, js, e1, fun v0 x H1 h0 hx g1 => ⟨B, env, O, s.grw g1, _, intOf_some e3, fun iv H2 g2 hv => ?_⟩⟩
      have g := g1.trans g2
      obtain ⟨a1, xs, A2, rfl, ha1, hl⟩ := s.look g e2 h0 (hx.grw g2)
      obtain ⟨y, y1, y2⟩ := hl.getIs e5
      refine ⟨a1, xs, kk, y, rfl, hv, SqL.of ha1, by unfold atI; rw [hl.length, e4]; exact y1, B, env, O, s.grw g, d, e6, fun u H3 g3 hu => ?_⟩
      have g' := g.trans g3
      refine h H3 y u c.toD d z _ (y2.grw g3) hu e7 ?_
      obtain ⟨c0, k0, k1, k2⟩ := ownAt_some e2
      have s2 := s.grw g'
      obtain ⟨w0, a, xs', A2', m1, m2, m3, m4, m5, m6, m7⟩ := s2.nilB.mut .nil (fun _ z => nomatch z) (s.grwF g') k0 k1
      rw [h0] at m1
      cases m1
      have ex : V.ref a1 = .ref a := VAt.inj ((hx.grw g2).grw g3) m2
      cases ex
      have hj := (ixN_seq e4).2.1
      obtain ⟨A', r1, r2, r3⟩ := m4.setF (j := j) (d := ofV z) (v := z) hj (ofV_is _ _ _ z) m5
      obtain ⟨O2, t1, t2, t3⟩ := m7 _ _ _ r1 r2 fun b hb => .inl (r3 b hb)
      refine ⟨a1, xs', kk, j, rfl, hv, m3, by rw [m4.length]; exact e4, ?_⟩
      rw [k2] at hh
      exact hh σ _ O2 t1 t2 Pin.refl
    · exact hh.elim
/-- x op= .. on scalars -/
def sAug (op : D → D → Option V) (i : Nat) (p : P) : SS := fun env => match env[i]? with
  | some (some c) => match (p env).bind (op c.toD) with
    | some v => .nx (env.set i (some (.frz (ofV v))))
    | none => .no
  | _ => .no
theorem s_aug {i : Nat} {x : Str} {oop : Operator} {rr : R2} {op : D → D → Option V} {pos' : Pos} (hN : X.N.Nodup) (hi : X.N[i]? = some x) (hx : Loc X.env.scope x) (he : BOk X e p) (hop : OpR X (inplaceOp oop) rr) (h : PureS X.K rr op) (hp : i ∉ pn := by decide) (hf : X.fn x = true ∨ X.env.scope.names.lookup x = some .local := by first | exact .inl rfl | exact .inr rfl | assumption) :
    SOk X w pn (.AugAssign (.Name x pos') oop e pos) (sAug op i p) := (ps_aug hN hi hx he hop hf).imp fun D σ H hh => by
  obtain ⟨B, env, O, s, hh⟩ := hh
  unfold sAug at hh
  split at hh
  · rename_i c e0
    split at hh
    · rename_i v e1
      simp only [Option.bind_eq_some_iff] at e1
      obtain ⟨d, e1, e2⟩ := e1
      obtain ⟨x0, O', g1, g2, g3, g4⟩ := s.give e0
      refine ⟨x0, g1, B, env, O, s, d, e1, fun y H1 gr hy => h H1 x0 y c.toD d v _ (Is.kp (fun a o w ha => ⟨gr a o ha, fun z => z.elim⟩) _ _ g4) hy e2 ?_⟩
      have hl : i < env.length := by
        by_cases q : i < env.length
        · exact q
        · rw [List.getElem?_eq_none (by omega)] at e0; cases e0
      obtain ⟨O2, t1, t2⟩ := (s.grw gr).put (i := i) (ofV_is X.K (fun a => B a ∨ a ∈ O) H1 v) hl
      exact hh _ H1 O2 t1 ((s.grwF gr).seq' t2) (Pin.set hp)
    · exact hh.elim
  · exact hh.elim
end
end PL
namespace PL
open PySem PySem.Spec PyProof.Rows L2
section
variable {X : Cx} {w : WX} {H : Hp} {σ : L2.St} {e : Expr} {es : List Expr} {p q r : P} {ps : List P} {pos pp : Pos} {K : PySem.W.Frag} {mg : Str → Option Value} {B : Addr → Prop} {O : List Addr} {env : Slots} {st : Stmt} {rest : List Stmt} {pn : List Nat}
/-! ### xs.append(..), xs.pop(), xs.extend(..) -/
def eApp (i : Nat) (f : M C) : M C := fun env => match ownAt i [] env with
  | some _ => (f env).bind fun c e1 => match ownAt i [] e1 with
    | some l => if l.length < 100000 then .ok (.frz .non) (setAt i [] (l ++ [c]) e1) else .no
    | none => .no
  | none => .no
theorem Stt.ref0 {i : Nat} {l : List C} (s : Stt K B H σ env O) (h : ownAt i [] env = some l) : ∃ a xs A2, σ[i]? = some (some (.ref a)) ∧ H a = some (.lst xs) ∧ RepL K (fun a => B a ∨ a ∈ O) H l xs A2 := by
  obtain ⟨c0, e0, e1, _⟩ := ownAt_some h
  cases e1
  obtain ⟨o, A1, A2, A3, g1, g2, ⟨y, rfl, ⟨a, xs, A2t, rfl, rfl, ha, hl⟩⟩, _⟩ := RepE.at s.rep e0
  exact ⟨a, xs, A2t, g1, ha, hl⟩
theorem e_app {i : Nat} {x : Str} {f : M C} {npos apos cpos : Pos} (hN : X.N[i]? = some x) (hv : Vis X.env.scope x) (he : EOk X w e f) (hd : (x == ("__debug__" : Str)) = false := by decide) (hcd : (x == ("__classdict__" : Str)) = false := by decide)
    (hbase : attributeBase (.Name x npos) "append" X.env (eval (.Name x npos) X.env) = eval (.Name x npos) X.env := by rfl)
    (hfew : ((backTo cpos (starEach [e] X.env)).all (fun x => !x.1) && (backToKw cpos (keywordEach [] X.env)).all (fun x => x.1.isSome)
      && decide ([e].length + ([] : List Keyword).length + (if ([] : List Keyword).isEmpty then 0 else 1) < 30)) = true := by rfl)
    (hline : (apos.endLine == cpos.line) = true := by rfl) (hs : starEach [e] X.env = (false, eval e X.env) :: starEach [] X.env := by rfl) (hplain : (backTo cpos (starEach [] X.env)).any (·.1) = false := by rfl) :
    EOk X w (.Call (.Attribute (.Name x npos) "append" apos) [e] [] cpos) (eApp i f) :=
  (pe_bm PySem.F.plainAttrs_list PySem.F.slot_list_append PySem.F.type_list_append mt_append (pe_var (i := i) hN hv hd hcd) (pa_cons he pa_nil hs) hbase hfew hline hs hplain).imp fun σ H Q h => by
    obtain ⟨B, env, O, s, h⟩ := h
    unfold eApp at h
    cases e0 : ownAt i [] env with
    | none => rw [e0] at h; exact h.elim
    | some l0 =>
      rw [e0] at h
      simp only [] at h
      obtain ⟨a, xs, A2, g1, g2, g3⟩ := s.ref0 e0
      refine ⟨_, g1, .inl ⟨rfl, xs, SqL.of g2⟩, B, env, O, s, ?_⟩
      cases ef : f env with
      | no => rw [ef] at h; exact h
      | err y e1 => rw [ef] at h; exact h
      | ok c e1 =>
        rw [ef] at h
        simp only [Out.bind] at h
        intro v H1 A O1 r
        cases e2 : ownAt i [] e1 with
        | none => rw [e2] at h; exact h.elim
        | some l =>
          rw [e2] at h
          simp only [] at h
          split at h
          · rename_i e3 he3
            split at he3
            · rename_i hlen
              cases he3
              obtain ⟨c0, k0, k1, k2⟩ := ownAt_some e2
              obtain ⟨w0, a', xs', A2', m1, m2, m3, m4, m5, m6, m7⟩ := r.stt.mut r.nd r.dj r.frm k0 k1
              rw [g1] at m1
              cases m1
              have ea : V.ref a = .ref a' := m2
              cases ea
              obtain ⟨O2, t1, t2, t3⟩ := m7 (l ++ [c]) (xs' ++ [v]) (A2' ++ A) (m4.append (RepL.one r.rep)) (List.nodup_append.mpr ⟨m5, r.nd, fun b hb d hd z => r.stt.dj b (m6.2.2 b hb) (.inr (z ▸ hd))⟩) fun b hb => List.mem_append.mp hb
              refine ⟨a, xs', v, rfl, rfl, m3, by rw [m4.length, sizeLine_eq]; omega, ?_⟩
              rw [k2] at h
              exact h .non _ [] O2 (Res.new t1 t2 (New.of_is rfl))
            · cases he3
          · rename_i he3; split at he3 <;> cases he3
          · exact h.elim
/-- .. deeper, of a pure value -/
def eAppP (i : Nat) (pa : Pa) (p : P) : M C := fun env => match (pa env).bind fun js => (ownAt i js env).bind fun l => if l.length < 100000 then (p env).map fun d => setAt i js (l ++ [.frz d]) env else none with
  | some e => .ok (.frz .non) e
  | none => .no
theorem e_appP {i : Nat} {o : Expr} {pa : Pa} {apos cpos : Pos} (ho : PaOk X o i pa) (he : POk X e p)
    (hbase : attributeBase o "append" X.env (eval o X.env) = eval o X.env := by rfl)
    (hfew : ((backTo cpos (starEach [e] X.env)).all (fun x => !x.1) && (backToKw cpos (keywordEach [] X.env)).all (fun x => x.1.isSome)
      && decide ([e].length + ([] : List Keyword).length + (if ([] : List Keyword).isEmpty then 0 else 1) < 30)) = true := by rfl)
    (hline : (apos.endLine == cpos.line) = true := by rfl) (hs : starEach [e] X.env = (false, eval e X.env) :: starEach [] X.env := by rfl) (hplain : (backTo cpos (starEach [] X.env)).any (·.1) = false := by rfl) :
    EOk X w (.Call (.Attribute o "append" apos) [e] [] cpos) (eAppP i pa p) :=
  (pe_bm PySem.F.plainAttrs_list PySem.F.slot_list_append PySem.F.type_list_append mt_append ho (pa_cons he pa_nil hs) hbase hfew hline hs hplain).imp fun σ H Q h => by
    obtain ⟨B, env, O, s, h⟩ := h
    unfold eAppP at h
    split at h
    · rename_i c' e' hc'
      split at hc'
      · rename_i e2 he2
        cases hc'
        simp only [Option.bind_eq_some_iff] at he2
        obtain ⟨js, e1, l, e3, he2⟩ := he2
        split at he2
        · rename_i hlen
          simp only [Option.map_eq_some_iff] at he2
          obtain ⟨d, e4, rfl⟩ := he2
          refine ⟨B, env, O, s, js, e1, fun v0 x H1 h0 hx g1 => ?_⟩
          obtain ⟨a, xs, A2, rfl, ha, hl⟩ := s.look g1 e3 h0 hx
          refine ⟨.inl ⟨rfl, xs, SqL.of ha⟩, B, env, O, s.grw g1, d, e4, fun v H2 g2 hv => ?_⟩
          have g := g1.trans g2
          have s2 := s.grw g
          obtain ⟨c0, k0, k1, k2⟩ := ownAt_some e3
          obtain ⟨w0, a', xs', A2', m1, m2, m3, m4, m5, m6, m7⟩ := s2.nilB.mut .nil (fun _ z => nomatch z) (s.grwF g) k0 k1
          rw [h0] at m1
          cases m1
          have ea : V.ref a = .ref a' := VAt.inj (hx.grw g2) m2
          cases ea
          obtain ⟨O2, t1, t2, t3⟩ := m7 (l ++ [.frz d]) (xs' ++ [v]) (A2' ++ []) (m4.append (RepL.one (c := .frz d) ⟨rfl, Is.kp (Kp.less fun b z => z.imp (fun z => z.elim id fun z => nomatch z) id) _ _ hv⟩)) (by rw [List.append_nil]; exact m5) fun b hb => .inl (by simpa using hb)
          refine ⟨a, xs', v, rfl, rfl, m3, by rw [m4.length, sizeLine_eq]; omega, ?_⟩
          rw [k2] at h
          exact h .non _ [] O2 (Res.new t1 t2 (New.of_is rfl))
        · cases he2
      · cases hc'
    · rename_i hc'; split at hc' <;> cases hc'
    · exact h.elim
def ePop (i : Nat) (pa : Pa) : M C := fun env => match (pa env).bind fun js => (ownAt i js env).bind fun l => l.getLast?.map fun c => (c, setAt i js l.dropLast env) with
  | some (c, e) => .ok (.frz c.toD) e
  | none => .no
theorem RepL.last {W : Addr → Prop} {l : List C} {xs : List V} {A : List Addr} (h : RepL K W H l xs A) {c : C} (hc : l.getLast? = some c) (nd : A.Nodup) : ∃ x A1 A2, xs[xs.length - 1]? = some x ∧ A = A1 ++ A2 ∧ RepC K W H c x A2 ∧ RepL K W H l.dropLast xs.dropLast A1 := by
  have key : ∀ {l : List C} {xs : List V} {A : List Addr}, RepL K W H (l ++ [c]) xs A → ∃ ys x A1 A2, xs = ys ++ [x] ∧ A = A1 ++ A2 ∧ RepC K W H c x A2 ∧ RepL K W H l ys A1 := by
    intro l
    induction l with
    | nil =>
      intro xs A h
      obtain ⟨x, ys, B1, B2, rfl, rfl, h1, rfl, rfl⟩ := h
      exact ⟨[], x, [], B1, rfl, by simp, h1, rfl, rfl⟩
    | cons d r ih =>
      intro xs A h
      obtain ⟨x, ys, B1, B2, rfl, rfl, h1, h2⟩ := h
      obtain ⟨zs, z, A1, A2, rfl, rfl, h3, h4⟩ := ih h2
      exact ⟨x :: zs, z, B1 ++ A1, A2, rfl, by simp, h3, x, zs, B1, A1, rfl, rfl, h1, h4⟩
  have e : l = l.dropLast ++ [c] := by
    obtain ⟨ys, rfl⟩ := List.getLast?_eq_some_iff.mp hc
    simp
  rw [e] at h
  obtain ⟨ys, x, A1, A2, rfl, rfl, h3, h4⟩ := key h
  exact ⟨x, A1, A2, by simp, rfl, h3, by simpa using h4⟩
theorem e_pop {i : Nat} {o : Expr} {pa : Pa} {apos cpos : Pos} (ho : PaOk X o i pa)
    (hbase : attributeBase o "pop" X.env (eval o X.env) = eval o X.env := by rfl) (hline : (apos.endLine == cpos.line) = true := by rfl) :
    EOk X w (.Call (.Attribute o "pop" apos) [] [] cpos) (ePop i pa) :=
  (pe_bm0 PySem.F.plainAttrs_list PySem.F.slot_list_pop PySem.F.type_list_pop mt_pop ho hbase hline).imp fun σ H Q h => by
    obtain ⟨B, env, O, s, h⟩ := h
    unfold ePop at h
    split at h
    · rename_i c' e' hc'
      split at hc'
      · rename_i c e2 he2
        cases hc'
        simp only [Option.bind_eq_some_iff, Option.map_eq_some_iff] at he2
        obtain ⟨js, e1, l, e3, c, e4, he2⟩ := he2
        cases he2
        refine ⟨B, env, O, s, js, e1, fun v0 x H1 h0 hx g1 => ?_⟩
        obtain ⟨a, xs, A2, rfl, ha, hl⟩ := s.look g1 e3 h0 hx
        refine ⟨.inl ⟨rfl, xs, SqL.of ha⟩, ?_⟩
        have s2 := s.grw g1
        obtain ⟨c0, k0, k1, k2⟩ := ownAt_some e3
        obtain ⟨w0, a', xs', A2', m1, m2, m3, m4, m5, m6, m7⟩ := s2.nilB.mut .nil (fun _ z => nomatch z) (s.grwF g1) k0 k1
        rw [h0] at m1
        cases m1
        have ea : V.ref a = .ref a' := VAt.inj hx m2
        cases ea
        obtain ⟨x, B1, B2, b1, rfl, b3, b4⟩ := m4.last e4 m5
        have nd := List.nodup_append.mp m5
        obtain ⟨O2, t1, t2, t3⟩ := m7 l.dropLast xs'.dropLast B1 b4 nd.1 fun b hb => .inl (by simp [hb])
        refine ⟨a, xs', x, rfl, rfl, m3, b1, ?_⟩
        rw [k2] at h
        refine h x _ [] O2 (Res.new t1 t2 (New.of_is ?_))
        refine RepC.is (W := fun b => B b ∨ b ∈ O2) (fun _ z => z) _ _ B2 (fun b hb z => ?_) (RepC.kp (fun b o hw hb => ⟨(upd_ne fun z : b = a => hw (.inr (by rw [z]; exact m6.2.1))).trans hb, fun z => ?_⟩) _ _ _ (fun b hb o eb => (upd_ne fun z : b = a => m6.1 (by rw [← z]; simp [hb])).trans eb) b3)
        · rcases z with z | z
          · exact s2.dj b (m6.2.2 b (by simp [hb])) z
          · exact nd.2.2 b ((t3 b z).2.1 (by simp [hb])) b hb rfl
        · rcases z with z | z
          · exact hw (.inl (.inl z))
          · exact (t3 b z).1.elim (fun z => hw (.inr z)) fun z => nomatch z
      · cases hc'
    · rename_i hc'; split at hc' <;> cases hc'
    · exact h.elim
end
end PL
/-! ### enumerate over a tuple -/
namespace PL
open PySem PySem.Spec PyProof.Rows L2
open AutoSeq1 (wpAny_loadPart')
theorem enum_newT (t0 : Addr) (its : Array Value) (n : Nat) (dc : Option Addr) (sl : Array (Option Value)) :
    Meets (Builtin.«enumerate.__new__» ⟨[.type "enumerate", .ref t0], []⟩) (fun _ R s => s.heap.get? t0 = some { cls := .type "tuple", dict := dc, data := .seq its n, slots := sl } ∧
      R (.ok (.ret (.ref (s.heap.push { cls := .type "tuple_iterator", data := .fields #[.ref t0, .int 0 0] }).objs.size)))
        { s with heap := (s.heap.push { cls := .type "tuple_iterator", data := .fields #[.ref t0, .int 0 0] }).push { cls := .type "enumerate", data := .fields #[.none, .bool false, .ref s.heap.objs.size, rawInt 0, .none, .none] } }) :=
  .of_wp fun pr wo Ar R st0 hh => by
    obtain ⟨hp, g, d, tk, os⟩ := st0; obtain ⟨ht0, hh⟩ := hh
    have hsub := sub_enumerate
    have hT0 : Heap.IsTuple (Shared.heap ⟨hp, g, d, tk, os⟩) t0 its := ⟨_, ht0, rfl, n, rfl⟩
    wp_walk using wpAny_loadPart' ht0
    refine wpAny_stack_any fun sk => wpAny_pure ?_
    split
    · rename_i cl _ _ _ _ _
      cases (cl == Value.type "enumerate") <;>
      · wp_walk using wpAny_loadPart' ht0, wpAny_pyIter_tuple hT0
        exact ⟨_, rfl, hh⟩
    · wp_walk using wpAny_loadPart' ht0, wpAny_pyIter_tuple hT0
      exact ⟨_, rfl, hh⟩
theorem enum_callT {prog : Program} {w : World} {A : Around} {E : Value → Shared → Prop} {s : Shared} {t0 : Addr} {its : Array Value} {Q : Value → Shared → Prop} (hT : s.heap.IsTuple t0 its)
    (k : ∀ h', IsEnum h' (s.heap.objs.size + 1) s.heap.objs.size 0 .none → h'.IsTupleIter s.heap.objs.size t0 0 → (∀ b o, s.heap.get? b = some o → h'.get? b = some o) → Q (.ref (s.heap.objs.size + 1)) { s with heap := h' }) :
    wpAny (model prog w) A (call (.type "enumerate") [.ref t0]) Q E s := by
  obtain ⟨⟨cl, dc, dt, sl⟩, hg, e1, n, e2⟩ := hT
  cases (show cl = .type "tuple" from e1)
  cases (show dt = .seq its n from e2)
  refine callType_new F.called_enumerate (by decide) (F.typeCall_enumerate_1 _) (F.newCall_enumerate_1 _) (fun ob => F.args_object_init_2 ob _) F.entry_enumerate_new
    (enum_newT t0 its n dc sl) ⟨hg, ?_⟩
  have z1 : (s.heap.push { cls := .type "tuple_iterator", data := .fields #[.ref t0, .int 0 0] }).objs.size = s.heap.objs.size + 1 := Heap.size_push ..
  show _ ∧ _
  rw [z1]
  have e0 : IsEnum ((s.heap.push { cls := .type "tuple_iterator", data := .fields #[.ref t0, .int 0 0] }).push
      { cls := .type "enumerate", data := .fields #[.none, .bool false, .ref s.heap.objs.size, rawInt 0, .none, .none] }) (s.heap.objs.size + 1) s.heap.objs.size 0 .none := by
    have q := Heap.get?_push_size (s.heap.push { cls := .type "tuple_iterator", data := .fields #[.ref t0, .int 0 0] })
      (o := { cls := .type "enumerate", data := .fields #[.none, .bool false, .ref s.heap.objs.size, rawInt 0, .none, .none] }) rfl
    rw [z1] at q; exact q
  exact ⟨⟨_, e0, rfl⟩, k _ e0 ⟨_, Heap.get?_push_of_some _ (Heap.get?_push_size _ rfl), rfl, rfl⟩ fun b o x => Heap.get?_push_of_some _ (Heap.get?_push_of_some _ x)⟩
/-- the tuple at a, each item in a new pair -/
def IteT (K : PySem.W.Frag) (a : Addr) : It :=
  ⟨fun i H => ∃ (xs : List V) (x : V), SqT K H a xs ∧ xs[i]? = some x, fun i H v H' => ∃ T x, v = .ref T ∧ H T = none ∧ H' = upd H T (.tup [.int (i : Nat), x]) ∧ ∀ xs, SqT K H a xs → xs[i]? = some x, fun i H => ∃ xs : List V, SqT K H a xs ∧ xs.length ≤ i⟩
theorem enum_turnT {P : Program} {w : World} {K : PySem.W.Frag} {elts : List Expr} {kk : Nat} {tpos : Pos} (a en it : Addr) (na : a ≠ it) :
    Turn P w K (.Tuple elts kk tpos) (IteT K a) [en, it] en (fun i h => (∃ old, IsEnum h en it ((i : Nat) : Int) old) ∧ h.IsTupleIter it a i ∧ en ≠ it ∧ en ≠ a) where
  mem := List.mem_cons_self
  obj := fun i h hst b hb => by
    obtain ⟨⟨old, q1⟩, ⟨o, q2, q3, q4⟩, _⟩ := hst
    rcases List.mem_cons.mp hb with z | z
    · rw [z]; exact ⟨_, q1, fun v y => by cases y⟩
    · rw [List.mem_singleton.mp z]
      exact ⟨o, q2, fun v y => by rw [q4] at y; cases y⟩
  keep := fun i h h' hst k => by
    obtain ⟨⟨old, q1⟩, q2, q3⟩ := hst
    exact ⟨⟨old, k en List.mem_cons_self _ q1⟩, q2.at fun o z => k it (List.mem_cons_of_mem _ List.mem_cons_self) o z, q3⟩
  item := by
    intro X hP hw hK hc i pins s σ H E I hf ⟨⟨old, q1⟩, q2, q3, q3'⟩ ⟨xs, x, hq, hx⟩
    subst hP hw hK
    obtain ⟨vs, rv, tp, hz⟩ := I.tuple hq
    obtain ⟨u, hu, ru⟩ := rv.get hx
    have hu' : vs.toArray[i]? = some u := by simpa using hu
    have l1 : en < s.heap.objs.size := Heap.lt_size q1
    have l2 : it < s.heap.objs.size := by obtain ⟨_, z, _⟩ := q2; exact Heap.lt_size z
    have hi : i < vs.toArray.size := by
      by_cases z : i < vs.toArray.size
      · exact z
      · rw [Array.getElem?_eq_none (by omega)] at hu'; cases hu'
    have Dr := Draws.tuple (prog := X.prog) (w := X.w) (A := X.A.in1) (I.ok.hd hc) it a na vs.toArray
    refine wpAny_pyNext_enum_itemD (fp := [it, a]) (n := vs.toArray.size) Dr q1 ⟨q2, tp⟩ hi q3 (fun z => ?_) fun y h' tk hy ho hst hT hsz hk => ?_
    · rcases List.mem_cons.mp z with z | z
      · exact q3 z
      · exact q3' (List.mem_singleton.mp z)
    · have hy' : vs.toArray[i]? = some y := hy
      rw [hu'] at hy'
      cases hy'
      refine ⟨_, rfl, wpAny_letOwnedTupleGo_enum (s := { s with heap := h', toks := tk + 1 }) ho fun h2 he2 sb => ?_⟩
      have t2 : h2.get? s.heap.objs.size = some { cls := .type "tuple", data := .seq #[.int i tk, u] } := (sb.2 _ (Nat.ne_of_gt l1)).trans hT
      have nw : ObjOk X.prog X.w (upd H s.heap.objs.size (.tup [.int (i : Nat), x])) h2 s.heap.objs.size (.tup [.int (i : Nat), x]) :=
        ⟨by show 2 ≤ sizeLine; decide, [.int i tk, u], .cons ⟨_, rfl⟩ (.cons ru .nil), ⟨_, t2, rfl, _, rfl⟩⟩
      have J : Inv X pins σ (upd H s.heap.objs.size (.tup [.int (i : Nat), x])) { s with heap := h2, toks := tk + 1 } :=
        I.turnedNew (ch := [en, it]) (fun b ob hb z => (sb.2 b (fun y => hb (by simp [y]))).trans (hk b ob (fun y => hb (by simp [y])) (fun y => hb (by simp [y])) z)) hf (Nat.le_refl _) nw
      refine ⟨.ref s.heap.objs.size, _, J, rfl, ⟨_, x, rfl, I.hok.fresh (Nat.le_refl _), rfl, fun ys hy => by rw [I.tuple_inj hy hq]; exact hx⟩, ⟨⟨u, ?_⟩, hst.1.at fun o z => (sb.2 it (Ne.symm q3)).trans z, q3, q3'⟩, fun b hb => ?_⟩
      · rw [show ((i + 1 : Nat) : Int) = (i : Int) + 1 by omega]; exact he2
      · have lb : b < s.heap.objs.size := by
          rcases List.mem_cons.mp hb with z | z
          · rw [z]; exact l1
          · rw [List.mem_singleton.mp z]; exact l2
        rw [upd_ne (Nat.ne_of_lt lb)]
        exact (hf b hb).1
  done := by
    intro X hP hw hK hc i pins s σ H E I hf ⟨⟨old, q1⟩, q2, q3, q3'⟩ ⟨xs, hq, hx⟩
    subst hP hw hK
    obtain ⟨vs, rv, tp, hz⟩ := I.tuple hq
    obtain ⟨f0, f1, f2, f3, f4, f5⟩ := hf it (List.mem_cons_of_mem _ List.mem_cons_self)
    have hl := rv.length
    have hT : s.TypeIs (.ref en) "enumerate" := ⟨_, q1, rfl⟩
    unfold pyNext
    refine wpAny_bind (wpAny_attempt (wpAny_callSpecial?_slot (name := Str.ofString "__next__") hT F.slot_enumerate_next
      (wpAny_call_entry F.slot_enumerate_next hT F.entry_enumerate_next ?_ (F.args_enumerate_next_1 _))))
    show wpAny _ _ (field (.ref en) 2 >>= _) _ _ _
    refine wpAny_bind (wpAny_field q1 rfl (x := .ref it) rfl ?_)
    refine wpAny_bind (wpAny_nextOf_tuple_end (I.ok.hd hc) q2 tp (by simp; omega) fun h' y xb hy => ?_)
    obtain ⟨o, ho, hcl⟩ := hy
    exact wpAny_bind (wpAny_isInstance (T := "StopIteration") (b := true) ⟨o, ho, hcl⟩ isSubtype_stop (wpAny_pure ⟨rfl, I.turned (t' := s.toks) (fun b ob hb z => xb b ob hb z) f0 f1 f3 f4 f5⟩))
  self := fun A i s Q E hst h => by
    obtain ⟨⟨_, q1⟩, _⟩ := hst
    exact wpAny_pyIter_enum q1 h
def iEnumT (K : PySem.W.Frag) (ta : TA) : TI := fun σ H R => ta σ H fun vs H1 => ∃ a xs, vs = [.ref a] ∧ SqT K H1 a xs ∧ R (IteT K a) H1
theorem pi_enumT {X : Cx} {e : Expr} {ta : TA} {p pos tpos : Pos} {elts : List Expr} {kk : Nat} (hg : Gl X "enumerate") (hm : X.mg "enumerate" = none) (ha : PA X [e] ta) (hs : starEach [e] X.env = [(false, eval e X.env)] := by rfl) :
    PI X (.Tuple elts kk tpos) (.Call (.Name "enumerate" p) [e] [] pos) (iEnumT X.K ta) := ⟨fun pins s σ H R I h => by
  refine Call_ (ld_blt I hg hm boot_enumerate (PyProof.Rows.callWith_type1 (thn (ha.run pos pins s σ H _ I h) fun us s1 ⟨vs, H1, I1, r1, q1⟩ => ?_) hs rfl))
  obtain ⟨a, xs, rfl, hq, q⟩ := q1
  obtain ⟨u, rfl, ru⟩ := r1.one
  cases ru
  obtain ⟨ws, rv, tp, hz⟩ := I1.tuple hq
  have la : a < s1.heap.objs.size := by obtain ⟨_, z, _⟩ := tp; exact Heap.lt_size z
  refine enum_callT tp fun h' he hit hk => wpAny_pyIter_enum he ?_
  have J : Inv X pins σ H1 { s1 with heap := h' } := I1.kept (t' := s1.toks) hk
  refine ⟨s1.heap.objs.size + 1, [s1.heap.objs.size + 1, s1.heap.objs.size], _, _, H1, rfl, J, enum_turnT a (s1.heap.objs.size + 1) s1.heap.objs.size (Nat.ne_of_lt la), ⟨⟨.none, he⟩, hit, Nat.succ_ne_self _, Nat.ne_of_gt (Nat.lt_succ_of_lt la)⟩, fun b hb => ?_, q⟩
  have hle : s1.heap.objs.size ≤ b := by
    rcases List.mem_cons.mp hb with z | z
    · rw [z]; exact Nat.le_add_right _ _
    · rw [List.mem_singleton.mp z]; exact Nat.le_refl _
  exact I1.fpOk hle (I1.hok.fresh hle)⟩
section
variable {X : Cx} {w : WX} {H : Hp} {σ : L2.St} {e : Expr} {es : List Expr} {p q r : P} {ps : List P} {pos pp : Pos} {K : PySem.W.Frag} {mg : Str → Option Value} {B : Addr → Prop} {O : List Addr} {env : Slots} {st : Stmt} {rest : List Stmt} {pn : List Nat}
variable {tg : Expr} {kk : Nat} {tpos : Pos} {elts : List Expr}
theorem walkD_enumT {W : Addr → Prop} {a : Addr} {xs : List V} {l : List D} (ha : H a = some (.tup xs)) (nw : ¬ W a) (il : IsL K W H l xs) : WalkD K W H (IteT K a) (enumD l) := fun W2 H2 kp tr => by
  have h2 := (kp a _ nw ha).1
  have i2 := IsL.kp kp _ _ il
  have hl := il.length
  rw [enumD_length]
  refine ⟨fun i hi => ⟨xs, xs[i]'(by omega), SqT.of h2, by simp [hl, hi]⟩, ⟨xs, SqT.of h2, by omega⟩, fun i x H3 hi y => ?_⟩
  obtain ⟨T, z, rfl, hT, rfl, y⟩ := y
  have g1 : Grw H2 (upd H2 T (.tup [.int (i : Nat), z])) := fun b o e => by rw [upd_ne (ne_of_none e hT)]; exact e
  refine ⟨g1, _, enumD_get hi, T, _, rfl, upd_same, fun q => ?_, ?_⟩
  · obtain ⟨u, e⟩ := tr T q; rw [hT] at e; cases e
  · obtain ⟨x', e, h⟩ := i2.get (List.getElem?_eq_getElem hi)
    rw [y xs (SqT.of h2)] at e
    cases e
    exact ⟨_, _, rfl, rfl, _, _, rfl, h.grw g1, rfl⟩
/-- enumerate over a frozen list or tuple -/
def enumS (p : P) : PLs := fun env => (fSq p env).map enumD
theorem iG_enumS {a : Expr} {pa pb : Pos} (hg : Gl X "enumerate") (hm : X.mg "enumerate" = none) (ha : POk X a p) (hs : starEach [a] X.env = [(false, eval a X.env)] := by rfl) :
    IGk X (.Tuple elts kk tpos) (.Call (.Name "enumerate" pa) [a] [] pb) (enumS p) := ((pi_enum hg hm (pa_cons ha pa_nil (by rw [hs]; rfl)) hs).or (pi_enumT hg hm (pa_cons ha pa_nil (by rw [hs]; rfl)) hs)).imp fun σ H R hr => by
  obtain ⟨B, env, O, s, l, hp, hr⟩ := hr
  unfold enumS fSq at hp
  simp only [Option.map_eq_some_iff, Option.bind_eq_some_iff] at hp
  obtain ⟨l0, ⟨d, e1, e2⟩, rfl⟩ := hp
  cases d with
  | lst l' =>
    cases e2
    exact .inl ⟨B, env, O, s, _, e1, fun v H1 g hv => let ⟨a, xs, ev, ha, nw, il⟩ := hv; ⟨a, xs, by rw [ev], SqL.of ha, hr _ H1 g (walkD_enum ha nw il).g⟩⟩
  | tup l' =>
    cases e2
    exact .inr ⟨B, env, O, s, _, e1, fun v H1 g hv => let ⟨a, xs, ev, ha, nw, il⟩ := hv; ⟨a, xs, by rw [ev], SqT.of ha, hr _ H1 g (walkD_enumT ha nw il).g⟩⟩
  | non => cases e2
  | bl _ => cases e2
  | int _ => cases e2
  | str _ => cases e2
  | dct _ => cases e2
  | dcT _ => cases e2
  | dcL _ => cases e2
  | ro _ => cases e2
  | opq _ => cases e2
/-- a walk's source that is pure, for a loop -/
theorem iD_enumS {a : Expr} {pa pb : Pos} (hg : Gl X "enumerate") (hm : X.mg "enumerate" = none) (ha : POk X a p) (hs : starEach [a] X.env = [(false, eval a X.env)] := by rfl) :
    IDk X w (.Tuple elts kk tpos) (.Call (.Name "enumerate" pa) [a] [] pb) (mP (enumS p)) := ((pi_enum hg hm (pa_cons ha pa_nil (by rw [hs]; rfl)) hs).or (pi_enumT hg hm (pa_cons ha pa_nil (by rw [hs]; rfl)) hs)).imp fun σ H R hr => by
  obtain ⟨B, env, O, s, hr⟩ := hr
  unfold mP enumS fSq at hr
  cases e1 : p env with
  | none => simp [e1] at hr
  | some d =>
    have go : ∀ l, sqD d = some l → ∀ J H1, Grw H H1 → WalkD X.K (fun a => B a ∨ a ∈ O) H1 J (enumD l) → R J H1 := fun l hl J H1 g wk => by
      simp only [e1, Option.bind_some, hl, Option.map_some] at hr
      exact hr J H1 O (s.grw g) (s.grwF g) wk
    cases hd : sqD d with
    | none => simp [e1, hd] at hr
    | some l =>
      cases d with
      | lst l' =>
        cases hd
        exact .inl ⟨B, env, O, s, _, e1, fun v H1 g hv => let ⟨a, xs, ev, ha, nw, il⟩ := hv; ⟨a, xs, by rw [ev], SqL.of ha, go _ rfl _ H1 g (walkD_enum ha nw il)⟩⟩
      | tup l' =>
        cases hd
        exact .inr ⟨B, env, O, s, _, e1, fun v H1 g hv => let ⟨a, xs, ev, ha, nw, il⟩ := hv; ⟨a, xs, by rw [ev], SqT.of ha, go _ rfl _ H1 g (walkD_enumT ha nw il)⟩⟩
      | non => cases hd
      | bl _ => cases hd
      | int _ => cases hd
      | str _ => cases hd
      | dct _ => cases hd
      | dcT _ => cases hd
      | dcL _ => cases hd
      | ro _ => cases hd
      | opq _ => cases hd
end
end PL
namespace PL
open PySem PySem.Spec PyProof.Rows L2
section
variable {X : Cx} {w : WX} {H : Hp} {σ : L2.St} {e : Expr} {es : List Expr} {p q r : P} {ps : List P} {pos pp : Pos} {K : PySem.W.Frag} {mg : Str → Option Value} {B : Addr → Prop} {O : List Addr} {env : Slots} {st : Stmt} {rest : List Stmt} {pn : List Nat}
/-! ### xs.extend(a list) -/
def eExt (i : Nat) (pa : Pa) (f : PLs) : M C := fun env => match (pa env).bind fun js => (ownAt i js env).bind fun l => (f env).bind fun m => if l.length + m.length < 100000 then some (setAt i js (l ++ m.map .frz) env) else none with
  | some e => .ok (.frz .non) e
  | none => .no
theorem e_ext {i : Nat} {o : Expr} {pa : Pa} {f : PLs} {apos cpos : Pos} (ho : PaOk X o i pa) (he : LOk X e f)
    (hbase : attributeBase o "extend" X.env (eval o X.env) = eval o X.env := by rfl)
    (hfew : ((backTo cpos (starEach [e] X.env)).all (fun x => !x.1) && (backToKw cpos (keywordEach [] X.env)).all (fun x => x.1.isSome)
      && decide ([e].length + ([] : List Keyword).length + (if ([] : List Keyword).isEmpty then 0 else 1) < 30)) = true := by rfl)
    (hline : (apos.endLine == cpos.line) = true := by rfl) (hs : starEach [e] X.env = (false, eval e X.env) :: starEach [] X.env := by rfl) (hplain : (backTo cpos (starEach [] X.env)).any (·.1) = false := by rfl) :
    EOk X w (.Call (.Attribute o "extend" apos) [e] [] cpos) (eExt i pa f) :=
  (pe_bm PySem.F.plainAttrs_list PySem.F.slot_list_extend PySem.F.type_list_extend mt_extend ho (pa_cons he pa_nil hs) hbase hfew hline hs hplain).imp fun σ H Q h => by
    obtain ⟨B, env, O, s, h⟩ := h
    unfold eExt at h
    split at h
    · rename_i c' e' hc'
      split at hc'
      · rename_i e2 he2
        cases hc'
        simp only [Option.bind_eq_some_iff] at he2
        obtain ⟨js, e1, l, e3, m, e4, he2⟩ := he2
        split at he2
        · rename_i hlen
          cases he2
          refine ⟨B, env, O, s, js, e1, fun v0 x H1 h0 hx g1 => ?_⟩
          obtain ⟨a, xs, A2, rfl, ha, hl⟩ := s.look g1 e3 h0 hx
          refine ⟨.inl ⟨rfl, xs, SqL.of ha⟩, B, env, O, s.grw g1, m, e4, fun b ys H2 g2 hb hm => ?_⟩
          have g := g1.trans g2
          have s2 := s.grw g
          obtain ⟨c0, k0, k1, k2⟩ := ownAt_some e3
          obtain ⟨w0, a', xs', A2', m1, m2, m3, m4, m5, m6, m7⟩ := s2.nilB.mut .nil (fun _ z => nomatch z) (s.grwF g) k0 k1
          rw [h0] at m1
          cases m1
          have ea : V.ref a = .ref a' := VAt.inj (hx.grw g2) m2
          cases ea
          obtain ⟨O2, t1, t2, t3⟩ := m7 (l ++ m.map .frz) (xs' ++ ys) (A2' ++ []) (m4.append (RepL.frz (IsL.kp (Kp.less fun b z => z.imp (fun z => z.elim id fun z => nomatch z) id) _ _ hm))) (by rw [List.append_nil]; exact m5) fun b hb => .inl (by simpa using hb)
          refine ⟨a, b, xs', ys, rfl, rfl, m3, hb, by rw [m4.length, hm.length, sizeLine_eq]; omega, ?_⟩
          rw [k2] at h
          exact h .non _ [] O2 (Res.new t1 t2 (New.of_is rfl))
        · cases he2
      · cases hc'
    · rename_i hc'; split at hc' <;> cases hc'
    · exact h.elim
/-! ### a, b = x, y -/
/-- the first of the values put into a slot -/
theorem ResL.put1 {c : C} {cs : List C} {e1 : Slots} {v : V} {vs : List V} {H' : Hp} {A O' : List Addr} {i : Nat} (r : ResL K B O H σ (c :: cs) e1 (v :: vs) H' A O') (hi : i < e1.length) :
    ∃ A2 O2, ResL K B O H (σ.set i (some v)) cs (e1.set i (some c)) vs H' A2 O2 := by
  obtain ⟨v', vs', D1, D2, e0, rfl, hc, hl⟩ := r.rep
  cases e0
  obtain ⟨o, A1, A2, A3, g1, g2, g3, g4⟩ := RepE.at r.stt.rep (List.getElem?_eq_getElem hi)
  have nd := r.stt.nd
  rw [g2] at nd
  have nd1 := List.nodup_append.mp nd
  have nd2 := List.nodup_append.mp nd1.2.1
  have nD := List.nodup_append.mp r.nd
  have sub : ∀ a, a ∈ A1 ++ A3 → a ∈ O' := fun a ha => by rw [g2]; simp at ha ⊢; rcases ha with z | z <;> simp [z]
  have m3 : ∀ a, a ∈ A1 ++ (D1 ++ A3) → a ∈ D1 ∨ a ∈ A1 ++ A3 := fun a ha => by simp at ha ⊢; rcases ha with z | z | z <;> simp [z]
  have le : ∀ a, (B a ∨ a ∈ D2) ∨ a ∈ A1 ++ (D1 ++ A3) → (B a ∨ a ∈ D1 ++ D2) ∨ a ∈ O' := fun a z => by
    rcases z with (z | z) | z
    · exact .inl (.inl z)
    · exact .inl (.inr (by simp [z]))
    · exact (m3 a z).elim (fun z => .inl (.inr (by simp [z]))) fun z => .inr (sub a z)
  refine ⟨D2, A1 ++ (D1 ++ A3), RepL.kp (Kp.less le) _ _ _ (fun _ _ _ e => e) hl, ⟨?_, ?_, ?_, ?_⟩, nD.2.1, fun a ha => r.dj a (by simp [ha]), fun a o hw ha => ⟨(r.frm a o hw ha).1, fun z => ?_⟩⟩
  · exact g4 _ H' (some c) (some v) D1 (Kp.less le) (fun _ _ _ e => e) ⟨v, rfl, RepC.kp (Kp.less le) _ _ _ (fun _ _ _ e => e) hc⟩
  · refine List.nodup_append.mpr ⟨nd1.1, List.nodup_append.mpr ⟨nD.1, nd2.2.1, fun a ha b hb e => ?_⟩, fun a ha b hb e => ?_⟩
    · subst e; exact r.stt.dj a (sub a (by simp [hb])) (.inr (by simp [ha]))
    · subst e
      rcases List.mem_append.mp hb with z | z
      · exact r.stt.dj a (sub a (by simp [ha])) (.inr (by simp [z]))
      · exact nd1.2.2 a ha a (by simp [z]) rfl
  · intro a ha z
    rcases m3 a ha with y | y
    · exact z.elim (r.dj a (by simp [y])) fun z => nD.2.2 a y a z rfl
    · exact r.stt.dj a (sub a y) (z.imp id fun z => by simp [z])
  · exact fun a z => r.stt.tr a (z.imp id fun z => by simp [z])
  · refine (r.frm a o hw ha).2 ?_
    rcases z with z | z
    · exact .inl (by simp [z])
    · exact (m3 a z).elim (fun z => .inl (by simp [z])) fun z => .inr (sub a z)
theorem ResL.done {e1 : Slots} {H' : Hp} {A O' : List Addr} (r : ResL K B O H σ [] e1 [] H' A O') : Stt K B H' σ e1 O' ∧ Frm O H [] O' H' := ⟨r.stt.less fun a z => .inl z, r.frm0⟩
def sPar (is : List Nat) (fs : List (M C)) : SS := fun env => sOf (evMs fs env) fun cs e => .nx ((is.zip cs).foldl (fun e (p : Nat × C) => e.set p.1 (some p.2)) e)
theorem rdM_s {fs : List (M C)} {k : List C → Slots → SOut} {D : Ends} {Q : List V → Hp → Prop} (s : Stt X.K B H σ env O) (h : SPost X w pn D B O σ H (sOf (evMs fs env) k))
    (i : ∀ cs e vs H' A O', evMs fs env = .ok cs e → ResL X.K B O H σ cs e vs H' A O' → SPost X w pn D B O σ H (k cs e) → Q vs H') : rdM X w fs σ H Q := by
  refine ⟨B, env, O, s, ?_⟩
  unfold sOf at h
  cases ef : evMs fs env with
  | no => rw [ef] at h; exact h
  | err x e => rw [ef] at h; exact fun cls d H' O' x => h σ cls d H' O' x Pin.refl
  | ok c e => rw [ef] at h; exact fun v H' A O' r => i c e v H' A O' ef r h
theorem ResL.len {cs : List C} {vs : List V} {H1 : Hp} {A O1 : List Addr} {e1 : Slots} (r : ResL K B O H σ cs e1 vs H1 A O1) : e1.length = σ.length := r.stt.len.symm
theorem s_par {i j : Nat} {x y : Str} {a b : Expr} {f g : M C} {px py pt : Pos} {kt k2 pt2} (hc : X.calm = true) (hN : X.N.Nodup) (hi : X.N[i]? = some x) (hj : X.N[j]? = some y) (hij : i ≠ j)
    (hx : X.env.scope.names.lookup x = some .local) (hy : X.env.scope.names.lookup y = some .local) (ha : AMk X w [a, b] [f, g]) (hpi : i ∉ pn := by decide) (hpj : j ∉ pn := by decide)
    (hw : swappedStores [.Tuple [.Name x px, .Name y py] kt pt] (.Tuple [a, b] k2 pt2) X.env = pure (some [x, y]))
    (hs : swapsWithSole [.Tuple [.Name x px, .Name y py] kt pt] (.Tuple [a, b] k2 pt2) pos.line X.env = pure false := by rfl) :
    SOk X w pn (.Assign [.Tuple [.Name x px, .Name y py] kt pt] (.Tuple [a, b] k2 pt2) pos) (sPar [i, j] [f, g]) := ⟨fun pins s σ H D I h => (ps_par hc hN hi hj hij hx hy ha hw hs).run pins s σ H D I (by
  obtain ⟨B, env, O, st, h⟩ := h
  refine rdM_s st h fun cs e vs H' A O' ec r h => ?_
  have hl := evMs_len ec
  have hv := r.rep.length
  obtain ⟨c1, c2, rfl⟩ : ∃ c1 c2, cs = [c1, c2] := by
    match cs, hl with
    | [c1, c2], _ => exact ⟨c1, c2, rfl⟩
  obtain ⟨v1, v2, rfl⟩ : ∃ v1 v2, vs = [v1, v2] := by
    match vs, hv with
    | [v1, v2], _ => exact ⟨v1, v2, rfl⟩
  have hn := I.len
  obtain ⟨A2, O2, r2⟩ := r.put1 (i := i) (by rw [r.len, hn]; exact lt_of_N hi)
  obtain ⟨A3, O3, r3⟩ := r2.put1 (i := j) (by rw [r2.len, List.length_set, hn]; exact lt_of_N hj)
  obtain ⟨s3, f3⟩ := r3.done
  exact ⟨v1, v2, rfl, h _ H' O3 s3 f3 ((Pin.set hpi).trans (Pin.set hpj))⟩)⟩
theorem s_par3 {i j l : Nat} {x y z : Str} {a b c : Expr} {f g k : M C} {px py pz pt : Pos} {kt k2 pt2} (hc : X.calm = true) (hN : X.N.Nodup) (hi : X.N[i]? = some x) (hj : X.N[j]? = some y) (hl : X.N[l]? = some z) (hij : i ≠ j) (hil : i ≠ l) (hjl : j ≠ l)
    (hx : X.env.scope.names.lookup x = some .local) (hy : X.env.scope.names.lookup y = some .local) (hz : X.env.scope.names.lookup z = some .local) (ha : AMk X w [a, b, c] [f, g, k]) (hpi : i ∉ pn := by decide) (hpj : j ∉ pn := by decide) (hpl : l ∉ pn := by decide)
    (hw : swappedStores [.Tuple [.Name x px, .Name y py, .Name z pz] kt pt] (.Tuple [a, b, c] k2 pt2) X.env = pure (some [x, y, z]))
    (hs : swapsWithSole [.Tuple [.Name x px, .Name y py, .Name z pz] kt pt] (.Tuple [a, b, c] k2 pt2) pos.line X.env = pure false := by rfl) :
    SOk X w pn (.Assign [.Tuple [.Name x px, .Name y py, .Name z pz] kt pt] (.Tuple [a, b, c] k2 pt2) pos) (sPar [i, j, l] [f, g, k]) := ⟨fun pins s σ H D I h => (ps_par3 hc hN hi hj hl hij hil hjl hx hy hz ha hw hs).run pins s σ H D I (by
  obtain ⟨B, env, O, st, h⟩ := h
  refine rdM_s st h fun cs e vs H' A O' ec r h => ?_
  have hl' := evMs_len ec
  have hv := r.rep.length
  obtain ⟨c1, c2, c3, rfl⟩ : ∃ c1 c2 c3, cs = [c1, c2, c3] := by
    match cs, hl' with
    | [c1, c2, c3], _ => exact ⟨c1, c2, c3, rfl⟩
  obtain ⟨v1, v2, v3, rfl⟩ : ∃ v1 v2 v3, vs = [v1, v2, v3] := by
    match vs, hv with
    | [v1, v2, v3], _ => exact ⟨v1, v2, v3, rfl⟩
  have hn := I.len
  obtain ⟨A2, O2, r2⟩ := r.put1 (i := i) (by rw [r.len, hn]; exact lt_of_N hi)
  obtain ⟨A3, O3, r3⟩ := r2.put1 (i := j) (by rw [r2.len, List.length_set, hn]; exact lt_of_N hj)
  obtain ⟨A4, O4, r4⟩ := r3.put1 (i := l) (by rw [r3.len, List.length_set, List.length_set, hn]; exact lt_of_N hl)
  obtain ⟨s3, f3⟩ := r4.done
  exact ⟨v1, v2, v3, rfl, h _ H' O4 s3 f3 (((Pin.set hpi).trans (Pin.set hpj)).trans (Pin.set hpl))⟩)⟩
/-! ### name = [.. for ..] -/
theorem s_setC {i : Nat} {y : Str} {py spos : Pos} {elt tg iter : Expr} {ifs : List Expr} {scope : Scope} {own : List (Str × Nat)} {js : List Nat} {t : Tg} {q : PB} {p : P} {src : PLs} (hc : X.calm = true) (hN : X.N.Nodup) (hy : X.N[i]? = some y) (hyl : X.env.scope.names.lookup y = some .local)
    (hsw : swapsWith (.ListComp elt [⟨tg, iter, ifs, 0⟩] scope pos) (some (.Name y py)) spos.line X.env = pure true) (hi : IGk X tg iter src) (ok : BlkOk X.N X.env.scope scope own)
    (hg : ∀ (s : Shared) (H : Hp) (C : Addr) (cl : List (Str × Addr)) (fp : List Addr), GOk (X.blk s H scope (compEnvC scope cl C X.env) fp) true tg js t) (ht : ∀ (s : Shared) (H : Hp) (C : Addr) (cl : List (Str × Addr)) (fp : List Addr), TsOk (X.blk s H scope (compEnvC scope cl C X.env) fp) ifs q)
    (he : ∀ (s : Shared) (H : Hp) (C : Addr) (cl : List (Str × Addr)) (fp : List Addr), POk (X.blk s H scope (compEnvC scope cl C X.env) fp) elt p) (hj : ∀ j ∈ js, j ∈ own.map (·.2)) (hp : i ∉ pn := by decide) (hs : ∀ x, foldedSetIterable iter X.env x = pure x := by intro _; rfl) :
    SOk X w pn (.Assign [.Name y py] (.ListComp elt [⟨tg, iter, ifs, 0⟩] scope pos) spos) (sSet i (eF (fComp (own.map (·.2)) t q p src))) := ⟨fun pins s σ H D I h => (s_setLc (w := w) (pn := pn) hc hN hy hyl hsw hi ok hg ht he hj hs).run pins s σ H D I (by
  obtain ⟨B, env, O, st, h⟩ := h
  have q : rdE X w (eF (fComp (own.map (·.2)) t q p src)) σ H (fun v H' => D.nx (σ.set i (some v)) H') := rdE_s st h fun c e v H' A O' r h => by
    obtain ⟨O2, s2, f2⟩ := r.put (i := i) (by rw [r.len, I.len]; exact lt_of_N hy)
    exact h _ H' O2 s2 f2 (Pin.set hp)
  exact eF_of σ H _ q)⟩
/-! ### a call whose result stays one's own -/
def eFnO (m : List C → Out C) (fs : List (M C)) : M C := fun env => (evMs fs env).bind fun cs e1 => match m cs with
  | .ok c _ => .ok c e1
  | .err x _ => .err x e1
  | .no => .no
theorem e_fnO {k : Nat} {x : Str} {st : Stmt} {qs : List Str} {m : List C → Out C} {fs : List (M C)} (F : FnM X.prog X.w X.K X.mg X.base k x st qs m) (bd : BindP x st qs) (hg : X.A.guards = some []) (hr : Room k X.A) (tk : Takes X w) (gl : Gl X x) (ha : AMk X w (e :: es) fs) (hl : fs.length = qs.length := by rfl)
    (hdb : (x == ("__debug__" : Str)) = false := by decide) (he : starEach (e :: es) X.env = (false, eval e X.env) :: starEach es X.env := by rfl) (hpl : (backTo pos (starEach es X.env)).any (·.1) = false := by rfl) :
    EOk X w (.Call (.Name x pp) (e :: es) [] pos) (eFnO m fs) := by
  obtain ⟨f, kV, doc, pm, an, cdv, ct, hm, kp, G⟩ := F.ex
  refine ⟨fun pins s σ H Q I h => ?_⟩
  have want : rdM X w fs σ H fun vs H1 => spM X.K X.mg qs.length m vs H1 Q (EofW w σ) := by
    obtain ⟨B, env, O, st, h⟩ := h
    refine ⟨B, env, O, st, ?_⟩
    unfold eFnO at h
    cases er : evMs fs env with
    | no => simp only [er, Out.bind] at h
    | err y e => simp only [er, Out.bind] at h; exact h
    | ok cs e1 =>
      simp only [er, Out.bind] at h
      intro vs H1 A O1 r
      refine ⟨by rw [r.rep.length, evMs_len er]; exact hl, fun a => B a ∨ a ∈ O1, cs, A, r.args, ?_⟩
      cases em : m cs with
      | no => rw [em] at h; exact h
      | err y outs =>
        rw [em] at h
        intro cls d H' O' x2
        obtain ⟨s2, f2⟩ := r.stay (A2 := []) x2.frm
        exact h cls d H' O1 (XRes.mk' x2.cls (x2.xfs.less fun a z => .inl z) s2 f2)
      | ok c outs =>
        rw [em] at h
        intro u H' A2 O2 r2
        obtain ⟨s2, f2⟩ := r.stay r2.frm
        have tA : ∀ a ∈ A2, ∃ u : MHO, H' a = some u.1 := RepC.trk _ _ _ r2.rep
        have nA : ∀ a ∈ A2, a ∉ O1 := fun a ha z => r2.dj a ha (.inr z)
        refine h u H' A2 O1 ⟨RepC.kp (Kp.less fun a z => ?_) _ _ _ (fun _ _ _ e => e) r2.rep, ⟨RepE.kp (fun a o hw ha => ?_) (fun a ha o e => (r2.frm a o (fun z => r.stt.dj a ha (.inr z)) e).1) r.stt.rep, s2.nd, fun a ha z => z.elim (s2.dj a ha) fun z => nA a z ha, fun a z => z.elim (s2.tr a) (tA a)⟩, r2.nd, fun a ha z => r2.dj a ha (.inl z), fun a o hw ha => ?_⟩
        · rcases z with (z | z) | z
          · exact .inl (.inl (.inl z))
          · exact .inl (.inr z)
          · exact .inl (.inl (.inr z))
        · obtain ⟨q1, q2⟩ := r2.frm a o (fun z => hw (.inl (.inr z))) ha
          exact ⟨q1, fun z => z.elim (fun z => z.elim (fun z => hw (.inl (.inl z))) fun z => q2 (.inl z)) fun z => hw (.inr z)⟩
        · obtain ⟨q1, q2⟩ := r.frm a o hw ha
          obtain ⟨q3, q4⟩ := r2.frm a o (fun z => q2 (.inl z)) q1
          exact ⟨q3, fun z => z.elim (fun z => q4 (.inl z)) fun z => q2 (.inr z)⟩
  refine wpAny_Call_Name_kw (ld_glob I gl hm ?_ hdb)
  refine PySem.W.callWith_K (h₀ := X.base) I.ok.mod.kin kp (thn (ha.run pos pins s σ H _ I want) ?_) he hpl
  rintro us s1 ⟨vs, H1, I1, r1, q1⟩
  exact ⟨I1.kIn, run_G G hg hr (fun e s' c => tk e s' (XE.of_call I1 (fun _ _ _ z => z) c)) (.of_eq (bd kV doc pm an cdv ct us (r1.length.symm.trans q1.1))) I1 r1 q1⟩
end
end PL
namespace PL
open PySem PySem.Spec PySem.W PyProof.Rows L2
section
variable {X : Cx} {w : WX} {H : Hp} {σ : L2.St} {e : Expr} {es : List Expr} {p q r : P} {ps : List P} {pos pp : Pos} {K : PySem.W.Frag} {mg : Str → Option Value} {B : Addr → Prop} {O : List Addr} {env : Slots} {st : Stmt} {rest : List Stmt} {pn : List Nat}
/-! ### divmod -/
def dmD : D → D → Option D
  | .int a, .int b => if 0 < b ∧ Builtin.divisionGoesByPylong a b = false then some (.tup [.int (a / b), .int (a % b)]) else none
  | _, _ => none
def pDm (p q : P) : P := fun env => match p env, q env with
  | some a, some b => dmD a b
  | _, _ => none
theorem p_divmod {a b : Expr} (hg : Gl X "divmod") (hm : X.mg "divmod" = none) (ha : ABk X [a, b] [p, q]) (he : starEach [a, b] X.env = (false, eval a X.env) :: starEach [b] X.env := by rfl) (hpl : (backTo pos (starEach [b] X.env)).any (·.1) = false := by rfl) :
    POk X (.Call (.Name "divmod" pp) [a, b] [] pos) (pDm p q) :=
  (pe_callB call_divmodW hg hm (by decide +kernel) ha (by decide) (by decide) he hpl).imp fun σ H Q h => by
    obtain ⟨B, env, O, s, d, hp, h⟩ := h
    unfold pDm at hp
    split at hp
    · rename_i d1 d2 e1 e2
      unfold dmD at hp
      split at hp
      · split at hp
        · rename_i i j hc
          cases hp
          refine ⟨B, env, O, s, [.int i, .int j], by simp [evPs, e1, e2], fun vs H1 g1 hv => ?_⟩
          obtain ⟨x, y, rfl, hx, hy⟩ := hv.two
          rw [show x = _ from hx, show y = _ from hy]
          refine ⟨i, j, rfl, hc, fun t ht => ?_⟩
          have g2 : Grw H1 (upd H1 t (.tup [.int (i / j), .int (i % j)])) := fun b o e => by rw [upd_ne (ne_of_none e ht)]; exact e
          refine h _ _ (g1.trans g2) ⟨t, _, rfl, upd_same, fun z => ?_, _, _, rfl, rfl, _, _, rfl, rfl, rfl⟩
          obtain ⟨u, e⟩ := (s.grw g1).trk t z
          rw [ht] at e; cases e
        · cases hp
      · cases hp
    · cases hp
end
/-! ### a def by its body -/
def startE (n : Nat) (cs : List C) : Slots := cs.map some ++ List.replicate (n - cs.length) none
def outsE (pn : List Nat) : Nat → Nat → Slots → Slots
  | _, 0, _ => []
  | _, _ + 1, [] => []
  | k, n + 1, oc :: r => (if pn.contains k then oc else none) :: outsE pn (k + 1) n r
/-- what a body makes of the arguments (N: how many slots; pn: the lent ones; a: how many parameters) -/
def bodyM (N : Nat) (pn : List Nat) (a : Nat) (f : SS) : List C → Out C := fun cs => match f (startE N cs) with
  | .nx e => .ok (.frz .non) (outsE pn 0 a e)
  | .rt c e => .ok c (outsE pn 0 a e)
  | .err x e => .err x (outsE pn 0 a e)
  | _ => .no
theorem RepE.nones {K : PySem.W.Frag} {W : Addr → Prop} {H : Hp} : ∀ n : Nat, RepE K W H (List.replicate n none) (List.replicate n none) []
  | 0 => ⟨rfl, rfl⟩
  | n + 1 => ⟨none, List.replicate n none, [], [], rfl, rfl, rfl, RepE.nones n⟩
theorem RepE.app {K : PySem.W.Frag} {W : Addr → Prop} {H : Hp} {e2 : Slots} {σ2 : List (Option V)} (h2 : RepE K W H e2 σ2 []) : ∀ {e1 : Slots} {σ1 : List (Option V)} {A : List Addr}, RepE K W H e1 σ1 A → RepE K W H (e1 ++ e2) (σ1 ++ σ2) A
  | [], σ1, A, h => by
    obtain ⟨rfl, rfl⟩ := h
    exact h2
  | oc :: r, σ1, A, h => by
    obtain ⟨o, τ, A1, A2, rfl, rfl, h3, h4⟩ := h
    exact ⟨o, τ ++ σ2, A1, A2, rfl, rfl, h3, RepE.app h2 h4⟩
theorem Stt.start {K : PySem.W.Frag} {B : Addr → Prop} {H : Hp} {cs : List C} {vs : List V} {O : List Addr} (N : List Str) (s : Stt K B H (vs.map some) (cs.map some) O) : Stt K B H (L2.start N vs) (startE N.length cs) O := by
  have hl : vs.length = cs.length := by have := s.len; simpa using this
  unfold L2.start startE
  rw [hl]
  exact ⟨RepE.app (RepE.nones _) s.rep, s.nd, s.dj, s.tr⟩
theorem RepE.outs {K : PySem.W.Frag} {W : Addr → Prop} {H : Hp} {pn : List Nat} : ∀ {n k : Nat} {e : Slots} {σ τ : List (Option V)} {A : List Addr}, RepE K W H e σ A → τ.length = n → n ≤ e.length → (∀ i, k + i ∈ pn → i < n → σ[i]? = τ[i]?) → ∃ A', A'.Sublist A ∧ RepE K W H (outsE pn k n e) τ A'
  | 0, k, e, σ, τ, A, h, ht, hl, hp => ⟨[], List.nil_sublist _, by
    rw [List.eq_nil_of_length_eq_zero ht]
    unfold outsE
    exact ⟨rfl, rfl⟩⟩
  | n + 1, k, [], σ, τ, A, h, ht, hl, hp => by simp at hl
  | n + 1, k, oc :: r, σ, τ, A, h, ht, hl, hp => by
    obtain ⟨o, σ', A1, A2, rfl, rfl, h1, h2⟩ := h
    cases τ with
    | nil => simp at ht
    | cons t τ =>
      obtain ⟨A', sub, h3⟩ := RepE.outs (n := n) (k := k + 1) (τ := τ) h2 (by simpa using ht) (by simpa using hl) fun i hi hn => by
        have := hp (i + 1) (by rw [show k + (i + 1) = k + 1 + i by omega]; exact hi) (by omega)
        simpa using this
      unfold outsE
      by_cases hk : pn.contains k = true
      · rw [if_pos hk]
        refine ⟨A1 ++ A', List.Sublist.append (List.Sublist.refl _) sub, t, τ, A1, A', rfl, rfl, ?_, h3⟩
        have := hp 0 (by simpa using hk) (by omega)
        simp at this
        rw [← this]
        exact h1
      · rw [if_neg hk]
        exact ⟨A', List.Sublist.trans sub (List.sublist_append_right _ _), t, τ, [], A', rfl, rfl, rfl, h3⟩
theorem Stt.outs {K : PySem.W.Frag} {B : Addr → Prop} {H : Hp} {σ : List (Option V)} {vs : List V} {e : Slots} {O : List Addr} {pn : List Nat} {N : List Str} (s : Stt K B H σ e O) (hl : vs.length ≤ e.length) (hp : Pin pn (L2.start N vs) σ) :
    ∃ O', O'.Sublist O ∧ Stt K B H (vs.map some) (outsE pn 0 vs.length e) O' := by
  obtain ⟨A', sub, h⟩ := RepE.outs (pn := pn) (k := 0) (τ := vs.map some) s.rep (by simp) hl fun i hi hn => by
    rw [hp.2 i (by simpa using hi)]
    unfold L2.start
    rw [List.getElem?_append_left (by simpa using hn)]
  exact ⟨A', sub, RepE.kp (Kp.less fun a z => z.imp id (sub.subset ·)) (fun _ _ _ e => e) h, s.nd.sublist sub, fun a ha => s.dj a (sub.subset ha), s.tr⟩
/-- THE RULE: a def, by its body's reading -/
theorem fnG_of {Pr : Program} {w : World} {K : PySem.W.Frag} {mg : Str → Option Value} {base : Heap} {k : Nat} {f : Addr} {nm qu : Str} {pa : Arguments} {body : List Stmt} {sc : Scope} {dV kV doc pm cdv ct oc : Value} {an od : Option Addr}
    {osl : Array (Option Value)} {N ps : List Str} {pn : List Nat} {g : SS} (lk : K.lookup f = some ⟨oc, od, .func (PySem.W.fnOf nm qu pa body sc dV kV doc pm an cdv ct), osl⟩) (hcd : PySem.W.codeIn K cdv qu = true) (S : FnScope N ps sc)
    (hb : ∀ (A : Around) (outer : List Env) (s : Shared) (H : Hp) (E : XK), A.guards = some [] → Room k (A.deeper (envOfC qu sc s.heap.objs.size f cdv)) →
      SsOk (cxOf (CY Pr w) Pr w K mg base N qu sc f cdv A outer s H E) (fun cls d _ H' => E cls d H') pn body g) :
    FnG Pr w K mg base (k + 1) f (PySem.W.fnOf nm qu pa body sc dV kV doc pm an cdv ct) ps (spM K mg ps.length (bodyM N.length pn ps.length g)) :=
  fn_ofG lk hcd S (fun vs H Q E h => h.1) fun A outer s H vs Q E hg hr h => by
    refine ⟨_, hb A outer s H E hg hr, ?_⟩
    obtain ⟨hl, B, cs, O, st, h⟩ := h
    have hpl : ps.length ≤ N.length := by have := congrArg List.length S.pre; rw [List.length_take] at this; omega
    have hcs : cs.length = vs.length := by have := st.len; simp at this; exact this.symm
    refine ⟨B, startE N.length cs, O, st.start N, ?_⟩
    have lenS : (L2.start N vs).length = N.length := by
      unfold L2.start
      rw [List.length_append, List.length_map, List.length_replicate]; omega
    unfold bodyM at h
    rw [← hl] at h
    have lenE : ∀ {σ' : List (Option V)} {e : Slots} {B' : Addr → Prop} {H' : Hp} {O' : List Addr}, Stt K B' H' σ' e O' → Pin pn (L2.start N vs) σ' → vs.length ≤ e.length := fun s' p' => by
      rw [← s'.len, p'.1, lenS]; omega
    have subF : ∀ {A' O' O2 : List Addr} {H' : Hp}, Frm O H A' O' H' → O2.Sublist O' → Frm O H A' O2 H' := fun f sub => Frm.sub f fun a z => sub.subset z
    cases eg : g (startE N.length cs) with
    | no => rw [eg] at h; exact h
    | bk e => rw [eg] at h; exact h.elim
    | ct e => rw [eg] at h; exact h.elim
    | nx e =>
      rw [eg] at h
      intro σ' H' O' s' f' p'
      obtain ⟨O2, sub, s2⟩ := s'.outs (lenE s' p') p'
      exact h .non H' [] O2 (Res.new s2 (subF f' sub) (New.of_is rfl))
    | rt c e =>
      rw [eg] at h
      intro σ' v H' A' O' r p'
      obtain ⟨O2, sub, s2⟩ := r.stt.outs (lenE r.stt p') p'
      exact h v H' A' O2 ⟨RepC.kp (Kp.less fun a z => z.imp id (sub.subset ·)) _ _ _ (fun _ _ _ e => e) r.rep, s2, r.nd, r.dj, subF r.frm sub⟩
    | err x e =>
      rw [eg] at h
      intro σ' cls d H' O' r p'
      obtain ⟨O2, sub, s2⟩ := r.stt.outs (lenE r.stt p') p'
      exact h cls d H' O2 (XRes.mk' r.cls (r.xfs.less fun a z => z.imp id (sub.subset ·)) s2 (subF r.frm sub))
end PL
namespace PL
open PySem PySem.Spec PySem.W PyProof.Rows L2
/-! ### the law's end -/
/-- the table of modules stands -/
def SysD (h : Heap) : Prop := ∃ (o : Obj) (es : Array DictEntry) (ep : Nat), h.get? sysModules = some o ∧ o.data = .dict es ep
theorem SysD.of {h : Heap} (x : h.NoSeer) : SysD h := by
  obtain ⟨mm, ⟨o, es, ep, e, d, _⟩, _⟩ := x.mods
  exact ⟨o, es, ep, e, d⟩
theorem SysD.keeps {h h' : Heap} (x : SysD h) (k : ∀ b o, h.get? b = some o → h'.get? b = some o) : SysD h' := let ⟨o, es, ep, e, d⟩ := x; ⟨o, es, ep, k _ _ e, d⟩
/-- the law's def, promised over every base -/
theorem law_callG {P : Program} {w : World} {K : PySem.W.Frag} {mg mb : Str → Option Value} {k : Nat} {fa sa : Addr} {fd : FuncData} {x : Str} {m : List C → Out C} {s0 : Shared} {vs : List Value} {ns : List Int} {c : C} {outs : Slots}
    (KX : K.In s0.heap) (hns : s0.heap.Ns mainGlobals mg) (hb : s0.heap.Ns builtinsNs mb) (hbb : ∀ x : Str, x ≠ "__name__" → mb x = bootBuiltins x) (hlim : s0.heap.NoLimit) (hg : s0.gens = #[])
    (hs : s0.heap.get? sa = some { cls := .type "list", data := .seq vs.toArray }) (hi : IntsAre vs ns) (hl : ns.length ≤ sizeLine) (hr : Room k PySem.callerA)
    (hsys : SysD s0.heap) (F : ∀ base : Heap, K.In base → base.Ns mainGlobals mg → SysD base → FnG P w K mg base k fa fd [x] (spM K mg 1 m)) (hbind : ∀ (s : Shared) (u : Value), BindsTo s fd ⟨[u], []⟩ [(x, u)])
    (hm : m [.frz (.ro ns)] = .ok c outs) (hc : c.toD = .bl true) :
    codeAny (model P w) PySem.callerA (.call (.ref fa) ⟨[.ref sa], []⟩) (fun r s' => r = .ok (.ret (.bool true)) ∧ OldK s0.heap s'.heap ∧ s'.os = s0.os ∧ AllBare s'.gens) s0 := by
  have rv := vals_ints hi
  have lv := hi.length
  have main : ∀ H : Hp, Only H → SqL K H sa (ns.map V.int) → HOk P w H s0.heap → (∀ b, H b ≠ none → b = sa) → (H sa ≠ none → K.lookup sa = none) →
      codeAny (model P w) PySem.callerA (.call (.ref fa) ⟨[.ref sa], []⟩) (fun r s' => r = .ok (.ret (.bool true)) ∧ OldK s0.heap s'.heap ∧ s'.os = s0.os ∧ AllBare s'.gens) s0 := by
    intro H hO hS hok only noK
    have base : ∀ {b : Addr} {o : Obj}, s0.heap.get? b = some o → H b = none → (hidT s0.heap H).get? b = some o := fun e n => hidT_get e n
    have same : ∀ {b : Addr} {u : HO}, H b = some u → b = sa := fun q => only _ (by rw [q]; exact fun z => nomatch z)
    have dct : ∀ {b : Addr} {o : Obj} {es : Array DictEntry} {ep : Nat}, s0.heap.get? b = some o → o.data = .dict es ep → H b = none := fun {b o es ep} e d => by
      cases q : H b with
      | none => rfl
      | some u =>
        cases same q
        rw [hs] at e
        cases e
        exact absurd d (fun z => nomatch (z : Data.seq vs.toArray _ = Data.dict es ep))
    have nsB : ∀ {b : Addr} {f : Str → Option Value}, s0.heap.Ns b f → (hidT s0.heap H).Ns b f := fun ⟨o, es, ep, e, d, r⟩ => ⟨o, es, ep, base e (dct e d), d, r⟩
    have kB : K.In (hidT s0.heap H) := fun b o e => base (KX b o e) (by
      cases q : H b with
      | none => rfl
      | some u =>
        cases same q
        rw [noK (by rw [q]; exact fun z => nomatch z)] at e
        cases e)
    have md : Mod K mg (hidT s0.heap H) := ⟨kB, nsB hns, ⟨mb, nsB hb, hbb⟩, let ⟨mc, q1, q2⟩ := hlim; ⟨mc, nsB q1, q2⟩⟩
    have ev : Env0 P w K mg (hidT s0.heap H) PySem.callerA [] s0 H := ⟨rfl, md, fun b o e => of_hidT e, Nat.le_of_eq (hidT_size _ _), trivial, fun b z => (nomatch z), hok, .of_eq hg⟩
    have sysB : SysD (hidT s0.heap H) := let ⟨o, es, ep, e, d⟩ := hsys; ⟨o, es, ep, base e (dct e d), d⟩
    have want : spM K mg 1 m [.ref sa] H (fun v _ => v = .bl true) fun _ _ _ => False := by
      refine ⟨rfl, fun _ => False, [.frz (.ro ns)], [], ⟨⟨some (.ref sa), [], [], [], rfl, rfl, ⟨.ref sa, rfl, rfl, sa, rfl, ?_⟩, rfl, rfl⟩, .nil, fun _ z => (nomatch z), fun _ z => z.elim⟩, ?_⟩
      · exact hS.imp (fun z => ⟨z, fun y => y.elim id fun y => nomatch y⟩) id
      · rw [hm]
        intro u H' A O' r
        have q := r.is
        rw [hc] at q
        exact q
    refine codeAny_mono ((F _ kB (nsB hns) sysB).run PySem.callerA [] s0 H ⟨[.ref sa], []⟩ [.ref sa] [.ref sa] _ _ rfl hr ev (hbind s0 (.ref sa)) (.cons rfl .nil) want) fun r s' h => ?_
    cases r with
    | error e =>
      obtain ⟨_, _, _, _, _, _, _, _, _, _, _, _, z⟩ := h
      exact z.elim
    | ok fl =>
      cases fl with
      | ret u =>
        obtain ⟨v, H', q1, q2, un, q4, q5, q6⟩ := h
        cases (show v = .bl true from q6)
        cases (show u = Value.bool true from q5)
        refine ⟨rfl, OldK.of_keep fun b o e => ?_, q1, q2⟩
        cases q : H b with
        | none => exact un.keep b o e q (fun z => nomatch z) (by simp)
        | some u =>
          rcases hO b with z | ⟨ob, xs, z⟩
          · rw [q] at z; cases z
          · obtain ⟨e1, _⟩ := hok b _ z
            obtain ⟨e2, _⟩ := q4 b _ (un.frzs b ob _ z)
            rw [e] at e1; cases e1
            exact e2
      | next => exact h.elim
      | brk => exact h.elim
      | cont => exact h.elim
  cases hk : K.lookup sa with
  | some o =>
    have e := KX sa o hk
    rw [hs] at e
    cases e
    refine main (fun _ => none) (fun _ => .inl rfl) (.inr ⟨_, vs.toArray, _, hk, rfl, rfl, rfl, by rw [List.size_toArray, lv]; exact hl, by simpa using rv⟩) (fun b u z => nomatch (z : (none : Option HO) = some u)) (fun b z => absurd rfl z) fun z => absurd rfl z
  | none =>
    refine main (fun b => if b = sa then some (.frz { cls := .type "list", data := .seq vs.toArray } (.lst (ns.map V.int))) else none) (fun b => ?_) (.inl (.inr ⟨{ cls := .type "list", data := .seq vs.toArray }, if_pos rfl⟩)) (fun b u z => ?_) (fun b z => ?_) fun _ => hk
    · by_cases q : b = sa
      · exact .inr ⟨_, _, if_pos q⟩
      · exact .inl (if_neg q)
    · by_cases q : b = sa
      · cases (if_pos q).symm.trans z
        subst q
        exact ⟨hs, by rw [List.length_map]; exact hl, vs, _, rv, hs⟩
      · cases (if_neg q).symm.trans z
    · by_cases q : b = sa
      · exact q
      · exact absurd (if_neg q) z
theorem walk_ofG {l : PySem.W.OpenLaw} {n k : Nat} {q : Program} {loose : List Str} {XP : (Str → Option Value) → Heap → Prop} {YP : World → Heap → Prop} {d : PySem.DefRec} {K : PySem.Params → PySem.W.Frag} {x : Str}
    (hn : l.most = some n) (hn2 : n ≤ sizeLine) (hdf : d.params.defaults = []) (hr : Room k PySem.callerA)
    (hq : PyProof.Rows.importsNone q = true) (hY : ∀ (w : World) (h : Heap), YP w h → (K w.params).In h)
    (F : ∀ (w : World) (mg : Str → Option Value) (fa : Addr) (h : Heap), (K w.params).In h → h.Ns mainGlobals mg → mg d.name = some (.ref fa) →
      ∃ (fd : FuncData) (m : List C → Out C), (∀ (s : Shared) (u : Value), BindsTo s fd ⟨[u], []⟩ [(x, u)]) ∧
        (∀ base : Heap, (K w.params).In base → base.Ns mainGlobals mg → SysD base → FnG l.prog w (K w.params) mg base k fa fd [x] (spM (K w.params) mg 1 m)) ∧
        ∀ ns : List Int, ns.length ≤ n → (∀ z ∈ ns, Builtin.Int.intBits z ≤ 1048576) → ∃ c outs, m [.frz (.ro ns)] = .ok c outs ∧ c.toD = .bl true) :
    PySem.W.WalkO q loose XP YP l.row.toRowW d [] (fun f vs => PySem.call f vs) := by
  refine Att.attach_callB hn hdf fun w s0 s1 mg mb fa o pm cd doc a vs ns G Y ho hd hcd hmg hobj hints hlen hbits hg => ?_
  obtain ⟨fd, m, hb, hF, hm⟩ := F w mg fa _ (hY w _ Y) G.T.g hmg
  obtain ⟨c, outs, e1, e2⟩ := hm ns hlen hbits
  exact law_callG (hY w _ Y) G.T.g G.T.b G.T.builtins G.T.nolimit hg hobj hints (Nat.le_trans hlen hn2) hr (.of (G.T.seer hq)) hF hb e1 e2
end PL
namespace PL
open PySem PySem.Spec PyProof.Rows L2
section
variable {X : Cx} {w : WX} {H : Hp} {σ : L2.St} {e : Expr} {es : List Expr} {p q r : P} {ps : List P} {pos pp : Pos} {K : PySem.W.Frag} {mg : Str → Option Value} {B : Addr → Prop} {O : List Addr} {env : Slots} {st : Stmt} {rest : List Stmt} {pn : List Nat}
/-! ### comprehensions whose parts may change what the slots hold -/
abbrev wN : WX := fun _ _ _ _ => False
def compM (vs : List Nat) (t : Tg) (q : PB) (f : M C) : List D → Slots → Option (List C × Slots)
  | [], e => some ([], e)
  | d :: r, e => match t d e with
    | none => none
    | some e1 => match q e1 with
      | none => none
      | some false => compM vs t q f r (wipeE e1 vs)
      | some true => match f e1 with
        | .ok c e3 => match compM vs t q f r (wipeE e3 vs) with
          | some (cs, e4) => some (c :: cs, e4)
          | none => none
        | _ => none
def freeE (vs : List Nat) (e : Slots) : Bool := vs.all fun v => isFree e[v]?
def eComp (vs : List Nat) (t : Tg) (q : PB) (f : M C) (src : M (List D)) : M C := fun env => (src env).bind fun l e1 => if freeE vs e1 && decide (l.length ≤ 100000) then (match compM vs t q f l e1 with
  | some (cs, e2) => .ok (.own cs) e2
  | none => .no) else .no
theorem freeE_out {vs : List Nat} {e : Slots} (h : freeE vs e = true) {i : Nat} {c : C} (g : e[i]? = some (some c)) : i ∉ vs := fun z => by
  have := List.all_eq_true.mp h i z
  rw [g] at this
  cases this
theorem free_wipe {e : Slots} : ∀ {vs us : List Nat}, (∀ v ∈ vs, v < e.length) → freeE vs (wipeE e vs) = true := by
  intro vs us h
  refine List.all_eq_true.mpr fun v hv => ?_
  cases g : (wipeE e vs)[v]? with
  | none =>
    rw [List.getElem?_eq_none_iff, wipeE_length] at g
    have := h v hv
    omega
  | some o =>
    cases o with
    | none => rfl
    | some c => exact absurd hv (wipeE_none g)
theorem freeE_lt {vs : List Nat} {e : Slots} (h : freeE vs e = true) : ∀ v ∈ vs, v < e.length := fun v hv => by
  have := List.all_eq_true.mp h v hv
  by_cases q : v < e.length
  · exact q
  · rw [List.getElem?_eq_none (by omega)] at this
    cases this
/-- slots of which nothing is known may change -/
theorem Stt.ext {τ : List (Option V)} (s : Stt K B H σ env O) (h : ∀ (i : Nat) (c : C), env[i]? = some (some c) → τ[i]? = σ[i]?) (hl : τ.length = σ.length) : Stt K B H τ env O := ⟨RepE.ext s.rep h hl, s.nd, s.dj, s.tr⟩
theorem lcM_of {js : List Nat} {t : Tg} {q : PB} {f : M C} {src : M (List D)} {vs : List Nat} (hj : ∀ j ∈ js, j ∈ vs) (σ : L2.St) (H : Hp) (Q : VK) (h : rdE X w (eComp vs t q f src) σ H Q) : tLc (rdID X w src) (rdG X true js t) (rdQ X q) (rdE X wN f) vs σ H Q := by
  obtain ⟨B, env, O, s, h⟩ := h
  refine ⟨B, env, O, s, ?_⟩
  unfold eComp at h
  cases es : src env with
  | no => rw [es] at h; exact h
  | err x e => rw [es] at h; exact h
  | ok its e0 =>
    rw [es] at h
    simp only [Out.bind] at h
    intro J H1 O1 s1 f1 wk D hD
    split at h
    case h_2 => rename_i hc; split at hc <;> (try split at hc) <;> cases hc
    case h_3 => exact h.elim
    rename_i cR eR hc
    split at hc
    case isFalse => cases hc
    rename_i hfree
    simp only [Bool.and_eq_true, decide_eq_true_eq] at hfree
    obtain ⟨hfree, hlen⟩ := hfree
    split at hc
    case h_2 => cases hc
    rename_i l eZ hcomp
    cases hc
    have gD : ∀ a o, H1 a = some o → upd H1 D (.lst []) a = some o := fun a o e => by rw [upd_ne (ne_of_none e hD)]; exact e
    have nD : ¬ B D := fun z => by
      obtain ⟨u, e⟩ := s1.tr D z
      rw [hD] at e; cases e
    have nDO : D ∉ O1 := fun z => by
      obtain ⟨u, e⟩ := RepE.trk s1.rep D z
      rw [hD] at e; cases e
    have lw : (L2.wipe σ vs).length = σ.length := L2.wipe_length σ vs
    have wout : ∀ i, i ∉ vs → (L2.wipe σ vs)[i]? = σ[i]? := fun i hi => by rw [wipe_get, if_neg hi]
    let Iv : Nat → Hp → Prop := fun i H2 => ∃ acc xs A e O2 rest, H2 D = some (.lst xs) ∧ Stt X.K (fun a => B a ∨ a ∈ D :: A) H2 (L2.wipe σ vs) e O2 ∧ RepL X.K (fun a => (B a ∨ a ∈ D :: A) ∨ a ∈ O2) H2 acc xs A ∧ (D :: A).Nodup ∧ (∀ a ∈ A, ¬ B a) ∧
      Kp (fun a => a ∈ O1) H1 (fun a => a ∈ D :: A ∨ a ∈ O2) H2 ∧ freeE vs e = true ∧ compM vs t q f (its.drop i) e = some (rest, eR) ∧ acc ++ rest = l ∧ acc.length ≤ i
    have start : Iv 0 (upd H1 D (.lst [])) := by
      have s2 : Stt X.K B H1 (L2.wipe σ vs) e0 O1 := s1.ext (fun i c g => wout i (freeE_out hfree g)) lw
      refine ⟨[], [], [], e0, O1, l, upd_same, s2.grow gD (fun a z => z.imp id fun z => by rw [List.mem_singleton.mp z]; exact hD) (fun a z => ?_), ⟨rfl, rfl⟩, by simp, fun _ z => (nomatch z), fun a o hw ha => ⟨gD a o ha, fun z => ?_⟩, hfree, by simpa using hcomp, rfl, Nat.le_refl _⟩
      · rcases z with z | z
        · obtain ⟨u, e⟩ := s1.tr a z; exact ⟨u, gD a u e⟩
        · rw [List.mem_singleton.mp z]; exact ⟨⟨.lst _, True.intro⟩, upd_same⟩
      · rcases z with z | z
        · rw [List.mem_singleton.mp z, hD] at ha; cases ha
        · exact hw z
    refine ⟨fun i m H2 => m = its.length - i ∧ i ≤ its.length ∧ Iv i H2, ⟨its.length, by simp, Nat.zero_le _, start⟩, ?_⟩
    rintro i m H2 ⟨rfl, hi2, acc, xs, A, e, O2, rest, k1, k2, k3, k4, k5, k6, k7, k8, k9, k10⟩
    have n4 := List.nodup_cons.mp k4
    obtain ⟨w1, w2, w3⟩ := wk (fun a => (B a ∨ a ∈ D :: A) ∨ a ∈ O2) H2 (fun a o hw ha => by
      obtain ⟨q1, q2⟩ := k6 a o (fun z => hw (.inr z)) ha
      refine ⟨q1, fun z => ?_⟩
      rcases z with (z | z) | z
      · exact hw (.inl z)
      · exact q2 (.inl z)
      · exact q2 (.inr z)) k2.trk
    by_cases hlt : i < its.length
    · refine .inr ⟨w1 i hlt, fun H' => Iv (i + 1) H', fun H' z => ⟨its.length - (i + 1), by omega, rfl, hlt, z⟩, fun x H3 y => ?_⟩
      obtain ⟨g3, d, hd, hx⟩ := w3 i x H3 hlt y
      have edrop : its.drop i = d :: its.drop (i + 1) := by
        rw [List.drop_eq_getElem_cons hlt]
        rw [List.getElem?_eq_getElem hlt] at hd
        cases hd; rfl
      rw [edrop] at k8
      unfold compM at k8
      cases et : t d e with
      | none => rw [et] at k8; cases k8
      | some e1 =>
        rw [et] at k8
        simp only [] at k8
        have kp3 : Kp (fun a => a ∈ O1) H1 (fun a => a ∈ D :: A ∨ a ∈ O2) H3 := fun a o hw ha => ⟨g3 a o (k6 a o hw ha).1, (k6 a o hw ha).2⟩
        refine ⟨_, e, O2, d, e1, k2.grw g3, hx, et, fun σ2 H3' O3 s3 f3 z3 q3 => ⟨?_, ?_⟩⟩
        · rw [z3.wipe hj]
          refine List.ext_getElem? fun i => ?_
          rw [wipe_get, wipe_get]
          by_cases hi : i ∈ vs
          · simp only [hi, if_true]; cases σ[i]? <;> rfl
          · simp only [hi, if_false]
        · obtain ⟨rfl, rfl⟩ := q3 rfl
          have z3' : ∀ i, i ∉ vs → (L2.wipe σ vs)[i]? = σ2[i]? := fun i hi => (z3.out i fun z => hi (hj i z)).symm
          have lt3 : ∀ v ∈ vs, v < σ2.length := fun v hv => by rw [z3.len, k2.len]; exact freeE_lt k7 v hv
          cases eq : q e1 with
          | none => rw [eq] at k8; cases k8
          | some b =>
            rw [eq] at k8
            refine ⟨_, e1, O3, s3, b, eq, fun H4 g4 => ?_⟩
            have kp4 : Kp (fun a => a ∈ O1) H1 (fun a => a ∈ D :: A ∨ a ∈ O3) H4 := fun a o hw ha => ⟨g4 a o (kp3 a o hw ha).1, (kp3 a o hw ha).2⟩
            have kG : RepL X.K (fun a => (B a ∨ a ∈ D :: A) ∨ a ∈ O3) H4 acc xs A := RepL.kp (fun a o hw ha => ⟨g4 a o (g3 a o ha), hw⟩) _ _ _ (fun a _ o ea => g4 a o (g3 a o ea)) k3
            cases b with
            | false =>
              simp only [] at k8
              obtain ⟨O4, sub, s4⟩ := (s3.grw g4).wiped (vs := vs) (τ := L2.wipe σ vs) z3' z3.len.symm
              refine iteF ⟨acc, xs, A, wipeE e1 vs, O4, rest, g4 _ _ (g3 _ _ k1), s4, RepL.kp (Kp.less fun a z => z.imp id (sub.subset ·)) _ _ _ (fun _ _ _ e => e) kG, k4, k5, fun a o hw ha => ⟨(kp4 a o hw ha).1, fun z => (kp4 a o hw ha).2 (z.imp id (sub.subset ·))⟩, free_wipe (us := []) (fun v hv => by rw [← s3.len]; exact lt3 v hv), k8, k9, by omega⟩
            | true =>
              simp only [] at k8
              cases ef : f e1 with
              | no => rw [ef] at k8; cases k8
              | err _ _ => rw [ef] at k8; cases k8
              | ok c e3 =>
                rw [ef] at k8
                simp only [] at k8
                split at k8
                case h_2 => cases k8
                rename_i cs e4 hrest
                cases k8
                refine iteT ⟨_, e1, O3, s3.grw g4, ?_⟩
                rw [ef]
                intro v H5 A5 O5 r5
                have hD5 : H5 D = some (.lst xs) := (r5.frm D _ (fun z => s3.dj D z (.inr (by simp))) (g4 _ _ (g3 _ _ k1))).1
                have nA5 : ∀ a ∈ A5, ¬ B a ∧ a ∉ D :: A := fun a ha => ⟨fun z => r5.dj a ha (.inl z), fun z => r5.dj a ha (.inr z)⟩
                have kA : ∀ a ∈ A, ∀ o, H4 a = some o → H5 a = some o := fun a ha o ea => (r5.frm a o (fun z => s3.dj a z (.inr (by simp [ha]))) ea).1
                obtain ⟨O6, sub, s6⟩ := r5.stt.wiped (vs := vs) (τ := L2.wipe σ vs) z3' z3.len.symm
                have H6D : ∀ a o, a ≠ D → H5 a = some o → upd H5 D (.lst (xs ++ [v])) a = some o := fun a o n ea => by rw [upd_ne n]; exact ea
                have memb : ∀ a, ((B a ∨ a ∈ D :: (A ++ A5)) ∨ a ∈ O6) → (((B a ∨ a ∈ D :: A) ∨ a ∈ A5) ∨ a ∈ O5) := fun a z => by
                  rcases z with (z | z) | z
                  · exact .inl (.inl (.inl z))
                  · rcases List.mem_cons.mp z with z | z
                    · exact .inl (.inl (.inr (by simp [z])))
                    · rcases List.mem_append.mp z with z | z
                      · exact .inl (.inl (.inr (by simp [z])))
                      · exact .inl (.inr z)
                  · exact .inr (sub.subset z)
                have kU : Kp (fun a => ((B a ∨ a ∈ D :: A) ∨ a ∈ A5) ∨ a ∈ O5) H5 (fun a => (B a ∨ a ∈ D :: (A ++ A5)) ∨ a ∈ O6) (upd H5 D (.lst (xs ++ [v]))) := fun a o hw ha => ⟨H6D a o (fun z => hw (.inl (.inl (.inr (by simp [z]))))) ha, fun z => hw (memb a z)⟩
                have nO6 : D ∉ O5 := fun z => r5.stt.dj D z (.inl (.inr (by simp)))
                have kacc : RepL X.K (fun a => ((B a ∨ a ∈ D :: A) ∨ a ∈ A5) ∨ a ∈ O5) H5 acc xs A := by
                  refine RepL.kp (fun a o hw ha => ?_) _ _ _ kA kG
                  obtain ⟨q1, q2⟩ := r5.frm a o (fun z => hw (.inr z)) ha
                  refine ⟨q1, fun z => ?_⟩
                  rcases z with (z | z) | z
                  · exact hw (.inl z)
                  · exact q2 (.inl z)
                  · exact q2 (.inr z)
                refine ⟨xs, hD5, by rw [k3.length, sizeLine_eq]; omega, acc ++ [c], xs ++ [v], A ++ A5, wipeE e3 vs, O6, cs, upd_same, ?_, ?_, ?_, ?_, ?_, free_wipe (us := []) (fun v hv => by rw [← r5.stt.len]; exact lt3 v hv), hrest, by rw [List.append_assoc]; exact k9, by rw [List.length_append]; simp; omega⟩
                · refine ⟨RepE.kp (fun a o hw ha => ⟨H6D a o (fun z => hw (.inl (.inl (.inr (by simp [z]))))) ha, fun z => hw ?_⟩) (fun a ha o ea => H6D a o (fun z => nO6 (by rw [← z]; exact sub.subset ha)) ea) s6.rep, s6.nd, fun a ha z => ?_, fun a z => ?_⟩
                  · rcases z with (z | z) | z
                    · exact .inl (.inl (.inl z))
                    · rcases List.mem_cons.mp z with z | z
                      · exact .inl (.inl (.inr (by simp [z])))
                      · rcases List.mem_append.mp z with z | z
                        · exact .inl (.inl (.inr (by simp [z])))
                        · exact .inl (.inr z)
                    · exact .inr z
                  · refine r5.stt.dj a (sub.subset ha) ?_
                    rcases z with z | z
                    · exact .inl (.inl z)
                    · rcases List.mem_cons.mp z with z | z
                      · exact .inl (.inr (by simp [z]))
                      · rcases List.mem_append.mp z with z | z
                        · exact .inl (.inr (by simp [z]))
                        · exact .inr z
                  · by_cases ha : a = D
                    · exact ⟨⟨.lst _, True.intro⟩, by rw [ha]; exact upd_same⟩
                    · have tr5 : ∃ u : MHO, H5 a = some u.1 := by
                        rcases z with z | z
                        · exact r5.stt.tr a (.inl (.inl z))
                        · rcases List.mem_cons.mp z with z | z
                          · exact absurd z ha
                          · rcases List.mem_append.mp z with z | z
                            · exact r5.stt.tr a (.inl (.inr (by simp [z])))
                            · exact r5.stt.tr a (.inr z)
                      obtain ⟨u, ea⟩ := tr5
                      exact ⟨u, H6D a u ha ea⟩
                · refine RepL.append (RepL.kp kU _ _ _ (fun a ha o ea => H6D a o (fun z => n4.1 (by rw [← z]; exact ha)) ea) kacc) (RepL.one (RepC.kp kU _ _ _ (fun a ha o ea => H6D a o (fun z => (nA5 a ha).2 (by simp [z])) ea) r5.rep))
                · refine List.nodup_cons.mpr ⟨fun z => ?_, List.nodup_append.mpr ⟨n4.2, r5.nd, fun a ha b hb eab => (nA5 b hb).2 (by rw [← eab]; simp [ha])⟩⟩
                  rcases List.mem_append.mp z with z | z
                  · exact n4.1 z
                  · exact (nA5 D z).2 (by simp)
                · exact fun a ha => (List.mem_append.mp ha).elim (k5 a) fun z => (nA5 a z).1
                · intro a o hw ha
                  obtain ⟨q1, q2⟩ := kp4 a o hw ha
                  obtain ⟨q3, q4⟩ := r5.frm a o (fun z => q2 (.inr z)) q1
                  refine ⟨H6D a o (fun z => q2 (.inl (by simp [z]))) q3, fun z => ?_⟩
                  rcases z with z | z
                  · rcases List.mem_cons.mp z with z | z
                    · exact q2 (.inl (by simp [z]))
                    · rcases List.mem_append.mp z with z | z
                      · exact q2 (.inl (by simp [z]))
                      · exact q4 (.inl z)
                  · exact q4 (.inr (sub.subset z))
    · have ei : i = its.length := by omega
      subst ei
      refine .inl ⟨w2, ?_⟩
      rw [List.drop_length] at k8
      cases k8
      rw [List.append_nil] at k9
      subst k9
      have s3 : Stt X.K (fun a => B a ∨ a ∈ D :: A) H2 σ eR O2 := k2.ext (fun i c g => (wout i (freeE_out k7 g)).symm) lw.symm
      refine h (.ref D) H2 (D :: A) O2 ⟨⟨D, xs, A, rfl, rfl, k1, k3⟩, s3, k4, fun a ha => ?_, fun a o hw ha => ?_⟩
      · rcases List.mem_cons.mp ha with z | z
        · rw [z]; exact nD
        · exact k5 a z
      · obtain ⟨q1, q2⟩ := f1 a o hw ha
        exact k6 a o (fun z => q2 (.inr z)) q1
theorem e_comp {elt tg iter : Expr} {ifs : List Expr} {scope : Scope} {own : List (Str × Nat)} {js : List Nat} {t : Tg} {q : PB} {f : M C} {src : M (List D)} (hc : X.calm = true) (hN : X.N.Nodup) (hi : IDk X w tg iter src) (ok : BlkOk X.N X.env.scope scope own)
    (hg : ∀ (s : Shared) (H : Hp) (C : Addr) (cl : List (Str × Addr)) (fp : List Addr), GOk (X.blk s H scope (compEnvC scope cl C X.env) fp) true tg js t) (ht : ∀ (s : Shared) (H : Hp) (C : Addr) (cl : List (Str × Addr)) (fp : List Addr), TsOk (X.blk s H scope (compEnvC scope cl C X.env) fp) ifs q)
    (he : ∀ (s : Shared) (H : Hp) (C : Addr) (cl : List (Str × Addr)) (fp : List Addr), EOk (X.blk s H scope (compEnvC scope cl C X.env) fp) wN elt f) (hj : ∀ j ∈ js, j ∈ own.map (·.2)) (hs : ∀ x, foldedSetIterable iter X.env x = pure x := by intro _; rfl) :
    EOk X w (.ListComp elt [⟨tg, iter, ifs, 0⟩] scope pos) (eComp (own.map (·.2)) t q f src) :=
  (pe_lc (g := rdG X true js t) (tt := rdQ X q) (te := rdE X wN f) hc hN hi ok hg ht he hs).imp (lcM_of hj)
theorem s_setCM {i : Nat} {y : Str} {py spos : Pos} {elt tg iter : Expr} {ifs : List Expr} {scope : Scope} {own : List (Str × Nat)} {js : List Nat} {t : Tg} {q : PB} {f : M C} {src : M (List D)} (hc : X.calm = true) (hN : X.N.Nodup) (hy : X.N[i]? = some y) (hyl : X.env.scope.names.lookup y = some .local)
    (hsw : swapsWith (.ListComp elt [⟨tg, iter, ifs, 0⟩] scope pos) (some (.Name y py)) spos.line X.env = pure true) (hi : IDk X w tg iter src) (ok : BlkOk X.N X.env.scope scope own)
    (hg : ∀ (s : Shared) (H : Hp) (C : Addr) (cl : List (Str × Addr)) (fp : List Addr), GOk (X.blk s H scope (compEnvC scope cl C X.env) fp) true tg js t) (ht : ∀ (s : Shared) (H : Hp) (C : Addr) (cl : List (Str × Addr)) (fp : List Addr), TsOk (X.blk s H scope (compEnvC scope cl C X.env) fp) ifs q)
    (he : ∀ (s : Shared) (H : Hp) (C : Addr) (cl : List (Str × Addr)) (fp : List Addr), EOk (X.blk s H scope (compEnvC scope cl C X.env) fp) wN elt f) (hj : ∀ j ∈ js, j ∈ own.map (·.2)) (hp : i ∉ pn := by decide) (hs : ∀ x, foldedSetIterable iter X.env x = pure x := by intro _; rfl) :
    SOk X w pn (.Assign [.Name y py] (.ListComp elt [⟨tg, iter, ifs, 0⟩] scope pos) spos) (sSet i (eComp (own.map (·.2)) t q f src)) := ⟨fun pins s σ H D I h =>
  (ps_setLc (wi := rdID X w src) (g := rdG X true js t) (tt := rdQ X q) (te := rdE X wN f) hc hN hy hyl hsw hi ok hg ht he hs).run pins s σ H D I (lcM_of hj σ H _ (by
    obtain ⟨B, env, O, st, h⟩ := h
    exact rdE_s st h fun c e v H' A O' r h => by
      obtain ⟨O2, s2, f2⟩ := r.put (i := i) (by rw [r.len, I.len]; exact lt_of_N hy)
      exact h _ H' O2 s2 f2 (Pin.set hp)))⟩
theorem takesN : Takes X wN := takes_none5
end
/-! ### what the top has made of a def -/
structure DefAt (K : PySem.W.Frag) (mg : Str → Option Value) (x : Str) (st : Stmt) : Prop where
  ex : ∃ (f : Addr) (oc : Value) (od : Option Addr) (kV doc pm : Value) (an : Option Addr) (cdv ct : Value) (osl : Array (Option Value)), mg x = some (.ref f) ∧ PySem.W.keepIn K (.ref f) = true ∧
    K.lookup f = some ⟨oc, od, .func (PySem.W.fnOf x x (defArgs st) (defBody st) (defScope st) .none kV doc pm an cdv ct), osl⟩ ∧ PySem.W.codeIn K cdv x = true
theorem FnM.of {Pr : Program} {w : World} {K : PySem.W.Frag} {mg : Str → Option Value} {base : Heap} {k : Nat} {x : Str} {st : Stmt} {N ps : List Str} {pn : List Nat} {g : SS} (F : DefAt K mg x st) (S : FnScope N ps (defScope st))
    (hb : ∀ (f : Addr) (cdv : Value) (A : Around) (outer : List Env) (s : Shared) (H : Hp) (E : XK), A.guards = some [] → Room k (A.deeper (envOfC x (defScope st) s.heap.objs.size f cdv)) →
      SsOk (cxOf (CY Pr w) Pr w K mg base N x (defScope st) f cdv A outer s H E) (fun cls d _ H' => E cls d H') pn (defBody st) g) :
    FnM Pr w K mg base (k + 1) x st ps (bodyM N.length pn ps.length g) := by
  obtain ⟨f, oc, od, kV, doc, pm, an, cdv, ct, osl, h1, h2, h3, h4⟩ := F.ex
  exact ⟨f, kV, doc, pm, an, cdv, ct, h1, h2, fnG_of h3 h4 S fun A outer s H E hg hr => hb f cdv A outer s H E hg hr⟩
theorem FnG.mono {Pr : Program} {w : World} {K : PySem.W.Frag} {mg : Str → Option Value} {base : Heap} {j k : Nat} {f : Addr} {fd : FuncData} {ps : List Str} {sp : Sp} (F : FnG Pr w K mg base j f fd ps sp) (h : j ≤ k) : FnG Pr w K mg base k f fd ps sp :=
  ⟨F.len, fun A outer s H args us vs Q E hg hr => F.run A outer s H args us vs Q E hg (hr.mono h)⟩
theorem FnM.mono {Pr : Program} {w : World} {K : PySem.W.Frag} {mg : Str → Option Value} {base : Heap} {j k : Nat} {x : Str} {st : Stmt} {ps : List Str} {m : List C → Out C} (F : FnM Pr w K mg base j x st ps m) (h : j ≤ k) : FnM Pr w K mg base k x st ps m := by
  obtain ⟨f, kV, doc, pm, an, cdv, ct, h1, h2, G⟩ := F.ex
  exact ⟨f, kV, doc, pm, an, cdv, ct, h1, h2, G.mono h⟩
end PL
namespace PL
open PySem PySem.Spec PyProof.Rows L2
section
variable {X : Cx} {w : WX} {H : Hp} {σ : L2.St} {a b e : Expr} {es : List Expr} {p q r : P} {ps : List P} {fs : List (M C)} {pos pp : Pos} {K : PySem.W.Frag} {mg : Str → Option Value} {B : Addr → Prop} {O : List Addr} {env : Slots} {st : Stmt} {rest : List Stmt} {pn : List Nat} {k : Nat}
/-! ### the built-in functions by name -/
theorem c_len : CallR X (.builtin "len") (fun xs H Q => (∃ x n, xs = [x] ∧ LenV X.K x H n ∧ Q (.int n) H) ∨ (∃ a kvs, xs = [V.ref a] ∧ H a = some (.dK kvs) ∧ Q (.int kvs.length) H) ∨ rLenT xs H Q) := call_len.or (call_lenD.or call_len_dT)
theorem c_isi : CallR X (.builtin "isinstance") (fun xs H Q => rIsi X.K xs H Q ∨ rIsiT X.K xs H Q) := call_isi.or call_isiT
theorem p_len (hm : X.mg "len" = none) (ha : ABk X [e] ps) (hg : Gl X "len" := by rfl) (he : starEach [e] X.env = (false, eval e X.env) :: starEach [] X.env := by rfl) (hpl : (backTo pos (starEach [] X.env)).any (·.1) = false := by rfl) : POk X (.Call (.Name "len" pp) [e] [] pos) (pCall lenF ps) :=
  p_callB c_len cal_len hg hm PySem.boot_len ha (by decide) (by decide) he hpl
theorem p_isi (hm : X.mg "isinstance" = none) (ha : ABk X (a :: es) ps) (hg : Gl X "isinstance" := by rfl) (he : starEach (a :: es) X.env = (false, eval a X.env) :: starEach es X.env := by rfl) (hpl : (backTo pos (starEach es X.env)).any (·.1) = false := by rfl) : POk X (.Call (.Name "isinstance" pp) (a :: es) [] pos) (pCall isiF ps) :=
  p_callB c_isi cal_isi hg hm boot_isinstance ha (by decide) (by decide) he hpl
theorem p_abs (hm : X.mg "abs" = none) (ha : ABk X [e] ps) (hg : Gl X "abs" := by rfl) (he : starEach [e] X.env = (false, eval e X.env) :: starEach [] X.env := by rfl) (hpl : (backTo pos (starEach [] X.env)).any (·.1) = false := by rfl) : POk X (.Call (.Name "abs" pp) [e] [] pos) (pCall absF ps) :=
  p_callB call_abs cal_abs hg hm boot_abs ha (by decide) (by decide) he hpl
theorem p_intC (hm : X.mg "int" = none) (ha : ABk X [e] ps) (hg : Gl X "int" := by rfl) (he : starEach [e] X.env = (false, eval e X.env) :: starEach [] X.env := by rfl) (hpl : (backTo pos (starEach [] X.env)).any (·.1) = false := by rfl) : POk X (.Call (.Name "int" pp) [e] [] pos) (pCall intF ps) :=
  p_callT call_int1 cal_int hg hm (by decide +kernel) ha (by decide) (by decide) he hpl
theorem p_strC (hm : X.mg "str" = none) (ha : ABk X [e] ps) (hg : Gl X "str" := by rfl) (he : starEach [e] X.env = (false, eval e X.env) :: starEach [] X.env := by rfl) (hpl : (backTo pos (starEach [] X.env)).any (·.1) = false := by rfl) : POk X (.Call (.Name "str" pp) [e] [] pos) (pCall strF ps) :=
  p_callT call_str_int cal_str hg hm (by decide +kernel) ha (by decide) (by decide) he hpl
theorem p_max (hc : X.calm = true) (hm : X.mg "max" = none) (ha : ABk X (a :: es) ps) (hg : Gl X "max" := by rfl) (he : starEach (a :: es) X.env = (false, eval a X.env) :: starEach es X.env := by rfl) (hpl : (backTo pos (starEach es X.env)).any (·.1) = false := by rfl) : POk X (.Call (.Name "max" pp) (a :: es) [] pos) (pCall maxF ps) :=
  p_callB ((cr_max hc).or (call_max2 hc)) cal_max hg hm (by decide +kernel) ha (by decide) (by decide) he hpl
theorem p_min (hc : X.calm = true) (hm : X.mg "min" = none) (ha : ABk X (a :: es) ps) (hg : Gl X "min" := by rfl) (he : starEach (a :: es) X.env = (false, eval a X.env) :: starEach es X.env := by rfl) (hpl : (backTo pos (starEach es X.env)).any (·.1) = false := by rfl) : POk X (.Call (.Name "min" pp) (a :: es) [] pos) (pCall minF ps) :=
  p_callB (call_min2 hc) cal_min hg hm (by decide +kernel) ha (by decide) (by decide) he hpl
theorem p_sum (hc : X.calm = true) (hm : X.mg "sum" = none) (ha : ABk X [e] ps) (hg : Gl X "sum" := by rfl) (he : starEach [e] X.env = (false, eval e X.env) :: starEach [] X.env := by rfl) (hpl : (backTo pos (starEach [] X.env)).any (·.1) = false := by rfl) : POk X (.Call (.Name "sum" pp) [e] [] pos) (pCall sumF ps) :=
  p_callB (cr_sum hc) cal_sum hg hm (by decide +kernel) ha (by decide) (by decide) he hpl
theorem p_all (hc : X.calm = true) (hm : X.mg "all" = none) (ha : ABk X [e] ps) (hg : Gl X "all" := by rfl) (he : starEach [e] X.env = (false, eval e X.env) :: starEach [] X.env := by rfl) (hpl : (backTo pos (starEach [] X.env)).any (·.1) = false := by rfl) : POk X (.Call (.Name "all" pp) [e] [] pos) (pCall allF ps) :=
  p_callB (cr_all hc) cal_all hg hm (by decide +kernel) ha (by decide) (by decide) he hpl
theorem p_any (hc : X.calm = true) (hm : X.mg "any" = none) (ha : ABk X [e] ps) (hg : Gl X "any" := by rfl) (he : starEach [e] X.env = (false, eval e X.env) :: starEach [] X.env := by rfl) (hpl : (backTo pos (starEach [] X.env)).any (·.1) = false := by rfl) : POk X (.Call (.Name "any" pp) [e] [] pos) (pCall anyF ps) :=
  p_callB (cr_any hc) cal_any hg hm (by decide +kernel) ha (by decide) (by decide) he hpl
theorem p_repr (hm : X.mg "repr" = none) (hr : Room k X.A) (hgd : X.A.guards = some []) (ha : ABk X [e] ps) (hg : Gl X "repr" := by rfl) (he : starEach [e] X.env = (false, eval e X.env) :: starEach [] X.env := by rfl) (hpl : (backTo pos (starEach [] X.env)).any (·.1) = false := by rfl) : POk X (.Call (.Name "repr" pp) [e] [] pos) (pCall reprF ps) :=
  p_callB (call_repr hr hgd) cal_repr hg hm (by decide +kernel) ha (by decide) (by decide) he hpl
theorem f_listC (hm : X.mg "list" = none) (ha : POk X e p) (hg : Gl X "list" := by rfl) (he : starEach [e] X.env = (false, eval e X.env) :: starEach [] X.env := by rfl) : FOk X (.Call (.Name "list" pp) [e] [] pos) (fSq p) := f_listS hg hm (by decide +kernel) ha (he := he)
theorem f_listL {f : PLs} (hm : X.mg "list" = none) (ha : LOk X e f) (hg : Gl X "list" := by rfl) (he : starEach [e] X.env = (false, eval e X.env) :: starEach [] X.env := by rfl) : FOk X (.Call (.Name "list" pp) [e] [] pos) (fList f) := f_list hg hm (by decide +kernel) ha (he := he)
theorem p_tupC {f : PLs} (hm : X.mg "tuple" = none) (ha : LOk X e f) (hg : Gl X "tuple" := by rfl) (he : starEach [e] X.env = (false, eval e X.env) :: starEach [] X.env := by rfl) : POk X (.Call (.Name "tuple" pp) [e] [] pos) (pTupL f) := p_tupL hg hm (by decide +kernel) ha (he := he)
/-- M-tier -/
theorem e_len (hm : X.mg "len" = none) (ha : AMk X w [e] fs) (hg : Gl X "len" := by rfl) (he : starEach [e] X.env = (false, eval e X.env) :: starEach [] X.env := by rfl) (hpl : (backTo pos (starEach [] X.env)).any (·.1) = false := by rfl) : EOk X w (.Call (.Name "len" pp) [e] [] pos) (eCall lenF fs) :=
  e_callB c_len cal_len hg hm PySem.boot_len ha (by decide) (by decide) he hpl
theorem e_isi (hm : X.mg "isinstance" = none) (ha : AMk X w (a :: es) fs) (hg : Gl X "isinstance" := by rfl) (he : starEach (a :: es) X.env = (false, eval a X.env) :: starEach es X.env := by rfl) (hpl : (backTo pos (starEach es X.env)).any (·.1) = false := by rfl) : EOk X w (.Call (.Name "isinstance" pp) (a :: es) [] pos) (eCall isiF fs) :=
  e_callB c_isi cal_isi hg hm boot_isinstance ha (by decide) (by decide) he hpl
theorem e_abs (hm : X.mg "abs" = none) (ha : AMk X w [e] fs) (hg : Gl X "abs" := by rfl) (he : starEach [e] X.env = (false, eval e X.env) :: starEach [] X.env := by rfl) (hpl : (backTo pos (starEach [] X.env)).any (·.1) = false := by rfl) : EOk X w (.Call (.Name "abs" pp) [e] [] pos) (eCall absF fs) :=
  e_callB call_abs cal_abs hg hm boot_abs ha (by decide) (by decide) he hpl
theorem e_max (hc : X.calm = true) (hm : X.mg "max" = none) (ha : AMk X w (a :: es) fs) (hg : Gl X "max" := by rfl) (he : starEach (a :: es) X.env = (false, eval a X.env) :: starEach es X.env := by rfl) (hpl : (backTo pos (starEach es X.env)).any (·.1) = false := by rfl) : EOk X w (.Call (.Name "max" pp) (a :: es) [] pos) (eCall maxF fs) :=
  e_callB ((cr_max hc).or (call_max2 hc)) cal_max hg hm (by decide +kernel) ha (by decide) (by decide) he hpl
theorem e_repr (hm : X.mg "repr" = none) (hr : Room k X.A) (hgd : X.A.guards = some []) (ha : AMk X w [e] fs) (hg : Gl X "repr" := by rfl) (he : starEach [e] X.env = (false, eval e X.env) :: starEach [] X.env := by rfl) (hpl : (backTo pos (starEach [] X.env)).any (·.1) = false := by rfl) : EOk X w (.Call (.Name "repr" pp) [e] [] pos) (eCall reprF fs) :=
  e_callB (call_repr hr hgd) cal_repr hg hm (by decide +kernel) ha (by decide) (by decide) he hpl
/-! ### a name whose thing is handed on for good -/
def eMv (i : Nat) : M C := fun env => match env[i]? with
  | some (some c) => .ok c (env.set i none)
  | _ => .no
theorem e_Mv {i : Nat} {x : Str} (hN : X.N[i]? = some x) (hv : Vis X.env.scope x) (hd : (x == ("__debug__" : Str)) = false := by decide) (hcd : (x == ("__classdict__" : Str)) = false := by decide) :
    EOk X w (.Name x pos) (eMv i) := (pe_var (i := i) hN hv hd hcd).imp fun σ H Q h => by
  obtain ⟨B, env, O, s, h⟩ := h
  unfold eMv at h
  split at h
  · rename_i c' e' hc
    split at hc
    · rename_i c e0
      cases hc
      obtain ⟨o, A1, A2, A3, g1, g2, ⟨x0, rfl, hc0⟩, put⟩ := RepE.at s.rep e0
      have nd := s.nd
      rw [g2] at nd
      have n1 := List.nodup_append.mp nd
      have n2 := List.nodup_append.mp n1.2.1
      have mO : ∀ b, b ∈ O ↔ b ∈ A2 ∨ b ∈ A1 ++ A3 := fun b => by rw [g2]; simp; constructor <;> intro h <;> rcases h with h | h | h <;> simp [h]
      have z := put (fun b => (B b ∨ b ∈ A2) ∨ b ∈ A1 ++ A3) H none (some x0) [] (Kp.less fun b z => by
        rcases z with (z | z) | z
        · exact .inl z
        · exact .inr ((mO b).mpr (.inl z))
        · exact .inr ((mO b).mpr (.inr z))) (fun _ _ _ e => e) rfl
      rw [set_same g1] at z
      refine ⟨x0, g1, h x0 H A2 (A1 ++ A3) ⟨RepC.kp (Kp.less fun b z => ?_) _ _ _ (fun _ _ _ e => e) hc0, ⟨by simpa using z, ?_, fun b hb y => ?_, fun b y => y.elim (s.tr b) fun y => RepE.trk s.rep b ((mO b).mpr (.inl y))⟩, n2.1, fun b hb => s.dj b ((mO b).mpr (.inl hb)), fun b o hw hb => ⟨hb, fun y => hw ((mO b).mpr (y.imp id id))⟩⟩⟩
      · rcases z with (z | z) | z
        · exact .inl z
        · exact .inr ((mO b).mpr (.inl z))
        · exact .inr ((mO b).mpr (.inr z))
      · exact List.nodup_append.mpr ⟨n1.1, n2.2.1, fun b hb d hd => n1.2.2 b hb d (by simp [hd])⟩
      · rcases y with y | y
        · exact s.dj b ((mO b).mpr (.inr hb)) y
        · rcases List.mem_append.mp hb with z | z
          · exact n1.2.2 b z b (by simp [y]) rfl
          · exact n2.2.2 b y b z rfl
    · cases hc
  · rename_i hc; split at hc <;> cases hc
  · exact h.elim
/-! ### a call that only looks: its arguments stay one's own, its answer is a scalar -/
def flatD : D → Bool
  | .non => true
  | .bl _ => true
  | .int _ => true
  | .str _ => true
  | _ => false
theorem flat_is {W W' : Addr → Prop} {H H' : Hp} {d : D} {v : V} (hf : flatD d = true) (h : Is K W H d v) : Is K W' H' d v := by
  cases d <;> first | exact h | cases hf
def pFnB (m : List C → Out C) (ps : List P) : P := fun env => match evPs ps env with
  | some ds => match m (ds.map .frz) with
    | .ok c _ => if flatD c.toD then some c.toD else none
    | _ => none
  | none => none
theorem p_fnB {x : Str} {st : Stmt} {qs : List Str} {m : List C → Out C} (F : FnM X.prog X.w X.K X.mg X.base k x st qs m) (bd : BindP x st qs) (hg : X.A.guards = some []) (hr : Room k X.A) (gl : Gl X x) (ha : ABk X (e :: es) ps) (hl : ps.length = qs.length := by rfl)
    (hdb : (x == ("__debug__" : Str)) = false := by decide) (he : starEach (e :: es) X.env = (false, eval e X.env) :: starEach es X.env := by rfl) (hpl : (backTo pos (starEach es X.env)).any (·.1) = false := by rfl) :
    POk X (.Call (.Name x pp) (e :: es) [] pos) (pFnB m ps) := by
  obtain ⟨f, kV, doc, pm, an, cdv, ct, hm, kp, G⟩ := F.ex
  refine ⟨fun pins s σ H Q I h => ?_⟩
  obtain ⟨B, env, O, st, d, hp, h⟩ := h
  unfold pFnB at hp
  split at hp
  · rename_i ds e1
    split at hp
    · rename_i c outs e2
      split at hp
      · rename_i hf
        cases hp
        have want : rdDB X ps σ H fun vs H1 => spM X.K X.mg qs.length m vs H1 Q E0 := ⟨B, env, O, st, ds, e1, fun vs H1 g1 hv => by
          have st0 : Stt X.K (fun _ => False) H1 [] [] [] := ⟨⟨rfl, rfl⟩, .nil, fun _ z => (nomatch z), fun _ z => z.elim⟩
          have hv' : IsL X.K (fun a => False ∨ a ∈ ([] : List Addr)) H1 ds vs := IsL.kp (fun a o w ha => ⟨ha, fun z => z.elim id fun z => nomatch z⟩) _ _ hv
          exact spM_pure st0 hv' e2 (by rw [evPs_len e1]; exact hl) fun v H' g2 hv => h v H' (g1.trans g2) (flat_is hf hv)⟩
        refine wpAny_Call_Name_kw (ld_glob I gl hm ?_ hdb)
        refine PySem.W.callWith_K (h₀ := X.base) I.ok.mod.kin kp (thn (ha.run pos pins s σ H _ I want) ?_) he hpl
        rintro us s1 ⟨vs, H1, I1, r1, q1⟩
        exact ⟨I1.kIn, run_G G hg hr passX0 (.of_eq (bd kV doc pm an cdv ct us (r1.length.symm.trans q1.1))) I1 r1 q1⟩
      · cases hp
    · cases hp
  · cases hp
end
end PL
namespace PL
open PySem PySem.Spec PyProof.Rows L2
section
variable {X : Cx} {w : WX} {H : Hp} {σ : L2.St} {a b e : Expr} {es : List Expr} {p q r : P} {ps : List P} {fs : List (M C)} {pos pp : Pos} {K : PySem.W.Frag} {mg : Str → Option Value} {B : Addr → Prop} {O : List Addr} {env : Slots} {st : Stmt} {rest : List Stmt} {pn : List Nat} {k : Nat}
/-! ### lists added, repeated -/
def catD : D → D → Option C
  | .lst l, .lst m => if l.length + m.length ≤ 100000 then some (.own ((l ++ m).map .frz)) else none
  | _, _ => none
theorem New.lst {W : Addr → Prop} {l : List D} {xs : List V} {t : Addr} (h : IsL K W H l xs) (ht : H t = none) : New K W H (.own (l.map .frz)) (.ref t) (upd H t (.lst xs)) [t] := by
  have g : Grw H (upd H t (.lst xs)) := fun b o e => by rw [upd_ne (ne_of_none e ht)]; exact e
  refine ⟨g, ⟨t, xs, [], rfl, rfl, upd_same, RepL.frz (IsL.kp (fun b o hw hb => ⟨g b o hb, fun z => ?_⟩) _ _ h)⟩, by simp, fun b hb => by rw [List.mem_singleton.mp hb]; exact ht⟩
  rcases z with z | z
  · exact hw z
  · rw [List.mem_singleton.mp z, ht] at hb; cases hb
theorem opS_cat : OpS K rCat catD := fun W H x y d1 d2 c Q tr h1 h2 e k => by
  unfold catD at e
  split at e
  · split at e
    · rename_i l m hz
      cases e
      obtain ⟨a, xs, rfl, ha, na, il⟩ := h1
      obtain ⟨b, ys, rfl, hb, nb, im⟩ := h2
      exact ⟨a, b, xs, ys, rfl, rfl, ha, hb, by rw [il.length, im.length, sizeLine_eq]; omega, fun t ht => k _ _ _ (New.lst (il.append im) ht)⟩
    · cases e
  · cases e
def eCat (f g : M C) : M C := eBin catD f g
theorem e_cat {f g : M C} (ha : EOk X w a f) (hb : EOk X w b g) : EOk X w (.BinOp a .Add b pos) (eCat f g) := e_bin op_cat opS_cat ha hb
def repD : D → D → Option C
  | .lst l, .int k => if (-(2 ^ 63) ≤ k ∧ k < 2 ^ 63) ∧ l.length * k.toNat ≤ 100000 then some (.own ((List.replicate k.toNat l).flatten.map .frz)) else none
  | _, _ => none
theorem opS_rep : OpS K rRep repD := fun W H x y d1 d2 c Q tr h1 h2 e k => by
  unfold repD at e
  split at e
  · split at e
    · rename_i l m hz
      cases e
      obtain ⟨a, xs, rfl, ha, na, il⟩ := h1
      rw [show y = _ from h2]
      exact ⟨a, m, xs, rfl, rfl, ha, hz.1.1, hz.1.2, by rw [il.length, sizeLine_eq]; omega, fun t ht => k _ _ _ (New.lst (il.rep _) ht)⟩
    · cases e
  · cases e
def eRep (f g : M C) : M C := eBin repD f g
theorem e_rep {f g : M C} (ha : EOk X w a f) (hb : EOk X w b g) : EOk X w (.BinOp a .Mult b pos) (eRep f g) := e_bin op_rep opS_rep ha hb
/-! ### xs.extend(..) of another's -/
def eExtM (i : Nat) (f : M C) : M C := fun env => match ownAt i [] env with
  | some _ => (f env).bind fun c e1 => match ownAt i [] e1, c.toD with
    | some l, .lst m => if l.length + m.length < 100000 then .ok (.frz .non) (setAt i [] (l ++ m.map .frz) e1) else .no
    | _, _ => .no
  | none => .no
theorem e_extM {i : Nat} {x : Str} {f : M C} {npos apos cpos : Pos} (hN : X.N[i]? = some x) (hv : Vis X.env.scope x) (he : EOk X w e f) (hd : (x == ("__debug__" : Str)) = false := by decide) (hcd : (x == ("__classdict__" : Str)) = false := by decide)
    (hbase : attributeBase (.Name x npos) "extend" X.env (eval (.Name x npos) X.env) = eval (.Name x npos) X.env := by rfl)
    (hfew : ((backTo cpos (starEach [e] X.env)).all (fun x => !x.1) && (backToKw cpos (keywordEach [] X.env)).all (fun x => x.1.isSome)
      && decide ([e].length + ([] : List Keyword).length + (if ([] : List Keyword).isEmpty then 0 else 1) < 30)) = true := by rfl)
    (hline : (apos.endLine == cpos.line) = true := by rfl) (hs : starEach [e] X.env = (false, eval e X.env) :: starEach [] X.env := by rfl) (hplain : (backTo cpos (starEach [] X.env)).any (·.1) = false := by rfl) :
    EOk X w (.Call (.Attribute (.Name x npos) "extend" apos) [e] [] cpos) (eExtM i f) :=
  (pe_bm PySem.F.plainAttrs_list PySem.F.slot_list_extend PySem.F.type_list_extend mt_extend (pe_var (i := i) hN hv hd hcd) (pa_cons he pa_nil hs) hbase hfew hline hs hplain).imp fun σ H Q h => by
    obtain ⟨B, env, O, s, h⟩ := h
    unfold eExtM at h
    cases e0 : ownAt i [] env with
    | none => rw [e0] at h; exact h.elim
    | some l0 =>
      rw [e0] at h
      simp only [] at h
      obtain ⟨a, xs, A2, g1, g2, g3⟩ := s.ref0 e0
      refine ⟨_, g1, .inl ⟨rfl, xs, SqL.of g2⟩, B, env, O, s, ?_⟩
      cases ef : f env with
      | no => rw [ef] at h; exact h
      | err y e1 => rw [ef] at h; exact h
      | ok c e1 =>
        rw [ef] at h
        simp only [Out.bind] at h
        intro v H1 A O1 r
        have rf := r.frz
        have his := r.is
        cases e2 : ownAt i [] e1 with
        | none => rw [e2] at h; exact h.elim
        | some l =>
          rw [e2] at h
          cases ec : c.toD with
          | lst m =>
            rw [ec] at h his
            simp only [] at h
            split at h
            · rename_i e3 he3
              split at he3
              · rename_i hlen
                cases he3
                obtain ⟨b, ys, rfl, hb, nb, im⟩ := his
                obtain ⟨c0, k0, k1, k2⟩ := ownAt_some e2
                obtain ⟨w0, a', xs', A2', m1, m2, m3, m4, m5, m6, m7⟩ := rf.stt.mut .nil (fun _ z => nomatch z) rf.frm k0 k1
                rw [g1] at m1
                cases m1
                have ea : V.ref a = .ref a' := m2
                cases ea
                obtain ⟨O2, t1, t2, t3⟩ := m7 (l ++ m.map .frz) (xs' ++ ys) (A2' ++ []) (m4.append (RepL.frz (IsL.kp (Kp.less fun b z => z.imp (fun z => z.elim id fun z => nomatch z) id) _ _ im))) (by rw [List.append_nil]; exact m5) fun b hb => .inl (by simpa using hb)
                refine ⟨a, b, xs', ys, rfl, rfl, m3, hb, by rw [m4.length, im.length, sizeLine_eq]; omega, ?_⟩
                rw [k2] at h
                exact h .non _ [] O2 (Res.new t1 t2 (New.of_is rfl))
              · cases he3
            · rename_i he3; split at he3 <;> cases he3
            · exact h.elim
          | non => rw [ec] at h; exact h.elim
          | bl _ => rw [ec] at h; exact h.elim
          | int _ => rw [ec] at h; exact h.elim
          | str _ => rw [ec] at h; exact h.elim
          | tup _ => rw [ec] at h; exact h.elim
          | dct _ => rw [ec] at h; exact h.elim
          | dcT _ => rw [ec] at h; exact h.elim
          | dcL _ => rw [ec] at h; exact h.elim
          | ro _ => rw [ec] at h; exact h.elim
          | opq _ => rw [ec] at h; exact h.elim
/-! ### {} -/
theorem p_dct0 : POk X (.Dict [] [] pos) (pK (.dct [])) := pe_dnewK.imp fun σ H Q h => by
  obtain ⟨B, env, O, s, d, hp, h⟩ := h
  cases hp
  intro t ht
  have g : Grw H (upd H t (.dK [])) := fun b o e => by rw [upd_ne (ne_of_none e ht)]; exact e
  refine h _ _ g ⟨t, [], rfl, upd_same, fun z => ?_, rfl⟩
  obtain ⟨u, e⟩ := s.trk t z
  rw [ht] at e; cases e
end
/-- a def's body does what g says -/
def BdOk (Pr : Program) (w : World) (K : PySem.W.Frag) (mg : Str → Option Value) (base : Heap) (k : Nat) (x : Str) (st : Stmt) (N : List Str) (pn : List Nat) (g : SS) : Prop := ∀ (f : Addr) (cdv : Value) (A : Around) (outer : List Env) (s : Shared) (H : Hp) (E : XK), A.guards = some [] → Room k (A.deeper (envOfC x (defScope st) s.heap.objs.size f cdv)) →
  SsOk (cxOf (CY Pr w) Pr w K mg base N x (defScope st) f cdv A outer s H E) (fun cls d _ H' => E cls d H') pn (defBody st) g
theorem FnM.by {Pr : Program} {w : World} {K : PySem.W.Frag} {mg : Str → Option Value} {base : Heap} {k : Nat} {x : Str} {st : Stmt} {N ps : List Str} {pn : List Nat} {g : SS} (F : DefAt K mg x st) (S : FnScope N ps (defScope st)) (hb : BdOk Pr w K mg base k x st N pn g) :
    FnM Pr w K mg base (k + 1) x st ps (bodyM N.length pn ps.length g) := FnM.of F S hb
theorem law_end {Pr : Program} {w : World} {K : PySem.W.Frag} {mg : Str → Option Value} {k n : Nat} {x : Str} {st : Stmt} {N : List Str} {g : SS} {fa : Addr} (F : DefAt K mg "law" st) (S : FnScope N [x] (defScope st)) (bd : BindP "law" st [x]) (hb : ∀ base, SysD base → BdOk Pr w K mg base k "law" st N [] g)
    (hfa : mg "law" = some (.ref fa)) (hm : ∀ ns : List Int, ns.length ≤ n → (∀ z ∈ ns, Builtin.Int.intBits z ≤ 1048576) → ∃ c outs, bodyM N.length [] 1 g [.frz (.ro ns)] = .ok c outs ∧ c.toD = .bl true) :
    ∃ (fd : FuncData) (m : List C → Out C), (∀ (s : Shared) (u : Value), BindsTo s fd ⟨[u], []⟩ [(x, u)]) ∧
        (∀ base : Heap, K.In base → base.Ns mainGlobals mg → SysD base → FnG Pr w K mg base (k + 1) fa fd [x] (spM K mg 1 m)) ∧
        ∀ ns : List Int, ns.length ≤ n → (∀ z ∈ ns, Builtin.Int.intBits z ≤ 1048576) → ∃ c outs, m [.frz (.ro ns)] = .ok c outs ∧ c.toD = .bl true := by
  obtain ⟨f, oc, od, kV, doc, pm, an, cdv, ct, osl, h1, h2, h3, h4⟩ := F.ex
  cases hfa.symm.trans h1
  exact ⟨_, _, fun s u => .of_eq (bd kV doc pm an cdv ct [u] rfl), fun base _ _ hS => fnG_of h3 h4 S fun A outer s H E hg hr => hb base hS fa cdv A outer s H E hg hr, hm⟩
end PL
/-! ### plain reasoning -/
namespace PL
open PySem PySem.Spec PyProof.Rows L2
theorem compF_map {t : Tg} {q : PB} {p : P} {env : Slots} (g : D → D) : ∀ {l : List D}, (∀ d ∈ l, ∃ e, t d env = some e ∧ q e = some true ∧ p e = some (g d)) → compF t q p env l = some (l.map g)
  | [], _ => rfl
  | d :: r, h => by
    obtain ⟨e, h1, h2, h3⟩ := h d (by simp)
    have ih := compF_map g (fun x hx => h x (List.mem_cons_of_mem _ hx))
    unfold compF
    simp only [h1, h2, h3, ih, List.map_cons]
theorem compF_fm {t : Tg} {q : PB} {p : P} {env : Slots} (g : D → Option D) : ∀ {l : List D}, (∀ d ∈ l, ∃ e, t d env = some e ∧ ((q e = some false ∧ g d = none) ∨ (q e = some true ∧ ∃ v, p e = some v ∧ g d = some v))) → compF t q p env l = some (l.filterMap g)
  | [], _ => rfl
  | d :: r, h => by
    obtain ⟨e, h1, h2⟩ := h d (by simp)
    have ih := compF_fm g (fun x hx => h x (List.mem_cons_of_mem _ hx))
    unfold compF
    rcases h2 with ⟨h2, h3⟩ | ⟨h2, v, h3, h4⟩
    · simp only [h1, h2, ih, List.filterMap_cons, h3]
    · simp only [h1, h2, h3, ih, List.filterMap_cons, h4]
/-- a loop whose body goes on or answers -/
theorem forL_all {t : Tg} {b : SS} {c : C} (Inv : Slots → Prop) (P : D → Bool) : ∀ {l : List D} {e : Slots}, (∀ d ∈ l, ∀ e, Inv e → ∃ e1, t d e = some e1 ∧ (P d = true → ∃ e2, b e1 = .nx e2 ∧ Inv e2) ∧ (P d = false → ∃ e2, b e1 = .rt c e2)) → Inv e →
    (l.all P = true ∧ ∃ e2, forL t b l e = .nx e2 ∧ Inv e2) ∨ (l.all P = false ∧ ∃ e2, forL t b l e = .rt c e2)
  | [], e, h, i => .inl ⟨rfl, e, rfl, i⟩
  | d :: r, e, h, i => by
    obtain ⟨e1, h1, h2, h3⟩ := h d (by simp) e i
    cases hP : P d with
    | true =>
      obtain ⟨e2, h4, h5⟩ := h2 hP
      rcases forL_all Inv P (fun x hx => h x (List.mem_cons_of_mem _ hx)) h5 with ⟨k1, k2⟩ | ⟨k1, k2⟩
      · exact .inl ⟨by simp [hP, k1], by unfold forL; simp only [h1, h4]; exact k2⟩
      · exact .inr ⟨by simp only [List.all_cons, hP, k1, Bool.true_and], by unfold forL; simp only [h1, h4]; exact k2⟩
    | false =>
      obtain ⟨e2, h4⟩ := h3 hP
      exact .inr ⟨by simp only [List.all_cons, hP, Bool.false_and], e2, by unfold forL; simp only [h1, h4]⟩
/-- a loop with an invariant by what is done -/
theorem forL_inv {t : Tg} {b : SS} (Inv : Nat → Slots → Prop) : ∀ {l : List D} {e : Slots} (k : Nat), (∀ i d, l[i]? = some d → ∀ e, Inv (k + i) e → ∃ e1, t d e = some e1 ∧ ((∃ e2, b e1 = .nx e2 ∧ Inv (k + i + 1) e2) ∨ ∃ e2, b e1 = .ct e2 ∧ Inv (k + i + 1) e2)) → Inv k e →
    ∃ e2, forL t b l e = .nx e2 ∧ Inv (k + l.length) e2
  | [], e, k, h, i => ⟨e, rfl, i⟩
  | d :: r, e, k, h, i => by
    obtain ⟨e1, h1, h2⟩ := h 0 d rfl e i
    have go : ∀ e2, Inv (k + 1) e2 → ∃ e3, forL t b r e2 = .nx e3 ∧ Inv (k + (d :: r).length) e3 := fun e2 i2 => by
      obtain ⟨e3, k1, k2⟩ := forL_inv Inv (k + 1) (fun i x hx e ie => by
        have := h (i + 1) x (by simpa using hx) e (by rw [show k + (i + 1) = k + 1 + i by omega]; exact ie)
        rw [show k + (i + 1) + 1 = k + 1 + i + 1 by omega] at this
        exact this) i2
      exact ⟨e3, k1, by rw [List.length_cons, show k + (r.length + 1) = k + 1 + r.length by omega]; exact k2⟩
    unfold forL
    rcases h2 with ⟨e2, h3, h4⟩ | ⟨e2, h3, h4⟩
    · simp only [h1, h3]; exact go e2 h4
    · simp only [h1, h3]; exact go e2 h4
/-- a comprehension of the others with an invariant -/
theorem compM_inv {vs : List Nat} {t : Tg} {q : PB} {f : M C} (Inv : Slots → Prop) (Pc : C → Prop) : ∀ {l : List D} {e : Slots}, (∀ d ∈ l, ∀ e, Inv e → ∃ e1, t d e = some e1 ∧ q e1 = some true ∧ ∃ c e2, f e1 = .ok c e2 ∧ Pc c ∧ Inv (wipeE e2 vs)) → Inv e →
    ∃ cs e2, compM vs t q f l e = some (cs, e2) ∧ cs.length = l.length ∧ (∀ c ∈ cs, Pc c) ∧ Inv e2
  | [], e, h, i => ⟨[], e, rfl, rfl, fun _ z => (nomatch z), i⟩
  | d :: r, e, h, i => by
    obtain ⟨e1, h1, h2, c, e2, h3, h4, h5⟩ := h d (by simp) e i
    obtain ⟨cs, e3, k1, k2, k3, k4⟩ := compM_inv Inv Pc (fun x hx => h x (List.mem_cons_of_mem _ hx)) h5
    refine ⟨c :: cs, e3, ?_, by simp [k2], fun x hx => ?_, k4⟩
    · unfold compM
      simp only [h1, h2, h3, k1]
    · rcases List.mem_cons.mp hx with z | z
      · rw [z]; exact h4
      · exact k3 x z
theorem toDs_m (l : List D) : C.toDs (l.map .frz) = l := toDs_frz l
@[simp] theorem shaped_int (i : Int) : SeqAt.shaped (.int i) = true := by unfold SeqAt.shaped; simp [PyData.canLay0, PyData.depth]
@[simp] theorem shaped_bool (i : Bool) : SeqAt.shaped (.bool i) = true := by unfold SeqAt.shaped; simp [PyData.canLay0, PyData.depth]
@[simp] theorem shaped_none : SeqAt.shaped .none = true := by unfold SeqAt.shaped; simp [PyData.canLay0, PyData.depth]
@[simp] theorem eqD_int (a b : Int) : eqD (.int a) (.int b) = some (a == b) := by simp [eqD, toPy, PyData.eqv]
theorem mulOk_r {a b : Int} (h1 : -(2 ^ 64) < b) (h2 : b < 2 ^ 64) : mulOk a b = true := by unfold mulOk; rw [decide_eq_true h1, decide_eq_true h2, Bool.and_self, Bool.or_true]
theorem mulOk_l {a b : Int} (h1 : -(2 ^ 64) < a) (h2 : a < 2 ^ 64) : mulOk a b = true := by unfold mulOk; rw [decide_eq_true h1, decide_eq_true h2, Bool.and_self, Bool.or_true, Bool.true_or]
theorem divOk_small {a b : Int} (h1 : b ≠ 0) (h2 : b.natAbs < 1073741824) : divOk a b = true := by simp [divOk, h1, PyProof.noPylong_small h2]
/-- an own pot of two numbers -/
def pot (a b : Int) : C := .own [.frz (.int a), .frz (.int b)]
def PotOk (c : C) : Prop := ∃ a b, c = pot a b ∧ 0 ≤ b ∧ b < 4294967296
/-- what a law's draw keeps to: one of 0 .. s - 1, the pot a pot -/
def DrawOk (m : List C → Out C) : Prop := ∀ (c : C) (s : Int), PotOk c → 0 < s → s < 1073741824 → ∃ r c', m [c, .frz (.int s)] = .ok (.frz (.int r)) [some c', none] ∧ 0 ≤ r ∧ r < s ∧ PotOk c'
end PL
namespace PL
open PySem PySem.Spec PyProof.Rows L2
/-! #### lists of ints as data -/
def inD (l : List Int) : List D := l.map D.int
def lnD (ls : List (List Int)) : List D := ls.map fun l => D.lst (inD l)
def fz (l : List D) : List C := l.map C.frz
@[simp] theorem inD_nil : inD [] = [] := rfl
@[simp] theorem lnD_nil : lnD [] = [] := rfl
@[simp] theorem fz_nil : fz [] = [] := rfl
@[simp] theorem fz_fold (l : List D) : l.map C.frz = fz l := rfl
@[simp] theorem toDs_fz (l : List D) : C.toDs (fz l) = l := toDs_frz l
@[simp] theorem inD_len (l : List Int) : (inD l).length = l.length := by simp [inD]
@[simp] theorem lnD_len (l : List (List Int)) : (lnD l).length = l.length := by simp [lnD]
@[simp] theorem fz_len (l : List D) : (fz l).length = l.length := List.length_map ..
theorem inD_app (a b : List Int) : inD (a ++ b) = inD a ++ inD b := List.map_append ..
theorem lnD_app (a b : List (List Int)) : lnD (a ++ b) = lnD a ++ lnD b := List.map_append ..
theorem fz_app (a b : List D) : fz (a ++ b) = fz a ++ fz b := List.map_append ..
theorem fz_cons (x : D) (l : List D) : fz (x :: l) = .frz x :: fz l := rfl
theorem inD_one (x : Int) : inD [x] = [.int x] := rfl
theorem lnD_one (x : List Int) : lnD [x] = [.lst (inD x)] := rfl
theorem fz_one (x : D) : fz [x] = [.frz x] := rfl
@[simp] theorem frzs_fz (l : List D) : frzs (fz l) = some l := frzs_map l
@[simp] theorem intsOf_inD (l : List Int) : intsOf (inD l) = some l := intsOf_map l
theorem toPys_ints : ∀ l : List Int, toPys (inD l) = some (l.map PyData.int)
  | [] => rfl
  | i :: r => by
    have ih := toPys_ints r
    simp only [inD, List.map_cons, toPys, toPy] at ih ⊢
    rw [ih]
theorem toPys_lns : ∀ ls : List (List Int), toPys (lnD ls) = some (ls.map fun l => PyData.list (l.map PyData.int))
  | [] => rfl
  | i :: r => by
    have ih := toPys_lns r
    have e := toPys_ints i
    simp only [lnD, inD, List.map_cons, toPys, toPy] at ih e ⊢
    rw [ih, e]
    rfl
theorem lay_ints : ∀ l : List Int, PyData.canLayAll0 (l.map PyData.int) = true
  | [] => rfl
  | i :: r => by simp [PyData.canLayAll0, PyData.canLay0, lay_ints r]
theorem lay_lns : ∀ ls : List (List Int), PyData.canLayAll0 (ls.map fun l => PyData.list (l.map PyData.int)) = true
  | [] => rfl
  | i :: r => by simp [PyData.canLayAll0, PyData.canLay0, lay_lns r, lay_ints i]
theorem deep_ints : ∀ l : List Int, PyData.depthAll (l.map PyData.int) ≤ 1
  | [] => by simp [PyData.depthAll]
  | i :: r => by
    have := deep_ints r
    simp only [List.map_cons, PyData.depthAll, PyData.depth]
    omega
theorem deep_lns : ∀ ls : List (List Int), PyData.depthAll (ls.map fun l => PyData.list (l.map PyData.int)) ≤ 2
  | [] => by simp [PyData.depthAll]
  | i :: r => by
    have := deep_lns r
    have := deep_ints i
    simp only [List.map_cons, PyData.depthAll, PyData.depth]
    omega
theorem shaped_ints (l : List Int) : SeqAt.shaped (.list (l.map PyData.int)) = true := by
  have := deep_ints l
  have e : PyData.depth (.list (l.map PyData.int)) = PyData.depthAll (l.map PyData.int) + 1 := by simp [PyData.depth]
  unfold SeqAt.shaped
  rw [e, show PyData.canLay0 (.list (l.map PyData.int)) = PyData.canLayAll0 (l.map PyData.int) by simp [PyData.canLay0], lay_ints, Bool.true_and]
  exact decide_eq_true (by omega)
theorem shaped_lns (l : List (List Int)) : SeqAt.shaped (.list (l.map fun l => PyData.list (l.map PyData.int))) = true := by
  have := deep_lns l
  have e : PyData.depth (.list (l.map fun l => PyData.list (l.map PyData.int))) = PyData.depthAll (l.map fun l => PyData.list (l.map PyData.int)) + 1 := by simp [PyData.depth]
  unfold SeqAt.shaped
  rw [e, show PyData.canLay0 (.list (l.map fun l => PyData.list (l.map PyData.int))) = PyData.canLayAll0 (l.map fun l => PyData.list (l.map PyData.int)) by simp [PyData.canLay0], lay_lns, Bool.true_and]
  exact decide_eq_true (by omega)
theorem eqv_ints : ∀ a b : List Int, PyData.eqvAll (a.map PyData.int) (b.map PyData.int) = (a == b)
  | [], [] => rfl
  | [], _ :: _ => rfl
  | _ :: _, [] => rfl
  | x :: a, y :: b => by
    simp only [List.map_cons, PyData.eqvAll, PyData.eqv, eqv_ints a b]
    rfl
theorem eqv_lns : ∀ a b : List (List Int), PyData.eqvAll (a.map fun l => PyData.list (l.map PyData.int)) (b.map fun l => PyData.list (l.map PyData.int)) = (a == b)
  | [], [] => rfl
  | [], _ :: _ => rfl
  | _ :: _, [] => rfl
  | x :: a, y :: b => by
    simp only [List.map_cons, PyData.eqvAll, PyData.eqv, eqv_lns a b, eqv_ints x y]
    rfl
theorem eqD_ints (a b : List Int) : eqD (.lst (inD a)) (.lst (inD b)) = some (a == b) := by
  simp only [eqD, toPy, toPys_ints, Option.map_some, shaped_ints, Bool.and_self, if_true, PyData.eqv, eqv_ints]
theorem eqD_lns (a b : List (List Int)) : eqD (.lst (lnD a)) (.lst (lnD b)) = some (a == b) := by
  simp only [eqD, toPy, toPys_lns, Option.map_some, shaped_lns, Bool.and_self, if_true, PyData.eqv, eqv_lns]
theorem eqD_ints0 (a : List Int) : eqD (.lst (inD a)) (.lst []) = some a.isEmpty := by
  have := eqD_ints a []
  rw [show inD [] = [] from rfl] at this
  rw [this]
  cases a <;> rfl
theorem eqD_lns0 (a : List (List Int)) : eqD (.lst (lnD a)) (.lst []) = some a.isEmpty := by
  have := eqD_lns a []
  rw [show lnD [] = [] from rfl] at this
  rw [this]
  cases a <;> rfl
/-- trailing zeros cut off -/
def trimI : List Int → List Int
  | [] => []
  | x :: r => match trimI r with
    | [] => if x = 0 then [] else [x]
    | y :: t => x :: y :: t
theorem trimI_snoc0 (l : List Int) : trimI (l ++ [0]) = trimI l := by
  induction l with
  | nil => rfl
  | cons x r ih => simp only [List.cons_append, trimI, ih]
theorem trimI_snoc {l : List Int} {x : Int} (h : x ≠ 0) : trimI (l ++ [x]) = l ++ [x] := by
  induction l with
  | nil => simp [trimI, h]
  | cons y r ih =>
    simp only [List.cons_append, trimI, ih]
    cases e : r ++ [x] with
    | nil => simp at e
    | cons z t => rfl
theorem trimI_len (l : List Int) : (trimI l).length ≤ l.length := by
  induction l with
  | nil => simp [trimI]
  | cons x r ih =>
    unfold trimI
    cases e : trimI r with
    | nil => simp only []; split <;> simp
    | cons y t => rw [e] at ih; simp at ih ⊢; omega
theorem trimI_last {l : List Int} {x : Int} (h : (trimI l).getLast? = some x) : x ≠ 0 := by
  induction l with
  | nil => simp [trimI] at h
  | cons y r ih =>
    unfold trimI at h
    cases e : trimI r with
    | nil =>
      rw [e] at h
      simp only [] at h
      split at h
      · simp at h
      · simp at h; subst h; assumption
    | cons z t =>
      rw [e] at h ih
      simp only [List.getLast?_cons_cons] at h
      exact ih h
theorem trimI_mem {l : List Int} {x : Int} (h : x ∈ trimI l) : x ∈ l := by
  induction l with
  | nil => exact h
  | cons y r ih =>
    unfold trimI at h
    cases e : trimI r with
    | nil =>
      rw [e] at h
      simp only [] at h
      split at h
      · cases h
      · simp at h; simp [h]
    | cons z t =>
      rw [e] at h ih
      rcases List.mem_cons.mp h with q | q
      · simp [q]
      · exact List.mem_cons_of_mem _ (ih q)
end PL
namespace PL
open PySem PySem.Spec PyProof.Rows L2
theorem atI_snoc {α : Type} (l : List α) (x : α) : atI (l ++ [x]) (-1) = some x := by
  unfold atI ixN
  rw [if_neg (by decide), if_pos (by rw [List.length_append, List.length_singleton]; omega)]
  have e : (-1 + ((l ++ [x]).length : Int)).toNat = l.length := by rw [List.length_append, List.length_singleton]; omega
  rw [e]
  simp
theorem ixN_nat {n j : Nat} (h : j < n) : ixN n (j : Int) = some j := by
  unfold ixN
  rw [if_pos (by omega), if_pos (by omega)]
  simp
theorem atI_nat {α : Type} {l : List α} {j : Nat} (h : j < l.length) : atI l (j : Int) = some l[j] := by
  unfold atI
  rw [ixN_nat h]
  simp [h]
theorem atI_none {α : Type} {l : List α} {i : Int} (h : (l.length : Int) ≤ i) : atI l i = none := by
  unfold atI ixN
  rw [if_pos (by omega), if_neg (by omega)]
  rfl
/-- the tail of zeros taken off, as the laws write it -/
theorem told_loop (s : Option C) (ns : List Int) : sWhile (tP (qAnd (qOf (pOp neV' (bV 1) (pF (evPs [])))) (qOf (pOp eqV' (bKf (kIx (kV 1) (pNeg (pK (.int 1))))) (pK (.int 0)))))) (sDrop (ePop 1 (paV 1))) [s, some (.own (fz (inD ns)))] = .nx [s, some (.own (fz (inD (trimI ns))))] := by
  have key : ∀ n, ∀ ns : List Int, ns.length = n → sWhile (tP (qAnd (qOf (pOp neV' (bV 1) (pF (evPs [])))) (qOf (pOp eqV' (bKf (kIx (kV 1) (pNeg (pK (.int 1))))) (pK (.int 0)))))) (sDrop (ePop 1 (paV 1))) [s, some (.own (fz (inD ns)))] = .nx [s, some (.own (fz (inD (trimI ns))))] := by
    intro n
    induction n with
    | zero =>
      intro ns h
      rw [List.eq_nil_of_length_eq_zero h, sWhile_eq]
      simp [tP, qAnd, qOf, pOp, bV, C.toD, pF, evPs, neV', eqD_ints0, ofV, sOf, trimI, C.toDs, show eqD (.lst []) (.lst []) = some true from eqD_ints0 []]
    | succ n ih =>
      intro ns h
      obtain ⟨r, x, rfl⟩ : ∃ r x, ns = r ++ [x] := by
        have hne : ns ≠ [] := by intro z; simp [z] at h
        exact ⟨ns.dropLast, ns.getLast hne, (List.dropLast_concat_getLast hne).symm⟩
      rw [sWhile_eq]
      have e1 : eqD (.lst (inD (r ++ [x]))) (.lst []) = some false := by rw [eqD_ints0]; cases r <;> rfl
      have e0 : fz (inD (r ++ [x])) = fz (inD r) ++ [.frz (.int x)] := by rw [inD_app, fz_app, inD_one, fz_one]
      have e2 : atI (fz (inD (r ++ [x]))) (-1) = some (.frz (.int x)) := by rw [e0]; exact atI_snoc _ _
      have e3 : (fz (inD (r ++ [x]))).getLast? = some (.frz (.int x)) := by rw [e0]; simp
      have e4 : (fz (inD (r ++ [x]))).dropLast = fz (inD r) := by rw [e0]; simp
      by_cases hx : x = 0
      · subst hx
        rw [trimI_snoc0, ← ih r (by simpa using h)]
        simp [tP, qAnd, qOf, pOp, bV, C.toD, pF, evPs, neV', e1, ofV, sOf, eqV', bKf, kIx, kV, pNeg, pK, ixC, e2, sDrop, ePop, paV, ownAt, setAt, getP, setP, e3, e4]
      · rw [trimI_snoc hx]
        simp [tP, qAnd, qOf, pOp, bV, C.toD, pF, evPs, neV', e1, ofV, sOf, eqV', bKf, kIx, kV, pNeg, pK, ixC, e2, hx]
  exact key ns.length ns rfl
theorem told_gen (ns : List Int) : bodyM 2 [] 1 (sSeq (sSet 1 (eF (fSq (pV 0)))) (sSeq (sWhile (tP (qAnd (qOf (pOp neV' (bV 1) (pF (evPs [])))) (qOf (pOp eqV' (bKf (kIx (kV 1) (pNeg (pK (.int 1))))) (pK (.int 0)))))) (sDrop (ePop 1 (paV 1)))) (sRet (eV 1)))) [.frz (.lst (inD ns))] = .ok (.frz (.lst (inD (trimI ns)))) [none] := by
  simp only [bodyM, startE, sSeq, sSet, sOf, eF, fSq, pV, sqD]
  simp [told_loop, sRet, eV, sOf, C.toD, outsE, sqD]
end PL
namespace PL
open PySem PySem.Spec PyProof.Rows L2
mutual
/-- plain data through and through (no script, no type) -/
def plD : D → Bool
  | .tup l => plL l
  | .lst l => plL l
  | .ro _ => false
  | .opq _ => false
  | .dcT _ => false
  | .dcL _ => false
  | _ => true
def plL : List D → Bool
  | [] => true
  | d :: r => plD d && plL r
end
theorem plL_mem : ∀ {l : List D} {d : D}, plL l = true → d ∈ l → plD d = true
  | [], d, h, m => nomatch m
  | e :: r, d, h, m => by
    simp only [plL, Bool.and_eq_true] at h
    rcases List.mem_cons.mp m with z | z
    · rw [z]; exact h.1
    · exact plL_mem h.2 z
theorem plL_of : ∀ {l : List D}, (∀ d ∈ l, plD d = true) → plL l = true
  | [], _ => rfl
  | d :: r, h => by simp only [plL, h d (by simp), plL_of (fun x hx => h x (List.mem_cons_of_mem _ hx)), Bool.and_self]
theorem plL_inD (l : List Int) : plL (inD l) = true := plL_of fun d h => by
  obtain ⟨i, _, rfl⟩ := List.mem_map.mp h
  rfl
theorem plL_lnD (l : List (List Int)) : plL (lnD l) = true := plL_of fun d h => by
  obtain ⟨i, _, rfl⟩ := List.mem_map.mp h
  exact plL_inD i
def itD : D → Bool
  | .int _ => true
  | _ => false
def sqB : D → Bool
  | .lst _ => true
  | .tup _ => true
  | _ => false
theorem itD_all {l : List D} (h : l.all itD = true) : ∃ ns, l = inD ns := by
  induction l with
  | nil => exact ⟨[], rfl⟩
  | cons d r ih =>
    simp only [List.all_cons, Bool.and_eq_true] at h
    obtain ⟨ns, rfl⟩ := ih h.2
    cases d with
    | int i => exact ⟨i :: ns, rfl⟩
    | _ => cases h.1
theorem sqB_sq {d : D} (h : sqB d = true) : ∃ l, sqD d = some l ∧ (d = .lst l ∨ d = .tup l) := by
  cases d with
  | lst l => exact ⟨l, rfl, .inl rfl⟩
  | tup l => exact ⟨l, rfl, .inr rfl⟩
  | _ => cases h
end PL
namespace PL
open PySem PySem.Spec PyProof.Rows L2
theorem evPs_n (env : Slots) : evPs [] env = some [] := rfl
theorem evPs_c (p : P) (ps : List P) (env : Slots) : evPs (p :: ps) env = match p env, evPs ps env with
  | some d, some r => some (d :: r)
  | _, _ => none := by
  cases h1 : p env <;> cases h2 : evPs ps env <;> simp [evPs, h1, h2]
theorem evMs_n (env : Slots) : evMs [] env = .ok [] env := rfl
theorem evMs_c (f : M C) (fs : List (M C)) (env : Slots) : evMs (f :: fs) env = (f env).bind fun c e1 => (evMs fs e1).bind fun cs e2 => .ok (c :: cs) e2 := rfl
/-! #### step by step -/
section
variable {f g b : SS} {env e e' : Slots} {c : C} {h : M C} {q : M Bool} {t : Tg} {src : M (List D)} {l : List D} {i N a : Nat} {pn : List Nat} {cs : List C} {R : SOut}
theorem seq_nx (h1 : f env = .nx e) : sSeq f g env = g e := by unfold sSeq; rw [h1]
theorem seq_rt (h1 : f env = .rt c e) : sSeq f g env = .rt c e := by unfold sSeq; rw [h1]
theorem set_ok (h1 : h env = .ok c e) : sSet i h env = .nx (e.set i (some c)) := by unfold sSet sOf; rw [h1]
theorem ret_ok (h1 : h env = .ok c e) : sRet h env = .rt c e := by unfold sRet sOf; rw [h1]
theorem drop_ok (h1 : h env = .ok c e) : sDrop h env = .nx e := by unfold sDrop sOf; rw [h1]
theorem if_t (h1 : q env = .ok true e) : sIf q f g env = f e := by unfold sIf sOf; rw [h1]; rfl
theorem if_f (h1 : q env = .ok false e) : sIf q f g env = g e := by unfold sIf sOf; rw [h1]; rfl
theorem for_ok (h1 : src env = .ok l e) : sFor src t b env = forL t b l e := by unfold sFor sOf; rw [h1]
theorem asg_ok (h1 : h env = .ok c e) (h2 : t c.toD e = some e') : sAsg h t env = .nx e' := by unfold sAsg sOf; rw [h1]; simp only [h2]
theorem body_rt (h1 : f (startE N cs) = .rt c e) : bodyM N pn a f cs = .ok c (outsE pn 0 a e) := by unfold bodyM; rw [h1]
theorem body_nx (h1 : f (startE N cs) = .nx e) : bodyM N pn a f cs = .ok (.frz .non) (outsE pn 0 a e) := by unfold bodyM; rw [h1]
theorem pCall_1 {fn : List D → Option V} {p : P} {d : D} {v : V} (h1 : p env = some d) (h2 : fn [d] = some v) : pCall fn [p] env = some (ofV v) := by unfold pCall; rw [evPs_c, h1, evPs_n]; simp only []; rw [h2]; rfl
theorem pOp_v {op : D → D → Option V} {p q : P} {a b : D} {v : V} (h1 : p env = some a) (h2 : q env = some b) (h3 : op a b = some v) : pOp op p q env = some (ofV v) := by unfold pOp; rw [h1, h2]; simp only []; rw [h3]; rfl
theorem qOf_b {p : P} {b : Bool} (h1 : p env = some (.bl b)) : qOf p env = some b := by unfold qOf; rw [h1]
theorem tP_of {p : PB} {b : Bool} (h1 : p env = some b) : tP p env = .ok b env := by unfold tP; rw [h1]
theorem eP_of {p : P} {d : D} (h1 : p env = some d) : eP p env = .ok (.frz d) env := by unfold eP; rw [h1]
/-- the def answers c -/
def Gives (m : List C → Out C) (cs : List C) (c : C) : Prop := ∃ o, m cs = .ok c o
theorem gives_rt (h1 : ∃ e, f (startE N cs) = .rt c e) : Gives (bodyM N pn a f) cs c := let ⟨_, h1⟩ := h1; ⟨_, body_rt h1⟩
theorem pFn_gives {m : List C → Out C} {ps : List P} {ds : List D} (hp : evPs ps env = some ds) (hm : Gives m (ds.map .frz) c) : pFn m ps env = some c.toD := by
  obtain ⟨o, hm⟩ := hm
  unfold pFn
  rw [hp]
  simp only []
  rw [hm]
theorem seq_for (Inv : Slots → Prop) (Pr : SOut → Prop) (hs : src env = .ok l e) (hl : ∃ e2, forL t b l e = .nx e2 ∧ Inv e2) (k : ∀ e2, Inv e2 → Pr (g e2)) : Pr (sSeq (sFor src t b) g env) := by
  obtain ⟨e2, h1, h2⟩ := hl
  rw [seq_nx ((for_ok hs).trans h1)]
  exact k e2 h2
theorem seq_for_rt (Pr : SOut → Prop) (hs : src env = .ok l e) (hl : ∃ e2, forL t b l e = .rt c e2) (k : ∀ e2, Pr (.rt c e2)) : Pr (sSeq (sFor src t b) g env) := by
  obtain ⟨e2, h1⟩ := hl
  rw [seq_rt ((for_ok hs).trans h1)]
  exact k e2
theorem forL_t (Inv : Slots → Prop) (P : D → Bool) (hP : l.all P = true) (h : ∀ d ∈ l, P d = true → ∀ e, Inv e → ∃ e1, t d e = some e1 ∧ ∃ e2, b e1 = .nx e2 ∧ Inv e2) (i : Inv e) : ∃ e2, forL t b l e = .nx e2 ∧ Inv e2 := by
  induction l generalizing e with
  | nil => exact ⟨e, rfl, i⟩
  | cons d r ih =>
    simp only [List.all_cons, Bool.and_eq_true] at hP
    obtain ⟨e1, h1, e2, h2, h3⟩ := h d (by simp) hP.1 e i
    obtain ⟨e3, k1, k2⟩ := ih hP.2 (fun x hx => h x (List.mem_cons_of_mem _ hx)) h3
    exact ⟨e3, by unfold forL; simp only [h1, h2]; exact k1, k2⟩
theorem forL_f (Inv : Slots → Prop) (P : D → Bool) (hP : l.all P = false) (h : ∀ d ∈ l, ∀ e, Inv e → ∃ e1, t d e = some e1 ∧ (P d = true → ∃ e2, b e1 = .nx e2 ∧ Inv e2) ∧ (P d = false → ∃ e2, b e1 = .rt c e2)) (i : Inv e) : ∃ e2, forL t b l e = .rt c e2 := by
  rcases forL_all Inv P h i with ⟨h1, _⟩ | ⟨_, h2⟩
  · rw [hP] at h1; cases h1
  · exact h2
end
end PL
namespace PL
open PySem PySem.Spec PyProof.Rows L2
/-! #### draws -/
theorem draw_E {m : List C → Out C} (hm : DrawOk m) {env : Slots} {c : C} {s : Int} (h0 : env[0]? = some (some c)) (hc : PotOk c) (hs : 0 < s) (hs2 : s < 1073741824) :
    ∃ r c', eFnL m 0 [eP (pK (.int s))] env = .ok (.frz (.int r)) (env.set 0 (some c')) ∧ 0 ≤ r ∧ r < s ∧ PotOk c' := by
  obtain ⟨r, c', h1, h2, h3, h4⟩ := hm c s hc hs hs2
  refine ⟨r, c', ?_, h2, h3, h4⟩
  unfold eFnL
  rw [h0]
  simp only [evMs_c, evMs_n, eP, pK, Out.bind, lentTo, h0, h1, C.toD]
theorem rngM_1 {f : M C} {env e1 : Slots} {j : Int} (h : f env = .ok (.frz (.int j)) e1) (h1 : 0 ≤ j) (h2 : j < 1073741824) : rngM [f] env = .ok ((List.range j.toNat).map fun (i : Nat) => .int (0 + (i : Int))) e1 := by
  have e : -(2 ^ 62) ≤ j ∧ j < 2 ^ 62 := by constructor <;> omega
  unfold rngM
  simp only [evMs_c, evMs_n, h, Out.bind, C.toDs, C.toD, rngL]
  rw [if_pos e]
theorem eOp_ok {op : D → D → Option V} {f g : M C} {env e1 e2 : Slots} {a b : C} {v : V} (h1 : f env = .ok a e1) (h2 : g e1 = .ok b e2) (h3 : op a.toD b.toD = some v) : eOp op f g env = .ok (.frz (ofV v)) e2 := by
  unfold eOp eBin
  rw [h1]
  simp only [Out.bind]
  rw [h2]
  simp only [h3, Option.map_some]
theorem eFn_1 {m : List C → Out C} {f : M C} {env e1 : Slots} {a c : C} (h1 : f env = .ok a e1) (h2 : Gives m [a] c) : eFn m [f] env = .ok (.frz c.toD) e1 := by
  obtain ⟨o, h2⟩ := h2
  unfold eFn
  simp only [evMs_c, evMs_n, h1, Out.bind, h2]
theorem eFrz_ok {f : M C} {env e1 : Slots} {c : C} (h : f env = .ok c e1) : eFrz f env = .ok (.frz c.toD) e1 := by
  unfold eFrz
  rw [h]
  rfl
theorem eApp_ok {i : Nat} {f : M C} {env e1 : Slots} {c : C} {l0 l : List C} (h0 : env[i]? = some (some (.own l0))) (h : f env = .ok c e1) (h1 : e1[i]? = some (some (.own l))) (hl : l.length < 100000) : eApp i f env = .ok (.frz .non) (e1.set i (some (.own (l ++ [c])))) := by
  unfold eApp
  simp only [ownAt, h0, getP, h, Out.bind, h1, hl, if_true, setAt, setP]
theorem eComp_ok {vs : List Nat} {t : Tg} {q : PB} {f : M C} {src : M (List D)} {env e1 e2 : Slots} {l : List D} {cs : List C} (h : src env = .ok l e1) (h1 : freeE vs e1 = true) (h2 : l.length ≤ 100000) (h3 : compM vs t q f l e1 = some (cs, e2)) : eComp vs t q f src env = .ok (.own cs) e2 := by
  unfold eComp
  rw [h]
  simp only [Out.bind, h1, h2, decide_true, Bool.and_self, if_true, h3]
theorem ints_of {cs : List C} (h : ∀ c ∈ cs, ∃ z : Int, c = .frz (.int z)) : ∃ ns : List Int, cs = fz (inD ns) := by
  induction cs with
  | nil => exact ⟨[], rfl⟩
  | cons c r ih =>
    obtain ⟨z, rfl⟩ := h c (by simp)
    obtain ⟨ns, rfl⟩ := ih fun x hx => h x (List.mem_cons_of_mem _ hx)
    exact ⟨z :: ns, rfl⟩
end PL
namespace PL
open PySem PySem.Spec PyProof.Rows L2
section
variable {X : Cx} {w : WX} {H : Hp} {σ : L2.St} {a b e : Expr} {es : List Expr} {p q r : P} {ps : List P} {fs : List (M C)} {pos pp : Pos} {K : PySem.W.Frag} {mg : Str → Option Value} {B : Addr → Prop} {O : List Addr} {env : Slots} {st : Stmt} {rest : List Stmt} {pn : List Nat} {k : Nat}
/-! ### dict displays of pure parts, keys ints and texts -/
def keyD : D → Option Key
  | .int i => some (.inl i)
  | .str x => some (.inr x)
  | _ => none
theorem keyD_is {W : Addr → Prop} {d : D} {k : Key} {x : V} (h : keyD d = some k) (i : Is K W H d x) : x = L2.kV k := by
  cases d <;> simp [keyD] at h
  · subst h; exact i
  · subst h; exact i
def putD {κ : Type} [DecidableEq κ] (l : List (κ × D)) (k : κ) (d : D) : List (κ × D) :=
  if (l.any fun kv => decide (kv.1 = k)) = true then l.map (fun kv => if kv.1 = k then (kv.1, d) else kv) else l ++ [(k, d)]
theorem IsP.any {W : Addr → Prop} {k : Key} : ∀ {l : List (Key × D)} {xs : List (Key × V)}, IsP K W H l xs → (xs.any fun kv => decide (kv.1 = k)) = (l.any fun kv => decide (kv.1 = k))
  | [], xs, h => by rw [show xs = [] from h]; rfl
  | (k', d) :: r, xs, h => by
    obtain ⟨x, ys, rfl, h1, h2⟩ := h
    simp only [List.any_cons, IsP.any h2]
theorem IsP.mapP {W : Addr → Prop} {k : Key} {d : D} {v : V} (hv : Is K W H d v) : ∀ {l : List (Key × D)} {xs : List (Key × V)}, IsP K W H l xs → IsP K W H (l.map (fun kv => if kv.1 = k then (kv.1, d) else kv)) (xs.map (fun kv => if kv.1 = k then (kv.1, v) else kv))
  | [], xs, h => by rw [show xs = [] from h]; exact rfl
  | (k', d') :: r, xs, h => by
    obtain ⟨x, ys, rfl, h1, h2⟩ := h
    by_cases hk : k' = k
    · subst hk
      have := IsP.mapP (k := k') hv h2
      simp only [List.map_cons, if_true]
      exact ⟨v, _, rfl, hv, this⟩
    · have := IsP.mapP (k := k) hv h2
      simp only [List.map_cons, hk, if_false]
      exact ⟨x, _, rfl, h1, this⟩
theorem IsP.snoc {W : Addr → Prop} {k : Key} {d : D} {v : V} (hv : Is K W H d v) : ∀ {l : List (Key × D)} {xs : List (Key × V)}, IsP K W H l xs → IsP K W H (l ++ [(k, d)]) (xs ++ [(k, v)])
  | [], xs, h => by rw [show xs = [] from h]; exact ⟨v, [], rfl, hv, rfl⟩
  | (k', d') :: r, xs, h => by
    obtain ⟨x, ys, rfl, h1, h2⟩ := h
    exact ⟨x, ys ++ [(k, v)], rfl, h1, IsP.snoc hv h2⟩
theorem IsP.put {W : Addr → Prop} {k : Key} {d : D} {v : V} {l : List (Key × D)} {xs : List (Key × V)} (h : IsP K W H l xs) (hv : Is K W H d v) : IsP K W H (putD l k d) (putK xs k v) := by
  unfold putD putK
  rw [IsP.any h]
  split
  · exact IsP.mapP hv h
  · exact IsP.snoc hv h
def evDs : List (P × P) → Slots → Option (List (Key × D))
  | [], _ => some []
  | (pk, pv) :: r, env => match pk env, pv env, evDs r env with
    | some dk, some dv, some l => (keyD dk).map fun k => (k, dv) :: l
    | _, _, _ => none
def mergeD (l : List (Key × D)) : List (Key × D) := l.foldl (fun acc kv => putD acc kv.1 kv.2) []
theorem IsP.merge {W : Addr → Prop} : ∀ {l : List (Key × D)} {xs : List (Key × V)} {acc : List (Key × D)} {ac : List (Key × V)}, IsP K W H l xs → IsP K W H acc ac → IsP K W H (l.foldl (fun acc kv => putD acc kv.1 kv.2) acc) (mergeK ac xs)
  | [], xs, acc, ac, h, h' => by rw [show xs = [] from h]; exact h'
  | (k, d) :: r, xs, acc, ac, h, h' => by
    obtain ⟨x, ys, rfl, h1, h2⟩ := h
    exact IsP.merge (acc := putD acc k d) (ac := putK ac k x) h2 (h'.put h1)
def pDisp (l : List (P × P)) : P := fun env => (evDs l env).bind fun kvs => if kvs.length ≤ 15 then some (.dct (mergeD kvs)) else none
inductive DDk (X : Cx) : List (Option Expr) → List Expr → List (P × P) → Prop where
  | nil : DDk X [] [] []
  | cons {k v : Expr} {ks : List (Option Expr)} {vs : List Expr} {pk pv : P} {l : List (P × P)} : POk X k pk → POk X v pv → DDk X ks vs l → DDk X (some k :: ks) (v :: vs) ((pk, pv) :: l)
theorem dd_nil : DDk X [] [] [] := .nil
theorem dd_cons {k v : Expr} {ks : List (Option Expr)} {vs : List Expr} {pk pv : P} {l : List (P × P)} (h1 : POk X k pk) (h2 : POk X v pv) (h3 : DDk X ks vs l) : DDk X (some k :: ks) (v :: vs) ((pk, pv) :: l) := .cons h1 h2 h3
theorem DDk.pps {ks : List (Option Expr)} {vs : List Expr} {l : List (P × P)} (h : DDk X ks vs l) : PPs X pos ks vs (l.map fun z => (rdP X z.1, rdP X z.2)) := by
  induction h with
  | nil => exact pps_nil
  | cons h1 h2 _ ih => exact pps_cons h1 h2 ih
theorem evDs_read {l : List (P × P)} : ∀ {H : Hp} {B : Addr → Prop} {O : List Addr} {kvs : List (Key × D)} {Q : List (V × V) → Hp → Prop}, Stt X.K B H σ env O → evDs l env = some kvs → (∀ (xs : List (Key × V)) H', Grw H H' → IsP X.K (fun a => B a ∨ a ∈ O) H' kvs xs → Q (xs.map fun kv => (L2.kV kv.1, kv.2)) H') →
    tPairs (l.map fun z => (rdP X z.1, rdP X z.2)) σ H Q := by
  induction l with
  | nil =>
    intro H B O kvs Q s he h
    cases he
    exact h [] H Grw.refl rfl
  | cons z l ih =>
    intro H B O kvs Q s he h
    obtain ⟨pk, pv⟩ := z
    unfold evDs at he
    split at he
    · rename_i dk dv kr e1 e2 e3
      simp only [Option.map_eq_some_iff] at he
      obtain ⟨k, hk, rfl⟩ := he
      refine ⟨B, env, O, s, dk, e1, fun x H1 g1 hx => ⟨B, env, O, s.grw g1, dv, e2, fun y H2 g2 hy => ?_⟩⟩
      refine ih ((s.grw g1).grw g2) e3 fun xs H3 g3 hxs => ?_
      have := h ((k, y) :: xs) H3 ((g1.trans g2).trans g3) ⟨y, xs, rfl, hy.grw g3, hxs⟩
      rw [List.map_cons, ← keyD_is hk hx] at this
      exact this
    · cases he
theorem p_disp {ks : List (Option Expr)} {vs : List Expr} {l : List (P × P)} (h : DDk X ks vs l) (hall : ks.all (·.isSome) = true := by rfl) (hl : ks.length = vs.length := by rfl) (h0 : ks ≠ [] := by exact List.cons_ne_nil _ _)
    (h15 : ks.length ≤ 15 := by decide) : POk X (.Dict ks vs pos) (pDisp l) := (pe_disp h.pps hall hl h0 h15).imp fun σ H Q h => by
  obtain ⟨B, env, O, s, d, hp, h⟩ := h
  unfold pDisp at hp
  simp only [Option.bind_eq_some_iff] at hp
  obtain ⟨kvs, e1, hp⟩ := hp
  split at hp
  · rename_i hlen
    cases hp
    intro t ht
    have g : Grw H (upd H t (.dK [])) := fun b o e => by rw [upd_ne (ne_of_none e ht)]; exact e
    have s1 : Stt X.K (fun a => B a ∨ a = t) (upd H t (.dK [])) σ env O := s.grow g (fun a z => z.imp id fun z => by rw [show a = t from z]; exact ht) fun a z => by
      rcases z with z | z
      · obtain ⟨u, e⟩ := s.tr a z; exact ⟨u, g a u e⟩
      · exact ⟨⟨.dK [], True.intro⟩, by rw [show a = t from z]; exact upd_same⟩
    refine evDs_read s1 e1 fun xs H2 g2 hxs => ⟨g2 _ _ upd_same, xs, rfl, ?_, ?_⟩
    · have : ∀ {l : List (Key × D)} {xs : List (Key × V)}, IsP X.K (fun a => (B a ∨ a = t) ∨ a ∈ O) H2 l xs → xs.length = l.length := IsP.length
      rw [this hxs]; exact hlen
    · have nt : ¬ (B t ∨ t ∈ O) := fun z => by
        obtain ⟨u, e⟩ := s.trk t z
        rw [ht] at e; cases e
      refine h (.ref t) _ (fun b o e => ?_) ⟨t, _, rfl, upd_same, nt, IsP.merge (IsP.kp (fun b o hw hb => ⟨?_, fun z => hw (z.imp .inl id)⟩) _ _ hxs) rfl⟩
      · rw [upd_ne (ne_of_none e ht)]
        exact g2 _ _ (g _ _ e)
      · exact (upd_ne fun z : b = t => hw (.inl (.inr z))).trans hb
  · cases hp
end
/-! ### repr, dicts too -/
def keyPy : Key → PyData
  | .inl i => .int i
  | .inr x => .str x
mutual
def toPyR : D → Option PyData
  | .non => some .none
  | .bl b => some (.bool b)
  | .int i => some (.int i)
  | .str s => some (.str s)
  | .tup l => (toPysR l).map .tuple
  | .lst l => (toPysR l).map .list
  | .dct l => (toPyP l).map .dict
  | _ => none
def toPysR : List D → Option (List PyData)
  | [] => some []
  | d :: r => match toPyR d, toPysR r with
    | some x, some xs => some (x :: xs)
    | _, _ => none
def toPyP : List (Key × D) → Option (List (PyData × PyData))
  | [] => some []
  | (k, d) :: r => match toPyR d, toPyP r with
    | some x, some xs => some ((keyPy k, x) :: xs)
    | _, _ => none
end
section
variable {X : Cx} {pins : List (Addr × Obj)} {σ : L2.St} {H : Hp} {s : Shared} {W : Addr → Prop}
theorem not_sys {a : Addr} {o : Obj} (hs : SysD s.heap) (e : s.heap.get? a = some o) (nd : ∀ es ep, o.data ≠ .dict es ep) : a ≠ sysModules := fun z => by
  obtain ⟨o', es, ep, e', d⟩ := hs
  rw [z, e'] at e
  cases e
  exact nd _ _ d
mutual
theorem Is.rd (I : Inv X pins σ H s) (hs : SysD s.heap) : ∀ (d : D) (v : V) (u : Value) (y : PyData), Is X.K W H d v → toPyR d = some y → RelV v u → ∃ as, Reads s.heap u y as ∧ sysModules ∉ as
  | .non, v, u, y, h, e, r => by cases e; cases (show v = _ from h); cases r; exact ⟨_, Reads.none, by simp⟩
  | .bl b, v, u, y, h, e, r => by cases e; cases (show v = _ from h); cases r; exact ⟨_, Reads.bool b, by simp⟩
  | .int i, v, u, y, h, e, r => by cases e; cases (show v = _ from h); obtain ⟨t, rfl⟩ := r; exact ⟨_, Reads.int i t, by simp⟩
  | .str x, v, u, y, h, e, r => by cases e; cases (show v = _ from h); obtain ⟨t, rfl⟩ := r; exact ⟨_, Reads.str x t, by simp⟩
  | .tup l, v, u, y, h, e, r => by
    simp only [toPyR, Option.map_eq_some_iff] at e
    obtain ⟨ys, e, rfl⟩ := e
    obtain ⟨a, xs, rfl, ha, _, il⟩ := h
    cases r
    obtain ⟨its, rv, ⟨o, ho, hc, n, hd⟩, _⟩ := I.tuple (SqT.of ha)
    obtain ⟨as, hr, ns⟩ := IsL.rd I hs l xs its ys il e rv
    exact ⟨_, Reads.tuple ho hc hd hr, ns⟩
  | .lst l, v, u, y, h, e, r => by
    simp only [toPyR, Option.map_eq_some_iff] at e
    obtain ⟨ys, e, rfl⟩ := e
    obtain ⟨a, xs, rfl, ha, _, il⟩ := h
    cases r
    obtain ⟨its, rv, ⟨o, n, ho, hc, _, hd⟩, _⟩ := I.list (SqL.of ha)
    obtain ⟨as, hr, ns⟩ := IsL.rd I hs l xs its ys il e rv
    refine ⟨_, Reads.list ho hc hd hr, fun z => ?_⟩
    rcases List.mem_cons.mp z with z | z
    · exact not_sys hs ho (fun es ep q => by rw [hd] at q; cases q) z.symm
    · exact ns z
  | .dct l, v, u, y, h, e, r => by
    simp only [toPyR, Option.map_eq_some_iff] at e
    obtain ⟨ys, e, rfl⟩ := e
    obtain ⟨a, xs, rfl, ha, _, il⟩ := h
    cases r
    obtain ⟨_, na, vs, kv, o, es, ep, ho, hx, hd, _, hp, _⟩ := I.hok a _ ha
    obtain ⟨as, bs, h1, h2, n1, n2⟩ := IsP.rd I hs l xs es.toList vs ys il e kv hp
    refine ⟨_, Reads.dict ho hx.1 hd h1 h2, fun z => ?_⟩
    rcases List.mem_append.mp z with z | z
    · rcases List.mem_cons.mp z with z | z
      · rw [← z] at na
        simp at na
      · exact n1 z
    · exact n2 z
  | .dcT l, v, u, y, h, e, r => by cases e
  | .dcL l, v, u, y, h, e, r => by cases e
  | .ro l, v, u, y, h, e, r => by cases e
  | .opq l, v, u, y, h, e, r => by cases e
theorem IsL.rd (I : Inv X pins σ H s) (hs : SysD s.heap) : ∀ (l : List D) (xs : List V) (us : List Value) (ys : List PyData), IsL X.K W H l xs → toPysR l = some ys → Vals xs us → ∃ as, ReadsAll s.heap us ys as ∧ sysModules ∉ as
  | [], xs, us, ys, h, e, r => by
    cases e
    rw [show xs = [] from h] at r
    cases r
    exact ⟨_, ReadsAll.nil, by simp⟩
  | d :: l, xs, us, ys, h, e, r => by
    obtain ⟨x, zs, rfl, h1, h2⟩ := h
    simp only [toPysR] at e
    cases e1 : toPyR d with
    | none => rw [e1] at e; cases e
    | some y1 =>
      cases e2 : toPysR l with
      | none => rw [e1, e2] at e; cases e
      | some y2 =>
        rw [e1, e2] at e
        cases e
        cases r with
        | cons r1 r2 =>
          obtain ⟨as, q1, n1⟩ := Is.rd I hs d x _ y1 h1 e1 r1
          obtain ⟨bs, q2, n2⟩ := IsL.rd I hs l zs _ y2 h2 e2 r2
          exact ⟨_, ReadsAll.cons q1 q2, fun z => (List.mem_append.mp z).elim n1 n2⟩
theorem IsP.rd (I : Inv X pins σ H s) (hs : SysD s.heap) : ∀ (l : List (Key × D)) (xs : List (Key × V)) (es : List DictEntry) (vs : List (Key × Value)) (ys : List (PyData × PyData)), IsP X.K W H l xs → toPyP l = some ys → KV xs vs → Pairs (mixKind X.prog X.w) es vs →
    ∃ as bs, ReadsAll s.heap (es.map (·.key)) (ys.map (·.1)) as ∧ ReadsAll s.heap (es.map (·.val)) (ys.map (·.2)) bs ∧ sysModules ∉ as ∧ sysModules ∉ bs
  | [], xs, es, vs, ys, h, e, r, p => by
    cases e
    rw [show xs = [] from h] at r
    cases r
    cases p
    exact ⟨_, _, ReadsAll.nil, ReadsAll.nil, by simp, by simp⟩
  | (k, d) :: l, xs, es, vs, ys, h, e, r, p => by
    obtain ⟨x, zs, rfl, h1, h2⟩ := h
    simp only [toPyP] at e
    cases e1 : toPyR d with
    | none => rw [e1] at e; cases e
    | some y1 =>
      cases e2 : toPyP l with
      | none => rw [e1, e2] at e; cases e
      | some y2 =>
        rw [e1, e2] at e
        cases e
        cases r with
        | cons r1 r2 =>
          cases p with
          | @cons en _ _ _ p1 p2 p3 =>
            obtain ⟨as, bs, q1, q2, n1, n2⟩ := IsP.rd I hs l zs _ _ y2 h2 e2 r2 p3
            obtain ⟨cs, q3, n3⟩ := Is.rd I hs d x _ y1 h1 e1 r1.2
            have hk : ∃ cs, Reads s.heap en.key (keyPy k) cs ∧ sysModules ∉ cs := by
              rw [← r1.1] at p1
              rcases keyIs_shape p1 with ⟨i, t, rfl, ek⟩ | ⟨z, t, rfl, ek⟩
              · exact ⟨[], ek ▸ Reads.int i t, by simp⟩
              · exact ⟨[], ek ▸ Reads.str z t, by simp⟩
            obtain ⟨ds, q4, n4⟩ := hk
            refine ⟨_, _, ReadsAll.cons q4 q1, ReadsAll.cons (by show Reads s.heap en.val y1 cs; rw [p2]; exact q3) q2, fun z => (List.mem_append.mp z).elim n4 n1, fun z => (List.mem_append.mp z).elim n3 n2⟩
end
variable {p : P} {ps : List P} {e : Expr} {pos pp : Pos} {k : Nat}
def rRepr2 (K : PySem.W.Frag) : List V → Hp → VK → Prop := fun xs H Q => ∃ x d y, xs = [x] ∧ Is K NoW H d x ∧ toPyR d = some y ∧ y.showable = true ∧ y.depth ≤ 60 ∧ y.shown.length ≤ sizeLine ∧ Q (.str y.shown) H
theorem call_repr2 (hr : Room k X.A) (hg : X.A.guards = some []) (hsys : SysD X.base) : CallR X (.builtin "repr") (rRepr2 X.K) := by
  intro pins s σ H xs us Q I r h
  obtain ⟨x, d, y, rfl, hd, h0, h1, h3, h4, q⟩ := h
  obtain ⟨u, rfl, ru⟩ := r.one
  have fin : ∀ t tk, EP X pins σ Q (.str y.shown t) { s with toks := tk } := fun t tk => ⟨.str y.shown, H, I.tok tk, ⟨t, rfl⟩, q⟩
  have hs : SysD s.heap := hsys.keeps I.bk
  have big : ∀ a, u = .ref a → wpAny (model X.prog X.w) X.A (call (.builtin "repr") [u]) (EP X pins σ Q) X.xe s := fun a e => by
    subst e
    obtain ⟨as, rr, ns⟩ := Is.rd I hs d x _ y hd h0 ru
    exact repr_of_reads' rr h1 (fun _ => ns) hg (by have := hr.units; omega) (fun _ _ e => e) (fun h' u tk hk => ⟨.str _, H, I.kept (t' := tk) hk, ⟨u, rfl⟩, q⟩) h4
  cases d with
  | non => cases h0; cases (show x = _ from hd); cases ru; exact PySem.P.repr_of_none (fin _ _)
  | bl b => cases h0; cases (show x = _ from hd); cases ru; exact PySem.P.repr_of_bool (fin _ _)
  | int i =>
    cases h0
    cases (show x = _ from hd)
    obtain ⟨t, rfl⟩ := ru
    exact PySem.P.repr_of_int (by simpa [PyData.showable] using h1) (fin _ _)
  | str z =>
    cases h0
    cases (show x = _ from hd)
    obtain ⟨t, rfl⟩ := ru
    exact PySem.P.repr_of_str (fin _ _) h4
  | lst l => obtain ⟨a, _, rfl, _⟩ := id hd; cases ru; exact big a rfl
  | tup l => obtain ⟨a, _, rfl, _⟩ := id hd; cases ru; exact big a rfl
  | dct l => obtain ⟨a, _, rfl, _⟩ := id hd; cases ru; exact big a rfl
  | dcT l => cases h0
  | dcL l => cases h0
  | ro l => cases h0
  | opq l => cases h0
def reprF2 : List D → Option V
  | [d] => match toPyR d with
    | some y => if y.showable && decide (y.depth ≤ 60) && decide (y.shown.length ≤ 16777216) then some (.str y.shown) else none
    | none => none
  | _ => none
theorem cal_repr2 : CalS X.K (rRepr2 X.K) reprF2 := fun H xs ds v Q h e q => by
  unfold reprF2 at e
  split at e
  · rename_i d
    split at e
    · rename_i y ey
      split at e
      · rename_i hz
        cases e
        simp only [Bool.and_eq_true, decide_eq_true_eq] at hz
        obtain ⟨x, rfl, hx⟩ := h.one
        exact ⟨x, d, y, rfl, hx, ey, hz.1.1, hz.1.2, by rw [sizeLine_eq]; exact hz.2, q⟩
      · cases e
    · cases e
  · cases e
theorem p_repr2 (hm : X.mg "repr" = none) (hr : Room k X.A) (hgd : X.A.guards = some []) (hsys : SysD X.base) (ha : ABk X [e] ps) (hg : Gl X "repr" := by rfl) (he : starEach [e] X.env = (false, eval e X.env) :: starEach [] X.env := by rfl) (hpl : (backTo pos (starEach [] X.env)).any (·.1) = false := by rfl) : POk X (.Call (.Name "repr" pp) [e] [] pos) (pCall reprF2 ps) :=
  p_callB (call_repr2 hr hgd hsys) cal_repr2 hg hm (by decide +kernel) ha (by decide) (by decide) he hpl
theorem e_repr2 {w : WX} {fs : List (M C)} (hm : X.mg "repr" = none) (hr : Room k X.A) (hgd : X.A.guards = some []) (hsys : SysD X.base) (ha : AMk X w [e] fs) (hg : Gl X "repr" := by rfl) (he : starEach [e] X.env = (false, eval e X.env) :: starEach [] X.env := by rfl) (hpl : (backTo pos (starEach [] X.env)).any (·.1) = false := by rfl) : EOk X w (.Call (.Name "repr" pp) [e] [] pos) (eCall reprF2 fs) :=
  e_callB (call_repr2 hr hgd hsys) cal_repr2 hg hm (by decide +kernel) ha (by decide) (by decide) he hpl
/-! ### x in (a, b, ..) of scalars -/
def vD : D → Option V
  | .non => some .non
  | .bl b => some (.bl b)
  | .int i => some (.int i)
  | .str x => some (.str x)
  | _ => none
theorem vD_is {K : PySem.W.Frag} {W : Addr → Prop} {d : D} {v x : V} (h : vD d = some v) (i : Is K W H d x) : x = v ∧ flatV v = true := by
  cases d <;> simp [vD] at h <;> subst h <;> exact ⟨i, rfl⟩
def vDs : List D → Option (List V)
  | [] => some []
  | d :: r => match vD d, vDs r with
    | some v, some vs => some (v :: vs)
    | _, _ => none
theorem vDs_is {K : PySem.W.Frag} {W : Addr → Prop} : ∀ {l : List D} {vs xs : List V}, vDs l = some vs → IsL K W H l xs → xs = vs ∧ vs.all flatV = true
  | [], vs, xs, h, i => by cases h; exact ⟨i, rfl⟩
  | d :: r, vs, xs, h, i => by
    obtain ⟨x, ys, rfl, i1, i2⟩ := i
    simp only [vDs] at h
    cases e1 : vD d with
    | none => rw [e1] at h; cases h
    | some v =>
      cases e2 : vDs r with
      | none => rw [e1, e2] at h; cases h
      | some ws =>
        rw [e1, e2] at h
        cases h
        obtain ⟨rfl, f1⟩ := vD_is e1 i1
        obtain ⟨rfl, f2⟩ := vDs_is e2 i2
        exact ⟨rfl, by simp [f1, f2]⟩
def sqV (d : D) : Option (List V) := match d with
  | .lst l => vDs l
  | .tup l => vDs l
  | _ => none
def inF (neg : Bool) (a b : D) : Option V := match vD a, sqV b with
  | some v, some vs => some (.bl (if neg then !L2.inV v vs else L2.inV v vs))
  | _, _ => none
theorem pure_in {K : PySem.W.Frag} {neg : Bool} : PureS K (rIn K neg) (inF neg) := fun H x y d1 d2 v Q h1 h2 e q => by
  unfold inF at e
  split at e
  · rename_i v1 vs e1 e2
    cases e
    obtain ⟨rfl, f1⟩ := vD_is e1 h1
    unfold sqV at e2
    split at e2
    · obtain ⟨p, xs, rfl, hp, _, il⟩ := h2
      obtain ⟨rfl, f2⟩ := vDs_is e2 il
      exact ⟨p, _, rfl, .inl (SqL.of hp), f1, f2, q⟩
    · obtain ⟨p, xs, rfl, hp, _, il⟩ := h2
      obtain ⟨rfl, f2⟩ := vDs_is e2 il
      exact ⟨p, _, rfl, .inr (SqT.of hp), f1, f2, q⟩
    · cases e2
  · cases e
variable {a b : Expr} {q : P}
theorem p_in (ha : BOk X a p) (hb : BOk X b q) (hm : behindInMarks .In b = false := by rfl) : POk X (.Compare a [.In] [b] pos) (pOp (inF false) p q) := p_cmp op_in_seq pure_in hm ha hb
theorem p_nin (ha : BOk X a p) (hb : BOk X b q) (hm : behindInMarks .NotIn b = false := by rfl) : POk X (.Compare a [.NotIn] [b] pos) (pOp (inF true) p q) := p_cmp op_notIn_seq pure_in hm ha hb
theorem q_in (ha : BOk X a p) (hb : BOk X b q) (hm : behindInMarks .In b = false := by rfl) : QOk X (.Compare a [.In] [b] pos) (qOf (pOp (inF false) p q)) := q_cmp op_in_seq pure_in hm ha hb
theorem q_nin (ha : BOk X a p) (hb : BOk X b q) (hm : behindInMarks .NotIn b = false := by rfl) : QOk X (.Compare a [.NotIn] [b] pos) (qOf (pOp (inF true) p q)) := q_cmp op_notIn_seq pure_in hm ha hb
end
end PL
/-! ### zip over two sequences, lists or tuples -/
namespace PL
open PySem PySem.Spec PyProof.Rows L2
/-- t: a tuple -/
def SqK (t : Bool) (K : PySem.W.Frag) (H : Hp) (a : Addr) (xs : List V) : Prop := match t with
  | true => SqT K H a xs
  | false => SqL K H a xs
def ItAt (t : Bool) (it a : Addr) (i : Nat) (h : Heap) : Prop := match t with
  | true => h.IsTupleIter it a i
  | false => h.IsListIter it a i
def HasIt (t : Bool) (h : Heap) (a : Addr) (items : Array Value) : Prop := match t with
  | true => h.IsTuple a items
  | false => h.IsList a items
theorem ItAt.obj {t : Bool} {it a : Addr} {i : Nat} {h : Heap} (x : ItAt t it a i h) : ∃ o, h.get? it = some o ∧ ∀ v, o.data ≠ .cell v := by
  cases t <;> (obtain ⟨o, e, _, d⟩ := x; exact ⟨o, e, fun v q => by rw [d] at q; cases q⟩)
theorem ItAt.at {t : Bool} {it a : Addr} {i : Nat} {h h' : Heap} (x : ItAt t it a i h) (k : ∀ o, h.get? it = some o → h'.get? it = some o) : ItAt t it a i h' := by
  cases t
  · exact Heap.IsListIter.at x k
  · exact Heap.IsTupleIter.at x k
theorem drawsK {prog : Program} {w : World} {A : Around} (hh : A.handled = none) (t : Bool) (it a : Addr) (ne : a ≠ it) (items : Array Value) :
    Draws prog w A it [it, a] items.size (fun i v => items[i]? = some v) (fun i h => ItAt t it a i h ∧ HasIt t h a items) := by
  cases t
  · exact Draws.list hh it a ne items
  · exact Draws.tuple hh it a ne items
theorem inv_sq {X : Cx} {pins : List (Addr × Obj)} {σ : L2.St} {H : Hp} {s : Shared} {t : Bool} {a : Addr} {xs : List V} (I : Inv X pins σ H s) (h : SqK t X.K H a xs) : ∃ its, Vals xs its ∧ HasIt t s.heap a its.toArray := by
  cases t
  · obtain ⟨its, rv, p, _⟩ := I.list h; exact ⟨its, rv, p.isList⟩
  · obtain ⟨its, rv, p, _⟩ := I.tuple h; exact ⟨its, rv, p⟩
theorem inv_sq_inj {X : Cx} {pins : List (Addr × Obj)} {σ : L2.St} {H : Hp} {s : Shared} {t : Bool} {a : Addr} {xs ys : List V} (I : Inv X pins σ H s) (h : SqK t X.K H a xs) (h' : SqK t X.K H a ys) : xs = ys := by
  cases t
  · exact I.list_inj h h'
  · exact I.tuple_inj h h'
theorem HasIt.lt {t : Bool} {h : Heap} {a : Addr} {items : Array Value} (x : HasIt t h a items) : a < h.objs.size := by
  cases t <;> (obtain ⟨o, e, _⟩ := x; exact Heap.lt_size e)
def ItzS (K : PySem.W.Frag) (t1 t2 : Bool) (a b : Addr) : It :=
  ⟨fun i H => ∃ (xs ys : List V) (x y : V), SqK t1 K H a xs ∧ SqK t2 K H b ys ∧ xs[i]? = some x ∧ ys[i]? = some y,
    fun i H v H' => ∃ T x y, v = .ref T ∧ H T = none ∧ H' = upd H T (.tup [x, y]) ∧ (∀ xs, SqK t1 K H a xs → xs[i]? = some x) ∧ ∀ ys, SqK t2 K H b ys → ys[i]? = some y,
    fun i H => ∃ xs ys : List V, SqK t1 K H a xs ∧ SqK t2 K H b ys ∧ i ≤ xs.length ∧ i ≤ ys.length ∧ (xs.length = i ∨ ys.length = i)⟩
theorem zip_sep {n a b : Addr} (ha : a < n) (hb : b < n) : ZipSep2 (n + 4) (n + 2) (n + 3) n (n + 1) [n, a] [n + 1, b] := by
  have e : ∀ (p q : Nat), p ≠ q → (p : Addr) ≠ q := fun _ _ h => h
  have ha' : (a : Nat) < n := ha
  have hb' : (b : Nat) < n := hb
  refine ⟨?_, ?_, ?_, ?_, by simp, ?_, ?_, ?_, by simp, ?_, ?_, ?_, ?_⟩
  · exact Nat.ne_of_lt (Nat.add_lt_add_left (by decide) n)
  · exact Nat.ne_of_lt (Nat.add_lt_add_left (by decide) n)
  · exact Nat.ne_of_lt (Nat.add_lt_add_left (by decide) n)
  · exact Nat.ne_of_gt (Nat.lt_add_of_pos_right (by decide))
  · intro z
    rcases List.mem_cons.mp z with z | z
    · exact absurd z (Nat.ne_of_gt (Nat.lt_add_of_pos_right (by decide)))
    · exact absurd (List.mem_singleton.mp z) (Nat.ne_of_gt (Nat.lt_of_lt_of_le ha (Nat.le_add_right _ _)))
  · intro z
    rcases List.mem_cons.mp z with z | z
    · exact absurd z (Nat.ne_of_gt (Nat.lt_add_of_pos_right (by decide)))
    · exact absurd (List.mem_singleton.mp z) (Nat.ne_of_gt (Nat.lt_of_lt_of_le ha (Nat.le_add_right _ _)))
  · exact Nat.ne_of_gt (Nat.add_lt_add_left (by decide) n)
  · intro z
    rcases List.mem_cons.mp z with z | z
    · exact absurd z (Nat.ne_of_gt (Nat.add_lt_add_left (by decide) n))
    · exact absurd (List.mem_singleton.mp z) (Nat.ne_of_gt (Nat.lt_of_lt_of_le hb (Nat.le_add_right _ _)))
  · intro z
    rcases List.mem_cons.mp z with z | z
    · exact absurd z (Nat.ne_of_gt (Nat.add_lt_add_left (by decide) n))
    · exact absurd (List.mem_singleton.mp z) (Nat.ne_of_gt (Nat.lt_of_lt_of_le hb (Nat.le_add_right _ _)))
  · intro z
    rcases List.mem_cons.mp z with z | z
    · exact absurd z (Nat.ne_of_lt (Nat.lt_add_of_pos_right (by decide)))
    · exact absurd (List.mem_singleton.mp z) (Nat.ne_of_gt hb)
  · intro z
    rcases List.mem_cons.mp z with z | z
    · exact absurd z (Nat.ne_of_gt (Nat.lt_add_of_pos_right (by decide)))
    · exact absurd (List.mem_singleton.mp z) (Nat.ne_of_gt (Nat.lt_of_lt_of_le ha (Nat.le_add_right _ _)))
theorem zip_turnS {P : Program} {w : World} {K : PySem.W.Frag} {elts : List Expr} {kk : Nat} {tpos : Pos} {t1 t2 : Bool} {a b n : Addr} (ha : a < n) (hb : b < n) :
    Turn P w K (.Tuple elts kk tpos) (ItzS K t1 t2 a b) [n + 4, n + 2, n + 3, n, n + 1] (n + 4) (fun i h => IsZip h (n + 4) (n + 2) (n + 3) .none ∧ IsTupOf2 h (n + 2) (.ref n) (.ref (n + 1)) ∧ (∃ x y, IsTupOf2 h (n + 3) x y) ∧ ItAt t1 n a i h ∧ ItAt t2 (n + 1) b i h) where
  mem := List.mem_cons_self
  obj := fun i h hst c hc => by
    obtain ⟨q1, q2, ⟨x, y, q3⟩, q4, q5⟩ := hst
    simp only [List.mem_cons, List.not_mem_nil, or_false] at hc
    rcases hc with z | z | z | z | z <;> rw [z]
    · exact ⟨_, q1, fun v y => by cases y⟩
    · exact ⟨_, q2, fun v y => by cases y⟩
    · exact ⟨_, q3, fun v y => by cases y⟩
    · exact q4.obj
    · exact q5.obj
  keep := fun i h h' hst k => by
    obtain ⟨q1, q2, ⟨x, y, q3⟩, q4, q5⟩ := hst
    exact ⟨k _ (by simp) _ q1, k _ (by simp) _ q2, ⟨x, y, k _ (by simp) _ q3⟩, q4.at fun o z => k _ (by simp) o z, q5.at fun o z => k _ (by simp) o z⟩
  item := by
    intro X hP hw hK hc i pins s σ H E I hf hst hgo
    subst hP hw hK
    obtain ⟨q1, q2, ⟨x0, y0, q3⟩, q4, q5⟩ := hst
    obtain ⟨xs, ys, x, y, hqx, hqy, hx, hy⟩ := hgo
    obtain ⟨us, rv, p1⟩ := inv_sq I hqx
    obtain ⟨ws, rw2, p2⟩ := inv_sq I hqy
    obtain ⟨u, hu, ru⟩ := rv.get hx
    obtain ⟨u2, hu2, ru2⟩ := rw2.get hy
    have S := zip_sep (n := n) ha hb
    have lz : n + 4 < s.heap.objs.size := Heap.lt_size q1
    have D1 := drawsK (prog := X.prog) (w := X.w) (A := X.A.in1) (I.ok.hd hc) t1 n a (Nat.ne_of_lt ha) us.toArray
    have D2 := drawsK (prog := X.prog) (w := X.w) (A := X.A.in1) (I.ok.hd hc) t2 (n + 1) b (Nat.ne_of_lt (Nat.lt_of_lt_of_le hb (Nat.le_add_right _ _))) ws.toArray
    have lt1 : i < us.toArray.size := by have := (List.getElem?_eq_some_iff.mp hu).1; simpa using this
    have lt2 : i < ws.toArray.size := by have := (List.getElem?_eq_some_iff.mp hu2).1; simpa using this
    refine wpAny_pyNext_zipD2_item S D1 D2 q1 q2 q3 ⟨q4, p1⟩ ⟨q5, p2⟩ lt1 lt2 fun z1 z2 h' tk e1 e2 k1 k2 k3 k4 k5 k6 k7 => ?_
    have e1' : us.toArray[i]? = some z1 := e1
    have e2' : ws.toArray[i]? = some z2 := e2
    rw [show us.toArray[i]? = us[i]? by simp, hu] at e1'
    rw [show ws.toArray[i]? = ws[i]? by simp, hu2] at e2'
    cases e1'
    cases e2'
    refine ⟨_, rfl, wpAny_letOwnedTupleGo_zip (s := { s with heap := h', toks := tk }) k1 fun h2 hz2 sb => ?_⟩
    have nt : s.heap.objs.size ≠ n + 4 := Nat.ne_of_gt lz
    have t2' : h2.get? s.heap.objs.size = some { cls := .type "tuple", data := .seq #[u, u2] } := (sb.2 _ nt).trans k5
    have nw : ObjOk X.prog X.w (upd H s.heap.objs.size (.tup [x, y])) h2 s.heap.objs.size (.tup [x, y]) :=
      ⟨by show 2 ≤ sizeLine; decide, [u, u2], .cons ru (.cons ru2 .nil), ⟨_, t2', rfl, _, rfl⟩⟩
    have J : Inv X pins σ (upd H s.heap.objs.size (.tup [x, y])) { s with heap := h2, toks := tk } :=
      I.turnedNew (ch := [n + 4, n + 2, n + 3, n, n + 1]) (fun c o hcn z => (sb.2 c fun y => hcn (by simp [y])).trans (k7 c o (fun y => hcn (by simp [y])) (fun y => hcn (by simp [y])) (fun y => hcn (by simp [y])) (fun y => hcn (by simp [y])) z)) hf (Nat.le_refl _) nw
    refine ⟨.ref s.heap.objs.size, _, J, rfl, ⟨_, x, y, rfl, I.hok.fresh (Nat.le_refl _), rfl, fun l hl => by rw [inv_sq_inj I hl hqx]; exact hx, fun l hl => by rw [inv_sq_inj I hl hqy]; exact hy⟩, ⟨hz2, ?_, ⟨u, u2, ?_⟩, ?_, ?_⟩, fun c hcm => ?_⟩
    · exact (sb.2 _ S.TIz).trans (k7 _ _ S.TIz S.TITO S.TIi1 S.TIi2 q2)
    · exact (sb.2 _ S.TOz).trans k2
    · exact k3.1.at fun o z => (sb.2 _ (Ne.symm S.zi1)).trans z
    · exact k4.1.at fun o z => (sb.2 _ (Ne.symm S.zi2)).trans z
    · have lt : c < s.heap.objs.size := by
        simp only [List.mem_cons, List.not_mem_nil, or_false] at hcm
        rcases hcm with z | z | z | z | z <;> rw [z]
        · exact lz
        · exact Heap.lt_size q2
        · exact Heap.lt_size q3
        · obtain ⟨_, z, _⟩ := q4.obj; exact Heap.lt_size z
        · obtain ⟨_, z, _⟩ := q5.obj; exact Heap.lt_size z
      rw [upd_ne (Nat.ne_of_lt lt)]
      exact (hf c hcm).1
  done := by
    intro X hP hw hK hc i pins s σ H E I hf hst hstop
    subst hP hw hK
    obtain ⟨q1, q2, ⟨x0, y0, q3⟩, q4, q5⟩ := hst
    obtain ⟨xs, ys, hqx, hqy, l1, l2, hend⟩ := hstop
    obtain ⟨us, rv, p1⟩ := inv_sq I hqx
    obtain ⟨ws, rw2, p2⟩ := inv_sq I hqy
    have S := zip_sep (n := n) ha hb
    have D1 := drawsK (prog := X.prog) (w := X.w) (A := X.A.in1) (I.ok.hd hc) t1 n a (Nat.ne_of_lt ha) us.toArray
    have D2 := drawsK (prog := X.prog) (w := X.w) (A := X.A.in1) (I.ok.hd hc) t2 (n + 1) b (Nat.ne_of_lt (Nat.lt_of_lt_of_le hb (Nat.le_add_right _ _))) ws.toArray
    have m1 := rv.length
    have m2 := rw2.length
    refine wpAny_pyNext_zipD2_end S D1 D2 q1 q2 q3 ⟨q4, p1⟩ ⟨q5, p2⟩ (by simp; omega) (by simp; omega) (by simp; omega) fun h' tk hk => ⟨rfl, I.turnedL (ch := [n + 4, n + 2, n + 3, n, n + 1]) (fun c o hcn z =>
      hk c o (fun y => hcn (by simp [y])) (fun y => hcn (by simp [y])) (fun y => hcn (by simp [y])) (fun y => hcn (by simp [y])) z) hf⟩
  self := fun A i s Q E hst h => wpAny_pyIter_zip hst.1 h
end PL
namespace PL
open PySem PySem.Spec PyProof.Rows L2
def iterObj (t : Bool) (a : Addr) : Obj := match t with
  | true => { cls := .type "tuple_iterator", data := .fields #[.ref a, .int 0 0] }
  | false => { cls := .type "list_iterator", data := .fields #[.ref a, .int 0 0] }
theorem beginsK (t : Bool) (a : Addr) (items : Array Value) : Begins (.ref a) (iterObj t a) fun h => HasIt t h a items := by
  cases t
  · exact begins_list a items
  · exact begins_tuple a items
theorem itAt0 {t : Bool} {it a : Addr} {h : Heap} (e : h.get? it = some (iterObj t a)) : ItAt t it a 0 h := by
  cases t <;> exact ⟨_, e, rfl, rfl⟩
def iZipS (K : PySem.W.Frag) (ta : TA) : TI := fun σ H R => ta σ H fun vs H1 => ∃ t1 t2 a b xs ys, vs = [.ref a, .ref b] ∧ SqK t1 K H1 a xs ∧ SqK t2 K H1 b ys ∧ R (ItzS K t1 t2 a b) H1
theorem pi_zipS {X : Cx} {e e2 : Expr} {ta : TA} {p pos tpos : Pos} {elts : List Expr} {kk : Nat} (hg : Gl X "zip") (hm : X.mg "zip" = none) (ha : PA X [e, e2] ta)
    (hs : starEach [e, e2] X.env = (false, eval e X.env) :: starEach [e2] X.env := by rfl) (hpl : (backTo pos (starEach [e2] X.env)).any (·.1) = false := by rfl) :
    PI X (.Tuple elts kk tpos) (.Call (.Name "zip" p) [e, e2] [] pos) (iZipS X.K ta) := ⟨fun pins s σ H R I h => by
  refine Call_ (ld_blt I hg hm PyProof.Rows.boot_zip (PyProof.Rows.callWith_type1 (thn (ha.run pos pins s σ H _ I h) fun us s1 ⟨vs, H1, I1, r1, q1⟩ => ?_) hs hpl))
  obtain ⟨t1, t2, a, b, xs, ys, rfl, hqx, hqy, q⟩ := q1
  obtain ⟨u1, u2, rfl, ra, rb⟩ := vals2 r1
  cases ra
  cases rb
  obtain ⟨us, rv, p1⟩ := inv_sq I1 hqx
  obtain ⟨ws, rw2, p2⟩ := inv_sq I1 hqy
  refine zip_begins2 (beginsK t1 a us.toArray) (beginsK t2 b ws.toArray) p1 p2 fun h' hz hTI hTO e1 e2 hsz hk => wpAny_pyIter_zip hz ?_
  have J : Inv X pins σ H1 { s1 with heap := h' } := I1.kept (t' := s1.toks) hk
  refine ⟨s1.heap.objs.size + 4, [s1.heap.objs.size + 4, s1.heap.objs.size + 2, s1.heap.objs.size + 3, s1.heap.objs.size, s1.heap.objs.size + 1], _, _, H1, rfl, J, zip_turnS p1.lt p2.lt, ⟨hz, hTI, ⟨_, _, hTO⟩, itAt0 e1, itAt0 e2⟩, fun c hcm => ?_, q⟩
  have hle : s1.heap.objs.size ≤ c := by
    simp only [List.mem_cons, List.not_mem_nil, or_false] at hcm
    rcases hcm with z | z | z | z | z <;> rw [z]
    · exact Nat.le_add_right _ _
    · exact Nat.le_add_right _ _
    · exact Nat.le_add_right _ _
    · exact Nat.le_refl _
    · exact Nat.le_add_right _ _
  exact I1.fpOk hle (I1.hok.fresh hle)⟩
theorem walkD_zipS {K : PySem.W.Frag} {W : Addr → Prop} {H : Hp} {t1 t2 : Bool} {a b : Addr} {xs ys : List V} {l m : List D} (q1 : ∀ H2, H2 a = H a → SqK t1 K H2 a xs) (q2 : ∀ H2, H2 b = H b → SqK t2 K H2 b ys) (ha : ∃ o, H a = some o) (hb : ∃ o, H b = some o) (na : ¬ W a) (nb : ¬ W b) (il : IsL K W H l xs) (im : IsL K W H m ys) : WalkD K W H (ItzS K t1 t2 a b) (zipD l m) := fun W2 H2 kp tr => by
  obtain ⟨oa, ea⟩ := ha
  obtain ⟨ob, eb⟩ := hb
  have ga : H2 a = H a := (kp a _ na ea).1.trans ea.symm
  have gb : H2 b = H b := (kp b _ nb eb).1.trans eb.symm
  have i2 := IsL.kp kp _ _ il
  have i3 := IsL.kp kp _ _ im
  have hl := il.length
  have hm := im.length
  rw [zipD_length]
  refine ⟨fun i hi => ⟨xs, ys, xs[i]'(by omega), ys[i]'(by omega), q1 H2 ga, q2 H2 gb, by simp, by simp⟩, ⟨xs, ys, q1 H2 ga, q2 H2 gb, by omega, by omega, by omega⟩, fun i x H3 hi y => ?_⟩
  obtain ⟨T, z, u, rfl, hT, rfl, y1, y2⟩ := y
  have g1 : Grw H2 (upd H2 T (.tup [z, u])) := fun b o e => by rw [upd_ne (ne_of_none e hT)]; exact e
  refine ⟨g1, _, zipD_get (List.getElem?_eq_getElem (by omega : i < l.length)) (List.getElem?_eq_getElem (by omega : i < m.length)), T, _, rfl, upd_same, fun q => ?_, ?_⟩
  · obtain ⟨u, e⟩ := tr T q; rw [hT] at e; cases e
  · obtain ⟨x', e, h⟩ := i2.get (List.getElem?_eq_getElem (by omega : i < l.length))
    obtain ⟨y', e', h'⟩ := i3.get (List.getElem?_eq_getElem (by omega : i < m.length))
    rw [y1 xs (q1 H2 ga)] at e
    rw [y2 ys (q2 H2 gb)] at e'
    cases e
    cases e'
    exact ⟨_, _, rfl, h.grw g1, _, _, rfl, h'.grw g1, rfl⟩
section
variable {X : Cx} {w : WX} {H : Hp} {σ : L2.St} {p q : P} {K : PySem.W.Frag} {B : Addr → Prop} {O : List Addr} {env : Slots} {tg : Expr} {kk : Nat} {tpos : Pos} {elts : List Expr}
/-- a frozen sequence's value, as a walk sees it -/
theorem Is.seq {W : Addr → Prop} {d : D} {v : V} {l : List D} (h : Is K W H d v) (e : sqD d = some l) : ∃ (t : Bool) (a : Addr) (xs : List V), v = .ref a ∧ (∃ o, H a = some o) ∧ ¬ W a ∧ IsL K W H l xs ∧ ∀ H2 : Hp, H2 a = H a → SqK t K H2 a xs := by
  cases d with
  | lst l' =>
    cases e
    obtain ⟨a, xs, rfl, ha, nw, il⟩ := h
    exact ⟨false, a, xs, rfl, ⟨_, ha⟩, nw, il, fun H2 e => SqL.of (e.trans ha)⟩
  | tup l' =>
    cases e
    obtain ⟨a, xs, rfl, ha, nw, il⟩ := h
    exact ⟨true, a, xs, rfl, ⟨_, ha⟩, nw, il, fun H2 e => SqT.of (e.trans ha)⟩
  | _ => cases e
def zipS (p q : P) : PLs := fun env => match (p env).bind sqD, (q env).bind sqD with
  | some l, some m => some (zipD l m)
  | _, _ => none
theorem iG_zipS {a b : Expr} {pa pb : Pos} (hg : Gl X "zip") (hm : X.mg "zip" = none) (ha : POk X a p) (hb : POk X b q) (hs : starEach [a, b] X.env = (false, eval a X.env) :: starEach [b] X.env := by rfl) (hs2 : starEach [b] X.env = (false, eval b X.env) :: starEach [] X.env := by rfl) (hpl : (backTo pb (starEach [b] X.env)).any (·.1) = false := by rfl) :
    IGk X (.Tuple elts kk tpos) (.Call (.Name "zip" pa) [a, b] [] pb) (zipS p q) := (pi_zipS hg hm (pa_cons ha (pa_cons hb pa_nil hs2) hs) hs hpl).imp fun σ H R hr => by
  obtain ⟨B, env, O, s, l, hp, hr⟩ := hr
  unfold zipS at hp
  split at hp
  · rename_i l1 l2 e1 e2
    cases hp
    simp only [Option.bind_eq_some_iff] at e1 e2
    obtain ⟨d1, e1, s1⟩ := e1
    obtain ⟨d2, e2, s2⟩ := e2
    refine ⟨B, env, O, s, d1, e1, fun v H1 g1 h1 => ⟨B, env, O, s.grw g1, d2, e2, fun u H2 g2 h2 => ?_⟩⟩
    obtain ⟨t1, a1, xs, rfl, ta, na, il, k1⟩ := (h1.grw g2).seq s1
    obtain ⟨t2, a2, ys, rfl, tb, nb, im, k2⟩ := h2.seq s2
    exact ⟨t1, t2, a1, a2, xs, ys, rfl, k1 H2 rfl, k2 H2 rfl, hr _ H2 (g1.trans g2) (walkD_zipS k1 k2 ta tb na nb il im).g⟩
  · cases hp
theorem iD_zipS {a b : Expr} {pa pb : Pos} (hg : Gl X "zip") (hm : X.mg "zip" = none) (ha : POk X a p) (hb : POk X b q) (hs : starEach [a, b] X.env = (false, eval a X.env) :: starEach [b] X.env := by rfl) (hs2 : starEach [b] X.env = (false, eval b X.env) :: starEach [] X.env := by rfl) (hpl : (backTo pb (starEach [b] X.env)).any (·.1) = false := by rfl) :
    IDk X w (.Tuple elts kk tpos) (.Call (.Name "zip" pa) [a, b] [] pb) (mP (zipS p q)) := (pi_zipS hg hm (pa_cons ha (pa_cons hb pa_nil hs2) hs) hs hpl).imp fun σ H R hr => by
  obtain ⟨B, env, O, s, hr⟩ := hr
  unfold mP at hr
  cases hz : zipS p q env with
  | none => rw [hz] at hr; exact hr.elim
  | some l =>
    rw [hz] at hr
    simp only [] at hr
    unfold zipS at hz
    split at hz
    · rename_i l1 l2 e1 e2
      cases hz
      simp only [Option.bind_eq_some_iff] at e1 e2
      obtain ⟨d1, e1, s1⟩ := e1
      obtain ⟨d2, e2, s2⟩ := e2
      refine ⟨B, env, O, s, d1, e1, fun v H1 g1 h1 => ⟨B, env, O, s.grw g1, d2, e2, fun u H2 g2 h2 => ?_⟩⟩
      obtain ⟨t1, a1, xs, rfl, ta, na, il, k1⟩ := (h1.grw g2).seq s1
      obtain ⟨t2, a2, ys, rfl, tb, nb, im, k2⟩ := h2.seq s2
      exact ⟨t1, t2, a1, a2, xs, ys, rfl, k1 H2 rfl, k2 H2 rfl, hr _ H2 O (s.grw (g1.trans g2)) (s.grwF (g1.trans g2)) (walkD_zipS k1 k2 ta tb na nb il im)⟩
    · cases hz
end
end PL
/-! ### what repr tells of small data -/
namespace PL
open PySem PySem.Spec PyProof.Rows L2
mutual
def rok : D → Bool
  | .non => true
  | .bl _ => true
  | .int i => decide (i.natAbs < 10 ^ 26)
  | .str x => x.cps.toList.all fun c => decide (c < 4294967296)
  | .tup l => rokL l
  | .lst l => rokL l
  | .dct l => rokP l
  | _ => false
def rokL : List D → Bool
  | [] => true
  | d :: r => rok d && rokL r
def rokP : List (Key × D) → Bool
  | [] => true
  | (k, d) :: r => rok d && rokP r && (match k with | .inl i => decide (i.natAbs < 10 ^ 26) | .inr x => x.cps.toList.all fun c => decide (c < 4294967296))
end
mutual
theorem rok_py : ∀ {d : D}, rok d = true → ∃ y, toPyR d = some y ∧ y.showable = true ∧ y.leavesShort 30 = true
  | .non, h => ⟨_, rfl, by simp [PyData.showable], by simp [PyData.leavesShort]⟩
  | .bl b, h => ⟨_, rfl, by simp [PyData.showable], by simp [PyData.leavesShort]⟩
  | .int i, h => by
    have h := of_decide_eq_true h
    refine ⟨_, rfl, ?_, ?_⟩
    · have : i.natAbs.log2 < 1920 := by
        rcases Nat.eq_zero_or_pos i.natAbs with z | z
        · rw [z]; decide
        · exact (Nat.log2_lt (by omega)).mpr (Nat.lt_of_lt_of_le h (by decide))
      simpa [PyData.showable] using this
    · have e := int_text_length_le10 (k := 26) (by decide) h
      have e2 : (PyData.shown (.int i)).length ≤ 30 := by
        show (Str.ofString (toString i)).length ≤ 30
        rw [PySem.ofString_length]; omega
      simpa [PyData.leavesShort] using e2
  | .str x, h => ⟨_, rfl, by simp [PyData.showable], by
    have h : (x.cps.toList.all fun c => decide (c < 4294967296)) = true := h
    simpa [PyData.leavesShort] using h⟩
  | .tup l, h => by
    obtain ⟨ys, h1, h2, h3⟩ := rokL_py (l := l) h
    exact ⟨_, by simp only [toPyR, h1]; rfl, by simpa [PyData.showable] using h2, by simpa [PyData.leavesShort] using h3⟩
  | .lst l, h => by
    obtain ⟨ys, h1, h2, h3⟩ := rokL_py (l := l) h
    exact ⟨_, by simp only [toPyR, h1]; rfl, by simpa [PyData.showable] using h2, by simpa [PyData.leavesShort] using h3⟩
  | .dct l, h => by
    obtain ⟨ys, h1, h2, h3⟩ := rokP_py (l := l) h
    exact ⟨_, by simp only [toPyR, h1]; rfl, by simpa [PyData.showable] using h2, by simpa [PyData.leavesShort] using h3⟩
  | .dcT l, h => nomatch h
  | .dcL l, h => nomatch h
  | .ro l, h => nomatch h
  | .opq l, h => nomatch h
theorem rokL_py : ∀ {l : List D}, rokL l = true → ∃ ys, toPysR l = some ys ∧ PyData.showableAll ys = true ∧ PyData.leavesShortAll 30 ys = true
  | [], _ => ⟨[], rfl, by simp [PyData.showableAll], by simp [PyData.leavesShortAll]⟩
  | d :: r, h => by
    simp only [rokL, Bool.and_eq_true] at h
    obtain ⟨y, h1, h2, h3⟩ := rok_py h.1
    obtain ⟨ys, k1, k2, k3⟩ := rokL_py h.2
    exact ⟨y :: ys, by simp only [toPysR, h1, k1], by simp [PyData.showableAll, h2, k2], by simp [PyData.leavesShortAll, h3, k3]⟩
theorem rokP_py : ∀ {l : List (Key × D)}, rokP l = true → ∃ ys, toPyP l = some ys ∧ PyData.showableKv ys = true ∧ PyData.leavesShortKv 30 ys = true
  | [], _ => ⟨[], rfl, by simp [PyData.showableKv], by simp [PyData.leavesShortKv]⟩
  | (k, d) :: r, h => by
    simp only [rokP, Bool.and_eq_true] at h
    obtain ⟨y, h1, h2, h3⟩ := rok_py h.1.1
    obtain ⟨ys, k1, k2, k3⟩ := rokP_py h.1.2
    have hk : (keyPy k).showable = true ∧ (keyPy k).leavesShort 30 = true := by
      cases k with
      | inl i =>
        obtain ⟨y, e1, e2, e3⟩ := rok_py (d := .int i) h.2
        cases e1
        exact ⟨e2, e3⟩
      | inr x =>
        obtain ⟨y, e1, e2, e3⟩ := rok_py (d := .str x) h.2
        cases e1
        exact ⟨e2, e3⟩
    exact ⟨(keyPy k, y) :: ys, by simp only [toPyP, h1, k1], by simp [PyData.showableKv, h2, k2, hk.1], by simp [PyData.leavesShortKv, h3, k3, hk.2]⟩
end
/-- small: of a size and a depth that repr and == bear -/
def small (d : D) : Prop := ∃ y, toPyR d = some y ∧ y.weight ≤ 500000 ∧ y.depth ≤ 60
theorem repr_small {d : D} (h : rok d = true) (hs : small d) : ∃ s, reprF2 [d] = some (.str s) := by
  obtain ⟨y, h1, h2, h3⟩ := rok_py h
  obtain ⟨y', e1, e2, e3⟩ := hs
  rw [h1] at e1
  cases e1
  have := PyData.shown_le 30 (by decide) y h3
  refine ⟨y.shown, ?_⟩
  unfold reprF2
  simp only [h1]
  rw [if_pos]
  simp only [Bool.and_eq_true, decide_eq_true_eq]
  exact ⟨⟨h2, e3⟩, by omega⟩
end PL
/-! ### == and != where a text may hold any signs -/
namespace PL
open PySem PySem.Spec PyProof.Rows L2
def fitT (d : PyData) : Bool := d.plain && decide (d.depth ≤ 64)
def rEqT (K : PySem.W.Frag) : R2 := fun x y H Q => ∃ d e, Dp K H x d ∧ Dp K H y e ∧ fitT d = true ∧ fitT e = true ∧ Q (.bl (PyData.eqv d e)) H
def rNeT (K : PySem.W.Frag) : R2 := fun x y H Q => ∃ d e, Dp K H x d ∧ Dp K H y e ∧ fitT d = true ∧ fitT e = true ∧ Q (.bl (!PyData.eqv d e)) H
theorem fitT_room {A : Around} {d e : PyData} (h : fitT d = true) (hu : A.units + 64 < cLine) : A.units + min d.depth e.depth < cLine := by
  have h2 : d.depth ≤ 64 := of_decide_eq_true (Bool.and_eq_true_iff.mp h).2
  have h3 : min d.depth e.depth ≤ d.depth := Nat.min_le_left _ _
  omega
theorem op_eqT {X : Cx} (hu : X.A.units + 64 < cLine) : OpR X (compareOp .Eq) (rEqT X.K) := by
  intro pins s σ H x y v u Q I rx ry h
  obtain ⟨d, e, hd, he, sd, se, q⟩ := h
  obtain ⟨as, r1⟩ := Dp.reads I d x v hd rx
  obtain ⟨bs, r2⟩ := Dp.reads I e y u he ry
  exact SeqAt.eq_plain r1 r2 (Bool.and_eq_true_iff.mp sd).1 (Bool.and_eq_true_iff.mp se).1 (fitT_room sd hu) ⟨.bl _, H, I, rfl, q⟩
theorem op_neT {X : Cx} (hu : X.A.units + 64 < cLine) : OpR X (compareOp .NotEq) (rNeT X.K) := by
  intro pins s σ H x y v u Q I rx ry h
  obtain ⟨d, e, hd, he, sd, se, q⟩ := h
  obtain ⟨as, r1⟩ := Dp.reads I d x v hd rx
  obtain ⟨bs, r2⟩ := Dp.reads I e y u he ry
  exact SeqAt.ne_plain r1 r2 (Bool.and_eq_true_iff.mp sd).1 (Bool.and_eq_true_iff.mp se).1 (fitT_room sd hu) ⟨.bl _, H, I, rfl, q⟩
def eqDT (a b : D) : Option Bool := match toPy a, toPy b with
  | some x, some y => if fitT x && fitT y then some (PyData.eqv x y) else none
  | _, _ => none
def eqT' (a b : D) : Option V := (eqDT a b).map V.bl
def neT' (a b : D) : Option V := (eqDT a b).map fun c => V.bl !c
theorem eqDT_of {a b : D} {c : Bool} (h : eqDT a b = some c) : ∃ x y, toPy a = some x ∧ toPy b = some y ∧ fitT x = true ∧ fitT y = true ∧ c = PyData.eqv x y := by
  unfold eqDT at h
  split at h
  · rename_i x y e1 e2
    simp at h
    exact ⟨x, y, e1, e2, h.1.1, h.1.2, h.2.symm⟩
  · cases h
theorem pure_eqT {K} : PureS K (rEqT K) eqT' := fun H x y d1 d2 v Q h1 h2 e q => by
  unfold eqT' at e
  simp only [Option.map_eq_some_iff] at e
  obtain ⟨c, e, rfl⟩ := e
  obtain ⟨y1, y2, e1, e2, s1, s2, rfl⟩ := eqDT_of e
  exact ⟨y1, y2, toPy_dp _ _ _ h1 e1, toPy_dp _ _ _ h2 e2, s1, s2, q⟩
theorem pure_neT {K} : PureS K (rNeT K) neT' := fun H x y d1 d2 v Q h1 h2 e q => by
  unfold neT' at e
  simp only [Option.map_eq_some_iff] at e
  obtain ⟨c, e, rfl⟩ := e
  obtain ⟨y1, y2, e1, e2, s1, s2, rfl⟩ := eqDT_of e
  exact ⟨y1, y2, toPy_dp _ _ _ h1 e1, toPy_dp _ _ _ h2 e2, s1, s2, q⟩
section
variable {X : Cx} {p q : P} {pos : Pos} {a b : Expr} {k : Nat}
theorem p_eqT (hr : Room k X.A) (ha : BOk X a p) (hb : BOk X b q) : POk X (.Compare a [.Eq] [b] pos) (pOp eqT' p q) := p_cmp (op_eqT hr.units) pure_eqT (nomark _) ha hb
theorem p_neT (hr : Room k X.A) (ha : BOk X a p) (hb : BOk X b q) : POk X (.Compare a [.NotEq] [b] pos) (pOp neT' p q) := p_cmp (op_neT hr.units) pure_neT (nomark _) ha hb
theorem q_eqT (hr : Room k X.A) (ha : BOk X a p) (hb : BOk X b q) : QOk X (.Compare a [.Eq] [b] pos) (qOf (pOp eqT' p q)) := q_cmp (op_eqT hr.units) pure_eqT (nomark _) ha hb
theorem q_neT (hr : Room k X.A) (ha : BOk X a p) (hb : BOk X b q) : QOk X (.Compare a [.NotEq] [b] pos) (qOf (pOp neT' p q)) := q_cmp (op_neT hr.units) pure_neT (nomark _) ha hb
end
theorem eqDT_str (x y : Str) : eqDT (.str x) (.str y) = some (x == y) := by
  simp [eqDT, toPy, fitT, PyData.plain, PyData.depth, PyData.eqv]
end PL
namespace PL
open PySem PySem.Spec PyProof.Rows L2
section
variable {X : Cx} {w : WX} {H : Hp} {σ : L2.St} {e : Expr} {es : List Expr} {p q r : P} {ps : List P} {pos pp : Pos} {K : PySem.W.Frag} {mg : Str → Option Value} {B : Addr → Prop} {O : List Addr} {env : Slots} {k : Nat}
/-! ### a display and a call, only looked at: their parts stay one's own -/
theorem b_lst (h : ABk X es ps) (hz : ps.length ≤ 100000 := by decide) : BOk X (.List es pos) (pF (evPs ps)) := (pe_lst h).imp fun σ H Q h => by
  obtain ⟨B, env, O, s, d, hp, h⟩ := h
  unfold pF at hp
  simp only [Option.map_eq_some_iff] at hp
  obtain ⟨l, hp, rfl⟩ := hp
  refine ⟨B, env, O, s, l, hp, fun vs H1 g hv => ⟨?_, fun a ha => ?_⟩⟩
  · rw [hv.length, evPs_len hp, sizeLine_eq]; omega
  · have g1 : Grw H1 (upd H1 a (.lst vs)) := fun b o e => by rw [upd_ne (ne_of_none e ha)]; exact e
    exact h _ _ (g.trans g1) ⟨a, vs, rfl, upd_same, fun z => z.elim, hv.grw g1⟩
theorem b_fnN {x : Str} {st : Stmt} {qs : List Str} {m : List C → Out C} (F : FnM X.prog X.w X.K X.mg X.base k x st qs m) (bd : BindP x st qs) (hg : X.A.guards = some []) (hr : Room k X.A) (gl : Gl X x) (ha : ABk X (e :: es) ps) (hl : ps.length = qs.length := by rfl)
    (hdb : (x == ("__debug__" : Str)) = false := by decide) (he : starEach (e :: es) X.env = (false, eval e X.env) :: starEach es X.env := by rfl) (hpl : (backTo pos (starEach es X.env)).any (·.1) = false := by rfl) :
    BOk X (.Call (.Name x pp) (e :: es) [] pos) (pFn m ps) := by
  obtain ⟨f, kV, doc, pm, an, cdv, ct, hm, kp, G⟩ := F.ex
  refine ⟨fun pins s σ H Q I h => ?_⟩
  obtain ⟨B, env, O, st, d, hp, h⟩ := h
  unfold pFn at hp
  split at hp
  · rename_i ds e1
    split at hp
    · rename_i c outs e2
      cases hp
      have want : rdDB X ps σ H fun vs H1 => spM X.K X.mg qs.length m vs H1 Q E0 := ⟨B, env, O, st, ds, e1, fun vs H1 g1 hv => by
        have st0 : Stt X.K (fun _ => False) H1 [] [] [] := ⟨⟨rfl, rfl⟩, .nil, fun _ z => (nomatch z), fun _ z => z.elim⟩
        have hv' : IsL X.K (fun a => False ∨ a ∈ ([] : List Addr)) H1 ds vs := IsL.kp (fun a o w ha => ⟨ha, fun z => z.elim id fun z => nomatch z⟩) _ _ hv
        exact spM_pure st0 hv' e2 (by rw [evPs_len e1]; exact hl) fun v H' g2 hv => h v H' (g1.trans g2) hv.noW⟩
      refine wpAny_Call_Name_kw (ld_glob I gl hm ?_ hdb)
      refine PySem.W.callWith_K (h₀ := X.base) I.ok.mod.kin kp (thn (ha.run pos pins s σ H _ I want) ?_) he hpl
      rintro us s1 ⟨vs, H1, I1, r1, q1⟩
      exact ⟨I1.kIn, run_G G hg hr passX0 (.of_eq (bd kV doc pm an cdv ct us (r1.length.symm.trans q1.1))) I1 r1 q1⟩
    · cases hp
  · cases hp
/-! ### name = [.. for ..], the list being given up at once -/
theorem frz_of {f : M C} {σ : L2.St} {H : Hp} {Q : VK} (h : rdE X w (eFrz f) σ H Q) : rdE X w f σ H Q := by
  obtain ⟨B, env, O, s, h⟩ := h
  refine ⟨B, env, O, s, ?_⟩
  unfold eFrz at h
  cases ef : f env with
  | no => rw [ef] at h; exact h
  | err x e => rw [ef] at h; exact h
  | ok c e => rw [ef] at h; exact fun v H' A O' r => h v H' [] O' r.frz
theorem s_setCf {i : Nat} {y : Str} {py spos : Pos} {elt tg iter : Expr} {ifs : List Expr} {scope : Scope} {own : List (Str × Nat)} {js : List Nat} {t : Tg} {q : PB} {p : P} {src : PLs} {pn : List Nat} (hc : X.calm = true) (hN : X.N.Nodup) (hy : X.N[i]? = some y) (hyl : X.env.scope.names.lookup y = some .local)
    (hsw : swapsWith (.ListComp elt [⟨tg, iter, ifs, 0⟩] scope pos) (some (.Name y py)) spos.line X.env = pure true) (hi : IGk X tg iter src) (ok : BlkOk X.N X.env.scope scope own)
    (hg : ∀ (s : Shared) (H : Hp) (C : Addr) (cl : List (Str × Addr)) (fp : List Addr), GOk (X.blk s H scope (compEnvC scope cl C X.env) fp) true tg js t) (ht : ∀ (s : Shared) (H : Hp) (C : Addr) (cl : List (Str × Addr)) (fp : List Addr), TsOk (X.blk s H scope (compEnvC scope cl C X.env) fp) ifs q)
    (he : ∀ (s : Shared) (H : Hp) (C : Addr) (cl : List (Str × Addr)) (fp : List Addr), POk (X.blk s H scope (compEnvC scope cl C X.env) fp) elt p) (hj : ∀ j ∈ js, j ∈ own.map (·.2)) (hp : i ∉ pn := by decide) (hs : ∀ x, foldedSetIterable iter X.env x = pure x := by intro _; rfl) :
    SOk X w pn (.Assign [.Name y py] (.ListComp elt [⟨tg, iter, ifs, 0⟩] scope pos) spos) (sSet i (eFrz (eF (fComp (own.map (·.2)) t q p src)))) := ⟨fun pins s σ H D I h => (s_setLc (w := w) (pn := pn) hc hN hy hyl hsw hi ok hg ht he hj hs).run pins s σ H D I (by
  obtain ⟨B, env, O, st, h⟩ := h
  have q : rdE X w (eFrz (eF (fComp (own.map (·.2)) t q p src))) σ H (fun v H' => D.nx (σ.set i (some v)) H') := rdE_s st h fun c e v H' A O' r h => by
    obtain ⟨O2, s2, f2⟩ := r.put (i := i) (by rw [r.len, I.len]; exact lt_of_N hy)
    exact h _ H' O2 s2 f2 (Pin.set hp)
  exact eF_of σ H _ (frz_of q))⟩
theorem s_setCMf {i : Nat} {y : Str} {py spos : Pos} {elt tg iter : Expr} {ifs : List Expr} {scope : Scope} {own : List (Str × Nat)} {js : List Nat} {t : Tg} {q : PB} {f : M C} {src : M (List D)} {pn : List Nat} (hc : X.calm = true) (hN : X.N.Nodup) (hy : X.N[i]? = some y) (hyl : X.env.scope.names.lookup y = some .local)
    (hsw : swapsWith (.ListComp elt [⟨tg, iter, ifs, 0⟩] scope pos) (some (.Name y py)) spos.line X.env = pure true) (hi : IDk X w tg iter src) (ok : BlkOk X.N X.env.scope scope own)
    (hg : ∀ (s : Shared) (H : Hp) (C : Addr) (cl : List (Str × Addr)) (fp : List Addr), GOk (X.blk s H scope (compEnvC scope cl C X.env) fp) true tg js t) (ht : ∀ (s : Shared) (H : Hp) (C : Addr) (cl : List (Str × Addr)) (fp : List Addr), TsOk (X.blk s H scope (compEnvC scope cl C X.env) fp) ifs q)
    (he : ∀ (s : Shared) (H : Hp) (C : Addr) (cl : List (Str × Addr)) (fp : List Addr), EOk (X.blk s H scope (compEnvC scope cl C X.env) fp) wN elt f) (hj : ∀ j ∈ js, j ∈ own.map (·.2)) (hp : i ∉ pn := by decide) (hs : ∀ x, foldedSetIterable iter X.env x = pure x := by intro _; rfl) :
    SOk X w pn (.Assign [.Name y py] (.ListComp elt [⟨tg, iter, ifs, 0⟩] scope pos) spos) (sSet i (eFrz (eComp (own.map (·.2)) t q f src))) := ⟨fun pins s σ H D I h =>
  (ps_setLc (wi := rdID X w src) (g := rdG X true js t) (tt := rdQ X q) (te := rdE X wN f) hc hN hy hyl hsw hi ok hg ht he hs).run pins s σ H D I (lcM_of hj σ H _ (by
    obtain ⟨B, env, O, st, h⟩ := h
    have q := rdE_s st h (Q := fun v H' => D.nx (σ.set i (some v)) H') fun c e v H' A O' r h => by
      obtain ⟨O2, s2, f2⟩ := r.put (i := i) (by rw [r.len, I.len]; exact lt_of_N hy)
      exact h _ H' O2 s2 f2 (Pin.set hp)
    exact frz_of q))⟩
end
end PL
/-! ### dict(..) of a list of pairs whose keys are tuples -/
namespace PL
open PySem PySem.Spec PyProof.Rows L2
def mergeT (kvs more : List (List Key × V)) : List (List Key × V) := more.foldl (fun acc kv => putK acc kv.1 kv.2) kvs
theorem length_mergeT : ∀ (more kvs : List (List Key × V)), (mergeT kvs more).length ≤ kvs.length + more.length
  | [], kvs => Nat.le_refl _
  | m :: more, kvs => by
    have h := length_mergeT more (putK kvs m.1 m.2)
    have := length_putK kvs m.1 m.2
    show (mergeT (putK kvs m.1 m.2) more).length ≤ _
    rw [List.length_cons]
    omega
theorem KT.merge {H : Hp} : ∀ {more : List (List Key × V)} {rs : List (List Key × Addr × Value)} {kvs : List (List Key × V)} {xs : List (List Key × Addr × Value)}, KT H more rs → KT H kvs xs → KT H (mergeT kvs more) (storedAllH xs rs)
  | _, _, kvs, xs, .nil, h => h
  | _, _, kvs, xs, .cons (a := p) (b := q) e t, h => by
    obtain ⟨e1, e2, e3⟩ := e
    have := h.put p.1 (b := q.2.1) e2 e3
    rw [e1] at this
    have r := KT.merge t (by rw [← e1] at this; exact this)
    show KT H (mergeT (putK kvs p.1 p.2) _) (storedAllH (storedH xs q.1 q.2.1 q.2.2) _)
    rw [← e1]
    exact r
section
variable {X : Cx}
theorem pairs_ofT {pins : List (Addr × Obj)} {σ : L2.St} {H : Hp} {s : Shared} (I : Inv X pins σ H s) : ∀ {ps : List Addr} {kvs : List (List Key × V)}, Paired (fun p kv => ∃ q, SqT X.K H p [.ref q, kv.2] ∧ H q = some (.tup (kv.1.map L2.kV))) ps kvs →
    ∃ rs : List (List Key × Addr × Value), KT H kvs rs ∧ rs.length = ps.length ∧ ∀ (j : Nat) (x : List Key × Addr × Value), rs[j]? = some x → ∃ (b : Addr), ps[j]? = some b ∧ IsTup s.heap b #[.ref x.2.1, x.2.2]
  | _, _, .nil => ⟨[], .nil, rfl, fun j q e => by simp at e⟩
  | _, _, .cons (a := p) (b := kv) h t => by
    obtain ⟨rs, r, hl, hp⟩ := pairs_ofT I t
    obtain ⟨q, h, hq⟩ := h
    obtain ⟨its, rv, ht, _⟩ := I.tuple h
    obtain ⟨u, y, ei, ru, ry⟩ := vals2 rv
    subst ei
    cases (show u = Value.ref q from ru)
    refine ⟨(kv.1, q, y) :: rs, .cons ⟨rfl, hq, ry⟩ r, by rw [List.length_cons, List.length_cons, hl], fun j x e => ?_⟩
    cases j with
    | zero =>
      have e' : (kv.1, q, y) = x := Option.some.inj e
      subst e'
      exact ⟨p, rfl, ht⟩
    | succ j =>
      obtain ⟨b, e1, e2⟩ := hp j x (by simpa using e)
      exact ⟨b, by simpa using e1, e2⟩
theorem call_dictPT (hcalm : X.calm = true) (hu : X.A.units + 2 < cLine) : CallR X (.type "dict") (fun xs H Q => ∃ (a : Addr) (ps : List Addr) (kvs : List (List Key × V)), xs = [.ref a] ∧ SqL X.K H a (ps.map V.ref) ∧ Paired (fun p kv => ∃ q, SqT X.K H p [.ref q, kv.2] ∧ H q = some (.tup (kv.1.map L2.kV))) ps kvs ∧
    ∀ p, H p = none → Q (.ref p) (upd H p (.dT (mergeT [] kvs)))) := by
  intro pins s σ H xs us Q I r q
  obtain ⟨a, ps, kvs, ex, hq, hp, q⟩ := q
  subst ex
  obtain ⟨u, eu, rx⟩ := vals1 r
  subst eu
  cases rx
  obtain ⟨its, rv, pl, hz⟩ := I.list hq
  have ei := refs_at rv
  subst ei
  rw [List.length_map] at hz
  obtain ⟨rs, rel, hl, hpr⟩ := pairs_ofT I hp
  obtain ⟨o, n, ho, hc, hd, hdat⟩ := pl
  have hdat' : PlainSeq "list" s.heap a (ps.map Value.ref).toArray := ⟨o, n, ho, hc, hd, hdat⟩
  have hm : (s.heap.objs.size == sysModules) = false := beq_eq_false_iff_ne.mpr (Nat.ne_of_gt I.big)
  have kis : ∀ x ∈ rs, H x.2.1 = some (.tup (x.1.map L2.kV)) := by
    have all : ∀ {l : List (List Key × V)} {m : List (List Key × Addr × Value)}, KT H l m → ∀ x ∈ m, H x.2.1 = some (.tup (x.1.map L2.kV)) := by
      intro l m q
      induction q with
      | nil => intro x hx; exact nomatch hx
      | @cons p q ps qs hq t ih =>
        intro x hx
        rcases List.mem_cons.mp hx with e | hx
        · subst e; rw [← hq.1]; exact hq.2.1
        · exact ih x hx
    exact all rel
  refine call_dict_pairsH (knd := tupleKind (mixKind X.prog X.w)) (ps := rs) (PairArg.list a (ps.map Value.ref).toArray (fun j => ps.getD j 0) (rs.map fun x => (Value.ref x.2.1, x.2.2))) (I.ok.hd hcalm) ?_ ⟨hdat', ?_, ?_⟩ ⟨by simp, ?_⟩ ?_ (by simp [hl]; exact hz) fun h' tk hd' hk => ?_
  · exact hu
  · simp [hl]
  · intro j k v e
    rw [List.getElem?_map] at e
    obtain ⟨x, e1, e2⟩ := Option.map_eq_some_iff.mp e
    cases e2
    obtain ⟨b, b1, b2⟩ := hpr j x e1
    have : ps.getD j 0 = b := by rw [List.getD_eq_getElem?_getD, b1]; rfl
    show (List.map Value.ref ps).toArray[j]? = some (Value.ref (ps.getD j 0)) ∧ PairAt s.heap (ps.getD j 0) (Value.ref x.2.1) x.2.2
    rw [this]
    exact ⟨by simp [b1], .inl b2⟩
  · intro i key v e
    have e : (rs.map fun x => (Value.ref x.2.1, x.2.2))[i]? = some (key, v) := e
    rw [List.getElem?_map] at e
    obtain ⟨x, e1, e2⟩ := Option.map_eq_some_iff.mp e
    cases e2
    exact ⟨x.1, x.2.1, e1, rfl⟩
  · intro h' hk x hx
    obtain ⟨o', v', n', g1, g2, g3, g4⟩ := key_of I.hok (kis x hx)
    exact ⟨o', v', n', hk _ _ (Nat.ne_of_lt (Heap.lt_size g1)) (by simp) g1, g2, g3, g4⟩
  · have hlen : (mergeT [] kvs).length ≤ sizeLine := by
      refine Nat.le_trans (length_mergeT kvs []) ?_
      rw [List.length_nil, Nat.zero_add, Paired.length rel, hl]
      exact hz
    obtain ⟨oo, es, ep, g1, g2, g3, g4, g5, g6⟩ := hd'
    have fresh := I.hok.fresh (Nat.le_refl s.heap.objs.size)
    exact ⟨.ref s.heap.objs.size, upd H s.heap.objs.size (.dT (mergeT [] kvs)), I.laid (t' := tk) (fun b o e => hk b o (by simp) e) (Nat.le_refl _) (show ObjOk X.prog X.w _ _ _ (.dT (mergeT [] kvs)) from ⟨hlen, hm, storedAllH [] rs, (KT.merge rel .nil).keeps (fun b ys e => by rw [upd_ne (ne_of_none e fresh)]; exact e), oo, es, ep, g1, g2, g3, g4, g6⟩), rfl, q _ fresh⟩
end
end PL
/-! ### dicts whose keys are tuples: made, locked, written, read, walked -/
namespace PL
open PySem PySem.Spec PyProof.Rows L2
def tksD : List D → Option (List Key)
  | [] => some []
  | .int i :: r => (tksD r).map (Sum.inl i :: ·)
  | .str x :: r => (tksD r).map (Sum.inr x :: ·)
  | _ :: _ => none
def tkD : D → Option (List Key)
  | .tup l => tksD l
  | _ => none
def dK1 : Key → D
  | .inl i => .int i
  | .inr x => .str x
def dKey (k : List Key) : D := .tup (k.map dK1)
def findD (l : List (List Key × D)) (k : List Key) : Option D := (l.find? fun kv => decide (kv.1 = k)).map (·.2)
def tputD (l : List (List Key × D)) (k : List Key) (d : D) : List (List Key × D) :=
  if (l.any fun kv => decide (kv.1 = k)) = true then l.map (fun kv => if kv.1 = k then (kv.1, d) else kv) else l ++ [(k, d)]
def tmergeD (l more : List (List Key × D)) : List (List Key × D) := more.foldl (fun acc kv => tputD acc kv.1 kv.2) l
section
variable {X : Cx} {w : WX} {H : Hp} {σ : L2.St} {e : Expr} {es : List Expr} {p q r : P} {ps : List P} {pos pp : Pos} {K : PySem.W.Frag} {mg : Str → Option Value} {B : Addr → Prop} {O : List Addr} {env : Slots} {k : Nat} {W : Addr → Prop}
theorem tksD_is : ∀ {l : List D} {xs : List V} {ks : List Key}, IsL K W H l xs → tksD l = some ks → xs = ks.map L2.kV
  | [], xs, ks, h, e => by cases e; exact h
  | .int i :: r, xs, ks, h, e => by
    obtain ⟨x, ys, rfl, h1, h2⟩ := h
    simp only [tksD, Option.map_eq_some_iff] at e
    obtain ⟨m, e, rfl⟩ := e
    rw [show x = V.int i from h1, tksD_is h2 e]; rfl
  | .str i :: r, xs, ks, h, e => by
    obtain ⟨x, ys, rfl, h1, h2⟩ := h
    simp only [tksD, Option.map_eq_some_iff] at e
    obtain ⟨m, e, rfl⟩ := e
    rw [show x = V.str i from h1, tksD_is h2 e]; rfl
  | .non :: _, _, _, _, e | .bl _ :: _, _, _, _, e | .tup _ :: _, _, _, _, e | .lst _ :: _, _, _, _, e | .dct _ :: _, _, _, _, e | .dcT _ :: _, _, _, _, e | .dcL _ :: _, _, _, _, e | .ro _ :: _, _, _, _, e | .opq _ :: _, _, _, _, e => by cases e
theorem tkD_is {d : D} {v : V} {ks : List Key} (h : Is K W H d v) (e : tkD d = some ks) : ∃ b, v = .ref b ∧ H b = some (.tup (ks.map L2.kV)) := by
  cases d with
  | tup l =>
    obtain ⟨a, xs, rfl, ha, _, r⟩ := h
    exact ⟨a, rfl, by rw [ha, tksD_is r e]⟩
  | _ => cases e
theorem dKey_is {ks : List Key} {b : Addr} (h : H b = some (.tup (ks.map L2.kV))) (nw : ¬ W b) : Is K W H (dKey ks) (.ref b) := by
  refine ⟨b, _, rfl, h, nw, ?_⟩
  clear h
  induction ks with
  | nil => rfl
  | cons k r ih =>
    refine ⟨L2.kV k, _, rfl, ?_, ih⟩
    cases k <;> rfl
theorem tkD_dKey (ks : List Key) : tkD (dKey ks) = some ks := by
  show tksD (ks.map dK1) = some ks
  induction ks with
  | nil => rfl
  | cons k r ih =>
    cases k <;> simp [dK1, tksD, ih]
theorem IsQ.find {k : List Key} : ∀ {l : List (List Key × D)} {kvs : List (List Key × V)}, IsQ K W H l kvs → (findD l k = none → valV kvs k = none) ∧ ∀ d, findD l k = some d → ∃ v, valV kvs k = some v ∧ Is K W H d v
  | [], kvs, h => by rw [show kvs = [] from h]; exact ⟨fun _ => rfl, fun d e => by cases e⟩
  | (k0, d0) :: r, kvs, h => by
    obtain ⟨x, ys, rfl, h1, h2⟩ := h
    by_cases e : k0 = k
    · have f : findD ((k0, d0) :: r) k = some d0 := by simp [findD, List.find?_cons, e]
      have g : valV ((k0, x) :: ys) k = some x := valV_pos (p := (k0, x)) e
      exact ⟨fun z => (by rw [f] at z; cases z), fun d z => (by rw [f] at z; cases z; exact ⟨x, g, h1⟩)⟩
    · have f : findD ((k0, d0) :: r) k = findD r k := by simp [findD, List.find?_cons, e]
      have g : valV ((k0, x) :: ys) k = valV ys k := valV_neg (p := (k0, x)) e
      rw [f, g]
      exact IsQ.find h2
theorem IsQ.any {k : List Key} : ∀ {l : List (List Key × D)} {kvs : List (List Key × V)}, IsQ K W H l kvs → (l.any fun kv => decide (kv.1 = k)) = kvs.any fun kv => decide (kv.1 = k)
  | [], kvs, h => by rw [show kvs = [] from h]; rfl
  | (k0, d0) :: r, kvs, h => by
    obtain ⟨x, ys, rfl, h1, h2⟩ := h
    simp only [List.any_cons, IsQ.any h2]
theorem IsQ.repl {k : List Key} {d : D} {v : V} (hv : Is K W H d v) : ∀ {l : List (List Key × D)} {kvs : List (List Key × V)}, IsQ K W H l kvs → IsQ K W H (l.map fun kv => if kv.1 = k then (kv.1, d) else kv) (kvs.map fun kv => if kv.1 = k then (kv.1, v) else kv)
  | [], kvs, h => by rw [show kvs = [] from h]; exact rfl
  | (k0, d0) :: r, kvs, h => by
    obtain ⟨x, ys, rfl, h1, h2⟩ := h
    have ih := IsQ.repl (k := k) hv h2
    rw [List.map_cons, List.map_cons]
    by_cases e : k0 = k
    · rw [if_pos e, if_pos e]; exact ⟨v, _, rfl, hv, ih⟩
    · rw [if_neg e, if_neg e]; exact ⟨x, _, rfl, h1, ih⟩
theorem IsQ.snoc {k : List Key} {d : D} {v : V} (hv : Is K W H d v) : ∀ {l : List (List Key × D)} {kvs : List (List Key × V)}, IsQ K W H l kvs → IsQ K W H (l ++ [(k, d)]) (kvs ++ [(k, v)])
  | [], kvs, h => by rw [show kvs = [] from h]; exact ⟨v, [], rfl, hv, rfl⟩
  | (k0, d0) :: r, kvs, h => by
    obtain ⟨x, ys, rfl, h1, h2⟩ := h
    exact ⟨x, _, rfl, h1, IsQ.snoc hv h2⟩
theorem IsQ.put {k : List Key} {d : D} {v : V} {l : List (List Key × D)} {kvs : List (List Key × V)} (h : IsQ K W H l kvs) (hv : Is K W H d v) : IsQ K W H (tputD l k d) (putK kvs k v) := by
  unfold tputD putK
  rw [h.any]
  split
  · exact h.repl hv
  · exact h.snoc hv
theorem length_tputD (l : List (List Key × D)) (k : List Key) (d : D) : (tputD l k d).length ≤ l.length + 1 := by
  unfold tputD
  split
  · rw [List.length_map]; omega
  · simp
/-! {} -/
def eDnew : M C := fun env => .ok (.ownT []) env
theorem e_dnewT : EOk X w (.Dict [] [] pos) eDnew := pe_dnewT.imp fun σ H Q h => by
  obtain ⟨B, env, O, s, h⟩ := h
  intro p hp
  exact h (.ref p) (upd H p (.dT [])) [p] O (Res.new s Frm.refl ⟨fun b o e => by rw [upd_ne (ne_of_none e hp)]; exact e, ⟨p, [], rfl, rfl, upd_same, rfl⟩, by simp, fun b hb => by rw [List.mem_singleton.mp hb]; exact hp⟩)
/-! given up: locked for good -/
theorem pe_lockR {t : TE} (h : PE X e t) : PE X e (fun σ H Q => t σ H fun v H1 => Q v H1 ∨ ∃ d u, H1 d = some u ∧ Mut (some u) ∧ ∀ od, Q v (upd H1 d (.frz od u))) := by
  refine ⟨fun pins s σ H Q I hw => ?_⟩
  refine thn (h.run pins s σ H _ I hw) fun v s1 ⟨x, H1, I1, r, q⟩ => ?_
  rcases q with q | ⟨d, u, hd, mu, q⟩
  · exact ⟨x, H1, I1, r, q⟩
  · obtain ⟨od, I2⟩ := I1.lock hd mu
    exact ⟨x, _, I2, r, q od⟩
def eLk (f : M C) : M C := fun env => (f env).bind fun c e => match c with
  | .ownT l => .ok (.frz (.dcL l)) e
  | c => .ok c e
theorem e_lk {f : M C} (h : EOk X w e f) : EOk X w e (eLk f) := (pe_lockR h).imp fun σ H Q h => by
  obtain ⟨B, env, O, s, h⟩ := h
  refine ⟨B, env, O, s, ?_⟩
  unfold eLk at h
  cases ef : f env with
  | no => rw [ef] at h; exact h
  | err x e => rw [ef] at h; exact h
  | ok c e1 =>
    rw [ef] at h
    simp only [Out.bind] at h
    intro v H' A O' r
    cases c with
    | frz d => exact .inl (h v H' A O' r)
    | own l => exact .inl (h v H' A O' r)
    | ownD l => exact .inl (h v H' A O' r)
    | ownT l =>
      right
      obtain ⟨a, kvs, rfl, eA, ha, hq⟩ := r.rep
      subst eA
      refine ⟨a, .dT kvs, ha, True.intro, fun od => h (.ref a) _ [] O' ?_⟩
      have nO : ∀ b ∈ O', b ≠ a := fun b hb z => r.stt.dj b hb (.inr (by simp [z]))
      have nB : ¬ B a := r.dj a (by simp)
      have kp : Kp (fun b => (B b ∨ b ∈ [a]) ∨ b ∈ O') H' (fun b => (B b ∨ b ∈ ([] : List Addr)) ∨ b ∈ O') (upd H' a (.frz od (.dT kvs))) := fun b o hw hb => by
        have hba : b ≠ a := fun z => hw (.inl (.inr (by simp [z])))
        refine ⟨by rw [upd_ne hba]; exact hb, fun z => hw ?_⟩
        rcases z with (z | z) | z
        · exact .inl (.inl z)
        · exact nomatch z
        · exact .inr z
      refine ⟨⟨rfl, a, od, kvs, rfl, upd_same, fun z => ?_, IsQ.kp kp _ _ hq⟩, ⟨RepE.kp kp (fun b hb o eb => by rw [upd_ne (nO b hb)]; exact eb) r.stt.rep, r.stt.nd, fun b hb z => z.elim (fun z => r.stt.dj b hb (.inl z)) (fun z => nomatch z), fun b z => ?_⟩, .nil, (fun b z => nomatch z), fun b o hw hb => ?_⟩
      · rcases z with (z | z) | z
        · exact nB z
        · exact nomatch z
        · exact nO a z rfl
      · rcases z with z | z
        · obtain ⟨u, eu⟩ := r.stt.tr b (.inl z)
          have hba : b ≠ a := fun y => nB (by rw [← y]; exact z)
          exact ⟨u, by rw [upd_ne hba]; exact eu⟩
        · exact nomatch z
      · obtain ⟨q1, q2⟩ := r.frm b o hw hb
        have hba : b ≠ a := fun z => q2 (.inl (by simp [z]))
        exact ⟨by rw [upd_ne hba]; exact q1, fun z => q2 (z.elim (fun z => nomatch z) .inr)⟩
/-! d[k], d.get(k, x): what is found is a number, a text, None, a bool -/
def dictD : D → Option (List (List Key × D))
  | .dcT l => some l
  | .dcL l => some l
  | _ => none
theorem dictD_is {d : D} {v : V} {l : List (List Key × D)} (h : Is K W H d v) (e : dictD d = some l) : ∃ a kvs, v = .ref a ∧ Rd H a (.dT kvs) ∧ IsQ K W H l kvs := by
  cases d with
  | dcT l' =>
    cases e
    obtain ⟨a, kvs, rfl, ha, _, hq⟩ := h
    exact ⟨a, kvs, rfl, .inl ha, hq⟩
  | dcL l' =>
    cases e
    obtain ⟨a, o, kvs, rfl, ha, _, hq⟩ := h
    exact ⟨a, kvs, rfl, .inr ⟨o, ha⟩, hq⟩
  | _ => cases e
def flatO (d : D) : Option D := if flatD d then some d else none
def pDix (p q : P) : P := fun env => (p env).bind fun d => (dictD d).bind fun l => (q env).bind fun y => (tkD y).bind fun ks => (findD l ks).bind flatO
theorem Rd.grw {H H' : Hp} {a : Addr} {u : HO} (h : Rd H a u) (g : Grw H H') : Rd H' a u := h.imp (g a _) fun ⟨o, z⟩ => ⟨o, g a _ z⟩
theorem p_dix {a b : Expr} (hr : Room k X.A) (ha : BOk X a p) (hb : BOk X b q) (hs : NoSl b) : POk X (.Subscript a b pos) (pDix p q) := (pe_dget (by have := hr.units; omega) ha hb hs).imp fun σ H Q h => by
  obtain ⟨B, env, O, s, d, hp, h⟩ := h
  unfold pDix at hp
  simp only [Option.bind_eq_some_iff] at hp
  obtain ⟨d0, e0, l, e1, y, e2, ks, e3, d1, e4, e5⟩ := hp
  unfold flatO at e5
  split at e5
  · rename_i hf
    cases e5
    refine ⟨B, env, O, s, d0, e0, fun v H1 g1 hv => ⟨B, env, O, s.grw g1, y, e2, fun u H2 g2 hu => ?_⟩⟩
    obtain ⟨a, kvs, rfl, rd, hq⟩ := dictD_is hv e1
    obtain ⟨b, rfl, hb⟩ := tkD_is hu e3
    obtain ⟨x, hx, ix⟩ := (IsQ.find (k := ks) (IsQ.kp (W' := NoW) (fun a o w ha => ⟨g2 a o ha, fun z => z⟩) _ _ hq)).2 d e4
    exact ⟨a, x, rfl, .inr ⟨kvs, ks, b, Rd.grw rd g2, rfl, hb, hx.symm⟩, h x H2 (g1.trans g2) (flat_is hf ix)⟩
  · cases e5
def pDget (p q r : P) : P := fun env => (p env).bind fun d => (dictD d).bind fun l => (q env).bind fun y => (tkD y).bind fun ks => (r env).bind fun z => (flatO z).bind fun _ => ((findD l ks).getD z |> flatO)
theorem p_dget {a b c : Expr} {apos cpos : Pos} (hr : Room k X.A) (ha : BOk X a p) (hb : BOk X b q) (hc : BOk X c r) (m : M2 X a "get" apos b c cpos) : POk X (.Call (.Attribute a "get" apos) [b, c] [] cpos) (pDget p q r) := (pe_dget2 (by have := hr.units; omega) ha hb hc m).imp fun σ H Q h => by
  obtain ⟨B, env, O, s, d, hp, h⟩ := h
  unfold pDget at hp
  simp only [Option.bind_eq_some_iff] at hp
  obtain ⟨d0, e0, l, e1, y, e2, ks, e3, z, e4, z2, e5, e6⟩ := hp
  have hz : flatD z = true := by
    unfold flatO at e5
    split at e5
    · assumption
    · cases e5
  unfold flatO at e6
  split at e6
  · rename_i hf
    cases e6
    refine ⟨B, env, O, s, d0, e0, fun v H1 g1 hv => ?_⟩
    obtain ⟨a, kvs, rfl, rd, hq⟩ := dictD_is hv e1
    refine ⟨a, rfl, .inr ⟨kvs, rd⟩, B, env, O, s.grw g1, y, e2, fun u H2 g2 hu => ⟨B, env, O, (s.grw g1).grw g2, z, e4, fun x H3 g3 hx => ?_⟩⟩
    obtain ⟨b, rfl, hb⟩ := tkD_is hu e3
    have fd := IsQ.find (k := ks) (IsQ.kp (W' := NoW) (fun a o w ha => ⟨(g2.trans g3) a o ha, fun z => z⟩) _ _ hq)
    refine ⟨valV kvs ks, .inr ⟨kvs, ks, b, Rd.grw rd (g2.trans g3), rfl, g3 _ _ hb, rfl⟩, ?_⟩
    cases ef : findD l ks with
    | none =>
      rw [fd.1 ef]
      rw [ef] at h hf
      exact h x H3 (g1.trans (g2.trans g3)) (flat_is hf hx)
    | some d1 =>
      obtain ⟨x1, hx1, ix⟩ := fd.2 d1 ef
      rw [hx1]
      rw [ef] at h hf
      exact h x1 H3 (g1.trans (g2.trans g3)) (flat_is hf ix)
  · cases e6
/-! walks over the keys of a locked dict -/
def keysOf (l : List (List Key × D)) : List D := l.map fun kv => dKey kv.1
theorem walkD_keys {W : Addr → Prop} {a : Addr} {o : Obj} {kvs : List (List Key × V)} {l : List (List Key × D)} (ha : H a = some (.frz o (.dT kvs))) (nw : ¬ W a) (hq : IsQ K W H l kvs) : WalkD K W H (Itkt a o kvs) (keysOf l) := fun W2 H2 kp tr => by
  have h2 := (kp a _ nw ha).1
  have hl := hq.length
  have hlk : (keysOf l).length = kvs.length := by simp [keysOf, hl]
  refine ⟨fun i hi => ⟨h2, by omega⟩, ⟨h2, by omega⟩, fun i x H3 hi y => ?_⟩
  obtain ⟨rfl, ks, v, q, e1, rfl, e2⟩ := y
  have key : ∀ {l : List (List Key × D)} {kvs : List (List Key × V)} {i : Nat}, IsQ K W H l kvs → kvs[i]? = some (ks, v) → ∃ d, l[i]? = some (ks, d) := by
    intro l
    induction l with
    | nil => intro kvs i h e; rw [show kvs = [] from h] at e; simp at e
    | cons p r ih =>
      obtain ⟨k0, d0⟩ := p
      intro kvs i h e
      obtain ⟨x, ys, rfl, h1, h2⟩ := h
      cases i with
      | zero => simp at e; exact ⟨d0, by simp [e.1]⟩
      | succ i => exact ih h2 (by simpa using e)
  obtain ⟨d, hd⟩ := key hq e1
  refine ⟨Grw.refl, dKey ks, by simp [keysOf, hd], dKey_is e2 fun z => ?_⟩
  obtain ⟨u, hu⟩ := tr q z
  rw [e2] at hu
  have := u.2
  cases hu' : u.1 with
  | tup xs => rw [hu'] at this; exact this
  | _ => rw [hu'] at hu; cases hu
def fKeys (p : P) : PLs := fun env => (p env).bind fun d => match d with
  | .dcL l => some (keysOf l)
  | _ => none
theorem iG_keys {tg : Expr} (h : POk X e p) : IGk X tg e (fKeys p) := (pi_keys h).imp fun σ H R hr => by
  obtain ⟨B, env, O, s, l, hp, hr⟩ := hr
  unfold fKeys at hp
  simp only [Option.bind_eq_some_iff] at hp
  obtain ⟨d, e1, e2⟩ := hp
  split at e2
  · cases e2
    exact ⟨B, env, O, s, _, e1, fun v H1 g hv => let ⟨a, o, kvs, ev, ha, nw, il⟩ := hv; ⟨a, o, ev, .inr ⟨kvs, ha, hr _ H1 g (walkD_keys ha nw il).g⟩⟩⟩
  · cases e2
def mKeys (f : M C) : M (List D) := fun env => (f env).bind fun c e1 => match c with
  | .frz (.dcL l) => .ok (keysOf l) e1
  | _ => .no
theorem iD_keys {tg : Expr} {f : M C} (h : EOk X w e f) : IDk X w tg e (mKeys f) := (pi_keys h).imp fun σ H R hr => by
  obtain ⟨B, env, O, s, hr⟩ := hr
  refine ⟨B, env, O, s, ?_⟩
  unfold mKeys at hr
  cases ef : f env with
  | no => simp only [ef, Out.bind] at hr
  | err x e1 => simp only [ef, Out.bind] at hr; exact hr
  | ok c e1 =>
    simp only [ef, Out.bind] at hr
    split at hr
    · rename_i l' e2 hl
      split at hl
      · cases hl
        intro v H1 A O1 r
        obtain ⟨eA, a, o, kvs, ev, ha, nw, il⟩ := r.rep
        subst eA
        refine ⟨a, o, ev, .inr ⟨kvs, ha, hr _ H1 O1 (r.stt.less fun a z => .inl z) (fun a o hw ha => ⟨(r.frm a o hw ha).1, fun z => (r.frm a o hw ha).2 (z.elim (fun z => nomatch z) .inr)⟩) (walkD_keys ha (fun z => nw (z.imp .inl id)) (IsQ.kp (Kp.less fun a z => z.imp .inl id) _ _ il))⟩⟩
      · cases hl
    · rename_i hl; split at hl <;> cases hl
    · exact hr.elim
end
end PL
/-! ### d[k] = v; dict(..) of pairs -/
namespace PL
open PySem PySem.Spec PyProof.Rows L2
section
variable {X : Cx} {w : WX} {H : Hp} {σ : L2.St} {e : Expr} {es : List Expr} {p q r : P} {ps : List P} {pos pp : Pos} {K : PySem.W.Frag} {mg : Str → Option Value} {B : Addr → Prop} {O : List Addr} {env : Slots} {k : Nat} {W : Addr → Prop} {pn : List Nat}
def sDput (i : Nat) (q : P) (f : M C) : SS := fun env => sOf (f env) fun c e => match c, e[i]?, (q e).bind tkD with
  | .frz d, some (some (.ownT l)), some ks => if l.length < 1000000 then .nx (e.set i (some (.ownT (tputD l ks d)))) else .no
  | _, _, _ => .no
theorem s_dput {i : Nat} {x : Str} {kx : Expr} {f : M C} {npos tpos : Pos} (hr : Room k X.A) (hN : X.N[i]? = some x) (hv : Vis X.env.scope x) (hk : BOk X kx q) (he : EOk X w e f)
    (hs : swapsWith e (some (.Subscript (.Name x npos) kx tpos)) pos.line X.env = pure false := by rfl) (hd : (x == ("__debug__" : Str)) = false := by decide) (hcd : (x == ("__classdict__" : Str)) = false := by decide) :
    SOk X w pn (.Assign [.Subscript (.Name x npos) kx tpos] e pos) (sDput i q f) := (ps_dput (by have := hr.units; omega) (pe_var (i := i) hN hv hd hcd) hk he hs).imp fun D σ H h => by
  obtain ⟨B, env, O, st, h⟩ := h
  refine rdE_s st h fun c e1 v H1 A O1 r h => ?_
  split at h
  · rename_i d l ks e0 ek
    split at h
    · rename_i hlen
      obtain ⟨eA, hv⟩ := r.rep
      subst eA
      have s1 : Stt X.K B H1 σ e1 O1 := r.stt.less fun a z => .inl z
      obtain ⟨o, D1, D2, D3, g1, g2, ⟨v0, rfl, a, kvs, rfl, rfl, ha, hq⟩, put⟩ := RepE.at s1.rep e0
      simp only [Option.bind_eq_some_iff] at ek
      obtain ⟨y, ey, ek⟩ := ek
      refine ⟨.ref a, g1, B, e1, O1, s1, y, ey, fun u H3 g3 hu => ?_⟩
      obtain ⟨b, rfl, hb⟩ := tkD_is hu ek
      have aO : a ∈ O1 := by rw [g2]; simp
      have kp : Kp (fun b => B b ∨ b ∈ O1) H1 (fun b => B b ∨ b ∈ O1) (upd H3 a (.dT (putK kvs ks v))) := fun c o hw hc => ⟨by rw [upd_ne (fun z => hw (.inr (by rw [z]; exact aO)))]; exact g3 _ _ hc, hw⟩
      refine ⟨a, _, rfl, DPut.t (g3 _ _ ha) hb (by rw [hq.length, sizeLine_eq]; omega), h σ _ (D1 ++ ([a] ++ D3)) ⟨?_, by rw [← g2]; exact s1.nd, by rw [← g2]; exact s1.dj, fun c z => ?_⟩ (fun c o hw hc => ?_) Pin.refl⟩
      · have := put (fun b => B b ∨ b ∈ O1) (upd H3 a (.dT (putK kvs ks v))) (some (.ownT (tputD l ks d))) (some (.ref a)) [a] kp (fun c hc o ec => ?_) ⟨.ref a, rfl, a, _, rfl, rfl, upd_same, (IsQ.kp kp _ _ hq).put (Is.kp (fun c o hw hc => kp c o (fun z => hw (z.imp .inl id)) hc) _ _ hv)⟩
        · rw [set_same g1] at this
          rw [← g2]
          rw [← g2] at this
          exact this
        · have nd := s1.nd
          rw [g2] at nd
          have n1 := List.nodup_append.mp nd
          have n2 := List.nodup_append.mp n1.2.1
          have hca : c ≠ a := fun z => by
            rcases List.mem_append.mp hc with y | y
            · exact n1.2.2 c y a (by simp) z
            · exact n2.2.2 a (by simp) c y z.symm
          rw [upd_ne hca]
          exact g3 _ _ ec
      · obtain ⟨u, eu⟩ := s1.tr c z
        have hca : c ≠ a := fun y => s1.dj a aO (by rw [← y]; exact z)
        exact ⟨u, by rw [upd_ne hca]; exact g3 _ _ eu⟩
      · obtain ⟨q1, q2⟩ := r.frm c o hw hc
        have hca : c ≠ a := fun y => q2 (.inr (by rw [y]; exact aO))
        refine ⟨by rw [upd_ne hca]; exact g3 _ _ q1, fun z => q2 (z.elim (fun z => nomatch z) fun z => .inr ?_)⟩
        rw [g2]
        exact z
    · exact h.elim
  · exact h.elim
/-! dict(..) -/
def pairsD : List D → Option (List (List Key × D))
  | [] => some []
  | .tup [y, d] :: r => (tkD y).bind fun ks => (pairsD r).map ((ks, d) :: ·)
  | _ :: _ => none
def eDictT (p : P) : M C := fun env => match p env with
  | some (.lst ds) => match pairsD ds with
    | some l => .ok (.ownT (tmergeD [] l)) env
    | none => .no
  | _ => .no
theorem pairsD_is : ∀ {ds : List D} {xs : List V} {l : List (List Key × D)}, IsL K W H ds xs → pairsD ds = some l → ∃ (ps : List Addr) (kvs : List (List Key × V)), xs = ps.map V.ref ∧ Paired (fun p kv => ∃ q, SqT K H p [.ref q, kv.2] ∧ H q = some (.tup (kv.1.map L2.kV))) ps kvs ∧ IsQ K W H l kvs
  | [], xs, l, h, e => by
    cases e
    exact ⟨[], [], h, .nil, rfl⟩
  | d :: r, xs, l, h, e => by
    obtain ⟨x, ys, rfl, h1, h2⟩ := h
    unfold pairsD at e
    split at e
    · cases ‹_ :: _ = []›
    · rename_i y d' r' he
      cases he
      simp only [Option.bind_eq_some_iff, Option.map_eq_some_iff] at e
      obtain ⟨ks, e1, m, e2, rfl⟩ := e
      obtain ⟨a, zs, rfl, ha, nw, k1, z1, rfl, hy, k2, z2, rfl, hd, rfl⟩ := h1
      obtain ⟨b, rfl, hb⟩ := tkD_is hy e1
      obtain ⟨ps, kvs, rfl, hp, hq⟩ := pairsD_is h2 e2
      exact ⟨a :: ps, (ks, k2) :: kvs, rfl, .cons ⟨b, SqT.of ha, hb⟩ hp, ⟨k2, kvs, rfl, hd, hq⟩⟩
    · cases e
theorem IsQ.merge : ∀ {more l : List (List Key × D)} {ms kvs : List (List Key × V)}, IsQ K W H more ms → IsQ K W H l kvs → IsQ K W H (tmergeD l more) (mergeT kvs ms)
  | [], l, ms, kvs, h, hl => by rw [show ms = [] from h]; exact hl
  | (k0, d0) :: r, l, ms, kvs, h, hl => by
    obtain ⟨x, ys, rfl, h1, h2⟩ := h
    show IsQ K W H (tmergeD (tputD l k0 d0) r) (mergeT (putK kvs k0 x) ys)
    exact IsQ.merge h2 (hl.put h1)
theorem e_dictT {x : Str} {pp : Pos} (hr : Room k X.A) (hc : X.calm = true) (hg : Gl X x) (hm : X.mg x = none) (hv : bootBuiltins x = some (.type "dict")) (ha : POk X e p) (hn : x ≠ "__name__" := by decide) (hdb : (x == ("__debug__" : Str)) = false := by decide)
    (he : starEach [e] X.env = (false, eval e X.env) :: starEach [] X.env := by rfl) (hpl : (backTo pos (starEach [] X.env)).any (·.1) = false := by rfl) : EOk X w (.Call (.Name x pp) [e] [] pos) (eDictT p) :=
  (pe_callTy (call_dictPT hc (by have := hr.units; omega)) hg hm hv (pa_cons ha pa_nil he) hn hdb he hpl).imp fun σ H Q h => by
    obtain ⟨B, env, O, s, h⟩ := h
    unfold eDictT at h
    split at h
    · rename_i c e1 hc
      split at hc
      · rename_i ds hp
        split at hc
        · rename_i l hl
          cases hc
          refine ⟨B, env, O, s, _, hp, fun v H1 g1 hv => ?_⟩
          obtain ⟨a, xs, rfl, ha, nw, il⟩ := hv
          obtain ⟨ps, kvs, rfl, hps, hq⟩ := pairsD_is il hl
          have s1 := s.grw g1
          refine ⟨a, ps, kvs, rfl, SqL.of ha, hps, fun t ht => ?_⟩
          have g : Grw H1 (upd H1 t (.dT (mergeT [] kvs))) := fun b o e => by rw [upd_ne (ne_of_none e ht)]; exact e
          refine h (.ref t) _ [t] O (Res.new s1 (s.grwF g1) ⟨g, ⟨t, _, rfl, rfl, upd_same, IsQ.kp (fun b o hw hb => ⟨g b o hb, fun z => ?_⟩) _ _ (hq.merge rfl)⟩, by simp, fun b hb => by rw [List.mem_singleton.mp hb]; exact ht⟩)
          rcases z with z | z
          · exact hw z
          · rw [List.mem_singleton.mp z] at hb
            rw [ht] at hb; cases hb
        · cases hc
      · cases hc
    · rename_i hc; split at hc
      · split at hc <;> cases hc
      · cases hc
    · exact h.elim
end
end PL
/-! ### d == {}, d != {} -/
namespace PL
open PySem PySem.Spec PyProof.Rows L2
section
variable {prog : Program} {w : World} {A : Around} {E : Value → Shared → Prop} {s : Shared}
theorem same_empty {nm : String} {a b : Addr} {oa ob : Obj} {es es' : Array DictEntry} {ep ep' : Nat} {Q : Bool → Shared → Prop} (ha : (a == sysModules) = false) (hb : (b == sysModules) = false)
    (hoa : s.heap.get? a = some oa) (hda : oa.data = .dict es ep) (hob : s.heap.get? b = some ob) (hdb : ob.data = .dict es' ep') (h0 : es'.size = 0) (h : Q (decide (es.size = 0)) s) :
    wpAny (model prog w) A (Builtin.Dict.samePairs nm a b) Q E s := by
  unfold Builtin.Dict.samePairs Builtin.Dict.showsAll
  rw [if_neg (show ¬ (a == sysModules) = true by rw [ha]; exact Bool.false_ne_true), if_neg (show ¬ (b == sysModules) = true by rw [hb]; exact Bool.false_ne_true)]
  refine wpAny_bind (wpAny_pure (wpAny_bind (wpAny_pure ?_)))
  refine wpAny_bind (wpAny_dictEntries hoa hda ?_)
  dsimp only
  refine wpAny_bind (wpAny_dictEntries hob hdb ?_)
  by_cases hsz : es.size = es'.size
  case neg =>
    rw [if_pos (by simpa using hsz)]
    have hbf : decide (es.size = 0) = false := by rw [h0] at hsz; simpa using hsz
    rw [hbf] at h
    exact wpAny_bind (wpAny_rule (wpAny_pure h))
  case pos =>
    have h' : Q true s := by
      have : es.size = 0 := by omega
      simpa [this] using h
    rw [if_neg (by rw [hsz]; simp)]
    refine wpAny_bind (wpAny_dictEpoch hoa hda ?_)
    refine wpAny_bind ?_
    rw [Std.Legacy.Range.forIn_eq_forIn_range']
    simp only [Std.Legacy.Range.size, Nat.sub_zero, Nat.add_sub_cancel, Nat.div_one]
    refine wpAny_forIn_list _ (fun rest q s' => s' = s ∧ q = (none, ()) ∧ rest = []) _ ?_ ?_ _ _ ⟨rfl, rfl, by rw [hsz, h0]; rfl⟩
    · rintro x rest q s' ⟨_, _, hr⟩
      cases hr
    · rintro q s' ⟨rfl, rfl, _⟩
      exact wpAny_pure h'
theorem eq_empty {a b : Addr} {oa ob : Obj} {es es' : Array DictEntry} {ep ep' : Nat} {Q : Value → Shared → Prop} (ha : (a == sysModules) = false) (hb : (b == sysModules) = false) (ta : s.TypeIs (.ref a) "dict") (tb : s.TypeIs (.ref b) "dict")
    (hoa : s.heap.get? a = some oa) (hda : oa.data = .dict es ep) (hob : s.heap.get? b = some ob) (hdb : ob.data = .dict es' ep') (h0 : es'.size = 0) (hu : A.units < cLine) (h : Q (.bool (decide (es.size = 0))) s) :
    wpAny (model prog w) A (compareOp .Eq (.ref a) (.ref b)) Q E s := by
  refine wpAny_richCompare_same_room (op := .Eq) ta tb PySem.F.slot_dict_eq (wpAny_call_entry PySem.F.slot_dict_eq ta PySem.F.entry_dict_eq ?_ (PySem.F.args_dict_eq_2 _ _)) hu
  show wpAny _ _ (Builtin.Dict.dictSlotArgs "__eq__" ⟨[.ref a, .ref b], []⟩ >>= _) _ _ s
  refine wpAny_bind ?_
  unfold Builtin.Dict.dictSlotArgs
  refine wpAny_bind (wpAny_notOrdered_dict ta ?_)
  show wpAny _ _ (pure (Value.ref a, Value.ref b)) _ _ s
  refine wpAny_pure ?_
  refine wpAny_bind (wpAny_isInstance (T := "dict") tb PySem.F.sub_dict_dict ?_)
  simp only [Bool.not_true, Bool.false_eq_true, if_false]
  refine wpAny_bind (wpAny_pure (wpAny_bind (wpAny_pure ?_)))
  refine wpAny_bind (same_empty ha hb hoa hda hob hdb h0 ?_)
  refine wpAny_pure ⟨_, rfl, ?_, ?_⟩
  · exact fun x => nomatch x
  · simpa using h
theorem ne_empty {a b : Addr} {oa ob : Obj} {es es' : Array DictEntry} {ep ep' : Nat} {Q : Value → Shared → Prop} (ha : (a == sysModules) = false) (hb : (b == sysModules) = false) (ta : s.TypeIs (.ref a) "dict") (tb : s.TypeIs (.ref b) "dict")
    (hoa : s.heap.get? a = some oa) (hda : oa.data = .dict es ep) (hob : s.heap.get? b = some ob) (hdb : ob.data = .dict es' ep') (h0 : es'.size = 0) (hu : A.units < cLine) (h : Q (.bool (!decide (es.size = 0))) s) :
    wpAny (model prog w) A (compareOp .NotEq (.ref a) (.ref b)) Q E s := by
  refine wpAny_richCompare_same_room (op := .NotEq) ta tb PySem.F.slot_dict_ne (wpAny_call_entry PySem.F.slot_dict_ne ta PySem.F.entry_dict_ne ?_ (PySem.F.args_dict_ne_2 _ _)) hu
  show wpAny _ _ (Builtin.Dict.dictSlotArgs "__ne__" ⟨[.ref a, .ref b], []⟩ >>= _) _ _ s
  refine wpAny_bind ?_
  unfold Builtin.Dict.dictSlotArgs
  refine wpAny_bind (wpAny_notOrdered_dict ta ?_)
  show wpAny _ _ (pure (Value.ref a, Value.ref b)) _ _ s
  refine wpAny_pure ?_
  refine wpAny_bind (wpAny_isInstance (T := "dict") tb PySem.F.sub_dict_dict ?_)
  simp only [Bool.not_true, Bool.false_eq_true, if_false]
  refine wpAny_bind (wpAny_pure (wpAny_bind (wpAny_pure ?_)))
  refine wpAny_bind (same_empty ha hb hoa hda hob hdb h0 ?_)
  refine wpAny_pure ⟨_, rfl, ?_, ?_⟩
  · exact fun x => nomatch x
  · simpa using h
end
section
variable {X : Cx}
/-- x, whose keys are tuples, beside an empty dict -/
def rE0 (f : Bool → Bool) : R2 := fun x y H Q => ∃ a b kvs, x = .ref a ∧ y = .ref b ∧ Rd H a (.dT kvs) ∧ H b = some (.dK []) ∧ Q (.bl (f kvs.isEmpty)) H
theorem dt_entries {H : Hp} {s : Shared} {pins : List (Addr × Obj)} {σ : L2.St} {a : Addr} {kvs : List (List Key × V)} (I : Inv X pins σ H s) (ea : Rd H a (.dT kvs)) : (a == sysModules) = false ∧ s.TypeIs (.ref a) "dict" ∧ ∃ o es ep, s.heap.get? a = some o ∧ o.data = .dict es ep ∧ decide (es.size = 0) = kvs.isEmpty := by
  obtain ⟨_, y, xs, rel, dd⟩ := dt_rd I.hok ea
  refine ⟨y, dd.typeIs, ?_⟩
  obtain ⟨o, es, ep, g1, _, g3, g4, _, _⟩ := dd
  refine ⟨o, es, ep, g1, g3, ?_⟩
  have h1 : es.size = xs.length := by
    have := congrArg List.length g4
    simpa using this
  have h2 : kvs.length = xs.length := Paired.length rel
  rw [h1, ← h2]
  cases kvs <;> simp
theorem dk_entries {H : Hp} {s : Shared} {pins : List (Addr × Obj)} {σ : L2.St} {b : Addr} (I : Inv X pins σ H s) (eb : H b = some (.dK [])) : (b == sysModules) = false ∧ s.TypeIs (.ref b) "dict" ∧ ∃ o es ep, s.heap.get? b = some o ∧ o.data = .dict es ep ∧ es.size = 0 := by
  obtain ⟨_, y, vs, rel, dd⟩ := dk_of I.hok eb
  cases rel
  refine ⟨y, dd.typeIs, ?_⟩
  obtain ⟨o, es, ep, g1, _, g3, _, g5, _⟩ := dd
  exact ⟨o, es, ep, g1, g3, by have := g5.length; simpa using this⟩
theorem op_eq0 (hu : X.A.units < cLine) : OpR X (compareOp .Eq) (rE0 id) := by
  intro pins s σ H x y v u Q I rx ry h
  obtain ⟨a, b, kvs, rfl, rfl, ea, eb, q⟩ := h
  obtain rfl : v = Value.ref a := rx
  obtain rfl : u = Value.ref b := ry
  obtain ⟨y1, t1, o1, es1, ep1, g1, d1, z1⟩ := dt_entries I ea
  obtain ⟨y2, t2, o2, es2, ep2, g2, d2, z2⟩ := dk_entries I eb
  exact eq_empty y1 y2 t1 t2 g1 d1 g2 d2 z2 hu (fin_bl I q (by rw [z1]; rfl))
theorem op_ne0 (hu : X.A.units < cLine) : OpR X (compareOp .NotEq) (rE0 not) := by
  intro pins s σ H x y v u Q I rx ry h
  obtain ⟨a, b, kvs, rfl, rfl, ea, eb, q⟩ := h
  obtain rfl : v = Value.ref a := rx
  obtain rfl : u = Value.ref b := ry
  obtain ⟨y1, t1, o1, es1, ep1, g1, d1, z1⟩ := dt_entries I ea
  obtain ⟨y2, t2, o2, es2, ep2, g2, d2, z2⟩ := dk_entries I eb
  exact ne_empty y1 y2 t1 t2 g1 d1 g2 d2 z2 hu (fin_bl I q (by rw [z1]))
def eq0V : D → D → Option V
  | d, .dct [] => (dictD d).map fun l => .bl l.isEmpty
  | _, _ => none
def ne0V : D → D → Option V
  | d, .dct [] => (dictD d).map fun l => .bl (!l.isEmpty)
  | _, _ => none
theorem isEmpty_Q {K : PySem.W.Frag} {W : Addr → Prop} {H : Hp} : ∀ {l : List (List Key × D)} {kvs : List (List Key × V)}, IsQ K W H l kvs → kvs.isEmpty = l.isEmpty
  | [], kvs, h => by rw [show kvs = [] from h]; rfl
  | (k0, d0) :: r, kvs, h => by
    obtain ⟨x, ys, rfl, h1, h2⟩ := h
    rfl
theorem pure_eq0 {K} : PureS K (rE0 id) eq0V := fun H x y d1 d2 v Q h1 h2 e q => by
  unfold eq0V at e
  split at e
  · simp only [Option.map_eq_some_iff] at e
    obtain ⟨l, e, rfl⟩ := e
    obtain ⟨a, kvs, rfl, ra, hq⟩ := dictD_is h1 e
    obtain ⟨b, ws, rfl, hb, _, hw⟩ := h2
    cases (show ws = [] from hw)
    exact ⟨a, b, kvs, rfl, rfl, ra, hb, by rw [isEmpty_Q hq]; exact q⟩
  · cases e
theorem pure_ne0 {K} : PureS K (rE0 not) ne0V := fun H x y d1 d2 v Q h1 h2 e q => by
  unfold ne0V at e
  split at e
  · simp only [Option.map_eq_some_iff] at e
    obtain ⟨l, e, rfl⟩ := e
    obtain ⟨a, kvs, rfl, ra, hq⟩ := dictD_is h1 e
    obtain ⟨b, ws, rfl, hb, _, hw⟩ := h2
    cases (show ws = [] from hw)
    exact ⟨a, b, kvs, rfl, rfl, ra, hb, by rw [isEmpty_Q hq]; exact q⟩
  · cases e
variable {a b : Expr} {p q : P} {k : Nat} {pos : Pos}
theorem p_eq0 (hr : Room k X.A) (ha : BOk X a p) (hb : BOk X b q) : POk X (.Compare a [.Eq] [b] pos) (pOp eq0V p q) := p_cmp (op_eq0 hr.units0) pure_eq0 (nomark _) ha hb
theorem p_ne0 (hr : Room k X.A) (ha : BOk X a p) (hb : BOk X b q) : POk X (.Compare a [.NotEq] [b] pos) (pOp ne0V p q) := p_cmp (op_ne0 hr.units0) pure_ne0 (nomark _) ha hb
theorem q_eq0 (hr : Room k X.A) (ha : BOk X a p) (hb : BOk X b q) : QOk X (.Compare a [.Eq] [b] pos) (qOf (pOp eq0V p q)) := q_cmp (op_eq0 hr.units0) pure_eq0 (nomark _) ha hb
theorem q_ne0 (hr : Room k X.A) (ha : BOk X a p) (hb : BOk X b q) : QOk X (.Compare a [.NotEq] [b] pos) (qOf (pOp ne0V p q)) := q_cmp (op_ne0 hr.units0) pure_ne0 (nomark _) ha hb
end
end PL
/-! ### max(d) of a dict whose keys are pairs of numbers; {(0, 0): 1} -/
namespace PL
open PySem PySem.Spec PyProof.Rows L2
def isPair : List Key → Bool
  | [.inl _, .inl _] => true
  | _ => false
def kp1 : Key → PyData
  | .inl i => .int i
  | .inr x => .str x
def kpy (k : List Key) : PyData := .tuple (k.map kp1)
def maxKs (k0 : List Key) (ks : List (List Key)) : List Key := ks.foldl (fun a y => if PySem.W.dataLt (kpy a) (kpy y) then y else a) k0
section
variable {X : Cx}
theorem kpy_dp {K : PySem.W.Frag} {H : Hp} {b : Addr} {ks : List Key} (h : H b = some (.tup (ks.map L2.kV))) : Dp K H (.ref b) (kpy ks) := by
  refine .tup (SqT.of h) ?_
  clear h
  induction ks with
  | nil => exact .nil
  | cons k r ih =>
    cases k with
    | inl i => exact .cons (.int i) ih
    | inr x => exact .cons (.str x) ih
theorem pair_alike {a b : List Key} (ha : isPair a = true) (hb : isPair b = true) : PySem.W.alike (kpy a) (kpy b) = true ∧ kpy a ≠ .none ∧ (kpy a).depth ≤ 1 := by
  unfold isPair at ha hb
  split at ha
  · split at hb
    · exact ⟨rfl, nofun, by simp [kpy, kp1, PyData.depth, PyData.depthAll]⟩
    · cases hb
  · cases ha
theorem call_maxT (hcalm : X.calm = true) (hu : X.A.units + 64 < cLine) : CallR X (.builtin "max") (fun xs H Q => ∃ (d : Addr) (k0 : List Key) (v0 : V) (kvs : List (List Key × V)), xs = [.ref d] ∧ Rd H d (.dT ((k0, v0) :: kvs)) ∧ (∀ kv ∈ (k0, v0) :: kvs, isPair kv.1 = true) ∧
    ∀ b, H b = some (.tup ((maxKs k0 (kvs.map (·.1))).map L2.kV)) → Q (.ref b) H) := by
  intro pins s σ H xs us Q I r q
  obtain ⟨d, k0, v0, kvs, ex, rd, hp, q⟩ := q
  subst ex
  obtain ⟨u, eu, rx⟩ := vals1 r
  subst eu
  cases rx
  have hh : X.A.handled = none := I.ok.hd hcalm
  obtain ⟨_, hd, xs, rel, dd⟩ := dt_rd I.hok rd
  obtain ⟨es, ep, hraw, hsz, hx⟩ := dd.raw
  have hn : xs.length = kvs.length + 1 := by rw [← Paired.length rel]; rfl
  have kx : ∀ (l : List (List Key × V)) (m : List (List Key × Addr × Value)), KT H l m → ∀ (i : Nat) (y : List Key × Addr × Value), m[i]? = some y → ∃ v, l[i]? = some (y.1, v) ∧ H y.2.1 = some (.tup (y.1.map L2.kV)) := by
    intro l m qq
    induction qq with
    | nil => intro i y e; simp at e
    | @cons p q ps qs hq t ih =>
      intro i y e
      cases i with
      | zero =>
        have e' : q = y := by simpa using e
        subst e'
        exact ⟨p.2, by rw [← hq.1]; rfl, by rw [← hq.1]; exact hq.2.1⟩
      | succ i => exact ih i y (by simpa using e)
  have keyAt := kx _ _ rel
  have hI : d < s.heap.objs.size := by
    obtain ⟨o, e, _⟩ := hraw
    exact Heap.lt_size e
  refine call_max_walkH (wpAny_pyIter_dict_raw hd hraw ?_)
  refine ⟨s.heap.objs.size, [s.heap.objs.size, d], [s.heap.objs.size], (fun a b => b = a), es.size, (fun i v => ∃ y, xs[i]? = some y ∧ v = .ref y.2.1), _, s.heap, (fun i j => PySem.W.dataLt (kpy ((k0 :: kvs.map (·.1)).getD j [])) (kpy ((k0 :: kvs.map (·.1)).getD i []))), rfl,
    (Walks.keysH (A := X.A.in1) hh s.heap.objs.size d (Nat.ne_of_lt hI) es ep fun i hi => let ⟨y, h1, h2, h3, _⟩ := hx i hi; ⟨y, h1, h2, h3⟩).toS, ⟨⟨_, Heap.get?_push_size _ rfl, rfl, rfl⟩, hraw.at fun o e => Heap.get?_push_of_some _ e⟩, fun b hb => ?_, by omega, fun b o e hb => ?_, fun b o e => Heap.get?_push_of_some _ e, ?_, fun v s' hP m => ?_⟩
  · show b < (s.heap.push _).objs.size
    rw [Heap.size_push]
    simp only [List.mem_cons, List.not_mem_nil, or_false] at hb
    rcases hb with hb | hb
    · rw [hb]; exact Nat.lt_succ_self _
    · rw [hb]; exact Nat.lt_succ_of_lt hI
  · simp only [List.mem_cons, List.not_mem_nil, or_false] at hb
    subst hb
    exact Nat.lt_irrefl _ (Heap.lt_size e)
  · intro i j vi vj s' Q' E' hk hi hj hq
    obtain ⟨y1, e1, rfl⟩ := hi
    obtain ⟨y2, e2, rfl⟩ := hj
    obtain ⟨w1, g1, t1⟩ := keyAt i y1 e1
    obtain ⟨w2, g2, t2⟩ := keyAt j y2 e2
    have d1 : (k0 :: kvs.map (·.1)).getD i [] = y1.1 := by
      have : ((k0, v0) :: kvs).map (·.1) = k0 :: kvs.map (·.1) := rfl
      rw [← this, List.getD_eq_getElem?_getD, List.getElem?_map, g1]; rfl
    have d2 : (k0 :: kvs.map (·.1)).getD j [] = y2.1 := by
      have : ((k0, v0) :: kvs).map (·.1) = k0 :: kvs.map (·.1) := rfl
      rw [← this, List.getD_eq_getElem?_getD, List.getElem?_map, g2]; rfl
    obtain ⟨as1, r1⟩ := Dp.reads I (kpy y1.1) (.ref y1.2.1) (.ref y1.2.1) (kpy_dp t1) rfl
    obtain ⟨as2, r2⟩ := Dp.reads I (kpy y2.1) (.ref y2.2.1) (.ref y2.2.1) (kpy_dp t2) rfl
    obtain ⟨al, nn, dp⟩ := pair_alike (hp _ (List.mem_of_getElem? g1)) (hp _ (List.mem_of_getElem? g2))
    simp only [d1, d2] at hq
    refine PySem.W.rcGt_alike _ _ X.A.in1 s' _ _ _ _ (PySem.W.reads_keeps hk r1) (PySem.W.reads_keeps hk r2) al nn ?_ _ _ _ _ hq
    show X.A.units + 1 + _ < _
    have h5 := Nat.min_le_left (kpy y1.1).depth (kpy y2.1).depth
    have h6 : (kpy y1.1).depth ≤ 1 := dp
    omega
  · obtain ⟨y, e1, rfl⟩ := hP
    obtain ⟨h', tk, rfl, hk'⟩ := PySem.W.moved_old (s := s) rfl rfl m
    have en : es.size - 1 = (kvs.map (·.1)).length := by rw [List.length_map]; omega
    obtain ⟨a1, a2⟩ := PySem.W.argBest_fold (fun a b => PySem.W.dataLt (kpy b) (kpy a)) ([] : List Key) k0 (kvs.map (·.1)) (kvs.map (·.1)).length (Nat.le_refl _)
    rw [List.take_length] at a2
    rw [en] at e1
    obtain ⟨w1, g1, t1⟩ := keyAt _ y e1
    have d1 : (k0 :: kvs.map (·.1)).getD (argBest (fun i j => PySem.W.dataLt (kpy ((k0 :: kvs.map (·.1)).getD j [])) (kpy ((k0 :: kvs.map (·.1)).getD i []))) (kvs.map (·.1)).length) [] = y.1 := by
      have : ((k0, v0) :: kvs).map (·.1) = k0 :: kvs.map (·.1) := rfl
      rw [← this, List.getD_eq_getElem?_getD, List.getElem?_map, this, g1]; rfl
    refine ⟨.ref y.2.1, H, I.kept (t' := tk) hk', rfl, q _ ?_⟩
    rw [t1, ← d1]
    congr 3
end
end PL
/-! ### max(d) as a value; displays whose keys are tuples -/
namespace PL
open PySem PySem.Spec PyProof.Rows L2
section
variable {prog : Program} {w : World} {A : Around} {E : Value → Shared → Prop} {s : Shared} {κ : Type} [DecidableEq κ] {knd : HeapKind prog w κ}
theorem wp_dispH {env : Env} {keys : List (Option Expr)} {values : List Expr} {pos : Pos} {Q : Value → Shared → Prop} (hu : knd.room A) (hall : keys.all (·.isSome) = true) (hl : keys.length = values.length) (h0 : keys ≠ []) (hlen : keys.length ≤ 15)
    (h : wpAny (model prog w) A (evalPairs (pairTrees keys values env pos)) (fun vs s₁ => ∃ ps, CarriesH knd s₁.heap vs ps ∧ s₁.heap.DictOfH knd s.heap.objs.size [] ∧
      ∀ h' tk, h'.DictOfH knd s.heap.objs.size (storedAllH [] ps) → Heap.SameBut s.heap.objs.size s₁.heap h' → Q (.ref s.heap.objs.size) { s₁ with heap := h', toks := tk }) E
      { s with heap := s.heap.push { cls := .type "dict", data := .dict #[] } }) :
    wpAny (model prog w) A (eval (.Dict keys values pos) env) Q E s := by
  have hn := pairTrees_length keys values env pos hall hl
  have hne : pairTrees keys values env pos ≠ [] := fun he => by
    rw [he] at hn
    exact h0 (List.length_eq_zero_iff.mp hn.symm)
  rw [arm_eval_Dict, zip_pairTrees keys values env pos hall hl, dictDisplay_pairs _ hne (by omega)]
  exact wpAny_bind (wpAny_standAt (wpAny_bind (wpAny_subDictH (knd := knd) (Q := fun d s' => wpAny (model prog w) A (pure (Value.ref d)) Q E s') hu (by omega)
    (wpAny_mono h (fun vs s₁ h₁ => by obtain ⟨ps, hc, hm, hq⟩ := h₁; exact ⟨ps, hc, hm, fun h' tk a b => wpAny_pure (hq h' tk a b)⟩) fun _ _ e => e))))
end
section
variable {X : Cx} {w : WX} {H : Hp} {σ : L2.St} {e : Expr} {es : List Expr} {p q r : P} {ps : List P} {pos pp : Pos} {K : PySem.W.Frag} {mg : Str → Option Value} {B : Addr → Prop} {O : List Addr} {env : Slots} {k : Nat} {W : Addr → Prop} {pn : List Nat}
theorem IsQ.fsts : ∀ {l : List (List Key × D)} {kvs : List (List Key × V)}, IsQ K W H l kvs → kvs.map (·.1) = l.map (·.1)
  | [], kvs, h => by rw [show kvs = [] from h]; rfl
  | (k0, d0) :: r, kvs, h => by
    obtain ⟨x, ys, rfl, h1, h2⟩ := h
    rw [List.map_cons, List.map_cons, IsQ.fsts h2]
theorem nw_tup {b : Addr} {xs : List V} (s : Stt K B H σ env O) (hb : H b = some (.tup xs)) : ¬ (B b ∨ b ∈ O) := fun z => by
  obtain ⟨u, hu⟩ := s.trk b z
  rw [hb] at hu
  have := u.2
  cases hu' : u.1 with
  | tup xs => rw [hu'] at this; exact this
  | _ => rw [hu'] at hu; cases hu
def pMaxT (p : P) : P := fun env => (p env).bind fun d => match d with
  | .dcL ((k0, d0) :: r) => if ((k0, d0) :: r).all (fun kv => isPair kv.1) then some (dKey (maxKs k0 (r.map (·.1)))) else none
  | _ => none
theorem p_maxT (hr : Room k X.A) (hc : X.calm = true) (hm : X.mg "max" = none) (ha : POk X e p) (hg : Gl X "max" := by rfl)
    (he : starEach [e] X.env = (false, eval e X.env) :: starEach [] X.env := by rfl) (hpl : (backTo pos (starEach [] X.env)).any (·.1) = false := by rfl) : POk X (.Call (.Name "max" pp) [e] [] pos) (pMaxT p) :=
  (pe_callB (call_maxT hc hr.units) hg hm (by decide +kernel) (pa_cons ha pa_nil he) (by decide) (by decide) he hpl).imp fun σ H Q h => by
    obtain ⟨B, env, O, s, d, hp, h⟩ := h
    unfold pMaxT at hp
    simp only [Option.bind_eq_some_iff] at hp
    obtain ⟨d1, e1, hp⟩ := hp
    split at hp
    · rename_i k0 d0 r
      split at hp
      · rename_i hall
        cases hp
        refine ⟨B, env, O, s, _, e1, fun v H1 g1 hv => ?_⟩
        obtain ⟨a, o, kvs, rfl, ha, nw, x, ys, rfl, hx, hq⟩ := hv
        refine ⟨a, k0, x, ys, rfl, .inr ⟨o, ha⟩, fun kv hkv => ?_, fun b hb => ?_⟩
        · have fs := hq.fsts
          rcases List.mem_cons.mp hkv with z | z
          · subst z
            exact List.all_eq_true.mp hall (k0, d0) (by simp)
          · have : kv.1 ∈ ys.map (·.1) := List.mem_map_of_mem z
            rw [fs] at this
            obtain ⟨kv2, h2, h3⟩ := List.mem_map.mp this
            rw [← h3]
            exact List.all_eq_true.mp hall kv2 (by simp [h2])
        · rw [hq.fsts] at hb
          exact h (.ref b) H1 g1 (dKey_is hb (nw_tup (s.grw g1) hb))
      · cases hp
    · cases hp
/-! displays -/
theorem carriesT {P : Program} {w : World} {H : Hp} {h : Heap} (ok : HOk P w H h) : ∀ {kvs : List (List Key × V)} {qs : List Addr} {wsl : List (Value × Value)}, VV ((qs.zip kvs).map fun z => (V.ref z.1, z.2.2)) wsl → qs.length = kvs.length → (∀ z ∈ qs.zip kvs, H z.1 = some (.tup (z.2.1.map L2.kV))) →
    ∃ rs, CarriesH (tupleKind (mixKind P w)) h wsl rs ∧ KT H kvs rs
  | [], [], wsl, r, _, _ => by cases r; exact ⟨[], trivial, .nil⟩
  | [], _ :: _, _, _, e, _ => by simp at e
  | _ :: _, [], _, _, e, _ => by simp at e
  | kv :: kvs, q :: qs, wsl, r, e, hk => by
    cases r with
    | @cons a b as bs h1 t =>
      obtain ⟨rs, c, kt⟩ := carriesT ok t (by simpa using e) fun z hz => hk z (List.mem_cons_of_mem _ hz)
      obtain ⟨b1, b2⟩ := b
      have hq := hk (q, kv) (by simp)
      cases (show b1 = Value.ref q from h1.1)
      exact ⟨(kv.1, q, b2) :: rs, ⟨rfl, rfl, key_of ok hq, c⟩, .cons ⟨rfl, hq, h1.2⟩ kt⟩
def tDispT (trs : List (TE × TE)) : TE := fun σ H Q => ∀ p, H p = none → tPairs trs σ (upd H p (.dT [])) fun ps H2 => H2 p = some (.dT []) ∧ ∃ (kvs : List (List Key × V)) (qs : List Addr), ps = (qs.zip kvs).map (fun z => (V.ref z.1, z.2.2)) ∧ qs.length = kvs.length ∧ kvs.length ≤ 15 ∧ (∀ z ∈ qs.zip kvs, H2 z.1 = some (.tup (z.2.1.map L2.kV))) ∧ Q (.ref p) (upd H2 p (.dT (mergeT [] kvs)))
theorem pe_dispT {pos : Pos} {keys : List (Option Expr)} {values : List Expr} {trs : List (TE × TE)} (hu : X.A.units < cLine) (h : PPs X pos keys values trs) (hall : keys.all (·.isSome) = true) (hl : keys.length = values.length) (h0 : keys ≠ [])
    (h15 : keys.length ≤ 15) : PE X (.Dict keys values pos) (tDispT trs) := by
  refine ⟨fun pins s σ H Q I q => ?_⟩
  have hn := I.hok.fresh (Nat.le_refl s.heap.objs.size)
  have I1 := I.laid (a := s.heap.objs.size) (o := .dT []) (h' := s.heap.push { cls := .type "dict", data := .dict #[] }) (t' := s.toks) (fun _ _ q => Heap.get?_push_of_some _ q) (Nat.le_refl _) (dt_empty s.heap I.big)
  refine wp_dispH (knd := tupleKind (mixKind X.prog X.w)) hu hall hl h0 h15 (thn (h.run pins _ σ _ _ I1 (q _ hn)) fun wsl s2 ⟨ps, H2, I2, rel, e, kvs, qs, ep, eq, lk, hk, q2⟩ => ?_)
  subst ep
  obtain ⟨rs, c, rk⟩ := carriesT I2.hok rel eq hk
  obtain ⟨z, hd, xs0, r0, dd⟩ := dt_of I2.hok e
  cases r0
  refine ⟨rs, c, dd, fun h' tk dd' hs => ⟨.ref s.heap.objs.size, _, ?_, rfl, q2⟩⟩
  have hz : (mergeT [] kvs).length ≤ sizeLine := by
    have h1 := length_mergeT kvs []
    rw [List.length_nil] at h1
    rw [sizeLine_eq]; omega
  obtain ⟨oo, es, ep, g1, g2, g3, g4, _, g6⟩ := dd'
  refine d_write I2 (by rw [e]; exact True.intro) hs ⟨oo, g1⟩ ⟨hz, hd, _, (KT.merge rk .nil).keeps fun c ys ec => ?_, oo, es, ep, g1, g2, g3, g4, g6⟩
  rw [upd_ne (ne_of ec e (fun z => nomatch z))]
  exact ec
def evDsT : List (P × P) → Slots → Option (List (List Key × D))
  | [], _ => some []
  | (pk, pv) :: r, env => match pk env, pv env, evDsT r env with
    | some dk, some dv, some l => (tkD dk).map fun k => (k, dv) :: l
    | _, _, _ => none
theorem evDsT_read {l : List (P × P)} : ∀ {H : Hp} {B : Addr → Prop} {O : List Addr} {kvs : List (List Key × D)} {Q : List (V × V) → Hp → Prop}, Stt X.K B H σ env O → evDsT l env = some kvs →
    (∀ (xs : List (List Key × V)) (qs : List Addr) H', Grw H H' → IsQ X.K (fun a => B a ∨ a ∈ O) H' kvs xs → qs.length = xs.length → (∀ z ∈ qs.zip xs, H' z.1 = some (.tup (z.2.1.map L2.kV))) → Q ((qs.zip xs).map fun z => (V.ref z.1, z.2.2)) H') →
    tPairs (l.map fun z => (rdP X z.1, rdP X z.2)) σ H Q := by
  induction l with
  | nil =>
    intro H B O kvs Q s he h
    cases he
    exact h [] [] H Grw.refl rfl rfl nofun
  | cons z l ih =>
    intro H B O kvs Q s he h
    obtain ⟨pk, pv⟩ := z
    unfold evDsT at he
    split at he
    · rename_i dk dv kr e1 e2 e3
      simp only [Option.map_eq_some_iff] at he
      obtain ⟨k, hk, rfl⟩ := he
      refine ⟨B, env, O, s, dk, e1, fun x H1 g1 hx => ⟨B, env, O, s.grw g1, dv, e2, fun y H2 g2 hy => ?_⟩⟩
      obtain ⟨b, rfl, hb⟩ := tkD_is hx hk
      refine ih ((s.grw g1).grw g2) e3 fun xs qs H3 g3 hxs hl hz => ?_
      exact h ((k, y) :: xs) (b :: qs) H3 ((g1.trans g2).trans g3) ⟨y, xs, rfl, hy.grw g3, hxs⟩ (by simp [hl]) fun z hzz => by
        rcases List.mem_cons.mp hzz with q | q
        · subst q; exact (g2.trans g3) _ _ hb
        · exact hz z q
    · cases he
def eDispT (l : List (P × P)) : M C := fun env => match evDsT l env with
  | some kvs => if kvs.length ≤ 15 then .ok (.ownT (tmergeD [] kvs)) env else .no
  | none => .no
theorem e_dispT {ks : List (Option Expr)} {vs : List Expr} {l : List (P × P)} (hr : Room k X.A) (h : DDk X ks vs l) (hall : ks.all (·.isSome) = true := by rfl) (hl : ks.length = vs.length := by rfl) (h0 : ks ≠ [] := by exact List.cons_ne_nil _ _)
    (h15 : ks.length ≤ 15 := by decide) : EOk X w (.Dict ks vs pos) (eDispT l) := (pe_dispT hr.units0 h.pps hall hl h0 h15).imp fun σ H Q h => by
  obtain ⟨B, env, O, s, h⟩ := h
  unfold eDispT at h
  split at h
  · rename_i c e1 hc
    split at hc
    · rename_i kvs ek
      split at hc
      · rename_i hlen
        cases hc
        intro t ht
        have g : Grw H (upd H t (.dT [])) := fun b o e => by rw [upd_ne (ne_of_none e ht)]; exact e
        have s1 : Stt X.K (fun a => B a ∨ a = t) (upd H t (.dT [])) σ env O := s.grow g (fun a z => z.imp id fun z => by rw [show a = t from z]; exact ht) fun a z => by
          rcases z with z | z
          · obtain ⟨u, e⟩ := s.tr a z; exact ⟨u, g a u e⟩
          · exact ⟨⟨.dT [], True.intro⟩, by rw [show a = t from z]; exact upd_same⟩
        refine evDsT_read s1 ek fun xs qs H2 g2 hxs hl hz => ⟨g2 _ _ upd_same, xs, qs, rfl, hl, ?_, hz, ?_⟩
        · rw [hxs.length]; exact hlen
        · have g' : Grw H (upd H2 t (.dT (mergeT [] xs))) := fun b o e => by
            rw [upd_ne (ne_of_none e ht)]
            exact g2 _ _ (g _ _ e)
          refine h (.ref t) _ [t] O (Res.new s Frm.refl ⟨g', ⟨t, _, rfl, rfl, upd_same, IsQ.merge (IsQ.kp (fun b o hw hb => ⟨?_, fun z => hw ?_⟩) _ _ hxs) rfl⟩, by simp, fun b hb => by rw [List.mem_singleton.mp hb]; exact ht⟩)
          · exact (upd_ne fun z : b = t => hw (.inl (.inr z))).trans hb
          · rcases z with (z | z) | z
            · exact .inl (.inl z)
            · exact .inr z
            · exact .inl (.inr (by simpa using z))
      · cases hc
    · cases hc
  · rename_i hc
    split at hc
    · split at hc <;> cases hc
    · cases hc
  · exact h.elim
end
end PL
/-! ### plain reasoning that many laws use -/
namespace PL
open PySem PySem.Spec PyProof.Rows L2
def Tr (l : List Int) : Prop := ∀ x, l.getLast? = some x → x ≠ 0
theorem tr_nil : Tr [] := nofun
theorem tr_trim (l : List Int) : Tr (trimI l) := fun x h => trimI_last h
theorem tr_snoc {l : List Int} {x : Int} (h : x ≠ 0) : Tr (l ++ [x]) := fun y e => by simp at e; rw [← e]; exact h
theorem tr_cons {a b : Int} {l : List Int} (h : Tr (a :: b :: l)) : Tr (b :: l) := fun x e => h x (by rw [List.getLast?_cons_cons]; exact e)
def lastI (l : List Int) : Int := l.getLast?.getD 0
def HUGE : Nat := 2 ^ 13000
def gcdF (g : Nat) (l : List Int) : Nat := l.foldl (fun g x => Int.gcd g x) g
theorem gcdF_cons (g : Nat) (x : Int) (l : List Int) : gcdF g (x :: l) = gcdF (Int.gcd g x) l := rfl
theorem gcdF_dvd : ∀ (l : List Int) (g : Nat), gcdF g l ∣ g ∧ ∀ x ∈ l, (gcdF g l : Int) ∣ x
  | [], g => ⟨Nat.dvd_refl g, nofun⟩
  | x :: l, g => by
    obtain ⟨h1, h2⟩ := gcdF_dvd l (Int.gcd g x)
    rw [gcdF_cons]
    have a1 : ((gcdF (Int.gcd g x) l : Nat) : Int) ∣ (Int.gcd g x : Nat) := Int.natCast_dvd_natCast.mpr h1
    refine ⟨Int.natCast_dvd_natCast.mp (Int.dvd_trans a1 (Int.gcd_dvd_left ..)), fun y hy => ?_⟩
    rcases List.mem_cons.mp hy with rfl | hy
    · exact Int.dvd_trans a1 (Int.gcd_dvd_right ..)
    · exact h2 y hy
theorem gcdF_zero {l : List Int} {g : Nat} (h : gcdF g l = 0) : g = 0 ∧ ∀ x ∈ l, x = 0 := by
  obtain ⟨h1, h2⟩ := gcdF_dvd l g
  rw [h] at h1 h2
  exact ⟨by simpa using h1, fun x hx => by simpa using h2 x hx⟩
theorem gcd_lt {g : Nat} {x : Int} {K : Nat} (h1 : g < K) (h2 : x.natAbs < K) : Int.gcd g x < K := by
  by_cases h : g = 0
  · subst h; simpa [Int.gcd] using h2
  · exact Nat.lt_of_le_of_lt (Nat.le_of_dvd (by omega) (Int.natCast_dvd_natCast.mp (Int.gcd_dvd_left ..))) h1
theorem gcdF_lt {K : Nat} : ∀ {l : List Int} {g : Nat}, g < K → (∀ x ∈ l, x.natAbs < K) → gcdF g l < K
  | [], g, h, _ => h
  | x :: l, g, h, hl => by
    rw [gcdF_cons]
    exact gcdF_lt (gcd_lt h (hl x (by simp))) fun y hy => hl y (by simp [hy])
def divL (l : List Int) (c : Int) : List Int := l.map fun y => y.fdiv c
theorem fdiv_dvd {y c : Int} (h : c ∣ y) : c * y.fdiv c = y := Int.mul_fdiv_cancel' h
theorem divOk_big {a b : Int} (hb : b ≠ 0) (ha : a.natAbs < HUGE) : divOk a b = true := by
  unfold divOk
  have : Builtin.divisionGoesByPylong a b = false := by
    unfold Builtin.divisionGoesByPylong
    have h1 : a.natAbs.log2 < 13000 := by
      rcases Nat.eq_zero_or_pos a.natAbs with z | z
      · rw [z]; decide
      · exact (Nat.log2_lt (by omega)).mpr ha
    have h3 : (if a == 0 then 0 else a.natAbs.log2 / 30 + 1) ≤ 434 := by split <;> omega
    simp only [Bool.and_eq_false_iff, decide_eq_false_iff_not]
    generalize (if a == 0 then 0 else a.natAbs.log2 / 30 + 1) = p at *
    generalize (if b == 0 then 0 else b.natAbs.log2 / 30 + 1) = q at *
    omega
  simp [hb, this]
theorem mulOk_big {a b : Int} (ha : a.natAbs < HUGE) (hb : b.natAbs < HUGE) : mulOk a b = true := by
  have lg : ∀ {a : Int}, a.natAbs < HUGE → a.natAbs.log2 < 13000 := fun {a} ha => by
    rcases Nat.eq_zero_or_pos a.natAbs with z | z
    · rw [z]; decide
    · exact (Nat.log2_lt (by omega)).mpr ha
  have := lg ha
  have := lg hb
  unfold mulOk
  rw [decide_eq_true (by omega)]
  simp
theorem huge_of {k : Nat} {x : Nat} (h : x < 2 ^ k) (hk : k ≤ 13000) : x < HUGE := Nat.lt_of_lt_of_le h (Nat.pow_le_pow_right (by decide) hk)
theorem fmod_def' (x y : Int) : x - x.fdiv y * y = x.fmod y := by
  rw [Int.fmod_def, Int.mul_comm]
theorem gcd_fmod (x y : Int) : Int.gcd y (x.fmod y) = Int.gcd x y := by
  have h : x.fmod y = x + y * (-(x.fdiv y)) := by rw [Int.fmod_def]; simp only [Int.mul_neg]; omega
  rw [h, Int.gcd_add_mul_left_right, Int.gcd_comm]
theorem compF_int {t : Tg} {q : PB} {p : P} {env : Slots} {l : List Int} (f : Int → Int) (h : ∀ y ∈ l, ∃ e, t (.int y) env = some e ∧ q e = some true ∧ p e = some (.int (f y))) : compF t q p env (inD l) = some (inD (l.map f)) := by
  have := compF_map (t := t) (q := q) (p := p) (env := env) (l := inD l) (fun d => match d with | .int y => .int (f y) | d => d) fun d hd => by
    obtain ⟨y, hy, rfl⟩ := List.mem_map.mp hd
    exact h y hy
  rw [this]
  simp [inD, List.map_map, Function.comp_def]
theorem last_ix {l : List Int} (h : l ≠ []) : atI (inD l) (-1) = some (.int (lastI l)) := by
  have e : inD l = inD l.dropLast ++ [.int (l.getLast h)] := by
    rw [← inD_one, ← inD_app, List.dropLast_concat_getLast]
  rw [e, atI_snoc, lastI, List.getLast?_eq_some_getLast h]
  rfl
theorem cut_take {α : Type} {l : List α} {k : Nat} (h : k ≤ l.length) : cutD l none (some (k : Int)) = l.take k := by
  unfold PL.cutD
  rw [HT.sIx_none, HT.sIx_nat]
  simp [Nat.min_eq_left h]
theorem cut_drop {α : Type} {l : List α} {k : Nat} (h : k ≤ l.length) : cutD l (some (k : Int)) none = l.drop k := by
  unfold PL.cutD
  rw [HT.sIx_none, HT.sIx_nat, Nat.min_eq_left h]
  exact List.take_of_length_le (by simp)
theorem cut_last {α : Type} (l : List α) (h : l ≠ []) : cutD l none (some (-1)) = l.dropLast := by
  unfold PL.cutD
  rw [HT.sIx_none]
  have : 0 < l.length := List.length_pos_iff.mpr h
  rw [show HT.sIx l.length l.length (some (-1)) = l.length - 1 by
    show (if (-1 : Int) < 0 then (-1 + (l.length : Int)).toNat else min (-1 : Int).toNat l.length) = _
    rw [if_pos (by decide)]; omega]
  simp [List.dropLast_eq_take]
theorem inD_take (l : List Int) (k : Nat) : (inD l).take k = inD (l.take k) := by simp [inD, List.map_take]
theorem inD_drop (l : List Int) (k : Nat) : (inD l).drop k = inD (l.drop k) := by simp [inD, List.map_drop]
theorem inD_dropLast (l : List Int) : (inD l).dropLast = inD l.dropLast := by simp [inD]
theorem inD_zeros (n : Nat) : (List.replicate n [D.int 0]).flatten = inD (List.replicate n 0) := by
  induction n with
  | zero => rfl
  | succ n ih => rw [List.replicate_succ, List.flatten_cons, ih, List.replicate_succ]; rfl
theorem atI_int {l : List Int} {k : Nat} (h : k < l.length) : atI (inD l) (k : Int) = some (.int l[k]) := by
  rw [atI_nat (by simpa using h)]
  simp [inD]
theorem rngP_0 {p : P} {env : Slots} {j : Int} (h : p env = some (.int j)) (h1 : 0 ≤ j) (h2 : j < 1073741824) : rngP [p] env = some ((List.range j.toNat).map fun (i : Nat) => .int (0 + (i : Int))) := by
  have e : -(2 ^ 62) ≤ j ∧ j < 2 ^ 62 := by constructor <;> omega
  unfold rngP
  simp only [evPs_c, evPs_n, h, Option.bind_some, rngL]
  rw [if_pos e]
theorem rngP_1 {p : P} {env : Slots} {n : Nat} (h : p env = some (.int (n : Int))) (h2 : n ≤ 1000) : rngP [p] env = some ((List.range n).map fun (i : Nat) => .int (0 + (i : Int))) :=
  rngP_0 h (by omega) (by omega)
theorem fCat_ok {p q : PLs} {env : Slots} {a b : List D} (h1 : p env = some a) (h2 : q env = some b) (h : a.length + b.length ≤ 1000) : fCat p q env = some (a ++ b) := by
  unfold fCat
  rw [h1, h2]
  simp only []
  rw [if_pos (by omega)]
theorem fComp_ok {vs : List Nat} {t : Tg} {q : PB} {p : P} {src : PLs} {env : Slots} {l r : List D} (h1 : src env = some l) (h2 : l.length ≤ 1000) (h3 : compF t q p (wipeE env vs) l = some r) : fComp vs t q p src env = some r := by
  unfold fComp
  rw [h1]
  simp only [Option.bind_some]
  rw [if_pos (by omega)]
  exact h3
theorem pF_ok {p : PLs} {env : Slots} {l : List D} (h : p env = some l) : pF p env = some (.lst l) := by
  unfold pF
  rw [h]
  rfl
theorem eFnO_1 {m : List C → Out C} {f : M C} {env e1 : Slots} {a c : C} {o : Slots} (h1 : f env = .ok a e1) (h2 : m [a] = .ok c o) : eFnO m [f] env = .ok c e1 := by
  unfold eFnO
  simp only [evMs_c, evMs_n, h1, Out.bind, h2]
theorem evMs_2 {f g : M C} {env e1 e2 : Slots} {c d : C} (h1 : f env = .ok c e1) (h2 : g e1 = .ok d e2) : evMs [f, g] env = .ok [c, d] e2 := by
  simp only [evMs_c, evMs_n, h1, h2, Out.bind]
theorem eFnO_2 {m : List C → Out C} {f g : M C} {env e1 e2 : Slots} {a b c : C} {o : Slots} (h1 : f env = .ok a e1) (h3 : g e1 = .ok b e2) (h2 : m [a, b] = .ok c o) : eFnO m [f, g] env = .ok c e2 := by
  unfold eFnO
  rw [evMs_2 h1 h3]
  simp only [Out.bind, h2]
theorem evPs_1 {p : P} {env : Slots} {a : D} (h1 : p env = some a) : evPs [p] env = some [a] := by
  rw [evPs_c, h1, evPs_n]
theorem evPs_2 {p q : P} {env : Slots} {a b : D} (h1 : p env = some a) (h2 : q env = some b) : evPs [p, q] env = some [a, b] := by
  rw [evPs_c, h1, evPs_1 h2]
theorem pFn_1 {m : List C → Out C} {p : P} {env : Slots} {a : D} {c : C} (h1 : p env = some a) (h : Gives m [.frz a] c) : pFn m [p] env = some c.toD := pFn_gives (evPs_1 h1) h
theorem pFn_2 {m : List C → Out C} {p q : P} {env : Slots} {a b : D} {c : C} (h1 : p env = some a) (h2 : q env = some b) (h : Gives m [.frz a, .frz b] c) : pFn m [p, q] env = some c.toD := pFn_gives (evPs_2 h1 h2) h
theorem lP_ok {p : P} {env : Slots} {l : List D} (h : p env = some (.lst l)) : lP p env = some l := by
  unfold lP
  rw [h]
theorem fSq_ok {p : P} {env : Slots} {l : List D} (h : p env = some (.lst l)) : fSq p env = some l := by
  unfold fSq
  rw [h]
  rfl
theorem pIx_ok {p q : P} {env : Slots} {d k r : D} (h1 : p env = some d) (h2 : q env = some k) (h3 : ixD d k = some r) : pIx p q env = some r := by
  unfold pIx
  rw [h1, h2]
  exact h3
theorem last_mem {l : List Int} (h : l ≠ []) : lastI l ∈ l := by
  rw [lastI, List.getLast?_eq_some_getLast h]
  exact List.getLast_mem h
theorem inD_cons (x : Int) (l : List Int) : inD (x :: l) = .int x :: inD l := rfl
theorem while_f {c : M Bool} {b : SS} {env e : Slots} (h : c env = .ok false e) : sWhile c b env = .nx e := by
  rw [sWhile_eq, h]
  rfl
theorem while_t {c : M Bool} {b : SS} {env e e1 : Slots} (h : c env = .ok true e) (h2 : b e = .nx e1) : sWhile c b env = sWhile c b e1 := by
  rw [sWhile_eq, h]
  simp only [sOf, if_true]
  rw [h2]
theorem eF_ok {f : PLs} {env : Slots} {l : List D} (h : f env = some l) : eF f env = .ok (.own (fz l)) env := by
  unfold eF
  rw [h]
  rfl
theorem if_no {q : M Bool} {f : SS} {env e : Slots} (h : q env = .ok false e) : sIf q f sNx env = .nx e := if_f h
theorem len_p {p : P} {env : Slots} {l : List Int} (h : p env = some (.lst (inD l))) : pCall lenF [p] env = some (.int (l.length : Int)) := by
  have := pCall_1 (fn := lenF) (v := .int (l.length : Int)) h (by simp [lenF])
  exact this
theorem max_p {p q : P} {env : Slots} {i j n : Int} (h1 : p env = some (.int i)) (h2 : q env = some (.int j)) (h : (if j > i then j else i) = n) : pCall maxF [p, q] env = some (.int n) := by
  unfold pCall
  rw [evPs_2 h1 h2]
  subst h
  rfl
theorem forL_app {t : Tg} {b : SS} (nb : ∀ e e1, b e ≠ .bk e1) : ∀ {l1 l2 : List D} {e e1 : Slots}, forL t b l1 e = .nx e1 → forL t b (l1 ++ l2) e = forL t b l2 e1
  | [], l2, e, e1, h => by cases h; rfl
  | d :: r, l2, e, e1, h => by
    rw [List.cons_append, forL]
    rw [forL] at h
    cases e2 : t d e with
    | none => rw [e2] at h; cases h
    | some e3 =>
      rw [e2] at h
      simp only [] at h ⊢
      cases e4 : b e3 with
      | nx e5 => rw [e4] at h; exact forL_app nb h
      | ct e5 => rw [e4] at h; exact forL_app nb h
      | bk e5 => exact absurd e4 (nb _ _)
      | rt _ _ => rw [e4] at h; cases h
      | err _ _ => rw [e4] at h; cases h
      | no => rw [e4] at h; cases h
theorem forL_snoc {t : Tg} {b : SS} (nb : ∀ e e1, b e ≠ .bk e1) {l : List D} {d : D} {e e1 e2 e3 : Slots} (h1 : forL t b l e = .nx e1) (h2 : t d e1 = some e2) (h3 : b e2 = .nx e3) : forL t b (l ++ [d]) e = .nx e3 := by
  rw [forL_app nb h1, forL, h2]
  simp only [h3]
  rfl
theorem set_nb {i : Nat} {f : M C} (e e1 : Slots) : sSet i f e ≠ .bk e1 := by
  unfold sSet sOf
  split <;> intro h <;> cases h
def gv (b : Bool) (l : List D) : D := if b then .tup l else .lst l
theorem gv_sq (b : Bool) (l : List D) : sqD (gv b l) = some l := by cases b <;> rfl
theorem gv_len (b : Bool) (l : List D) : lenF [gv b l] = some (.int l.length) := by cases b <;> rfl
theorem gv_ix (b : Bool) (l : List D) (i : Int) : ixD (gv b l) (.int i) = atI l i := by cases b <;> rfl
theorem lend_E {m : List C → Out C} {fs : List (M C)} {env : Slots} {c c' : C} {ds : List D} {v : D} {o : List (Option C)} (h0 : env[0]? = some (some c)) (h1 : evMs fs env = .ok (fz ds) env) (h2 : m (c :: fz ds) = .ok (.frz v) (some c' :: o)) : eFnL m 0 fs env = .ok (.frz v) (env.set 0 (some c')) := by
  unfold eFnL
  rw [h0]
  simp only [h1, Out.bind, lentTo, h0, h2, C.toD]
theorem evM_1 {p : P} {env : Slots} {d : D} (h : p env = some d) : evMs [eP p] env = .ok (fz [d]) env := by
  simp only [evMs_c, eP_of h, evMs_n, Out.bind]
  rfl
theorem compM3 {vs : List Nat} {t : Tg} {f : M C} {a b c : D} {x y z : C} {e0 e1 e2 e3 : Slots} (h0 : ∃ e e', t a e0 = some e ∧ f e = .ok x e' ∧ wipeE e' vs = e1) (h1 : ∃ e e', t b e1 = some e ∧ f e = .ok y e' ∧ wipeE e' vs = e2) (h2 : ∃ e e', t c e2 = some e ∧ f e = .ok z e' ∧ wipeE e' vs = e3) : compM vs t (fun _ => some true) f [a, b, c] e0 = some ([x, y, z], e3) := by
  obtain ⟨p0, q0, g0, k0, w0⟩ := h0
  obtain ⟨p1, q1, g1, k1, w1⟩ := h1
  obtain ⟨p2, q2, g2, k2, w2⟩ := h2
  simp only [compM, g0, k0, w0, g1, k1, w1, g2, k2, w2]
theorem pFnB_1 {m : List C → Out C} {p : P} {env : Slots} {a : D} {n : Int} (h1 : p env = some a) (h : Gives m [.frz a] (.frz (.int n))) : pFnB m [p] env = some (.int n) := by
  obtain ⟨o, h⟩ := h
  unfold pFnB
  rw [evPs_1 h1]
  simp only [List.map_cons, List.map_nil, h, C.toD, flatD, if_true]
theorem evMs_3 {f g h : M C} {env e1 e2 e3 : Slots} {c d k : C} (h1 : f env = .ok c e1) (h2 : g e1 = .ok d e2) (h3 : h e2 = .ok k e3) : evMs [f, g, h] env = .ok [c, d, k] e3 := by
  simp only [evMs_c, evMs_n, h1, h2, h3, Out.bind]
theorem same_q {p q : P} {env : Slots} {d : D} {s : Str} (hp : p env = some d) (hq : q env = some d) (hs : reprF2 [d] = some (.str s)) : qOf (pOp neT' (pCall reprF2 [p]) (pCall reprF2 [q])) env = some false :=
  qOf_b (pOp_v (a := .str s) (b := .str s) (v := .bl false) (pCall_1 (v := .str s) hp hs) (pCall_1 (v := .str s) hq hs) (by simp [neT', eqDT_str]))
theorem pFnK_1 {m : List C → Out C} {p : P} {env : Slots} {a : D} {c : C} (h1 : p env = some a) (h : Gives m [.frz a] c) : pFnK m [0] [p] env = some c.toD := by
  obtain ⟨o, h⟩ := h
  unfold pFnK
  rw [evPs_1 h1]
  simp only [pick, List.filterMap_cons, List.filterMap_nil, List.getElem?_cons_zero, List.map_cons, List.map_nil, h]
theorem mSq_ok {f : M C} {env e : Slots} {d : D} {l : List D} (h : f env = .ok (.frz d) e) (hs : sqD d = some l) : mSq f env = .ok l e := by
  unfold mSq
  rw [h]
  simp only [Out.bind, C.toD, hs]
theorem small_int {a b : Int} (h : a.natAbs ≤ b.natAbs) {k : Nat} (hb : b.natAbs < k) : a.natAbs < k := Nat.lt_of_le_of_lt h hb
/-- a draw of the laws, by its numbers -/
theorem draw_gen {A B M1 M2 Dv : Int} (hA : -(2 ^ 64) < A) (hA2 : A < 2 ^ 64) (h1 : 0 < M1) (h1b : M1 ≤ 4294967296) (h2 : 0 < M2) (h3 : 0 < Dv) (h3b : Dv < 1073741824) :
    DrawOk (bodyM 3 [0] 2 (sSeq (sIf (tP (qOf (pOp (cmpI iGt) (bKf (kIx (kV 0) (pK (.int 0)))) (pK (.int 0))))) (sSeq (sAsg (eP (pDm (bKf (kIx (kV 0) (pK (.int 0)))) (pV 1))) (gTupD 2 (gsCons (gIx 0 (paV 0) (pK (.int 0))) (gsCons (gV false 2) gsNil)))) (sRet (eP (pV 2)))) (sNx)) (sSeq (sAsg (eP (pOp modI (pCall intF [pOp addI (pOp mulI (bKf (kIx (kV 0) (pK (.int 1)))) (pK (.int A))) (pK (.int B))]) (pK (.int M1)))) (gIx 0 (paV 0) (pK (.int 1)))) (sRet (eP (pOp modI (pCall intF [pOp fdivI (pOp modI (pCall intF [pOp mulI (bKf (kIx (kV 0) (pK (.int 1)))) (bKf (kIx (kV 0) (pK (.int 1))))]) (pK (.int M2))) (pK (.int Dv))]) (pV 1))))))) := by
  rintro c s ⟨a, b, rfl, hb, hb2⟩ hs hs2
  by_cases ha : 0 < a
  · refine ⟨a % s, pot (a / s) b, ?_, Int.emod_nonneg _ (by omega), Int.emod_lt_of_pos _ hs, _, _, rfl, hb, hb2⟩
    have hp : Builtin.divisionGoesByPylong a s = false := PyProof.noPylong_small (by omega)
    simp [pot, PL.bodyM, PL.startE, PL.outsE, PL.sSeq, PL.sNx, PL.sBk, PL.sCt, PL.sNo, PL.sOf, PL.sSet, PL.sRet, PL.sRetN, PL.sDrop, PL.sIf, PL.sAsg, PL.sAug, PL.sAugIx, PL.sPar, PL.sFor, PL.eP, PL.eF, PL.eFrz, PL.eV, PL.eMv, PL.eFn, PL.eFnO, PL.eFnL, PL.lentTo, PL.eLst, PL.eTup, PL.eCall, PL.eOp, PL.eBin, PL.eIx, PL.eIf, PL.eAnd, PL.eOr, PL.eApp, PL.eAppP, PL.ePop, PL.eExt, PL.eExtM, PL.eCat, PL.eRep, PL.catD, PL.repD, PL.eComp, PL.tP, PL.tOfE, PL.tAnd, PL.tOr, PL.tNot, PL.pV, PL.bV, PL.pK, PL.pOp, PL.pChain, PL.qOf, PL.qAnd, PL.qOr, PL.qNot, PL.pAnd, PL.pOr, PL.pNot, PL.pIf, PL.pNeg, PL.pCall, PL.pFn, PL.pFnB, PL.pFnK, PL.pick, PL.pDm, PL.dmD, PL.pIx, PL.ixD, L2.atI, L2.ixN, PL.pSl, PL.pTup, PL.pF, PL.lP, PL.lKf, PL.frzs, PL.kV, PL.kIx, PL.ixC, PL.pKf, PL.bKf, PL.evPs_n, PL.evPs_c, PL.evMs_n, PL.evMs_c, PL.fCat, PL.fRep, PL.fSl, PL.evO, PL.fRev, PL.fSq, PL.sqD, PL.fList, PL.pTupL, PL.fComp, PL.enumS, PL.enumP, PL.zipP, PL.rngP, PL.rngM, PL.rngL, PL.mSq, PL.mP, PL.gV, PL.gTupD, PL.gsCons, PL.gsNil, PL.gIx, PL.paV, PL.paIx, PL.ownAt, PL.setAt, PL.getP, PL.setP, PL.intOf, PL.isFree, PL.wipeE, PL.freeE, PL.C.toD, PL.C.toDs, PL.ofV, PL.addI, PL.subI, PL.mulI, PL.fdivI, PL.modI, PL.powI, PL.cmpI, PL.iLt, PL.iLe, PL.iGt, PL.iGe, PL.eqV', PL.neV', PL.isN, PL.notN, PL.isNonD, PL.lenF, PL.absF, PL.intF, PL.strF, PL.maxF, PL.minF, PL.sumF, PL.allF, PL.anyF, PL.isiF, PL.clsD, PL.tyN, PL.isSubN, PL.intsOf, PL.blsOf, PL.flatD, PL.Out.bind, ha, hs, hp]
  · have n0 : (0 : Int) ≤ (b * A + B) % M1 := Int.emod_nonneg _ (by omega)
    have n1 : (b * A + B) % M1 < M1 := Int.emod_lt_of_pos _ h1
    generalize hn : (b * A + B) % M1 = n at n0 n1
    refine ⟨(n * n).fmod M2 |>.fdiv Dv |>.fmod s, pot a n, ?_, ?_, ?_, _, _, rfl, n0, by omega⟩
    · have m1 : mulOk b A = true := mulOk_r hA hA2
      have m2 : mulOk n n = true := mulOk_r (by omega) (by omega)
      have d1 : divOk ((n * n).fmod M2) Dv = true := divOk_small (by omega) (by omega)
      have f1 : (b * A + B).fmod M1 = n := by rw [Int.fmod_eq_emod_of_nonneg _ (by omega), hn]
      have s0 : s ≠ 0 := by omega
      have k1 : M1 ≠ 0 := by omega
      have k2 : M2 ≠ 0 := by omega
      simp [pot, PL.bodyM, PL.startE, PL.outsE, PL.sSeq, PL.sNx, PL.sBk, PL.sCt, PL.sNo, PL.sOf, PL.sSet, PL.sRet, PL.sRetN, PL.sDrop, PL.sIf, PL.sAsg, PL.sAug, PL.sAugIx, PL.sPar, PL.sFor, PL.eP, PL.eF, PL.eFrz, PL.eV, PL.eMv, PL.eFn, PL.eFnO, PL.eFnL, PL.lentTo, PL.eLst, PL.eTup, PL.eCall, PL.eOp, PL.eBin, PL.eIx, PL.eIf, PL.eAnd, PL.eOr, PL.eApp, PL.eAppP, PL.ePop, PL.eExt, PL.eExtM, PL.eCat, PL.eRep, PL.catD, PL.repD, PL.eComp, PL.tP, PL.tOfE, PL.tAnd, PL.tOr, PL.tNot, PL.pV, PL.bV, PL.pK, PL.pOp, PL.pChain, PL.qOf, PL.qAnd, PL.qOr, PL.qNot, PL.pAnd, PL.pOr, PL.pNot, PL.pIf, PL.pNeg, PL.pCall, PL.pFn, PL.pFnB, PL.pFnK, PL.pick, PL.pDm, PL.dmD, PL.pIx, PL.ixD, L2.atI, L2.ixN, PL.pSl, PL.pTup, PL.pF, PL.lP, PL.lKf, PL.frzs, PL.kV, PL.kIx, PL.ixC, PL.pKf, PL.bKf, PL.evPs_n, PL.evPs_c, PL.evMs_n, PL.evMs_c, PL.fCat, PL.fRep, PL.fSl, PL.evO, PL.fRev, PL.fSq, PL.sqD, PL.fList, PL.pTupL, PL.fComp, PL.enumS, PL.enumP, PL.zipP, PL.rngP, PL.rngM, PL.rngL, PL.mSq, PL.mP, PL.gV, PL.gTupD, PL.gsCons, PL.gsNil, PL.gIx, PL.paV, PL.paIx, PL.ownAt, PL.setAt, PL.getP, PL.setP, PL.intOf, PL.isFree, PL.wipeE, PL.freeE, PL.C.toD, PL.C.toDs, PL.ofV, PL.addI, PL.subI, PL.mulI, PL.fdivI, PL.modI, PL.powI, PL.cmpI, PL.iLt, PL.iLe, PL.iGt, PL.iGe, PL.eqV', PL.neV', PL.isN, PL.notN, PL.isNonD, PL.lenF, PL.absF, PL.intF, PL.strF, PL.maxF, PL.minF, PL.sumF, PL.allF, PL.anyF, PL.isiF, PL.clsD, PL.tyN, PL.isSubN, PL.intsOf, PL.blsOf, PL.flatD, PL.Out.bind, ha, hs, f1, m1, m2, d1, s0, k1, k2]
    · rw [Int.fmod_eq_emod_of_nonneg _ (by omega)]; exact Int.emod_nonneg _ (by omega)
    · rw [Int.fmod_eq_emod_of_nonneg _ (by omega)]; exact Int.emod_lt_of_pos _ hs
theorem draw_p {m : List C → Out C} (hm : DrawOk m) {env : Slots} {c : C} {p : P} {s : Int} (h0 : env[0]? = some (some c)) (hp : p env = some (.int s)) (hc : PotOk c) (hs : 0 < s) (hs2 : s < 1073741824) :
    ∃ r c', eFnL m 0 [eP p] env = .ok (.frz (.int r)) (env.set 0 (some c')) ∧ 0 ≤ r ∧ r < s ∧ PotOk c' := by
  obtain ⟨r, c', h1, h2, h3, h4⟩ := hm c s hc hs hs2
  exact ⟨r, c', lend_E (ds := [.int s]) h0 (evM_1 hp) h1, h2, h3, h4⟩
/-- the pot of the laws, by its numbers -/
theorem pot_gen {X Y A B Z M1 M2 : Int} (hM1 : 0 < M1) (hM2 : 0 < M2) (hM2b : M2 < 4294967296) (hA : -(2 ^ 64) < A) (hA2 : A < 2 ^ 64) (hB : -(2 ^ 64) < B) (hB2 : B < 2 ^ 64) (hX : -(2 ^ 64) < X) (hX2 : X < 2 ^ 64) (ns : List Int) :
    ∃ c o, (bodyM 3 [] 2 (sSeq (sSet 2 (eP (pIf (qOf (pOp (cmpI iLt) (pV 1) (pCall lenF [pV 0]))) (pCall absF [pIx (pV 0) (pV 1)]) (pOp addI (pOp mulI (pK (.int X)) (pV 1)) (pK (.int Y)))))) (sRet (eF (evPs [pCall maxF [pK (.int 0), pOp subI (pV 2) (pOp powI (pK (.int 10)) (pK (.int 18)))], pOp addI (pOp modI (pCall intF [pOp addI (pOp addI (pOp mulI (pOp modI (pCall intF [pV 2]) (pK (.int M1))) (pK (.int A))) (pOp mulI (pK (.int B)) (pV 1))) (pK (.int Z))]) (pK (.int M2))) (pK (.int 1))]))))) [.frz (.ro ns), .frz (.int 0)] = .ok c o ∧ PotOk c := by
  have fin : ∀ cell : Int, ∃ c, eF (evPs [pCall maxF [pK (.int 0), pOp subI (pV 2) (pOp powI (pK (.int 10)) (pK (.int 18)))], pOp addI (pOp modI (pCall intF [pOp addI (pOp addI (pOp mulI (pOp modI (pCall intF [pV 2]) (pK (.int M1))) (pK (.int A))) (pOp mulI (pK (.int B)) (pV 1))) (pK (.int Z))]) (pK (.int M2))) (pK (.int 1))]) [some (.frz (.ro ns)), some (.frz (.int 0)), some (.frz (.int cell))] = .ok c [some (.frz (.ro ns)), some (.frz (.int 0)), some (.frz (.int cell))] ∧ PotOk c := fun cell => by
    have q0 : (0 : Int) ≤ (cell.fmod M1 * A + B * 0 + Z).fmod M2 := by rw [Int.fmod_eq_emod_of_nonneg _ (by omega)]; exact Int.emod_nonneg _ (by omega)
    have q1 : (cell.fmod M1 * A + B * 0 + Z).fmod M2 < M2 := by rw [Int.fmod_eq_emod_of_nonneg _ (by omega)]; exact Int.emod_lt_of_pos _ hM2
    have m1 : mulOk (cell.fmod M1) A = true := mulOk_r hA hA2
    have m2 : mulOk B 0 = true := mulOk_l hB hB2
    have k1 : M1 ≠ 0 := by omega
    have k2 : M2 ≠ 0 := by omega
    refine ⟨pot (if cell - 10 ^ 18 > 0 then cell - 10 ^ 18 else 0) ((cell.fmod M1 * A + B * 0 + Z).fmod M2 + 1), ?_, _, _, rfl, by omega, by omega⟩
    simp [PL.bodyM, PL.startE, PL.outsE, PL.sSeq, PL.sNx, PL.sBk, PL.sCt, PL.sNo, PL.sOf, PL.sSet, PL.sRet, PL.sRetN, PL.sDrop, PL.sIf, PL.sAsg, PL.sAug, PL.sAugIx, PL.sPar, PL.sFor, PL.eP, PL.eF, PL.eFrz, PL.eV, PL.eMv, PL.eFn, PL.eFnO, PL.eFnL, PL.lentTo, PL.eLst, PL.eTup, PL.eCall, PL.eOp, PL.eBin, PL.eIx, PL.eIf, PL.eAnd, PL.eOr, PL.eApp, PL.eAppP, PL.ePop, PL.eExt, PL.eExtM, PL.eCat, PL.eRep, PL.catD, PL.repD, PL.eComp, PL.tP, PL.tOfE, PL.tAnd, PL.tOr, PL.tNot, PL.pV, PL.bV, PL.pK, PL.pOp, PL.pChain, PL.qOf, PL.qAnd, PL.qOr, PL.qNot, PL.pAnd, PL.pOr, PL.pNot, PL.pIf, PL.pNeg, PL.pCall, PL.pFn, PL.pFnB, PL.pFnK, PL.pick, PL.pDm, PL.dmD, PL.pIx, PL.ixD, L2.atI, L2.ixN, PL.pSl, PL.pTup, PL.pF, PL.lP, PL.lKf, PL.frzs, PL.kV, PL.kIx, PL.ixC, PL.pKf, PL.bKf, PL.evPs_n, PL.evPs_c, PL.evMs_n, PL.evMs_c, PL.fCat, PL.fRep, PL.fSl, PL.evO, PL.fRev, PL.fSq, PL.sqD, PL.fList, PL.pTupL, PL.fComp, PL.enumS, PL.enumP, PL.zipP, PL.rngP, PL.rngM, PL.rngL, PL.mSq, PL.mP, PL.gV, PL.gTupD, PL.gsCons, PL.gsNil, PL.gIx, PL.paV, PL.paIx, PL.ownAt, PL.setAt, PL.getP, PL.setP, PL.intOf, PL.isFree, PL.wipeE, PL.freeE, PL.C.toD, PL.C.toDs, PL.ofV, PL.addI, PL.subI, PL.mulI, PL.fdivI, PL.modI, PL.powI, PL.cmpI, PL.iLt, PL.iLe, PL.iGt, PL.iGe, PL.eqV', PL.neV', PL.isN, PL.notN, PL.isNonD, PL.lenF, PL.absF, PL.intF, PL.strF, PL.maxF, PL.minF, PL.sumF, PL.allF, PL.anyF, PL.isiF, PL.clsD, PL.tyN, PL.isSubN, PL.intsOf, PL.blsOf, PL.flatD, PL.Out.bind, m1, m2, pot, fz_cons, k1, k2]
  by_cases h : 0 < ns.length
  · obtain ⟨c, h1, h2⟩ := fin (if ns[0] < 0 then -ns[0] else ns[0])
    refine ⟨c, _, body_rt (e := [some (.frz (.ro ns)), some (.frz (.int 0)), some (.frz (.int (if ns[0] < 0 then -ns[0] else ns[0])))]) ?_, h2⟩
    rw [show startE 3 [.frz (.ro ns), .frz (.int 0)] = [some (.frz (.ro ns)), some (.frz (.int 0)), none] from rfl]
    have e0 : atI ns 0 = some ns[0] := atI_nat (j := 0) h
    have e1 : ixD (.ro ns) (.int 0) = some (.int ns[0]) := by simp [ixD, e0]
    rw [seq_nx (e := [some (.frz (.ro ns)), some (.frz (.int 0)), some (.frz (.int (if ns[0] < 0 then -ns[0] else ns[0])))]) (by simp [sSet, sOf, eP, pIf, qOf, pOp, pV, pCall, evPs_n, evPs_c, lenF, ofV, cmpI, iLt, h, pIx, e1, absF, C.toD])]
    exact ret_ok h1
  · obtain ⟨c, h1, h2⟩ := fin (X * 0 + Y)
    refine ⟨c, _, body_rt (e := [some (.frz (.ro ns)), some (.frz (.int 0)), some (.frz (.int (X * 0 + Y)))]) ?_, h2⟩
    rw [show startE 3 [.frz (.ro ns), .frz (.int 0)] = [some (.frz (.ro ns)), some (.frz (.int 0)), none] from rfl]
    rw [seq_nx (e := [some (.frz (.ro ns)), some (.frz (.int 0)), some (.frz (.int (X * 0 + Y)))]) (by simp [sSet, sOf, eP, pIf, qOf, pOp, pK, pV, pCall, evPs_n, evPs_c, lenF, ofV, cmpI, iLt, h, C.toD, mulI, addI, mulOk_l hX hX2])]
    exact ret_ok h1
/-! #### readable and small -/
def Rok (w k : Nat) (d : D) : Prop := plD d = true ∧ rok d = true ∧ ∃ y, toPyR d = some y ∧ y.weight ≤ w ∧ y.depth ≤ k
theorem Rok.mono {w k w' k' : Nat} {d : D} (h : Rok w k d) (hw : w ≤ w') (hk : k ≤ k') : Rok w' k' d := by
  obtain ⟨a, b, y, c, e, f⟩ := h
  exact ⟨a, b, y, c, by omega, by omega⟩
theorem Rok.repr {w k : Nat} {d : D} (h : Rok w k d) (hw : w ≤ 500000) (hk : k ≤ 60) : ∃ s, reprF2 [d] = some (.str s) := by
  obtain ⟨_, b, y, c, e, f⟩ := h
  exact repr_small b ⟨y, c, by omega, by omega⟩
theorem rok_int {i : Int} (h : i.natAbs < 10 ^ 26) : Rok 100 0 (.int i) := by
  refine ⟨rfl, decide_eq_true h, _, rfl, ?_, by simp [PyData.depth]⟩
  have : i.natAbs.log2 < 87 := by
    rcases Nat.eq_zero_or_pos i.natAbs with z | z
    · rw [z]; decide
    · exact (Nat.log2_lt (by omega)).mpr (Nat.lt_of_lt_of_le h (by decide))
  simp only [PyData.weight]
  split <;> omega
theorem rok_bl (b : Bool) : Rok 100 0 (.bl b) := ⟨rfl, rfl, _, rfl, by simp [PyData.weight], by simp [PyData.depth]⟩
theorem rok_non : Rok 100 0 .non := ⟨rfl, rfl, _, rfl, by simp [PyData.weight], by simp [PyData.depth]⟩
theorem rok_all {w k : Nat} : ∀ {l : List D}, (∀ d ∈ l, Rok w k d) → plL l = true ∧ rokL l = true ∧ ∃ ys, toPysR l = some ys ∧ PyData.weightAll ys ≤ l.length * (w + 1) ∧ PyData.depthAll ys ≤ k
  | [], _ => ⟨rfl, rfl, [], rfl, by simp [PyData.weightAll], by simp [PyData.depthAll]⟩
  | d :: r, h => by
    obtain ⟨a1, a2, y, a3, a4, a5⟩ := h d (by simp)
    obtain ⟨b1, b2, ys, b3, b4, b5⟩ := rok_all fun x hx => h x (List.mem_cons_of_mem _ hx)
    refine ⟨by simp [plL, a1, b1], by simp [rokL, a2, b2], y :: ys, by simp only [toPysR, a3, b3], ?_, ?_⟩
    · simp only [PyData.weightAll, List.length_cons, Nat.add_mul, Nat.one_mul]; omega
    · simp only [PyData.depthAll]; omega
theorem rok_gv {w k n W : Nat} (c : Bool) {l : List D} (h : ∀ d ∈ l, Rok w k d) (hl : l.length ≤ n) (hW : n * (w + 1) + 1 ≤ W) : Rok W (k + 1) (gv c l) := by
  obtain ⟨b1, b2, ys, b3, b4, b5⟩ := rok_all h
  have : l.length * (w + 1) ≤ n * (w + 1) := Nat.mul_le_mul_right _ hl
  cases c
  · exact ⟨b1, b2, .list ys, by simp only [gv, Bool.false_eq_true, if_false, toPyR, b3]; rfl, by simp only [PyData.weight]; omega, by simp only [PyData.depth]; omega⟩
  · exact ⟨b1, b2, .tuple ys, by simp only [gv, if_true, toPyR, b3]; rfl, by simp only [PyData.weight]; omega, by simp only [PyData.depth]; omega⟩
theorem rok_lst {w k n W : Nat} {l : List D} (h : ∀ d ∈ l, Rok w k d) (hl : l.length ≤ n) (hW : n * (w + 1) + 1 ≤ W) : Rok W (k + 1) (.lst l) := rok_gv false h hl hW
theorem rok_tup {w k n W : Nat} {l : List D} (h : ∀ d ∈ l, Rok w k d) (hl : l.length ≤ n) (hW : n * (w + 1) + 1 ≤ W) : Rok W (k + 1) (.tup l) := rok_gv true h hl hW
/-! #### the greatest of a list -/
theorem maxF_of {l : List Int} {k : Int} (h1 : k ∈ l) (h2 : ∀ y ∈ l, y ≤ k) : maxF [.lst (inD l)] = some (.int k) := by
  unfold maxF
  simp only [intsOf_inD, Option.bind_some]
  cases e : maxL l with
  | none => cases l with
    | nil => cases h1
    | cons x r => simp [maxL] at e
  | some m => rw [maxL_eq e h1 h2]; rfl
/-! #### comprehensions of the others -/
theorem compM_map {vs : List Nat} {t : Tg} {f : M C} {e : Slots} (g : D → C) : ∀ {l : List D}, (∀ d ∈ l, ∃ e1 e2, t d e = some e1 ∧ f e1 = .ok (g d) e2 ∧ wipeE e2 vs = e) → compM vs t (fun _ => some true) f l e = some (l.map g, e)
  | [], _ => rfl
  | d :: r, h => by
    obtain ⟨e1, e2, h1, h2, h3⟩ := h d (by simp)
    have ih := compM_map g fun x hx => h x (List.mem_cons_of_mem _ hx)
    simp only [compM, h1, h2, h3, ih, List.map_cons]
end PL
/-! ### dicts of powers, plainly -/
namespace PL
open PySem PySem.Spec PyProof.Rows L2
abbrev K2 := Int × Int
abbrev TD := List (K2 × Int)
def kk (k : K2) : List Key := [.inl k.1, .inl k.2]
def tdD (t : TD) : List (List Key × D) := t.map fun e => (kk e.1, .int e.2)
theorem kk_inj {a b : K2} : kk a = kk b ↔ a = b := by
  constructor
  · intro h
    simp only [kk, List.cons.injEq, Sum.inl.injEq, and_true] at h
    exact Prod.ext h.1 h.2
  · rintro rfl; rfl
@[simp] theorem tdD_len (t : TD) : (tdD t).length = t.length := List.length_map ..
def gtT (t : TD) (k : K2) : Option Int := (t.find? fun e => decide (e.1 = k)).map (·.2)
def cf (t : TD) (k : K2) : Int := (gtT t k).getD 0
def putT (t : TD) (k : K2) (v : Int) : TD := if (t.any fun e => decide (e.1 = k)) = true then t.map (fun e => if e.1 = k then (e.1, v) else e) else t ++ [(k, v)]
theorem gt_cons (e : K2 × Int) (t : TD) (k : K2) : gtT (e :: t) k = if e.1 = k then some e.2 else gtT t k := by
  unfold gtT
  rw [List.find?_cons]
  by_cases h : e.1 = k
  · simp [h]
  · simp [h]
theorem cf_cons (e : K2 × Int) (t : TD) (k : K2) : cf (e :: t) k = if e.1 = k then e.2 else cf t k := by
  unfold cf
  rw [gt_cons]
  split <;> rfl
theorem cf_nil (k : K2) : cf [] k = 0 := rfl
theorem find_td : ∀ (t : TD) (k : K2), findD (tdD t) (kk k) = (gtT t k).map D.int
  | [], k => rfl
  | e :: t, k => by
    have ih := find_td t k
    unfold findD at ih ⊢
    rw [gt_cons, tdD, List.map_cons, List.find?_cons]
    by_cases h : e.1 = k
    · simp [h]
    · rw [decide_eq_false (by rw [kk_inj]; exact h), if_neg h]
      exact ih
theorem any_td (t : TD) (k : K2) : ((tdD t).any fun kv => decide (kv.1 = kk k)) = t.any fun e => decide (e.1 = k) := by
  unfold tdD
  rw [List.any_map]
  congr 1
  funext e
  simp [kk_inj]
theorem put_td (t : TD) (k : K2) (v : Int) : tputD (tdD t) (kk k) (.int v) = tdD (putT t k v) := by
  unfold tputD putT
  rw [any_td]
  split
  · simp only [tdD, List.map_map]
    refine List.map_congr_left fun e _ => ?_
    simp only [Function.comp, kk_inj]
    split <;> rfl
  · simp [tdD]
def Dk (t : TD) : Prop := (t.map (·.1)).Nodup
theorem dk_cons {e : K2 × Int} {t : TD} : Dk (e :: t) ↔ (∀ x ∈ t, x.1 ≠ e.1) ∧ Dk t := by
  unfold Dk
  rw [List.map_cons, List.nodup_cons]
  simp only [List.mem_map, not_exists, not_and]
theorem any_iff {t : TD} {k : K2} : (t.any fun e => decide (e.1 = k)) = true ↔ ∃ e ∈ t, e.1 = k := by simp [List.any_eq_true]
theorem put_cons (e : K2 × Int) (t : TD) (k : K2) (v : Int) (d : Dk (e :: t)) : putT (e :: t) k v = if e.1 = k then (k, v) :: t else e :: putT t k v := by
  rw [dk_cons] at d
  by_cases h : e.1 = k
  · rw [if_pos h]
    unfold putT
    rw [if_pos (by simp [h])]
    rw [List.map_cons, if_pos h, ← h]
    congr 1
    rw [List.map_congr_left (g := id) fun x hx => by rw [if_neg (d.1 x hx)]; rfl, List.map_id]
  · rw [if_neg h]
    unfold putT
    rw [List.any_cons, decide_eq_false h, Bool.false_or]
    split
    · rw [List.map_cons, if_neg h]
    · rfl
theorem put_mem {t : TD} {k : K2} {v : Int} {e : K2 × Int} (h : e ∈ putT t k v) : e = (k, v) ∨ (e ∈ t ∧ e.1 ≠ k) := by
  unfold putT at h
  split at h
  · obtain ⟨x, hx, rfl⟩ := List.mem_map.mp h
    by_cases hk : x.1 = k
    · rw [if_pos hk]; left; rw [hk]
    · rw [if_neg hk]; exact .inr ⟨hx, hk⟩
  · rename_i hn
    rcases List.mem_append.mp h with h | h
    · exact .inr ⟨h, fun z => hn (any_iff.mpr ⟨e, h, z⟩)⟩
    · exact .inl (List.mem_singleton.mp h)
theorem dk_put : ∀ {t : TD} (k : K2) (v : Int), Dk t → Dk (putT t k v)
  | [], k, v, _ => by simp [putT, Dk]
  | e :: t, k, v, d => by
    rw [put_cons _ _ _ _ d]
    have d' := dk_cons.mp d
    split
    · rename_i h
      rw [dk_cons]
      exact ⟨fun x hx => by rw [← h]; exact d'.1 x hx, d'.2⟩
    · rename_i h
      rw [dk_cons]
      refine ⟨fun x hx => ?_, dk_put k v d'.2⟩
      rcases put_mem hx with rfl | ⟨hx, _⟩
      · exact fun z => h z.symm
      · exact d'.1 x hx
theorem len_put (t : TD) (k : K2) (v : Int) : (putT t k v).length ≤ t.length + 1 := by
  unfold putT
  split
  · simp
  · simp
theorem cf_put : ∀ {t : TD} (k k' : K2) (v : Int), Dk t → cf (putT t k v) k' = if k' = k then v else cf t k'
  | [], k, k', v, _ => by
    simp only [putT, List.any_nil, Bool.false_eq_true, if_false, List.nil_append, cf_cons, cf_nil]
    by_cases h : k = k'
    · simp [h]
    · rw [if_neg h, if_neg (fun z => h z.symm)]
  | e :: t, k, k', v, d => by
    have d' := dk_cons.mp d
    have ih := cf_put (t := t) k k' v d'.2
    rw [put_cons _ _ _ _ d]
    by_cases h : e.1 = k
    · rw [if_pos h, cf_cons, cf_cons]
      by_cases h2 : k = k'
      · simp [h2]
      · rw [if_neg h2, if_neg (fun z => h2 z.symm), if_neg (by rw [h]; exact h2)]
    · rw [if_neg h, cf_cons, cf_cons, ih]
      by_cases h2 : e.1 = k'
      · rw [if_pos h2, if_neg (fun z => h (h2.trans z)), if_pos h2]
      · rw [if_neg h2, if_neg h2]
theorem cf_mem : ∀ {t : TD} {e : K2 × Int}, Dk t → e ∈ t → gtT t e.1 = some e.2
  | x :: t, e, d, h => by
    have d' := dk_cons.mp d
    rw [gt_cons]
    rcases List.mem_cons.mp h with rfl | h
    · simp
    · rw [if_neg (fun z => d'.1 e h z.symm)]
      exact cf_mem d'.2 h
theorem cf_ne : ∀ {t : TD} {k : K2}, cf t k ≠ 0 → (k, cf t k) ∈ t
  | [], k, h => absurd (cf_nil k) h
  | x :: t, k, h => by
    rw [cf_cons] at h ⊢
    by_cases hk : x.1 = k
    · rw [if_pos hk, ← hk]; simp
    · rw [if_neg hk] at h ⊢
      exact List.mem_cons_of_mem _ (cf_ne h)
/-! #### sums over a dict -/
def evT (φ : K2 → Int) (t : TD) : Int := (t.map fun e => e.2 * φ e.1).sum
theorem ev_nil (φ : K2 → Int) : evT φ [] = 0 := rfl
theorem ev_cons (φ : K2 → Int) (e : K2 × Int) (t : TD) : evT φ (e :: t) = e.2 * φ e.1 + evT φ t := by simp [evT]
theorem ev_put (φ : K2 → Int) (k : K2) (v : Int) : ∀ {t : TD}, Dk t → evT φ (putT t k (cf t k + v)) = evT φ t + v * φ k
  | [], _ => by simp [putT, cf_nil, evT]
  | e :: t, d => by
    have d' := dk_cons.mp d
    have ih := ev_put φ k v d'.2
    rw [put_cons _ _ _ _ d, cf_cons]
    by_cases h : e.1 = k
    · rw [if_pos h, if_pos h, ev_cons, ev_cons, h]
      simp only [Int.add_mul]
      omega
    · rw [if_neg h, if_neg h, ev_cons, ev_cons, ih]
      omega
theorem ev_add (φ ψ : K2 → Int) : ∀ t : TD, evT (fun k => φ k + ψ k) t = evT φ t + evT ψ t
  | [] => rfl
  | e :: t => by
    rw [ev_cons, ev_cons, ev_cons, ev_add φ ψ t, Int.mul_add]
    omega
theorem ev_smul (c : Int) (φ : K2 → Int) : ∀ t : TD, evT (fun k => c * φ k) t = c * evT φ t
  | [] => by simp [evT]
  | e :: t => by
    rw [ev_cons, ev_cons, ev_smul c φ t, Int.mul_add]
    congr 1
    rw [← Int.mul_assoc, ← Int.mul_assoc, Int.mul_comm e.2 c]
theorem ev_congr {φ ψ : K2 → Int} {t : TD} (h : ∀ e ∈ t, φ e.1 = ψ e.1) : evT φ t = evT ψ t := by
  unfold evT
  congr 1
  exact List.map_congr_left fun e he => by rw [h e he]
theorem ev_zero : ∀ t : TD, evT (fun _ => 0) t = 0
  | [] => rfl
  | e :: t => by rw [ev_cons, ev_zero t]; simp
theorem cf_ev {k : K2} : ∀ {t : TD}, Dk t → cf t k = evT (fun k' => if k' = k then 1 else 0) t
  | [], _ => rfl
  | e :: t, d => by
    have d' := dk_cons.mp d
    rw [cf_cons, ev_cons, ← cf_ev d'.2]
    by_cases h : e.1 = k
    · rw [if_pos h, if_pos h]
      have : cf t k = 0 := by
        by_cases hz : cf t k = 0
        · exact hz
        · exact absurd h.symm (d'.1 _ (cf_ne hz))
      rw [this]; simp
    · rw [if_neg h, if_neg h]; simp
def nrT (t : TD) : Nat := (t.map fun e => e.2.natAbs).sum
theorem nr_cons (e : K2 × Int) (t : TD) : nrT (e :: t) = e.2.natAbs + nrT t := by simp [nrT]
theorem nr_mem : ∀ {t : TD} {e : K2 × Int}, e ∈ t → e.2.natAbs ≤ nrT t
  | x :: t, e, h => by
    rw [nr_cons]
    rcases List.mem_cons.mp h with rfl | h
    · omega
    · have := nr_mem h
      omega
theorem nr_cf (t : TD) (k : K2) : (cf t k).natAbs ≤ nrT t := by
  by_cases h : cf t k = 0
  · rw [h]; simp
  · exact nr_mem (cf_ne h)
theorem nr_put (k : K2) (v : Int) : ∀ {t : TD}, Dk t → nrT (putT t k (cf t k + v)) ≤ nrT t + v.natAbs
  | [], _ => by simp [putT, cf_nil, nrT]
  | e :: t, d => by
    have d' := dk_cons.mp d
    have ih := nr_put k v d'.2
    rw [put_cons _ _ _ _ d, cf_cons]
    by_cases h : e.1 = k
    · rw [if_pos h, if_pos h, nr_cons, nr_cons]
      show (e.2 + v).natAbs + nrT t ≤ _
      omega
    · rw [if_neg h, if_neg h, nr_cons, nr_cons]
      omega
/-! #### the noughts left out -/
def bareT (t : TD) : TD := t.filter fun e => decide (e.2 ≠ 0)
theorem ev_bare (φ : K2 → Int) : ∀ t : TD, evT φ (bareT t) = evT φ t
  | [] => rfl
  | e :: t => by
    have ih := ev_bare φ t
    unfold bareT at ih ⊢
    rw [List.filter_cons]
    by_cases h : e.2 = 0
    · rw [decide_eq_false (by simp [h]), ev_cons, h]
      simpa using ih
    · rw [decide_eq_true h]
      simp only [if_true, ev_cons, ih]
theorem nr_bare (t : TD) : nrT (bareT t) = nrT t := by
  induction t with
  | nil => rfl
  | cons e t ih =>
    unfold bareT at ih ⊢
    rw [List.filter_cons]
    by_cases h : e.2 = 0
    · rw [decide_eq_false (by simp [h]), nr_cons, h]
      simpa using ih
    · rw [decide_eq_true h]
      simp only [if_true, nr_cons, ih]
theorem dk_bare {t : TD} (d : Dk t) : Dk (bareT t) := (List.filter_sublist.map _).nodup d
theorem len_bare (t : TD) : (bareT t).length ≤ t.length := List.length_filter_le ..
theorem mem_bare {t : TD} {e : K2 × Int} : e ∈ bareT t ↔ e ∈ t ∧ e.2 ≠ 0 := by simp [bareT]
theorem cf_bare {t : TD} (k : K2) (d : Dk t) : cf (bareT t) k = cf t k := by
  rw [cf_ev (dk_bare d), cf_ev d, ev_bare]
/-! #### products -/
def kadd (a b : K2) : K2 := (a.1 + b.1, a.2 + b.2)
def rowT (k : K2) (v : Int) (b : TD) (acc : TD) : TD := b.foldl (fun acc e => putT acc (kadd k e.1) (cf acc (kadd k e.1) + v * e.2)) acc
def timesT (a b : TD) : TD := a.foldl (fun acc e => rowT e.1 e.2 b acc) []
theorem row_spec (φ : K2 → Int) (k : K2) (v : Int) : ∀ (b acc : TD), Dk acc → Dk (rowT k v b acc) ∧ evT φ (rowT k v b acc) = evT φ acc + v * evT (fun k2 => φ (kadd k k2)) b ∧
    nrT (rowT k v b acc) ≤ nrT acc + v.natAbs * nrT b ∧ (rowT k v b acc).length ≤ acc.length + b.length
  | [], acc, d => by simp [rowT, d, ev_nil, nrT]
  | e :: b, acc, d => by
    obtain ⟨h1, h2, h3, h4⟩ := row_spec φ k v b (putT acc (kadd k e.1) (cf acc (kadd k e.1) + v * e.2)) (dk_put _ _ d)
    refine ⟨h1, ?_, ?_, ?_⟩
    · refine h2.trans ?_
      rw [ev_put _ _ _ d, ev_cons, Int.mul_add, Int.mul_assoc]
      omega
    · have := nr_put (kadd k e.1) (v * e.2) d
      rw [Int.natAbs_mul] at this
      rw [nr_cons, Nat.mul_add]
      refine Nat.le_trans h3 ?_
      omega
    · have := len_put acc (kadd k e.1) (cf acc (kadd k e.1) + v * e.2)
      refine Nat.le_trans h4 ?_
      simp only [List.length_cons]
      omega
theorem row_mem (P : K2 → Prop) (k : K2) (v : Int) : ∀ (b acc : TD), (∀ e ∈ acc, P e.1) → (∀ e ∈ b, P (kadd k e.1)) → ∀ e ∈ rowT k v b acc, P e.1
  | [], acc, h1, h2 => h1
  | e :: b, acc, h1, h2 => row_mem P k v b _ (fun x hx => by
      rcases put_mem hx with rfl | ⟨hx, _⟩
      · exact h2 e (by simp)
      · exact h1 x hx) fun x hx => h2 x (List.mem_cons_of_mem _ hx)
theorem times_spec' (φ : K2 → Int) (b : TD) : ∀ (a acc : TD), Dk acc → let r := a.foldl (fun acc e => rowT e.1 e.2 b acc) acc; Dk r ∧ evT φ r = evT φ acc + evT (fun k1 => evT (fun k2 => φ (kadd k1 k2)) b) a ∧
    nrT r ≤ nrT acc + nrT a * nrT b ∧ r.length ≤ acc.length + a.length * b.length
  | [], acc, d => by simp [d, ev_nil, nrT]
  | e :: a, acc, d => by
    obtain ⟨g1, g2, g3, g4⟩ := row_spec φ e.1 e.2 b acc d
    obtain ⟨h1, h2, h3, h4⟩ := times_spec' φ b a (rowT e.1 e.2 b acc) g1
    refine ⟨h1, ?_, ?_, ?_⟩
    · refine h2.trans ?_
      rw [g2, ev_cons]
      omega
    · refine Nat.le_trans h3 ?_
      rw [nr_cons, Nat.add_mul]
      omega
    · refine Nat.le_trans h4 ?_
      simp only [List.length_cons, Nat.add_mul, Nat.one_mul]
      omega
theorem times_spec (φ : K2 → Int) (a b : TD) : Dk (timesT a b) ∧ evT φ (timesT a b) = evT (fun k1 => evT (fun k2 => φ (kadd k1 k2)) b) a ∧ nrT (timesT a b) ≤ nrT a * nrT b ∧ (timesT a b).length ≤ a.length * b.length := by
  obtain ⟨h1, h2, h3, h4⟩ := times_spec' φ b a [] (by simp [Dk])
  refine ⟨h1, ?_, ?_, ?_⟩
  · have := h2
    rw [ev_nil, Int.zero_add] at this
    exact this
  · have z : nrT ([] : TD) = 0 := rfl
    rw [z, Nat.zero_add] at h3
    exact h3
  · rw [List.length_nil, Nat.zero_add] at h4
    exact h4
theorem ev_times {φ : K2 → Int} (hφ : ∀ a b, φ (kadd a b) = φ a * φ b) (a b : TD) : evT φ (timesT a b) = evT φ a * evT φ b := by
  rw [(times_spec φ a b).2.1]
  have : ∀ k1, evT (fun k2 => φ (kadd k1 k2)) b = evT φ b * φ k1 := fun k1 => by
    rw [Int.mul_comm, ← ev_smul]
    exact ev_congr fun e _ => hφ _ _
  rw [ev_congr (ψ := fun k1 => evT φ b * φ k1) fun e _ => this _, ev_smul, Int.mul_comm]
theorem times_mem (P Q : K2 → Prop) {b : TD} (hb : ∀ e ∈ b, Q e.1) {a : TD} (ha : ∀ e ∈ a, ∀ f ∈ b, P (kadd e.1 f.1)) : ∀ e ∈ timesT a b, P e.1 := by
  have : ∀ (a acc : TD), (∀ e ∈ acc, P e.1) → (∀ e ∈ a, ∀ f ∈ b, P (kadd e.1 f.1)) → ∀ e ∈ a.foldl (fun acc e => rowT e.1 e.2 b acc) acc, P e.1 := by
    intro a
    induction a with
    | nil => intro acc h _; exact h
    | cons e a ih =>
      intro acc h h2
      exact ih _ (row_mem P e.1 e.2 b acc h fun f hf => h2 e (by simp) f hf) fun x hx => h2 x (List.mem_cons_of_mem _ hx)
  exact this a [] nofun ha
end PL
/-! ### planes, plainly: rows of numbers without noughts at an end -/
namespace PL
open PySem PySem.Spec PyProof.Rows L2
def co (ps : List (List Int)) (i j : Nat) : Int := (ps.getD i []).getD j 0
structure Pl (ps : List (List Int)) : Prop where
  tr : ∀ r ∈ ps, Tr r
  top : ∀ r, ps.getLast? = some r → r ≠ []
theorem getD_last {α : Type} {l : List α} (h : l ≠ []) (d : α) : l.getLast? = some (l.getD (l.length - 1) d) := by
  rw [List.getLast?_eq_getElem?, List.getD_eq_getElem?_getD]
  have : l.length - 1 < l.length := by have := List.length_pos_iff.mpr h; omega
  rw [List.getElem?_eq_getElem this]
  rfl
theorem getD_ge {α : Type} {l : List α} {i : Nat} (h : l.length ≤ i) (d : α) : l.getD i d = d := by
  rw [List.getD_eq_getElem?_getD, List.getElem?_eq_none h]; rfl
theorem row_len_le {a b : List Int} (tb : Tr b) (h : ∀ j, a.getD j 0 = b.getD j 0) : b.length ≤ a.length := by
  by_cases hb : b = []
  · rw [hb]; simp
  · have h1 := getD_last hb 0
    have h2 := tb _ h1
    rw [← h] at h2
    by_cases hl : b.length ≤ a.length
    · exact hl
    · exact absurd (getD_ge (by have := List.length_pos_iff.mpr hb; omega) 0) h2
theorem row_ext {a b : List Int} (ta : Tr a) (tb : Tr b) (h : ∀ j, a.getD j 0 = b.getD j 0) : a = b := by
  have l1 := row_len_le tb h
  have l2 := row_len_le ta fun j => (h j).symm
  refine List.ext_getElem (by omega) fun i h1 h2 => ?_
  have := h i
  rw [List.getD_eq_getElem?_getD, List.getD_eq_getElem?_getD, List.getElem?_eq_getElem h1, List.getElem?_eq_getElem h2] at this
  exact this
theorem Pl.row {ps : List (List Int)} (h : Pl ps) (i : Nat) : Tr (ps.getD i []) := by
  by_cases hi : i < ps.length
  · rw [List.getD_eq_getElem?_getD, List.getElem?_eq_getElem hi]
    exact h.tr _ (List.getElem_mem _)
  · rw [getD_ge (by omega)]; exact tr_nil
theorem pl_ext {ps qs : List (List Int)} (hp : Pl ps) (hq : Pl qs) (h : ∀ i j, co ps i j = co qs i j) : ps = qs := by
  have r : ∀ i, ps.getD i [] = qs.getD i [] := fun i => row_ext (hp.row i) (hq.row i) (h i)
  have le : ∀ {a b : List (List Int)}, Pl b → (∀ i, a.getD i [] = b.getD i []) → b.length ≤ a.length := fun {a b} hb h => by
    by_cases hn : b = []
    · rw [hn]; simp
    · have h1 := getD_last hn []
      have h2 := hb.top _ h1
      rw [← h] at h2
      by_cases hl : b.length ≤ a.length
      · exact hl
      · exact absurd (getD_ge (by have := List.length_pos_iff.mpr hn; omega) []) h2
  have l1 := le hq r
  have l2 := le hp fun i => (r i).symm
  refine List.ext_getElem (by omega) fun i h1 h2 => ?_
  have := r i
  rw [List.getD_eq_getElem?_getD, List.getD_eq_getElem?_getD, List.getElem?_eq_getElem h1, List.getElem?_eq_getElem h2] at this
  exact this
theorem co_out {ps : List (List Int)} {i j : Nat} (h : co ps i j ≠ 0) : ∃ hi : i < ps.length, ∃ hj : j < ps[i].length, co ps i j = ps[i][j] := by
  unfold co at h ⊢
  by_cases hi : i < ps.length
  · have e : ps.getD i [] = ps[i] := by rw [List.getD_eq_getElem?_getD, List.getElem?_eq_getElem hi]; rfl
    rw [e] at h ⊢
    by_cases hj : j < ps[i].length
    · exact ⟨hi, hj, by rw [List.getD_eq_getElem?_getD, List.getElem?_eq_getElem hj]; rfl⟩
    · exact absurd (getD_ge (by omega) 0) h
  · rw [getD_ge (l := ps) (by omega)] at h
    exact absurd rfl h
/-! #### a dict that tells a plane's numbers -/
structure Dof (t : TD) (ps : List (List Int)) : Prop where
  dk : Dk t
  nz : ∀ e ∈ t, e.2 ≠ 0
  eq : ∀ k : K2, cf t k = if 0 ≤ k.1 ∧ 0 ≤ k.2 then co ps k.1.toNat k.2.toNat else 0
theorem Dof.nat {t : TD} {ps : List (List Int)} (h : Dof t ps) (i j : Nat) : cf t ((i : Int), (j : Int)) = co ps i j := by
  rw [h.eq, if_pos ⟨by simp, by simp⟩]
  simp
theorem Dof.mem {t : TD} {ps : List (List Int)} (h : Dof t ps) {e : K2 × Int} (he : e ∈ t) : ∃ i j : Nat, e.1 = ((i : Int), (j : Int)) ∧ e.2 = co ps i j ∧ ∃ hi : i < ps.length, j < ps[i].length := by
  have e1 := cf_mem h.dk he
  have e2 : cf t e.1 = e.2 := by unfold cf; rw [e1]; rfl
  have e3 := h.nz e he
  rw [h.eq] at e2
  split at e2
  · rename_i hk
    rw [← e2] at e3
    obtain ⟨hi, hj, _⟩ := co_out e3
    refine ⟨e.1.1.toNat, e.1.2.toNat, Prod.ext ?_ ?_, e2.symm, hi, hj⟩
    · show e.1.1 = (e.1.1.toNat : Int); omega
    · show e.1.2 = (e.1.2.toNat : Int); omega
  · exact absurd e2.symm e3
theorem Dof.key {t : TD} {ps : List (List Int)} (h : Dof t ps) {i j : Nat} (hz : co ps i j ≠ 0) : (((i : Int), (j : Int)), co ps i j) ∈ t := by
  have := cf_ne (t := t) (k := ((i : Int), (j : Int))) (by rw [h.nat]; exact hz)
  rwa [h.nat] at this
/-! #### written as rows -/
def mx0 (l : List Int) : Int := l.foldl max 0
def hiT (t : TD) : Int := mx0 (t.map fun e => e.1.1 + 1)
def wdT (t : TD) (i : Int) : Int := mx0 ((t.filter fun e => decide (e.1.1 = i)).map fun e => e.1.2 + 1)
def rowAt (t : TD) (i : Int) : List Int := (List.range (wdT t i).toNat).map fun (j : Nat) => cf t (i, (j : Int))
def listT (t : TD) : List (List Int) := (List.range (hiT t).toNat).map fun (i : Nat) => rowAt t (i : Int)
theorem mx0_spec (l : List Int) : (mx0 l = 0 ∨ mx0 l ∈ l) ∧ (∀ y ∈ l, y ≤ mx0 l) ∧ 0 ≤ mx0 l := by
  obtain ⟨h1, h2⟩ := foldl_max_mem l 0
  refine ⟨?_, fun y hy => h2 y (List.mem_cons_of_mem _ hy), h2 0 (by simp)⟩
  rcases List.mem_cons.mp h1 with h | h
  · exact .inl h
  · exact .inr h
/-- keys that are no negative numbers -/
def Kn (t : TD) : Prop := ∀ e ∈ t, 0 ≤ e.1.1 ∧ 0 ≤ e.1.2
theorem rowAt_get {t : TD} (d : Dk t) (kn : Kn t) (i j : Nat) : (rowAt t i).getD j 0 = cf t ((i : Int), (j : Int)) := by
  unfold rowAt
  by_cases h : j < (wdT t i).toNat
  · rw [List.getD_eq_getElem?_getD, List.getElem?_map, List.getElem?_range h]; rfl
  · rw [getD_ge (by simp; omega)]
    by_cases hz : cf t ((i : Int), (j : Int)) = 0
    · exact hz.symm
    · have := cf_ne hz
      obtain ⟨_, m2, m3⟩ := mx0_spec ((t.filter fun e => decide (e.1.1 = (i : Int))).map fun e => e.1.2 + 1)
      have := m2 ((j : Int) + 1) (List.mem_map.mpr ⟨_, List.mem_filter.mpr ⟨this, by simp⟩, rfl⟩)
      have e : wdT t i = mx0 ((t.filter fun e => decide (e.1.1 = (i : Int))).map fun e => e.1.2 + 1) := rfl
      omega
theorem listT_co {t : TD} (d : Dk t) (kn : Kn t) (i j : Nat) : co (listT t) i j = cf t ((i : Int), (j : Int)) := by
  unfold co listT
  by_cases h : i < (hiT t).toNat
  · have : ((List.range (hiT t).toNat).map fun (i : Nat) => rowAt t (i : Int)).getD i [] = rowAt t (i : Int) := by
      rw [List.getD_eq_getElem?_getD, List.getElem?_map, List.getElem?_range h]; rfl
    rw [this, rowAt_get d kn]
  · rw [getD_ge (l := (List.range (hiT t).toNat).map fun (i : Nat) => rowAt t (i : Int)) (by simp; omega)]
    by_cases hz : cf t ((i : Int), (j : Int)) = 0
    · rw [hz]; rfl
    · have := cf_ne hz
      obtain ⟨_, m2, m3⟩ := mx0_spec (t.map fun e => e.1.1 + 1)
      have := m2 ((i : Int) + 1) (List.mem_map.mpr ⟨_, this, rfl⟩)
      have e : hiT t = mx0 (t.map fun e => e.1.1 + 1) := rfl
      omega
theorem listT_pl {t : TD} (d : Dk t) (kn : Kn t) (nz : ∀ e ∈ t, e.2 ≠ 0) : Pl (listT t) := by
  have rw0 : ∀ i : Int, Tr (rowAt t i) := fun i x hx => by
    by_cases h0 : rowAt t i = []
    · rw [h0] at hx; cases hx
    · rw [getD_last h0 0] at hx
      cases hx
      have hl : (rowAt t i).length = (wdT t i).toNat := by simp [rowAt]
      have hp := List.length_pos_iff.mpr h0
      have hj : (rowAt t i).length - 1 < (wdT t i).toNat := by omega
      have g : ∀ m : Nat, m < (wdT t i).toNat → (rowAt t i).getD m 0 = cf t (i, (m : Int)) := fun m hm => by
        unfold rowAt
        rw [List.getD_eq_getElem?_getD, List.getElem?_map, List.getElem?_range hm]; rfl
      have g := g _ hj
      rw [g]
      obtain ⟨m1, m2, m3⟩ := mx0_spec ((t.filter fun e => decide (e.1.1 = i)).map fun e => e.1.2 + 1)
      have ew : wdT t i = mx0 ((t.filter fun e => decide (e.1.1 = i)).map fun e => e.1.2 + 1) := rfl
      rcases m1 with m1 | m1
      · omega
      · obtain ⟨e, he, h1⟩ := List.mem_map.mp m1
        obtain ⟨he, h2⟩ := List.mem_filter.mp he
        have h2 := of_decide_eq_true h2
        have : (i, (((rowAt t i).length - 1 : Nat) : Int)) = e.1 := Prod.ext h2.symm (by show _ = e.1.2; omega)
        rw [this]
        unfold cf
        rw [cf_mem d he]
        exact nz e he
  refine ⟨fun r hr => ?_, fun r hr => ?_⟩
  · obtain ⟨i, _, rfl⟩ := List.mem_map.mp hr
    exact rw0 _
  · by_cases h0 : listT t = []
    · rw [h0] at hr; cases hr
    · rw [getD_last h0 []] at hr
      cases hr
      have hl : (listT t).length = (hiT t).toNat := by simp [listT]
      have hp := List.length_pos_iff.mpr h0
      obtain ⟨m1, m2, m3⟩ := mx0_spec (t.map fun e => e.1.1 + 1)
      have eh : hiT t = mx0 (t.map fun e => e.1.1 + 1) := rfl
      rcases m1 with m1 | m1
      · omega
      · obtain ⟨e, he, h1⟩ := List.mem_map.mp m1
        intro hz
        have c := listT_co d kn ((listT t).length - 1) e.1.2.toNat
        unfold co at c
        rw [hz] at c
        have ke := kn e he
        have : ((((listT t).length - 1 : Nat) : Int), (e.1.2.toNat : Int)) = e.1 := Prod.ext (by show _ = e.1.1; omega) (by show _ = e.1.2; omega)
        rw [this] at c
        unfold cf at c
        rw [cf_mem d he] at c
        exact nz e he c.symm
theorem listT_dof {t : TD} (d : Dk t) (kn : Kn t) (nz : ∀ e ∈ t, e.2 ≠ 0) : Dof t (listT t) := ⟨d, nz, fun k => by
  split
  · rename_i h
    rw [listT_co d kn]
    congr 1
    exact Prod.ext (by show k.1 = (k.1.toNat : Int); omega) (by show k.2 = (k.2.toNat : Int); omega)
  · rename_i h
    by_cases hz : cf t k = 0
    · exact hz
    · exact absurd (kn _ (cf_ne hz)) h⟩
theorem Dof.kn {t : TD} {ps : List (List Int)} (h : Dof t ps) : Kn t := fun e he => by
  obtain ⟨i, j, e1, _⟩ := h.mem he
  rw [e1]
  exact ⟨Int.natCast_nonneg _, Int.natCast_nonneg _⟩
theorem Dof.list {t : TD} {ps : List (List Int)} (h : Dof t ps) (p : Pl ps) : listT t = ps :=
  pl_ext (listT_pl h.dk h.kn h.nz) p fun i j => by rw [listT_co h.dk h.kn, h.nat]
theorem listT_len {t : TD} {B : Nat} (h : ∀ e ∈ t, e.1.1 < B ∧ e.1.2 < B) : (listT t).length ≤ B ∧ ∀ r ∈ listT t, r.length ≤ B := by
  have hb : ∀ l : List Int, (∀ y ∈ l, y ≤ B) → (mx0 l).toNat ≤ B := fun l hl => by
    obtain ⟨m1, m2, m3⟩ := mx0_spec l
    rcases m1 with m1 | m1
    · omega
    · have := hl _ m1; omega
  refine ⟨?_, fun r hr => ?_⟩
  · rw [listT, List.length_map, List.length_range]
    exact hb _ fun y hy => by
      obtain ⟨e, he, rfl⟩ := List.mem_map.mp hy
      have := (h e he).1
      omega
  · obtain ⟨i, _, rfl⟩ := List.mem_map.mp hr
    rw [rowAt, List.length_map, List.length_range]
    exact hb _ fun y hy => by
      obtain ⟨e, he, rfl⟩ := List.mem_map.mp hy
      have := (h e (List.mem_filter.mp he).1).2
      omega
/-! #### made of rows -/
def colT (i : Int) : Nat → List Int → TD → TD
  | _, [], acc => acc
  | j, x :: l, acc => colT i (j + 1) l (if x ≠ 0 then putT acc (i, (j : Int)) x else acc)
def dicT : Nat → List (List Int) → TD → TD
  | _, [], acc => acc
  | i, r :: ps, acc => dicT (i + 1) ps (colT i 0 r acc)
theorem col_spec (i : Int) : ∀ (l : List Int) (j : Nat) (acc : TD), Dk acc → (∀ e ∈ acc, e.2 ≠ 0) → (∀ m : Nat, j ≤ m → cf acc (i, (m : Int)) = 0) →
    Dk (colT i j l acc) ∧ (∀ e ∈ colT i j l acc, e.2 ≠ 0) ∧ (∀ k : K2, cf (colT i j l acc) k = if k.1 = i ∧ (j : Int) ≤ k.2 then l.getD (k.2 - j).toNat 0 else cf acc k) ∧ (colT i j l acc).length ≤ acc.length + l.length
  | [], j, acc, d, z, f => ⟨d, z, fun k => by
      split
      · rename_i h
        have : k = (i, ((k.2.toNat : Nat) : Int)) := Prod.ext h.1 (by show k.2 = _; omega)
        rw [colT, this, f _ (by omega)]
        simp
      · rfl, by simp [colT]⟩
  | x :: l, j, acc, d, z, f => by
    have e : colT i j (x :: l) acc = colT i (j + 1) l (if x ≠ 0 then putT acc (i, (j : Int)) x else acc) := rfl
    rw [e]
    have d' : Dk (if x ≠ 0 then putT acc (i, (j : Int)) x else acc) := by split; exact dk_put _ _ d; exact d
    have z' : ∀ e ∈ (if x ≠ 0 then putT acc (i, (j : Int)) x else acc), e.2 ≠ 0 := fun e he => by
      split at he
      · rename_i hx
        rcases put_mem he with rfl | ⟨he, _⟩
        · exact hx
        · exact z e he
      · exact z e he
    have c' : ∀ k : K2, cf (if x ≠ 0 then putT acc (i, (j : Int)) x else acc) k = if k = (i, (j : Int)) then x else cf acc k := fun k => by
      by_cases hx : x = 0
      · rw [if_neg (by simp [hx])]
        split
        · rename_i hk; rw [hk, f j (Nat.le_refl _), hx]
        · rfl
      · rw [if_pos hx, cf_put _ _ _ d]
    have lg : (if x ≠ 0 then putT acc (i, (j : Int)) x else acc).length ≤ acc.length + 1 := by
      split
      · exact len_put ..
      · omega
    generalize (if x ≠ 0 then putT acc (i, (j : Int)) x else acc) = acc' at d' z' c' lg
    obtain ⟨h1, h2, h3, h4⟩ := col_spec i l (j + 1) acc' d' z' fun m hm => by
      rw [c', if_neg (fun z => by have := congrArg Prod.snd z; simp at this; omega), f m (by omega)]
    refine ⟨h1, h2, fun k => ?_, by simp only [List.length_cons]; omega⟩
    rw [h3]
    by_cases hk : k.1 = i ∧ (j : Int) ≤ k.2
    · rw [if_pos hk]
      by_cases hj : k.2 = j
      · rw [if_neg (by omega), c', if_pos (Prod.ext hk.1 hj), hj]
        simp
      · rw [if_pos ⟨hk.1, by omega⟩]
        have : (k.2 - (j : Int)).toNat = (k.2 - ((j + 1 : Nat) : Int)).toNat + 1 := by omega
        rw [this]
        rfl
    · rw [if_neg hk, if_neg (fun z => hk ⟨z.1, by omega⟩), c', if_neg (fun z => hk (by rw [z]; exact ⟨rfl, Int.le_refl _⟩))]
theorem dic_spec : ∀ (ps : List (List Int)) (i : Nat) (acc : TD), Dk acc → (∀ e ∈ acc, e.2 ≠ 0) → (∀ k : K2, (i : Int) ≤ k.1 → cf acc k = 0) →
    Dk (dicT i ps acc) ∧ (∀ e ∈ dicT i ps acc, e.2 ≠ 0) ∧ (∀ k : K2, cf (dicT i ps acc) k = if (i : Int) ≤ k.1 ∧ 0 ≤ k.2 then co ps (k.1 - i).toNat k.2.toNat else cf acc k) ∧ (dicT i ps acc).length ≤ acc.length + (ps.map List.length).sum
  | [], i, acc, d, z, f => ⟨d, z, fun k => by
      split
      · rename_i h
        rw [dicT, f k h.1]
        simp [co]
      · rfl, by simp [dicT]⟩
  | r :: ps, i, acc, d, z, f => by
    obtain ⟨g1, g2, g3, g4⟩ := col_spec (i : Int) r 0 acc d z fun m _ => f _ (Int.le_refl _)
    have e : dicT i (r :: ps) acc = dicT (i + 1) ps (colT i 0 r acc) := rfl
    rw [e]
    obtain ⟨h1, h2, h3, h4⟩ := dic_spec ps (i + 1) _ g1 g2 fun k hk => by
      rw [g3, if_neg (fun z => by omega), f k (by omega)]
    refine ⟨h1, h2, fun k => ?_, by simp only [List.map_cons, List.sum_cons]; omega⟩
    rw [h3]
    by_cases hk : (i : Int) ≤ k.1 ∧ 0 ≤ k.2
    · rw [if_pos hk]
      by_cases hi : k.1 = i
      · rw [if_neg (by omega), g3, if_pos ⟨hi, by simpa using hk.2⟩, hi]
        simp [co]
      · rw [if_pos ⟨by omega, hk.2⟩]
        have : (k.1 - (i : Int)).toNat = (k.1 - ((i + 1 : Nat) : Int)).toNat + 1 := by omega
        rw [this]
        rfl
    · rw [if_neg hk, if_neg (fun z => hk ⟨by omega, z.2⟩), g3, if_neg (fun z => hk ⟨by omega, by simpa using z.2⟩)]
def dictT (ps : List (List Int)) : TD := dicT 0 ps []
theorem dictT_dof (ps : List (List Int)) : Dof (dictT ps) ps ∧ (dictT ps).length ≤ (ps.map List.length).sum := by
  obtain ⟨h1, h2, h3, h4⟩ := dic_spec ps 0 [] (by simp [Dk]) nofun fun k _ => cf_nil k
  refine ⟨⟨h1, h2, fun k => ?_⟩, by simpa [dictT] using h4⟩
  rw [dictT, h3]
  simp [cf_nil]
/-! #### the highest key -/
theorem lt_kpy (a b : K2) : PySem.W.dataLt (kpy (kk a)) (kpy (kk b)) = decide (a.1 < b.1 ∨ (a.1 = b.1 ∧ a.2 < b.2)) := by
  exact PySem.W.dataLt_ii a.1 a.2 b.1 b.2
theorem maxKs_spec : ∀ (ks : List K2) (k0 : K2), ∃ k ∈ k0 :: ks, maxKs (kk k0) (ks.map kk) = kk k ∧ ∀ y ∈ k0 :: ks, ¬ (k.1 < y.1 ∨ (k.1 = y.1 ∧ k.2 < y.2))
  | [], k0 => ⟨k0, by simp, rfl, by simp⟩
  | y :: ks, k0 => by
    have e : maxKs (kk k0) ((y :: ks).map kk) = maxKs (if PySem.W.dataLt (kpy (kk k0)) (kpy (kk y)) then kk y else kk k0) (ks.map kk) := rfl
    rw [e, lt_kpy]
    by_cases h : k0.1 < y.1 ∨ (k0.1 = y.1 ∧ k0.2 < y.2)
    · rw [decide_eq_true h, if_pos rfl]
      obtain ⟨k, h1, h2, h3⟩ := maxKs_spec ks y
      refine ⟨k, List.mem_cons_of_mem _ h1, h2, fun z hz => ?_⟩
      rcases List.mem_cons.mp hz with rfl | hz
      · have := h3 y (by simp); omega
      · exact h3 z hz
    · rw [decide_eq_false h, if_neg (by simp)]
      obtain ⟨k, h1, h2, h3⟩ := maxKs_spec ks k0
      refine ⟨k, ?_, h2, fun z hz => ?_⟩
      · rcases List.mem_cons.mp h1 with rfl | h1
        · simp
        · simp [h1]
      · rcases List.mem_cons.mp hz with rfl | hz
        · exact h3 z (by simp)
        · rcases List.mem_cons.mp hz with rfl | hz
          · have := h3 k0 (by simp); omega
          · exact h3 z (by simp [hz])
theorem Dof.max {t : TD} {ps : List (List Int)} (h : Dof t ps) (p : Pl ps) (hp : ps ≠ []) : ∃ e r, t = e :: r ∧ maxKs (kk e.1) (r.map fun e => kk e.1) = kk (((ps.length - 1 : Nat) : Int), (((ps.getLastD []).length - 1 : Nat) : Int)) ∧ gtT t (((ps.length - 1 : Nat) : Int), (((ps.getLastD []).length - 1 : Nat) : Int)) = some ((ps.getLastD []).getLastD 0) := by
  have lp := List.length_pos_iff.mpr hp
  have el : ps.getLastD [] = ps.getD (ps.length - 1) [] := by
    have := getD_last hp []
    rw [List.getLastD_eq_getLast?, this]; rfl
  have hl : ps.getLastD [] ≠ [] := by rw [el]; exact p.top _ (getD_last hp [])
  have ll := List.length_pos_iff.mpr hl
  have ex : (ps.getLastD []).getLastD 0 = (ps.getLastD []).getD ((ps.getLastD []).length - 1) 0 := by
    have := getD_last hl 0
    rw [List.getLastD_eq_getLast?, this]; rfl
  have hx : (ps.getLastD []).getLastD 0 ≠ 0 := by
    rw [ex]
    refine p.tr (ps.getLastD []) ?_ _ (getD_last hl 0)
    rw [el, List.getD_eq_getElem?_getD, List.getElem?_eq_getElem (by omega)]
    exact List.getElem_mem _
  have ec : co ps (ps.length - 1) ((ps.getLastD []).length - 1) = (ps.getLastD []).getLastD 0 := by
    unfold co
    rw [← el, ex]
  have hk := h.key (i := ps.length - 1) (j := (ps.getLastD []).length - 1) (by rw [ec]; exact hx)
  have hg := cf_mem h.dk hk
  cases t with
  | nil => cases hk
  | cons e r =>
    refine ⟨e, r, rfl, ?_, by rw [← ec]; exact hg⟩
    obtain ⟨k, h1, h2, h3⟩ := maxKs_spec (r.map (·.1)) e.1
    rw [List.map_map] at h2
    rw [show (r.map fun e => kk e.1) = r.map (kk ∘ fun x => x.1) from rfl, h2]
    congr 1
    have hm : k ∈ (e :: r).map (·.1) := by rw [List.map_cons]; exact h1
    obtain ⟨x, hx1, rfl⟩ := List.mem_map.mp hm
    obtain ⟨i, j, e1, e2, hi, hj⟩ := h.mem hx1
    have h4 := h3 (((ps.length - 1 : Nat) : Int), (((ps.getLastD []).length - 1 : Nat) : Int)) (by
      have := List.mem_map_of_mem (f := (·.1)) hk
      simpa using this)
    rw [e1] at h4 ⊢
    simp only [Int.ofNat_lt, Int.ofNat_inj] at h4
    have hi2 : i = ps.length - 1 := by omega
    subst hi2
    have hr : ps[ps.length - 1] = ps.getLastD [] := by
      rw [el, List.getD_eq_getElem?_getD, List.getElem?_eq_getElem hi]; rfl
    rw [hr] at hj
    have hj2 : j = (ps.getLastD []).length - 1 := by omega
    rw [hj2]
end PL
/-! ### the laws' dicts of powers: what their code makes -/
namespace PL
open PySem PySem.Spec PyProof.Rows L2
/-- a dict that nobody changes any more -/
def dL (t : TD) : D := .dcL (tdD t)
def kD (k : K2) : D := .tup [.int k.1, .int k.2]
theorem kD_key (k : K2) : dKey (kk k) = kD k := rfl
theorem tkD_kD (k : K2) : tkD (kD k) = some (kk k) := rfl
theorem keys_td (t : TD) : keysOf (tdD t) = t.map fun e => kD e.1 := by
  unfold keysOf tdD
  rw [List.map_map]
  rfl
section
variable {env e : Slots} {p q r : P} {t : TD} {k : K2} {v : Int} {d : D}
theorem fKeys_ok (h : p env = some (dL t)) : fKeys p env = some (t.map fun e => kD e.1) := by
  unfold fKeys
  rw [h, ← keys_td]
  rfl
theorem mKeys_ok (h : p env = some (dL t)) : mKeys (eP p) env = .ok (t.map fun e => kD e.1) env := by
  unfold mKeys
  rw [eP_of h, ← keys_td]
  rfl
theorem pDix_ok (h : p env = some (dL t)) (hq : q env = some (kD k)) (hv : gtT t k = some v) : pDix p q env = some (.int v) := by
  unfold pDix
  rw [h]
  show (q env).bind (fun y => (tkD y).bind fun ks => (findD (tdD t) ks).bind flatO) = _
  rw [hq]
  show (findD (tdD t) (kk k)).bind flatO = _
  rw [find_td, hv]
  rfl
theorem pDget_ok (h : p env = some d) (hd : dictD d = some (tdD t)) (hq : q env = some (kD k)) (hr : r env = some (.int 0)) : pDget p q r env = some (.int (cf t k)) := by
  unfold pDget
  rw [h]
  simp only [Option.bind_some, hd, hq, tkD_kD, hr]
  show ((findD (tdD t) (kk k)).getD (.int 0) |> flatO) = _
  rw [find_td]
  unfold cf
  cases gtT t k <;> rfl
theorem tup2 {a b : D} (h1 : p env = some a) (h2 : q env = some b) : pTup [p, q] env = some (.tup [a, b]) := by
  unfold pTup
  rw [evPs_2 h1 h2]
  rfl
theorem ix_kD0 (h : p env = some (kD k)) : pIx p (pK (.int 0)) env = some (.int k.1) := pIx_ok h rfl rfl
theorem ix_kD1 (h : p env = some (kD k)) : pIx p (pK (.int 1)) env = some (.int k.2) := pIx_ok h rfl rfl
theorem compF_tm {α : Type} {t : Tg} {q : PB} {p : P} {env : Slots} (key : α → D) (g : α → Option D) : ∀ {l : List α}, (∀ a ∈ l, ∃ e, t (key a) env = some e ∧ ((q e = some false ∧ g a = none) ∨ (q e = some true ∧ ∃ v, p e = some v ∧ g a = some v))) → compF t q p env (l.map key) = some (l.filterMap g)
  | [], _ => rfl
  | d :: r, h => by
    obtain ⟨e, h1, h2⟩ := h d (by simp)
    have ih := compF_tm key g (fun x hx => h x (List.mem_cons_of_mem _ hx))
    rw [List.map_cons]
    unfold compF
    rcases h2 with ⟨h2, h3⟩ | ⟨h2, v, h3, h4⟩
    · simp only [h1, h2, ih, List.filterMap_cons, h3]
    · simp only [h1, h2, h3, ih, List.filterMap_cons, h4]
theorem compF_mm {α : Type} {t : Tg} {q : PB} {p : P} {env : Slots} (key : α → D) (g : α → D) {l : List α} (h : ∀ a ∈ l, ∃ e, t (key a) env = some e ∧ q e = some true ∧ p e = some (g a)) : compF t q p env (l.map key) = some (l.map g) := by
  rw [compF_tm key (fun a => some (g a)) fun a ha => by
    obtain ⟨e, h1, h2, h3⟩ := h a ha
    exact ⟨e, h1, .inr ⟨h2, _, h3, rfl⟩⟩]
  simp
theorem pairs_td : ∀ t : TD, pairsD (t.map fun e => .tup [kD e.1, .int e.2]) = some (tdD t)
  | [] => rfl
  | e :: t => by
    have ih := pairs_td t
    rw [List.map_cons]
    unfold pairsD
    rw [tkD_kD, ih]
    rfl
theorem put_new {t : TD} {k : K2} (v : Int) (h : ∀ e ∈ t, e.1 ≠ k) : putT t k v = t ++ [(k, v)] := by
  unfold putT
  rw [if_neg]
  intro z
  obtain ⟨e, he, hk⟩ := any_iff.mp z
  exact h e he hk
theorem merge_td : ∀ (t s : TD), Dk (s ++ t) → tmergeD (tdD s) (tdD t) = tdD (s ++ t)
  | [], s, _ => by simp [tmergeD, tdD]
  | e :: t, s, d => by
    have : tmergeD (tdD s) (tdD (e :: t)) = tmergeD (tputD (tdD s) (kk e.1) (.int e.2)) (tdD t) := rfl
    have n : ∀ x ∈ s, x.1 ≠ e.1 := fun x hx z => by
      unfold Dk at d
      rw [List.map_append, List.nodup_append] at d
      exact d.2.2 _ (List.mem_map_of_mem hx) _ (by simp) z
    rw [this, put_td, put_new _ n, merge_td t _ (by rw [List.append_assoc]; exact d)]
    simp
theorem eDictT_ok (h : p env = some (.lst (t.map fun e => .tup [kD e.1, .int e.2]))) (d : Dk t) : eLk (eDictT p) env = .ok (.frz (dL t)) env := by
  unfold eLk eDictT
  rw [h]
  simp only [pairs_td]
  have := merge_td t [] d
  rw [show tdD [] = [] from rfl] at this
  rw [this]
  rfl
end
theorem bare_gen {t : TD} (d : Dk t) (hl : t.length ≤ 1000) : Gives (bodyM 2 [] 1 (sRet (eLk (eDictT (pF (fComp [1] (gV true 1) (qOf (pOp neV' (pDix (pV 0) (pV 1)) (pK (.int 0)))) (pTup [pV 1, pDix (pV 0) (pV 1)]) (fKeys (pV 0)))))))) [.frz (dL t)] (.frz (dL (bareT t))) := by
  refine gives_rt ⟨[some (.frz (dL t)), none], ret_ok ?_⟩
  refine eDictT_ok (pF_ok (fComp_ok (fKeys_ok rfl) (by simpa using hl) ?_)) (dk_bare d)
  rw [compF_tm (fun e : K2 × Int => kD e.1) (fun e => if e.2 ≠ 0 then some (.tup [kD e.1, .int e.2]) else none) (l := t)]
  · congr 1
    unfold bareT
    clear hl d
    induction t with
    | nil => rfl
    | cons e t ih =>
      rw [List.filterMap_cons, List.filter_cons]
      by_cases h : e.2 = 0
      · rw [if_neg (by simp [h]), decide_eq_false (by simp [h]), if_neg (by simp)]
        exact ih
      · rw [if_pos h, decide_eq_true h, if_pos rfl, List.map_cons]
        exact congrArg _ ih
  · intro e he
    have g := cf_mem d he
    refine ⟨[some (.frz (dL t)), some (.frz (kD e.1))], rfl, ?_⟩
    have x : pDix (pV 0) (pV 1) [some (.frz (dL t)), some (.frz (kD e.1))] = some (.int e.2) := pDix_ok rfl rfl g
    have y : qOf (pOp neV' (pDix (pV 0) (pV 1)) (pK (.int 0))) [some (.frz (dL t)), some (.frz (kD e.1))] = some (decide (e.2 ≠ 0)) := qOf_b (pOp_v (b := .int 0) (v := .bl (decide (e.2 ≠ 0))) x rfl (by
      unfold neV'
      rw [eqD_int]
      by_cases h : e.2 = 0 <;> simp [h]))
    by_cases h : e.2 = 0
    · exact .inl ⟨by rw [y]; simp [h], by simp [h]⟩
    · exact .inr ⟨by rw [y]; simp [h], _, tup2 rfl x, by simp [h]⟩
/-! #### products -/
theorem dput_ok {i : Nat} {q : P} {f : M C} {env e : Slots} {t : TD} {k : K2} {v : Int} (h : f env = .ok (.frz (.int v)) e) (ht : e[i]? = some (some (.ownT (tdD t)))) (hq : q e = some (kD k)) (hl : t.length < 1000000) : sDput i q f env = .nx (e.set i (some (.ownT (tdD (putT t k v))))) := by
  unfold sDput
  rw [h]
  simp only [sOf, ht, hq, Option.bind_some, tkD_kD, tdD_len, hl, if_true, put_td]
theorem times_inner {a b : TD} {k : K2} {v : Int} (hv : gtT a k = some v) (hs : v.natAbs < 2 ^ 60) : ∀ (l acc : TD) (o4 o5 : Option C), (∀ e ∈ l, gtT b e.1 = some e.2 ∧ e.2.natAbs < 2 ^ 60) → acc.length + l.length ≤ 100000 →
    ∃ o4' o5', forL (gV false 4) (sSeq (sSet 5 (eP (pTup [pOp addI (pIx (pV 3) (pK (.int 0))) (pIx (pV 4) (pK (.int 0))), pOp addI (pIx (pV 3) (pK (.int 1))) (pIx (pV 4) (pK (.int 1)))]))) (sDput 2 (pV 5) (eP (pOp addI (pDget (bV 2) (pV 5) (pK (.int 0))) (pOp mulI (pDix (pV 0) (pV 3)) (pDix (pV 1) (pV 4))))))) (l.map fun e => kD e.1) [some (.frz (dL a)), some (.frz (dL b)), some (.ownT (tdD acc)), some (.frz (kD k)), o4, o5]
      = .nx [some (.frz (dL a)), some (.frz (dL b)), some (.ownT (tdD (rowT k v l acc))), some (.frz (kD k)), o4', o5']
  | [], acc, o4, o5, _, _ => ⟨o4, o5, rfl⟩
  | e :: l, acc, o4, o5, h, hl => by
    obtain ⟨g1, g2⟩ := h e (by simp)
    have ln := len_put acc (kadd k e.1) (cf acc (kadd k e.1) + v * e.2)
    simp only [List.length_cons] at hl
    obtain ⟨o4', o5', ih⟩ := times_inner hv hs l (putT acc (kadd k e.1) (cf acc (kadd k e.1) + v * e.2)) (some (.frz (kD e.1))) (some (.frz (kD (kadd k e.1)))) (fun x hx => h x (List.mem_cons_of_mem _ hx)) (by omega)
    refine ⟨o4', o5', ?_⟩
    rw [List.map_cons, forL]
    rw [show gV false 4 (kD e.1) [some (.frz (dL a)), some (.frz (dL b)), some (.ownT (tdD acc)), some (.frz (kD k)), o4, o5] = some [some (.frz (dL a)), some (.frz (dL b)), some (.ownT (tdD acc)), some (.frz (kD k)), some (.frz (kD e.1)), o5] from rfl]
    simp only []
    have s1 : (sSet 5 (eP (pTup [pOp addI (pIx (pV 3) (pK (.int 0))) (pIx (pV 4) (pK (.int 0))), pOp addI (pIx (pV 3) (pK (.int 1))) (pIx (pV 4) (pK (.int 1)))]))) [some (.frz (dL a)), some (.frz (dL b)), some (.ownT (tdD acc)), some (.frz (kD k)), some (.frz (kD e.1)), o5] = .nx [some (.frz (dL a)), some (.frz (dL b)), some (.ownT (tdD acc)), some (.frz (kD k)), some (.frz (kD e.1)), some (.frz (kD (kadd k e.1)))] :=
      set_ok (c := .frz (kD (kadd k e.1))) (eP_of (tup2 (a := .int (k.1 + e.1.1)) (b := .int (k.2 + e.1.2)) (pOp_v (v := .int (k.1 + e.1.1)) (ix_kD0 (k := k) rfl) (ix_kD0 (k := e.1) rfl) rfl) (pOp_v (v := .int (k.2 + e.1.2)) (ix_kD1 (k := k) rfl) (ix_kD1 (k := e.1) rfl) rfl)))
    have m : mulOk v e.2 = true := mulOk_r (by omega) (by omega)
    have s2 : (sDput 2 (pV 5) (eP (pOp addI (pDget (bV 2) (pV 5) (pK (.int 0))) (pOp mulI (pDix (pV 0) (pV 3)) (pDix (pV 1) (pV 4)))))) [some (.frz (dL a)), some (.frz (dL b)), some (.ownT (tdD acc)), some (.frz (kD k)), some (.frz (kD e.1)), some (.frz (kD (kadd k e.1)))] = .nx [some (.frz (dL a)), some (.frz (dL b)), some (.ownT (tdD (putT acc (kadd k e.1) (cf acc (kadd k e.1) + v * e.2)))), some (.frz (kD k)), some (.frz (kD e.1)), some (.frz (kD (kadd k e.1)))] := by
      refine dput_ok (e := [some (.frz (dL a)), some (.frz (dL b)), some (.ownT (tdD acc)), some (.frz (kD k)), some (.frz (kD e.1)), some (.frz (kD (kadd k e.1)))]) (eP_of (pOp_v (a := .int (cf acc (kadd k e.1))) (b := .int (v * e.2)) (v := .int (cf acc (kadd k e.1) + v * e.2)) (pDget_ok (t := acc) (k := kadd k e.1) (d := .dcT (tdD acc)) rfl rfl rfl rfl) (pOp_v (v := .int (v * e.2)) (pDix_ok rfl rfl hv) (pDix_ok rfl rfl g1) ?_) rfl)) rfl rfl (by omega)
      unfold mulI
      simp only [m, if_true]
    rw [seq_nx s1, s2]
    exact ih
theorem times_outer {a b : TD} (db : Dk b) (hb : ∀ e ∈ b, e.2.natAbs < 2 ^ 60) : ∀ (l acc : TD) (o3 o4 o5 : Option C), (∀ e ∈ l, gtT a e.1 = some e.2 ∧ e.2.natAbs < 2 ^ 60) → Dk acc → acc.length + l.length * b.length ≤ 100000 →
    ∃ o3' o4' o5', forL (gV false 3) (sFor (mKeys (eP (pV 1))) (gV false 4) (sSeq (sSet 5 (eP (pTup [pOp addI (pIx (pV 3) (pK (.int 0))) (pIx (pV 4) (pK (.int 0))), pOp addI (pIx (pV 3) (pK (.int 1))) (pIx (pV 4) (pK (.int 1)))]))) (sDput 2 (pV 5) (eP (pOp addI (pDget (bV 2) (pV 5) (pK (.int 0))) (pOp mulI (pDix (pV 0) (pV 3)) (pDix (pV 1) (pV 4)))))))) (l.map fun e => kD e.1) [some (.frz (dL a)), some (.frz (dL b)), some (.ownT (tdD acc)), o3, o4, o5]
      = .nx [some (.frz (dL a)), some (.frz (dL b)), some (.ownT (tdD (l.foldl (fun acc e => rowT e.1 e.2 b acc) acc))), o3', o4', o5']
  | [], acc, o3, o4, o5, _, _, _ => ⟨o3, o4, o5, rfl⟩
  | e :: l, acc, o3, o4, o5, h, d, hl => by
    obtain ⟨g1, g2⟩ := h e (by simp)
    obtain ⟨r1, _, _, r4⟩ := row_spec (fun _ => 0) e.1 e.2 b acc d
    simp only [List.length_cons, Nat.add_mul, Nat.one_mul] at hl
    obtain ⟨o4', o5', i1⟩ := times_inner (b := b) g1 g2 b acc o4 o5 (fun x hx => ⟨cf_mem db hx, hb x hx⟩) (by omega)
    obtain ⟨p3, p4, p5, ih⟩ := times_outer db hb l (rowT e.1 e.2 b acc) (some (.frz (kD e.1))) o4' o5' (fun x hx => h x (List.mem_cons_of_mem _ hx)) r1 (by omega)
    refine ⟨p3, p4, p5, ?_⟩
    rw [List.map_cons, forL]
    rw [show gV false 3 (kD e.1) [some (.frz (dL a)), some (.frz (dL b)), some (.ownT (tdD acc)), o3, o4, o5] = some [some (.frz (dL a)), some (.frz (dL b)), some (.ownT (tdD acc)), some (.frz (kD e.1)), o4, o5] from rfl]
    simp only []
    rw [for_ok (mKeys_ok (t := b) rfl), i1]
    exact ih
theorem times_gen {bare : List C → Out C} (hb : ∀ {t : TD}, Dk t → t.length ≤ 1000 → Gives bare [.frz (dL t)] (.frz (dL (bareT t)))) {a b : TD} (da : Dk a) (db : Dk b) (na : nrT a < 2 ^ 60) (nb : nrT b < 2 ^ 60) (hl : a.length * b.length ≤ 1000) :
    Gives (bodyM 6 [] 2 (sSeq (sSet 2 (eDnew)) (sSeq (sFor (mKeys (eP (pV 0))) (gV false 3) (sFor (mKeys (eP (pV 1))) (gV false 4) (sSeq (sSet 5 (eP (pTup [pOp addI (pIx (pV 3) (pK (.int 0))) (pIx (pV 4) (pK (.int 0))), pOp addI (pIx (pV 3) (pK (.int 1))) (pIx (pV 4) (pK (.int 1)))]))) (sDput 2 (pV 5) (eP (pOp addI (pDget (bV 2) (pV 5) (pK (.int 0))) (pOp mulI (pDix (pV 0) (pV 3)) (pDix (pV 1) (pV 4))))))))) (sRet (eFn bare [eLk (eMv 2)]))))) [.frz (dL a), .frz (dL b)] (.frz (dL (bareT (timesT a b)))) := by
  obtain ⟨o3, o4, o5, lp⟩ := times_outer (a := a) db (fun e he => Nat.lt_of_le_of_lt (nr_mem he) nb) a [] none none none (fun e he => ⟨cf_mem da he, Nat.lt_of_le_of_lt (nr_mem he) na⟩) (by simp [Dk]) (by simp; omega)
  obtain ⟨t1, _, _, t4⟩ := times_spec (fun _ => 0) a b
  have z := eFn_1 (f := eLk (eMv 2)) (env := [some (.frz (dL a)), some (.frz (dL b)), some (.ownT (tdD (timesT a b))), o3, o4, o5]) (e1 := [some (.frz (dL a)), some (.frz (dL b)), none, o3, o4, o5]) (a := .frz (dL (timesT a b))) rfl (hb t1 (by omega))
  refine gives_rt ⟨[some (.frz (dL a)), some (.frz (dL b)), none, o3, o4, o5], ?_⟩
  rw [show startE 6 [.frz (dL a), .frz (dL b)] = [some (.frz (dL a)), some (.frz (dL b)), none, none, none, none] from rfl]
  rw [seq_nx (set_ok (h := eDnew) (c := .ownT (tdD [])) (e := [some (.frz (dL a)), some (.frz (dL b)), none, none, none, none]) rfl)]
  simp only [List.set_cons_succ, List.set_cons_zero]
  rw [seq_nx ((for_ok (mKeys_ok (t := a) rfl)).trans lp)]
  exact ret_ok z
end PL
/-! ### the laws' dicts of powers: rows of them, and them of rows -/
namespace PL
open PySem PySem.Spec PyProof.Rows L2
theorem mx_list (l : List Int) : maxF [.lst (inD (0 :: l))] = some (.int (mx0 l)) := by
  unfold maxF
  simp only [intsOf_inD, Option.bind_some]
  rfl
theorem cat0 {p : PLs} {env : Slots} {z : P} {x : Int} {l : List Int} (hz : z env = some (.int x)) (h : p env = some (inD l)) (hl : l.length ≤ 900) : pF (fCat (evPs [z]) p) env = some (.lst (inD (x :: l))) := by
  refine pF_ok (fCat_ok (a := [.int x]) (evPs_1 hz) h ?_)
  simp; omega
theorem hi_p {env : Slots} {p : P} {t : TD} {i : Nat} (h : p env = some (dL t)) (hl : t.length ≤ 900) (hw : wipeE env [i] = env) (hg : ∀ d, ∃ e, gV true i d env = some e ∧ pV i e = some d) :
    pCall maxF [pF (fCat (evPs [pK (.int 0)]) (fComp [i] (gV true i) (fun _ => some true) (pOp addI (pIx (pV i) (pK (.int 0))) (pK (.int 1))) (fKeys p)))] env = some (.int (hiT t)) := by
  refine pCall_1 (v := .int (hiT t)) (cat0 (l := t.map fun e => e.1.1 + 1) rfl (fComp_ok (fKeys_ok h) (by simp; omega) ?_) (by simpa using hl)) (mx_list _)
  rw [hw, compF_mm (fun e : K2 × Int => kD e.1) (fun e => .int (e.1.1 + 1))]
  · simp [inD, List.map_map, Function.comp_def]
  · intro e he
    obtain ⟨e1, h1, h2⟩ := hg (kD e.1)
    exact ⟨e1, h1, rfl, pOp_v (v := .int (e.1.1 + 1)) (ix_kD0 h2) rfl rfl⟩
theorem wd_p {env : Slots} {p : P} {t : TD} {i s : Nat} {a : Int} (h : p env = some (dL t)) (hl : t.length ≤ 900) (hw : wipeE env [i] = env) (hg : ∀ d, ∃ e, gV true i d env = some e ∧ pV i e = some d ∧ pV s e = some (.int a)) :
    pCall maxF [pF (fCat (evPs [pK (.int 0)]) (fComp [i] (gV true i) (qOf (pOp eqV' (pIx (pV i) (pK (.int 0))) (pV s))) (pOp addI (pIx (pV i) (pK (.int 1))) (pK (.int 1))) (fKeys p)))] env = some (.int (wdT t a)) := by
  have hf : (t.filter fun e => decide (e.1.1 = a)).length ≤ t.length := List.length_filter_le ..
  refine pCall_1 (v := .int (wdT t a)) (cat0 (l := (t.filter fun e => decide (e.1.1 = a)).map fun e => e.1.2 + 1) rfl (fComp_ok (fKeys_ok h) (by simp; omega) ?_) (by simp; omega)) (mx_list _)
  rw [hw, compF_tm (fun e : K2 × Int => kD e.1) (fun e => if e.1.1 = a then some (.int (e.1.2 + 1)) else none)]
  · congr 1
    clear hl h hf
    induction t with
    | nil => rfl
    | cons e t ih =>
      rw [List.filterMap_cons, List.filter_cons]
      by_cases h : e.1.1 = a
      · rw [if_pos h, decide_eq_true h, if_pos rfl, List.map_cons]
        exact congrArg _ ih
      · rw [if_neg h, decide_eq_false h, if_neg (by simp)]
        exact ih
  · intro e he
    obtain ⟨e1, h1, h2, h3⟩ := hg (kD e.1)
    have q : qOf (pOp eqV' (pIx (pV i) (pK (.int 0))) (pV s)) e1 = some (decide (e.1.1 = a)) := qOf_b (pOp_v (a := .int e.1.1) (b := .int a) (v := .bl (decide (e.1.1 = a))) (ix_kD0 h2) h3 (by
      unfold eqV'
      rw [eqD_int]
      by_cases h : e.1.1 = a <;> simp [h]))
    refine ⟨e1, h1, ?_⟩
    by_cases hk : e.1.1 = a
    · exact .inr ⟨by rw [q, decide_eq_true hk], _, pOp_v (v := .int (e.1.2 + 1)) (ix_kD1 h2) rfl rfl, by rw [if_pos hk]; rfl⟩
    · exact .inl ⟨by rw [q, decide_eq_false hk], by rw [if_neg hk]⟩
theorem rng_map (n : Nat) (f : Nat → α) : ((List.range n).map fun (i : Nat) => D.int (0 + (i : Int))) = (List.range n).map fun (i : Nat) => D.int (i : Int) := List.map_congr_left fun i _ => by simp
theorem listed_loop {t : TD} {B : Nat} (hB : B ≤ 900) (hl : t.length ≤ 900) (hb : ∀ e ∈ t, e.1.1 < B ∧ e.1.2 < B) : ∀ (n s : Nat) (acc : List (List Int)) (o2 o3 o4 : Option C), acc.length + n ≤ 1000 →
    ∃ o2' o3', forL (gV false 2) (sSeq (sSet 3 (eP (pCall maxF [pF (fCat (evPs [pK (.int 0)]) (fComp [5] (gV true 5) (qOf (pOp eqV' (pIx (pV 5) (pK (.int 0))) (pV 2))) (pOp addI (pIx (pV 5) (pK (.int 1))) (pK (.int 1))) (fKeys (pV 0))))]))) (sDrop (eApp 1 (eP (pF (fComp [4] (gV true 4) (fun _ => some true) (pDget (pV 0) (pTup [pV 2, pV 4]) (pK (.int 0))) (rngP [pV 3]))))))) ((List.range' s n).map fun (i : Nat) => D.int (i : Int)) [some (.frz (dL t)), some (.own (fz (lnD acc))), o2, o3, none, none]
      = .nx [some (.frz (dL t)), some (.own (fz (lnD (acc ++ (List.range' s n).map fun (i : Nat) => rowAt t (i : Int))))), o2', o3', none, none]
  | 0, s, acc, o2, o3, o4, _ => ⟨o2, o3, by simp [forL]⟩
  | n + 1, s, acc, o2, o3, o4, ha => by
    obtain ⟨o2', o3', ih⟩ := listed_loop hB hl hb n (s + 1) (acc ++ [rowAt t (s : Int)]) (some (.frz (.int (s : Int)))) (some (.frz (.int (wdT t (s : Int))))) o4 (by simp; omega)
    refine ⟨o2', o3', ?_⟩
    rw [List.range'_succ, List.map_cons, forL]
    rw [show gV false 2 (.int (s : Int)) [some (.frz (dL t)), some (.own (fz (lnD acc))), o2, o3, none, none] = some [some (.frz (dL t)), some (.own (fz (lnD acc))), some (.frz (.int (s : Int))), o3, none, none] from rfl]
    simp only []
    have w := wd_p (env := [some (.frz (dL t)), some (.own (fz (lnD acc))), some (.frz (.int (s : Int))), o3, none, none]) (p := pV 0) (t := t) (i := 5) (s := 2) (a := (s : Int)) rfl hl rfl fun d => ⟨_, rfl, rfl, rfl⟩
    have s1 := set_ok (i := 3) (eP_of w)
    simp only [List.set_cons_succ, List.set_cons_zero] at s1
    obtain ⟨m1, m2, m3⟩ := mx0_spec ((t.filter fun e => decide (e.1.1 = (s : Int))).map fun e => e.1.2 + 1)
    have ew : wdT t (s : Int) = mx0 ((t.filter fun e => decide (e.1.1 = (s : Int))).map fun e => e.1.2 + 1) := rfl
    have wb : wdT t (s : Int) ≤ 900 := by
      rcases m1 with m1 | m1
      · omega
      · obtain ⟨e, he, h1⟩ := List.mem_map.mp m1
        have := (hb e (List.mem_filter.mp he).1).2
        omega
    have rg := rngP_0 (p := pV 3) (env := [some (.frz (dL t)), some (.own (fz (lnD acc))), some (.frz (.int (s : Int))), some (.frz (.int (wdT t (s : Int)))), none, none]) (j := wdT t (s : Int)) rfl (by omega) (by omega)
    have cm : pF (fComp [4] (gV true 4) (fun _ => some true) (pDget (pV 0) (pTup [pV 2, pV 4]) (pK (.int 0))) (rngP [pV 3])) [some (.frz (dL t)), some (.own (fz (lnD acc))), some (.frz (.int (s : Int))), some (.frz (.int (wdT t (s : Int)))), none, none] = some (.lst (inD (rowAt t (s : Int)))) := by
      refine pF_ok (fComp_ok rg (by simp; omega) ?_)
      rw [compF_mm (fun i : Nat => D.int (0 + (i : Int))) (fun i => .int (cf t ((s : Int), (i : Int))))]
      · simp [inD, rowAt, List.map_map, Function.comp_def]
      · intro i hi
        refine ⟨[some (.frz (dL t)), some (.own (fz (lnD acc))), some (.frz (.int (s : Int))), some (.frz (.int (wdT t (s : Int)))), some (.frz (.int (0 + (i : Int)))), none], rfl, rfl, ?_⟩
        rw [Int.zero_add]
        exact pDget_ok (k := ((s : Int), (i : Int))) rfl rfl (tup2 rfl rfl) rfl
    have s2 := drop_ok (eApp_ok (i := 1) (l0 := fz (lnD acc)) (l := fz (lnD acc)) rfl (eP_of cm) rfl (by rw [fz_len, lnD_len]; omega))
    simp only [List.set_cons_succ, List.set_cons_zero] at s2
    rw [seq_nx s1, s2]
    have fe : fz (lnD acc) ++ [C.frz (D.lst (inD (rowAt t (s : Int))))] = fz (lnD (acc ++ [rowAt t (s : Int)])) := by rw [lnD_app, fz_app]; rfl
    rw [fe]
    simp only []
    rw [ih, List.map_cons, List.append_assoc]
    rfl
theorem listed_gen {t : TD} {B : Nat} (hB : B ≤ 900) (hl : t.length ≤ 900) (hb : ∀ e ∈ t, e.1.1 < B ∧ e.1.2 < B) :
    Gives (bodyM 6 [] 1 (sSeq (sSet 1 (eF (evPs []))) (sSeq (sFor (rngM [eP (pCall maxF [pF (fCat (evPs [pK (.int 0)]) (fComp [5] (gV true 5) (fun _ => some true) (pOp addI (pIx (pV 5) (pK (.int 0))) (pK (.int 1))) (fKeys (pV 0))))])]) (gV false 2) (sSeq (sSet 3 (eP (pCall maxF [pF (fCat (evPs [pK (.int 0)]) (fComp [5] (gV true 5) (qOf (pOp eqV' (pIx (pV 5) (pK (.int 0))) (pV 2))) (pOp addI (pIx (pV 5) (pK (.int 1))) (pK (.int 1))) (fKeys (pV 0))))]))) (sDrop (eApp 1 (eP (pF (fComp [4] (gV true 4) (fun _ => some true) (pDget (pV 0) (pTup [pV 2, pV 4]) (pK (.int 0))) (rngP [pV 3])))))))) (sRet (eV 1))))) [.frz (dL t)] (.frz (.lst (lnD (listT t)))) := by
  obtain ⟨m1, m2, m3⟩ := mx0_spec (t.map fun e => e.1.1 + 1)
  have eh : hiT t = mx0 (t.map fun e => e.1.1 + 1) := rfl
  have hh : hiT t ≤ 900 := by
    rcases m1 with m1 | m1
    · omega
    · obtain ⟨e, he, h1⟩ := List.mem_map.mp m1
      have := (hb e he).1
      omega
  obtain ⟨o2, o3, lp⟩ := listed_loop hB hl hb (hiT t).toNat 0 [] none none none (by simp; omega)
  refine gives_rt ⟨[some (.frz (dL t)), some (.frz (.lst (lnD (listT t)))), o2, o3, none, none], ?_⟩
  rw [show startE 6 [.frz (dL t)] = [some (.frz (dL t)), none, none, none, none, none] from rfl]
  rw [seq_nx (set_ok (h := eF (evPs [])) (c := .own (fz (lnD []))) (e := [some (.frz (dL t)), none, none, none, none, none]) rfl)]
  simp only [List.set_cons_succ, List.set_cons_zero]
  have h := hi_p (env := [some (.frz (dL t)), some (.own (fz (lnD []))), none, none, none, none]) (p := pV 0) (t := t) (i := 5) rfl hl rfl fun d => ⟨_, rfl, rfl⟩
  have rg := rngM_1 (eP_of h) (by omega) (by omega)
  have el : ((List.range (hiT t).toNat).map fun (i : Nat) => D.int (0 + (i : Int))) = (List.range' 0 (hiT t).toNat).map fun (i : Nat) => D.int (i : Int) := by
    rw [List.range_eq_range']
    exact List.map_congr_left fun i _ => by simp
  rw [el] at rg
  rw [seq_nx ((for_ok rg).trans lp)]
  have e2 : ([] : List (List Int)) ++ (List.range' 0 (hiT t).toNat).map (fun (i : Nat) => rowAt t (i : Int)) = listT t := by
    rw [List.nil_append, ← List.range_eq_range']; rfl
  rw [e2]
  refine ret_ok ?_
  unfold eV
  simp only [List.getElem?_cons_succ, List.getElem?_cons_zero, C.toD, toDs_fz, List.set_cons_succ, List.set_cons_zero]
end PL
/-! ### dicts of rows: code; shapes of planes -/
namespace PL
open PySem PySem.Spec PyProof.Rows L2
/-- a value that tells rows of numbers -/
def Sh (d : D) (ps : List (List Int)) : Prop := ∃ rows, sqD d = some rows ∧ rows.map sqD = ps.map fun l => some (inD l)
def enG (s : Nat) (l : List D) : List D := (l.zipIdx s).map fun p => D.tup [.int (p.2 : Int), p.1]
theorem enG_cons (s : Nat) (y : D) (l : List D) : enG s (y :: l) = .tup [.int (s : Int), y] :: enG (s + 1) l := rfl
theorem enumS_sq {p : P} {env : Slots} {d : D} {l : List D} (h : p env = some d) (hs : sqD d = some l) : mP (enumS p) env = .ok (enG 0 l) env := by
  unfold mP enumS fSq
  rw [h]
  simp only [Option.bind_some, hs, Option.map_some]
  rfl
theorem enumM_ok {f : M C} {env e : Slots} {l : List D} {c : C} (h : f env = .ok c e) (hc : c.toD = .lst l) : enumM f env = .ok (enG 0 l) e := by
  unfold enumM
  rw [evMs_c, h]
  simp only [Out.bind, evMs_n, C.toDs, hc, enumL]
  rfl
theorem gT2 {i j : Nat} {x y : D} {env : Slots} : gTupD 2 (gsCons (gV false i) (gsCons (gV false j) gsNil)) (.tup [x, y]) env = some ((env.set i (some (.frz x))).set j (some (.frz y))) := rfl
theorem col_loop {A : Option C} {o3 : Option C} (i : Nat) : ∀ (l : List Int) (j : Nat) (acc : TD) (o4 o5 : Option C), acc.length + l.length ≤ 100000 →
    ∃ o4' o5', forL (gTupD 2 (gsCons (gV false 4) (gsCons (gV false 5) gsNil))) (sIf (tP (qOf (pOp neV' (pV 5) (pK (.int 0))))) (sDput 1 (pTup [pV 2, pV 4]) (eP (pV 5))) (sNx)) (enG j (inD l)) [A, some (.ownT (tdD acc)), some (.frz (.int (i : Int))), o3, o4, o5]
      = .nx [A, some (.ownT (tdD (colT (i : Int) j l acc))), some (.frz (.int (i : Int))), o3, o4', o5'] ∧ (colT (i : Int) j l acc).length ≤ acc.length + l.length
  | [], j, acc, o4, o5, _ => ⟨o4, o5, rfl, by simp [colT]⟩
  | x :: l, j, acc, o4, o5, h => by
    simp only [List.length_cons] at h
    have lg : (if x ≠ 0 then putT acc ((i : Int), (j : Int)) x else acc).length ≤ acc.length + 1 := by
      split
      · exact len_put ..
      · omega
    obtain ⟨o4', o5', ih, il⟩ := col_loop i l (j + 1) (if x ≠ 0 then putT acc ((i : Int), (j : Int)) x else acc) (some (.frz (.int (j : Int)))) (some (.frz (.int x))) (by omega)
    refine ⟨o4', o5', ?_, by rw [colT]; simp only [List.length_cons]; omega⟩
    rw [inD_cons, enG_cons, forL]
    rw [gT2]
    simp only [List.set_cons_succ, List.set_cons_zero]
    have q : tP (qOf (pOp neV' (pV 5) (pK (.int 0)))) [A, some (.ownT (tdD acc)), some (.frz (.int (i : Int))), o3, some (.frz (.int (j : Int))), some (.frz (.int x))] = .ok (decide (x ≠ 0)) [A, some (.ownT (tdD acc)), some (.frz (.int (i : Int))), o3, some (.frz (.int (j : Int))), some (.frz (.int x))] :=
      tP_of (qOf_b (pOp_v (a := .int x) (b := .int 0) (v := .bl (decide (x ≠ 0))) rfl rfl (by
        unfold neV'
        rw [eqD_int]
        by_cases h : x = 0 <;> simp [h])))
    have e : colT (i : Int) j (x :: l) acc = colT (i : Int) (j + 1) l (if x ≠ 0 then putT acc ((i : Int), (j : Int)) x else acc) := rfl
    rw [e]
    by_cases hx : x = 0
    · rw [decide_eq_false (by simp [hx])] at q
      rw [if_no q]
      rw [if_neg (by simp [hx])] at ih ⊢
      exact ih
    · rw [decide_eq_true hx] at q
      rw [if_t q]
      rw [if_pos hx] at ih ⊢
      have s := dput_ok (i := 1) (q := pTup [pV 2, pV 4]) (f := eP (pV 5)) (env := [A, some (.ownT (tdD acc)), some (.frz (.int (i : Int))), o3, some (.frz (.int (j : Int))), some (.frz (.int x))]) (t := acc) (k := ((i : Int), (j : Int))) (v := x) rfl rfl (tup2 rfl rfl) (by omega)
      rw [s]
      exact ih
theorem row_loop {A : Option C} : ∀ (rows : List D) (ps : List (List Int)) (i : Nat) (acc : TD) (o2 o3 o4 o5 : Option C), rows.map sqD = ps.map (fun l => some (inD l)) → acc.length + (ps.map List.length).sum ≤ 100000 →
    ∃ o2' o3' o4' o5', forL (gTupD 2 (gsCons (gV false 2) (gsCons (gV false 3) gsNil))) (sFor (mP (enumS (pV 3))) (gTupD 2 (gsCons (gV false 4) (gsCons (gV false 5) gsNil))) (sIf (tP (qOf (pOp neV' (pV 5) (pK (.int 0))))) (sDput 1 (pTup [pV 2, pV 4]) (eP (pV 5))) (sNx))) (enG i rows) [A, some (.ownT (tdD acc)), o2, o3, o4, o5]
      = .nx [A, some (.ownT (tdD (dicT i ps acc))), o2', o3', o4', o5']
  | [], [], i, acc, o2, o3, o4, o5, _, _ => ⟨o2, o3, o4, o5, rfl⟩
  | [], _ :: _, _, _, _, _, _, _, h, _ => nomatch h
  | _ :: _, [], _, _, _, _, _, _, h, _ => nomatch h
  | r :: rows, l :: ps, i, acc, o2, o3, o4, o5, h, hl => by
    simp only [List.map_cons, List.cons.injEq] at h
    simp only [List.map_cons, List.sum_cons] at hl
    obtain ⟨o4', o5', c1, c2⟩ := col_loop (A := A) (o3 := some (.frz r)) i l 0 acc o4 o5 (by omega)
    obtain ⟨p2, p3, p4, p5, ih⟩ := row_loop (A := A) rows ps (i + 1) (colT (i : Int) 0 l acc) (some (.frz (.int (i : Int)))) (some (.frz r)) o4' o5' h.2 (by omega)
    refine ⟨p2, p3, p4, p5, ?_⟩
    rw [enG_cons, forL, gT2]
    simp only [List.set_cons_succ, List.set_cons_zero]
    rw [for_ok (enumS_sq (d := r) (l := inD l) rfl h.1), c1]
    exact ih
theorem dict_gen {d : D} {ps : List (List Int)} (h : Sh d ps) (hl : (ps.map List.length).sum ≤ 100000) :
    Gives (bodyM 6 [] 1 (sSeq (sSet 1 (eDnew)) (sSeq (sFor (mP (enumS (pV 0))) (gTupD 2 (gsCons (gV false 2) (gsCons (gV false 3) gsNil))) (sFor (mP (enumS (pV 3))) (gTupD 2 (gsCons (gV false 4) (gsCons (gV false 5) gsNil))) (sIf (tP (qOf (pOp neV' (pV 5) (pK (.int 0))))) (sDput 1 (pTup [pV 2, pV 4]) (eP (pV 5))) (sNx)))) (sRet (eLk (eMv 1)))))) [.frz d] (.frz (dL (dictT ps))) := by
  obtain ⟨rows, h1, h2⟩ := h
  obtain ⟨o2, o3, o4, o5, lp⟩ := row_loop (A := some (.frz d)) rows ps 0 [] none none none none h2 (by simpa using hl)
  refine gives_rt ⟨[some (.frz d), none, o2, o3, o4, o5], ?_⟩
  rw [show startE 6 [.frz d] = [some (.frz d), none, none, none, none, none] from rfl]
  rw [seq_nx (set_ok (h := eDnew) (c := .ownT (tdD [])) (e := [some (.frz d), none, none, none, none, none]) rfl)]
  simp only [List.set_cons_succ, List.set_cons_zero]
  rw [seq_nx ((for_ok (enumS_sq (p := pV 0) (d := d) rfl h1)).trans lp)]
  exact ret_ok rfl
/-! #### how far a dict reaches -/
def wideI (ps : List (List Int)) : Int := mx0 (ps.map fun l => (l.length : Int))
theorem Dof.top {t : TD} {ps : List (List Int)} (h : Dof t ps) (p : Pl ps) : maxF [.lst (inD (-1 :: t.map fun e => e.1.1))] = some (.int ((ps.length : Int) - 1)) := by
  refine maxF_of ?_ fun y hy => ?_
  · by_cases hp : ps = []
    · subst hp; simp
    · obtain ⟨e, r, rfl, m1, m2⟩ := h.max p hp
      have := List.length_pos_iff.mpr hp
      have g : (((ps.length - 1 : Nat) : Int), (((ps.getLastD []).length - 1 : Nat) : Int)) ∈ (e :: r).map (·.1) := by
        unfold gtT at m2
        simp only [Option.map_eq_some_iff] at m2
        obtain ⟨x, hx, _⟩ := m2
        have := List.find?_some hx
        exact List.mem_map.mpr ⟨x, List.mem_of_find?_eq_some hx, of_decide_eq_true this⟩
      obtain ⟨x, hx, e1⟩ := List.mem_map.mp g
      refine List.mem_cons_of_mem _ (List.mem_map.mpr ⟨x, hx, ?_⟩)
      rw [e1]
      show ((ps.length - 1 : Nat) : Int) = _
      omega
  · rcases List.mem_cons.mp hy with rfl | hy
    · omega
    · obtain ⟨e, he, rfl⟩ := List.mem_map.mp hy
      obtain ⟨i, j, e1, _, hi, _⟩ := h.mem he
      rw [e1]
      show (i : Int) ≤ _
      omega
theorem Dof.wide {t : TD} {ps : List (List Int)} (h : Dof t ps) (p : Pl ps) : maxF [.lst (inD (-1 :: t.map fun e => e.1.2))] = some (.int (wideI ps - 1)) := by
  obtain ⟨m1, m2, m3⟩ := mx0_spec (ps.map fun l => (l.length : Int))
  have ew : wideI ps = mx0 (ps.map fun l => (l.length : Int)) := rfl
  refine maxF_of ?_ fun y hy => ?_
  · rcases Int.lt_or_le 0 (wideI ps) with hp | hp
    · rcases m1 with m1 | m1
      · omega
      · obtain ⟨r, hr, e⟩ := List.mem_map.mp m1
        have hr0 : r ≠ [] := by intro z; rw [z] at e; simp at e; omega
        obtain ⟨i, hi, rfl⟩ := List.getElem_of_mem hr
        have hz := p.tr _ hr _ (getD_last hr0 0)
        have ec : co ps i (ps[i].length - 1) = ps[i].getD (ps[i].length - 1) 0 := by
          unfold co
          rw [List.getD_eq_getElem?_getD (l := ps), List.getElem?_eq_getElem hi]; rfl
        have hk := h.key (i := i) (j := ps[i].length - 1) (by rw [ec]; exact hz)
        refine List.mem_cons_of_mem _ (List.mem_map.mpr ⟨_, hk, ?_⟩)
        have := List.length_pos_iff.mpr hr0
        show ((ps[i].length - 1 : Nat) : Int) = _
        omega
    · have : wideI ps - 1 = -1 := by omega
      rw [this]; simp
  · rcases List.mem_cons.mp hy with rfl | hy
    · omega
    · obtain ⟨e, he, rfl⟩ := List.mem_map.mp hy
      obtain ⟨i, j, e1, _, hi, hj⟩ := h.mem he
      rw [e1]
      have := m2 (ps[i].length : Int) (List.mem_map.mpr ⟨_, List.getElem_mem hi, rfl⟩)
      show (j : Int) ≤ _
      omega
theorem keyc_p {env : Slots} {p z : P} {t : TD} {i : Nat} {x : Int} (c : Nat) (f : K2 → Int) (h : p env = some (dL t)) (hl : t.length ≤ 800) (hz : z env = some (.int x)) (hw : wipeE env [i] = env) (hg : ∀ d, ∃ e, gV true i d env = some e ∧ pV i e = some d) (hf : ∀ k : K2, ixD (kD k) (.int c) = some (.int (f k))) :
    pF (fCat (evPs [z]) (fComp [i] (gV true i) (fun _ => some true) (pIx (pV i) (pK (.int c))) (fKeys p))) env = some (.lst (inD (x :: t.map fun e => f e.1))) := by
  refine cat0 hz (fComp_ok (fKeys_ok h) (by simp; omega) ?_) (by simp; omega)
  rw [hw, compF_mm (fun e : K2 × Int => kD e.1) (fun e => .int (f e.1))]
  · simp [inD, List.map_map, Function.comp_def]
  · intro e he
    obtain ⟨e1, h1, h2⟩ := hg (kD e.1)
    exact ⟨e1, h1, rfl, pIx_ok h2 rfl (hf _)⟩
theorem degs_gen {t : TD} {ps : List (List Int)} (h : Dof t ps) (p : Pl ps) (hl : t.length ≤ 800) :
    Gives (bodyM 2 [] 1 (sRet (eP (pTup [pCall maxF [pF (fCat (evPs [pNeg (pK (.int 1))]) (fComp [1] (gV true 1) (fun _ => some true) (pIx (pV 1) (pK (.int 0))) (fKeys (pV 0))))], pCall maxF [pF (fCat (evPs [pNeg (pK (.int 1))]) (fComp [1] (gV true 1) (fun _ => some true) (pIx (pV 1) (pK (.int 1))) (fKeys (pV 0))))]])))) [.frz (dL t)] (.frz (.tup [.int ((ps.length : Int) - 1), .int (wideI ps - 1)])) := by
  refine gives_rt ⟨[some (.frz (dL t)), none], ret_ok (eP_of (tup2 ?_ ?_))⟩
  · exact pCall_1 (v := .int ((ps.length : Int) - 1)) (keyc_p (x := -1) 0 (fun k => k.1) rfl hl rfl rfl (fun d => ⟨_, rfl, rfl⟩) fun k => rfl) (h.top p)
  · exact pCall_1 (v := .int (wideI ps - 1)) (keyc_p (x := -1) 1 (fun k => k.2) rfl hl rfl rfl (fun d => ⟨_, rfl, rfl⟩) fun k => rfl) (h.wide p)
end PL
/-! ### the laws' drawn pieces and their products -/
namespace PL
open PySem PySem.Spec PyProof.Rows L2
/-- the value at x = 10000, y = 10 -/
def phi (k : K2) : Int := 10000 ^ k.1.toNat * 10 ^ k.2.toNat
theorem phi_add {a b : K2} (h1 : 0 ≤ a.1) (h2 : 0 ≤ a.2) (h3 : 0 ≤ b.1) (h4 : 0 ≤ b.2) : phi (kadd a b) = phi a * phi b := by
  unfold phi kadd
  simp only [Int.toNat_add h1 h3, Int.toNat_add h2 h4, Int.pow_add]
  rw [Int.mul_assoc, Int.mul_assoc]
  congr 1
  rw [← Int.mul_assoc, ← Int.mul_assoc, Int.mul_comm (10000 ^ b.1.toNat)]
theorem ev_times' {φ : K2 → Int} {a b : TD} (hφ : ∀ e ∈ a, ∀ f ∈ b, φ (kadd e.1 f.1) = φ e.1 * φ f.1) : evT φ (timesT a b) = evT φ a * evT φ b := by
  rw [(times_spec φ a b).2.1]
  have : ∀ e ∈ a, evT (fun k2 => φ (kadd e.1 k2)) b = evT φ b * φ e.1 := fun e he => by
    rw [Int.mul_comm, ← ev_smul]
    exact ev_congr fun f hf => hφ e he f hf
  rw [ev_congr (ψ := fun k1 => evT φ b * φ k1) this, ev_smul, Int.mul_comm]
/-- a product of n drawn pieces -/
structure Tm (n : Nat) (t : TD) : Prop where
  dk : Dk t
  nz : ∀ e ∈ t, e.2 ≠ 0
  len : t.length ≤ 3 ^ n
  nr : nrT t ≤ 11 ^ n
  kn : Kn t
  le : ∀ e ∈ t, e.1.1 ≤ 2 * n ∧ e.1.2 ≤ 2 * n
  pos : 0 < evT phi t
theorem tm_one : Tm 0 [((0, 0), 1)] := ⟨by simp [Dk], by simp, by simp, by simp [nrT], fun e he => by simp at he; subst he; exact ⟨Int.le_refl _, Int.le_refl _⟩, fun e he => by simp at he; subst he; simp, by simp [evT, phi]⟩
theorem Tm.times {m : Nat} {a b : TD} (ha : Tm m a) (hb : Tm 1 b) : Tm (m + 1) (bareT (timesT a b)) := by
  obtain ⟨h1, h2, h3, h4⟩ := times_spec phi a b
  have hm := times_mem (fun k => 0 ≤ k.1 ∧ 0 ≤ k.2 ∧ k.1 ≤ 2 * (m + 1 : Nat) ∧ k.2 ≤ 2 * (m + 1 : Nat)) (fun _ => True) (a := a) (b := b) (fun _ _ => trivial) fun e he f hf => by
    have := ha.kn e he
    have := ha.le e he
    have := hb.kn f hf
    have := hb.le f hf
    simp only [kadd]
    omega
  refine ⟨dk_bare h1, fun e he => (mem_bare.mp he).2, ?_, ?_, fun e he => ?_, fun e he => ?_, ?_⟩
  · refine Nat.le_trans (len_bare _) (Nat.le_trans h4 ?_)
    rw [Nat.pow_succ]
    exact Nat.mul_le_mul ha.len (by simpa using hb.len)
  · rw [nr_bare]
    refine Nat.le_trans h3 ?_
    rw [Nat.pow_succ]
    exact Nat.mul_le_mul ha.nr (by simpa using hb.nr)
  · have := hm e (mem_bare.mp he).1; exact ⟨this.1, this.2.1⟩
  · have := hm e (mem_bare.mp he).1; exact ⟨this.2.2.1, this.2.2.2⟩
  · rw [ev_bare, ev_times' fun e he f hf => phi_add (ha.kn e he).1 (ha.kn e he).2 (hb.kn f hf).1 (hb.kn f hf).2]
    exact Int.mul_pos ha.pos hb.pos
theorem tm_shape {k0 k1 k2 : K2} {u b c : Int} (hu : 1 ≤ u) (hu3 : u ≤ 3) (hb : b.natAbs ≤ 4) (hc : c.natAbs ≤ 4) (h01 : k0 ≠ k1) (h02 : k0 ≠ k2) (h12 : k1 ≠ k2)
    (n0 : 0 ≤ k0.1 ∧ 0 ≤ k0.2 ∧ k0.1 ≤ 2 ∧ k0.2 ≤ 2) (n1 : 0 ≤ k1.1 ∧ 0 ≤ k1.2 ∧ k1.1 ≤ 2 ∧ k1.2 ≤ 2) (n2 : 0 ≤ k2.1 ∧ 0 ≤ k2.2 ∧ k2.1 ≤ 2 ∧ k2.2 ≤ 2)
    (hp : 4 * phi k1 + 4 * phi k2 < phi k0) (p1 : 0 ≤ phi k1) (p2 : 0 ≤ phi k2) : Tm 1 (bareT [(k0, u), (k1, b), (k2, c)]) := by
  have d : Dk [(k0, u), (k1, b), (k2, c)] := by simp [Dk, h01, h02, h12]
  have mm : ∀ e ∈ bareT [(k0, u), (k1, b), (k2, c)], e.1 = k0 ∨ e.1 = k1 ∨ e.1 = k2 := fun e he => by
    have := (mem_bare.mp he).1
    simp only [List.mem_cons, List.not_mem_nil, or_false] at this
    rcases this with rfl | rfl | rfl
    · exact .inl rfl
    · exact .inr (.inl rfl)
    · exact .inr (.inr rfl)
  refine ⟨dk_bare d, fun e he => (mem_bare.mp he).2, Nat.le_trans (len_bare _) (by simp), ?_, fun e he => ?_, fun e he => ?_, ?_⟩
  · rw [nr_bare]
    simp only [nrT, List.map_cons, List.map_nil, List.sum_cons, List.sum_nil]
    omega
  · rcases mm e he with h | h | h <;> rw [h] <;> omega
  · rcases mm e he with h | h | h <;> rw [h] <;> omega
  · rw [ev_bare]
    simp only [evT, List.map_cons, List.map_nil, List.sum_cons, List.sum_nil]
    have q0 : phi k0 ≤ u * phi k0 := by
      have : 0 ≤ phi k0 := by omega
      have := Int.mul_le_mul_of_nonneg_right hu this
      omega
    have q1 : -4 * phi k1 ≤ b * phi k1 := Int.mul_le_mul_of_nonneg_right (by omega) p1
    have q2 : -4 * phi k2 ≤ c * phi k2 := Int.mul_le_mul_of_nonneg_right (by omega) p2
    omega
theorem tm_shape2 {k0 k1 : K2} {u b : Int} (hu : 1 ≤ u) (hu3 : u ≤ 3) (hb : b.natAbs ≤ 4) (h01 : k0 ≠ k1)
    (n0 : 0 ≤ k0.1 ∧ 0 ≤ k0.2 ∧ k0.1 ≤ 2 ∧ k0.2 ≤ 2) (n1 : 0 ≤ k1.1 ∧ 0 ≤ k1.2 ∧ k1.1 ≤ 2 ∧ k1.2 ≤ 2)
    (hp : 4 * phi k1 < phi k0) (p1 : 0 ≤ phi k1) : Tm 1 (bareT [(k0, u), (k1, b)]) := by
  have d : Dk [(k0, u), (k1, b)] := by simp [Dk, h01]
  have mm : ∀ e ∈ bareT [(k0, u), (k1, b)], e.1 = k0 ∨ e.1 = k1 := fun e he => by
    have := (mem_bare.mp he).1
    simp only [List.mem_cons, List.not_mem_nil, or_false] at this
    rcases this with rfl | rfl
    · exact .inl rfl
    · exact .inr rfl
  refine ⟨dk_bare d, fun e he => (mem_bare.mp he).2, Nat.le_trans (len_bare _) (by simp), ?_, fun e he => ?_, fun e he => ?_, ?_⟩
  · rw [nr_bare]
    simp only [nrT, List.map_cons, List.map_nil, List.sum_cons, List.sum_nil]
    omega
  · rcases mm e he with h | h <;> rw [h] <;> omega
  · rcases mm e he with h | h <;> rw [h] <;> omega
  · rw [ev_bare]
    simp only [evT, List.map_cons, List.map_nil, List.sum_cons, List.sum_nil]
    have q0 : phi k0 ≤ u * phi k0 := by
      have : 0 ≤ phi k0 := by omega
      have := Int.mul_le_mul_of_nonneg_right hu this
      omega
    have q1 : -4 * phi k1 ≤ b * phi k1 := Int.mul_le_mul_of_nonneg_right (by omega) p1
    omega
/-! #### the code of a piece -/
theorem piece_loop {draw : List C → Out C} (hm : DrawOk draw) {w o : Option C} : ∀ (S : List K2) (acc : TD) (c : C) (o4 : Option C), PotOk c → acc.length + S.length ≤ 1000 →
    ∃ c' vs o4', forL (gV false 4) (sDput 2 (pV 4) (eOp subI (eFnL draw 0 [eP (pK (.int 9))]) (eP (pK (.int 4))))) (S.map kD) [some c, w, some (.ownT (tdD acc)), o, o4] = .nx [some c', w, some (.ownT (tdD ((S.zip vs).foldl (fun t e => putT t e.1 e.2) acc))), o, o4'] ∧ PotOk c' ∧ vs.length = S.length ∧ ∀ v ∈ vs, v.natAbs ≤ 4
  | [], acc, c, o4, hc, _ => ⟨c, [], o4, rfl, hc, rfl, nofun⟩
  | k :: S, acc, c, o4, hc, hl => by
    simp only [List.length_cons] at hl
    obtain ⟨r, c1, e1, r1, r2, hc1⟩ := draw_p hm (env := [some c, w, some (.ownT (tdD acc)), o, some (.frz (kD k))]) (p := pK (.int 9)) (s := 9) rfl rfl hc (by decide) (by decide)
    simp only [List.set_cons_zero] at e1
    have ln := len_put acc k (r - 4)
    obtain ⟨c2, vs, o4', f1, f2, f3, f4⟩ := piece_loop hm S (putT acc k (r - 4)) c1 (some (.frz (kD k))) hc1 (by omega)
    refine ⟨c2, (r - 4) :: vs, o4', ?_, f2, by simp [f3], fun v hv => ?_⟩
    · rw [List.map_cons, forL]
      rw [show gV false 4 (kD k) [some c, w, some (.ownT (tdD acc)), o, o4] = some [some c, w, some (.ownT (tdD acc)), o, some (.frz (kD k))] from rfl]
      simp only []
      have eo := eOp_ok (op := subI) (g := eP (pK (.int 4))) (b := .frz (.int 4)) (e2 := [some c1, w, some (.ownT (tdD acc)), o, some (.frz (kD k))]) (v := .int (r - 4)) e1 rfl rfl
      have s := dput_ok (i := 2) (q := pV 4) (t := acc) (k := k) (v := r - 4) eo rfl rfl (by omega)
      rw [s]
      exact f1
    · rcases List.mem_cons.mp hv with rfl | hv
      · omega
      · exact f4 v hv
def shapes : List (List K2) := [[(1, 0), (0, 1), (0, 0)], [(1, 1), (0, 0), (1, 0)], [(2, 0), (0, 1), (0, 0)], [(1, 0), (0, 2), (0, 0)], [(2, 0), (0, 2), (0, 0)], [(1, 0), (0, 0)]]
def SOkT (S : List K2) : Prop := ∀ (vs : List Int) (u : Int), vs.length = S.length → (∀ v ∈ vs, v.natAbs ≤ 4) → 1 ≤ u → u ≤ 3 → ∃ k0 r, S = k0 :: r ∧
    Dk (putT ((S.zip vs).foldl (fun t e => putT t e.1 e.2) []) k0 u) ∧ (putT ((S.zip vs).foldl (fun t e => putT t e.1 e.2) []) k0 u).length ≤ 3 ∧ ((S.zip vs).foldl (fun t e => putT t e.1 e.2) []).length ≤ 3 ∧ Tm 1 (bareT (putT ((S.zip vs).foldl (fun t e => putT t e.1 e.2) []) k0 u))
theorem shape3 {k0 k1 k2 : K2} (h01 : k0 ≠ k1) (h02 : k0 ≠ k2) (h12 : k1 ≠ k2)
    (n0 : 0 ≤ k0.1 ∧ 0 ≤ k0.2 ∧ k0.1 ≤ 2 ∧ k0.2 ≤ 2) (n1 : 0 ≤ k1.1 ∧ 0 ≤ k1.2 ∧ k1.1 ≤ 2 ∧ k1.2 ≤ 2) (n2 : 0 ≤ k2.1 ∧ 0 ≤ k2.2 ∧ k2.1 ≤ 2 ∧ k2.2 ≤ 2)
    (hp : 4 * phi k1 + 4 * phi k2 < phi k0) (p1 : 0 ≤ phi k1) (p2 : 0 ≤ phi k2) : SOkT [k0, k1, k2] := fun vs u hl hv h1 h3 => by
  match vs, hl with
  | [a, b, c], _ =>
    have e0 : (([k0, k1, k2].zip [a, b, c]).foldl (fun t e => putT t e.1 e.2) []) = [(k0, a), (k1, b), (k2, c)] := by
      have e1 : putT [] k0 a = [(k0, a)] := rfl
      have e2 : putT [(k0, a)] k1 b = [(k0, a), (k1, b)] := put_new b (by simpa using h01)
      have e3 : putT [(k0, a), (k1, b)] k2 c = [(k0, a), (k1, b), (k2, c)] := put_new c (by simp [h02, h12])
      simp only [List.zip_cons_cons, List.zip_nil_right, List.foldl_cons, List.foldl_nil, e1, e2, e3]
    have d0 : Dk [(k0, a), (k1, b), (k2, c)] := by simp [Dk, h01, h02, h12]
    have e4 : putT [(k0, a), (k1, b), (k2, c)] k0 u = [(k0, u), (k1, b), (k2, c)] := by rw [put_cons _ _ _ _ d0, if_pos rfl]
    refine ⟨k0, [k1, k2], rfl, ?_⟩
    rw [e0, e4]
    exact ⟨by simp [Dk, h01, h02, h12], by simp, by simp, tm_shape h1 h3 (hv b (by simp)) (hv c (by simp)) h01 h02 h12 n0 n1 n2 hp p1 p2⟩
theorem shape2 {k0 k1 : K2} (h01 : k0 ≠ k1)
    (n0 : 0 ≤ k0.1 ∧ 0 ≤ k0.2 ∧ k0.1 ≤ 2 ∧ k0.2 ≤ 2) (n1 : 0 ≤ k1.1 ∧ 0 ≤ k1.2 ∧ k1.1 ≤ 2 ∧ k1.2 ≤ 2)
    (hp : 4 * phi k1 < phi k0) (p1 : 0 ≤ phi k1) : SOkT [k0, k1] := fun vs u hl hv h1 h3 => by
  match vs, hl with
  | [a, b], _ =>
    have e0 : (([k0, k1].zip [a, b]).foldl (fun t e => putT t e.1 e.2) []) = [(k0, a), (k1, b)] := by
      have e1 : putT [] k0 a = [(k0, a)] := rfl
      have e2 : putT [(k0, a)] k1 b = [(k0, a), (k1, b)] := put_new b (by simpa using h01)
      simp only [List.zip_cons_cons, List.zip_nil_right, List.foldl_cons, List.foldl_nil, e1, e2]
    have d0 : Dk [(k0, a), (k1, b)] := by simp [Dk, h01]
    have e4 : putT [(k0, a), (k1, b)] k0 u = [(k0, u), (k1, b)] := by rw [put_cons _ _ _ _ d0, if_pos rfl]
    refine ⟨k0, [k1], rfl, ?_⟩
    rw [e0, e4]
    exact ⟨by simp [Dk, h01], by simp, by simp, tm_shape2 h1 h3 (hv b (by simp)) h01 n0 n1 hp p1⟩
theorem shape_tm : ∀ S ∈ shapes, SOkT S := fun S hS => by
  simp only [shapes, List.mem_cons, List.not_mem_nil, or_false] at hS
  rcases hS with rfl | rfl | rfl | rfl | rfl | rfl
  case inr.inr.inr.inr.inr => exact shape2 (by decide) (by decide) (by decide) (by decide) (by decide)
  all_goals exact shape3 (by decide) (by decide) (by decide) (by decide) (by decide) (by decide) (by decide) (by decide) (by decide)
theorem ix0 (d : D) (l : List D) : ixD (.lst (d :: l)) (.int 0) = some d := by
  have := atI_nat (l := d :: l) (j := 0) (by simp)
  simpa [ixD] using this
theorem piece_gen {draw bare : List C → Out C} (hm : DrawOk draw) (hb : ∀ {t : TD}, Dk t → t.length ≤ 1000 → Gives bare [.frz (dL t)] (.frz (dL (bareT t)))) {c : C} (hc : PotOk c) :
    ∃ c' t o, bodyM 5 [0] 1 (sSeq (sPar [1, 2] [eFnL draw 0 [eP (pK (.int 6))], eDnew]) (sSeq (sSet 3 (eP (pIx (pF (evPs [pF (evPs [pTup [pK (.int 1), pK (.int 0)], pTup [pK (.int 0), pK (.int 1)], pTup [pK (.int 0), pK (.int 0)]]), pF (evPs [pTup [pK (.int 1), pK (.int 1)], pTup [pK (.int 0), pK (.int 0)], pTup [pK (.int 1), pK (.int 0)]]), pF (evPs [pTup [pK (.int 2), pK (.int 0)], pTup [pK (.int 0), pK (.int 1)], pTup [pK (.int 0), pK (.int 0)]]), pF (evPs [pTup [pK (.int 1), pK (.int 0)], pTup [pK (.int 0), pK (.int 2)], pTup [pK (.int 0), pK (.int 0)]]), pF (evPs [pTup [pK (.int 2), pK (.int 0)], pTup [pK (.int 0), pK (.int 2)], pTup [pK (.int 0), pK (.int 0)]]), pF (evPs [pTup [pK (.int 1), pK (.int 0)], pTup [pK (.int 0), pK (.int 0)]])])) (pV 1)))) (sSeq (sFor (mSq (eP (pV 3))) (gV false 4) (sDput 2 (pV 4) (eOp subI (eFnL draw 0 [eP (pK (.int 9))]) (eP (pK (.int 4)))))) (sSeq (sDput 2 (pIx (pV 3) (pK (.int 0))) (eOp addI (eP (pK (.int 1))) (eFnL draw 0 [eP (pK (.int 3))]))) (sRet (eFn bare [eLk (eMv 2)])))))) [c] = .ok (.frz (dL t)) (some c' :: o) ∧ PotOk c' ∧ Tm 1 t := by
  obtain ⟨r, c1, e1, r1, r2, hc1⟩ := draw_p hm (env := [some c, none, none, none, none]) (p := pK (.int 6)) (s := 6) rfl rfl hc (by decide) (by decide)
  simp only [List.set_cons_zero] at e1
  have hr : r.toNat < shapes.length := by simp [shapes]; omega
  have hS := shape_tm _ (List.getElem_mem hr)
  have s1 : (sPar [1, 2] [eFnL draw 0 [eP (pK (.int 6))], eDnew]) [some c, none, none, none, none] = .nx [some c1, some (.frz (.int r)), some (.ownT (tdD [])), none, none] := by
    unfold sPar
    rw [evMs_2 (g := eDnew) e1 (d := .ownT []) (e2 := [some c1, none, none, none, none]) rfl]
    rfl
  have sh : pF (evPs [pF (evPs [pTup [pK (.int 1), pK (.int 0)], pTup [pK (.int 0), pK (.int 1)], pTup [pK (.int 0), pK (.int 0)]]), pF (evPs [pTup [pK (.int 1), pK (.int 1)], pTup [pK (.int 0), pK (.int 0)], pTup [pK (.int 1), pK (.int 0)]]), pF (evPs [pTup [pK (.int 2), pK (.int 0)], pTup [pK (.int 0), pK (.int 1)], pTup [pK (.int 0), pK (.int 0)]]), pF (evPs [pTup [pK (.int 1), pK (.int 0)], pTup [pK (.int 0), pK (.int 2)], pTup [pK (.int 0), pK (.int 0)]]), pF (evPs [pTup [pK (.int 2), pK (.int 0)], pTup [pK (.int 0), pK (.int 2)], pTup [pK (.int 0), pK (.int 0)]]), pF (evPs [pTup [pK (.int 1), pK (.int 0)], pTup [pK (.int 0), pK (.int 0)]])]) [some c1, some (.frz (.int r)), some (.ownT (tdD [])), none, none] = some (.lst (shapes.map fun S => .lst (S.map kD))) := rfl
  have ix : ixD (.lst (shapes.map fun S => .lst (S.map kD))) (.int r) = some (.lst (shapes[r.toNat].map kD)) := by
    have := atI_nat (l := shapes.map fun S => D.lst (S.map kD)) (j := r.toNat) (by simpa using hr)
    rw [show ((r.toNat : Nat) : Int) = r by omega] at this
    simpa [ixD] using this
  have s2 : (sSet 3 (eP (pIx (pF (evPs [pF (evPs [pTup [pK (.int 1), pK (.int 0)], pTup [pK (.int 0), pK (.int 1)], pTup [pK (.int 0), pK (.int 0)]]), pF (evPs [pTup [pK (.int 1), pK (.int 1)], pTup [pK (.int 0), pK (.int 0)], pTup [pK (.int 1), pK (.int 0)]]), pF (evPs [pTup [pK (.int 2), pK (.int 0)], pTup [pK (.int 0), pK (.int 1)], pTup [pK (.int 0), pK (.int 0)]]), pF (evPs [pTup [pK (.int 1), pK (.int 0)], pTup [pK (.int 0), pK (.int 2)], pTup [pK (.int 0), pK (.int 0)]]), pF (evPs [pTup [pK (.int 2), pK (.int 0)], pTup [pK (.int 0), pK (.int 2)], pTup [pK (.int 0), pK (.int 0)]]), pF (evPs [pTup [pK (.int 1), pK (.int 0)], pTup [pK (.int 0), pK (.int 0)]])])) (pV 1)))) [some c1, some (.frz (.int r)), some (.ownT (tdD [])), none, none] = .nx [some c1, some (.frz (.int r)), some (.ownT (tdD [])), some (.frz (.lst (shapes[r.toNat].map kD))), none] :=
    set_ok (eP_of (pIx_ok sh (k := .int r) rfl ix))
  have h10 : shapes[r.toNat].length ≤ 10 := by
    have : ∀ S ∈ shapes, S.length ≤ 10 := by decide
    exact this _ (List.getElem_mem hr)
  generalize shapes[r.toNat] = S at hS s2 h10
  obtain ⟨c2, vs, o4, f1, f2, f3, f4⟩ := piece_loop hm (w := some (.frz (.int r))) (o := some (.frz (.lst (S.map kD)))) S [] c1 none hc1 (by simp; omega)
  obtain ⟨u, c3, e3, u1, u2, hc3⟩ := draw_p hm (env := [some c2, some (.frz (.int r)), some (.ownT (tdD ((S.zip vs).foldl (fun t e => putT t e.1 e.2) []))), some (.frz (.lst (S.map kD))), o4]) (p := pK (.int 3)) (s := 3) rfl rfl f2 (by decide) (by decide)
  simp only [List.set_cons_zero] at e3
  obtain ⟨k0, rr, rfl, g1, g2, g3, g4⟩ := hS vs (1 + u) f3 f4 (by omega) (by omega)
  generalize hacc : (((k0 :: rr).zip vs).foldl (fun t e => putT t e.1 e.2) []) = acc at f1 e3 g1 g2 g3 g4
  have eo := eOp_ok (op := addI) (f := eP (pK (.int 1))) (env := [some c2, some (.frz (.int r)), some (.ownT (tdD acc)), some (.frz (.lst ((k0 :: rr).map kD))), o4]) (e1 := [some c2, some (.frz (.int r)), some (.ownT (tdD acc)), some (.frz (.lst ((k0 :: rr).map kD))), o4]) (a := .frz (.int 1)) (v := .int (1 + u)) rfl e3 rfl
  have s4 := dput_ok (i := 2) (q := pIx (pV 3) (pK (.int 0))) (t := acc) (k := k0) (v := 1 + u) eo rfl (pIx_ok (d := .lst ((k0 :: rr).map kD)) (k := .int 0) rfl rfl (ix0 _ _)) (by omega)
  simp only [List.set_cons_succ, List.set_cons_zero] at s4
  have z := eFn_1 (f := eLk (eMv 2)) (env := [some c3, some (.frz (.int r)), some (.ownT (tdD (putT acc k0 (1 + u)))), some (.frz (.lst ((k0 :: rr).map kD))), o4]) (e1 := [some c3, some (.frz (.int r)), none, some (.frz (.lst ((k0 :: rr).map kD))), o4]) (a := .frz (dL (putT acc k0 (1 + u)))) rfl (hb g1 (by omega))
  refine ⟨c3, _, _, body_rt (e := [some c3, some (.frz (.int r)), none, some (.frz (.lst ((k0 :: rr).map kD))), o4]) ?_, hc3, g4⟩
  rw [show startE 5 [c] = [some c, none, none, none, none] from rfl]
  rw [seq_nx s1, seq_nx s2, seq_nx ((for_ok (mSq_ok (d := .lst ((k0 :: rr).map kD)) (eP_of rfl) rfl)).trans f1), seq_nx s4]
  exact ret_ok z
end PL
/-! ### products of drawn pieces, planes given; greatest common divisors -/
namespace PL
open PySem PySem.Spec PyProof.Rows L2
theorem prod_loop {times : List C → Out C} (ht : ∀ {a b : TD}, Dk a → Dk b → nrT a < 2 ^ 60 → nrT b < 2 ^ 60 → a.length * b.length ≤ 1000 → Gives times [.frz (dL a), .frz (dL b)] (.frz (dL (bareT (timesT a b))))) {A : Option C} : ∀ (ts : List TD) (n : Nat) (t : TD) (o : Option C), (∀ x ∈ ts, Tm 1 x) → n + ts.length ≤ 5 → Tm n t →
    ∃ t' o', forL (gV false 2) (sSet 1 (eP (pFn times [pV 1, pV 2]))) (ts.map dL) [A, some (.frz (dL t)), o] = .nx [A, some (.frz (dL t')), o'] ∧ Tm (n + ts.length) t'
  | [], n, t, o, _, _, ht => ⟨t, o, rfl, ht⟩
  | x :: ts, n, t, o, hx, hl, h => by
    simp only [List.length_cons] at hl
    have h1 := hx x (by simp)
    have p11 : 11 ^ n ≤ 11 ^ 5 := Nat.pow_le_pow_right (by decide) (by omega)
    have p3 : 3 ^ n ≤ 3 ^ 4 := Nat.pow_le_pow_right (by decide) (by omega)
    have n1 := h.nr
    have n2 := h1.nr
    have l1 := h.len
    have l2 := h1.len
    have ll : t.length * x.length ≤ 81 * 3 := Nat.mul_le_mul (by omega) (by omega)
    have g := ht h.dk h1.dk (by omega) (by omega) (by omega)
    obtain ⟨t', o', i1, i2⟩ := prod_loop ht ts (n + 1) (bareT (timesT t x)) (some (.frz (dL x))) (fun y hy => hx y (List.mem_cons_of_mem _ hy)) (by omega) (h.times h1)
    refine ⟨t', o', ?_, by rw [List.length_cons, show n + (ts.length + 1) = n + 1 + ts.length by omega]; exact i2⟩
    rw [List.map_cons, forL]
    rw [show gV false 2 (dL x) [A, some (.frz (dL t)), o] = some [A, some (.frz (dL t)), some (.frz (dL x))] from rfl]
    simp only []
    have z := pFn_2 (p := pV 1) (q := pV 2) (env := [A, some (.frz (dL t)), some (.frz (dL x))]) rfl rfl g
    rw [C.toD] at z
    rw [set_ok (eP_of z)]
    exact i1
theorem product_gen {times : List C → Out C} (ht : ∀ {a b : TD}, Dk a → Dk b → nrT a < 2 ^ 60 → nrT b < 2 ^ 60 → a.length * b.length ≤ 1000 → Gives times [.frz (dL a), .frz (dL b)] (.frz (dL (bareT (timesT a b))))) {ts : List TD} (h : ∀ x ∈ ts, Tm 1 x) (hl : ts.length ≤ 5) :
    ∃ t, Gives (bodyM 3 [] 1 (sSeq (sSet 1 (eLk (eDispT [(pTup [pK (.int 0), pK (.int 0)], pK (.int 1))]))) (sSeq (sFor (mSq (eP (pV 0))) (gV false 2) (sSet 1 (eP (pFn times [pV 1, pV 2])))) (sRet (eP (pV 1)))))) [.frz (.lst (ts.map dL))] (.frz (dL t)) ∧ Tm ts.length t := by
  obtain ⟨t, o, lp, tm⟩ := prod_loop ht (A := some (.frz (.lst (ts.map dL)))) ts 0 _ none h (by omega) tm_one
  rw [Nat.zero_add] at tm
  refine ⟨t, gives_rt ⟨[some (.frz (.lst (ts.map dL))), some (.frz (dL t)), o], ?_⟩, tm⟩
  rw [show startE 3 [.frz (.lst (ts.map dL))] = [some (.frz (.lst (ts.map dL))), none, none] from rfl]
  rw [seq_nx (set_ok (h := eLk (eDispT [(pTup [pK (.int 0), pK (.int 0)], pK (.int 1))])) (c := .frz (dL [((0, 0), 1)])) (e := [some (.frz (.lst (ts.map dL))), none, none]) rfl)]
  simp only [List.set_cons_succ, List.set_cons_zero]
  rw [seq_nx ((for_ok (mSq_ok (d := .lst (ts.map dL)) (eP_of rfl) rfl)).trans lp)]
  exact ret_ok (eP_of rfl)
/-! #### a plane given as lists and tuples -/
theorem tossed_gen {draw : List C → Out C} (hm : DrawOk draw) {env : Slots} {c : C} (h0 : env[0]? = some (some c)) (hc : PotOk c) : ∃ (t : Bool) (c' : C), tOfE (eOp eqV' (eFnL draw 0 [eP (pK (.int 3))]) (eP (pK (.int 0)))) env = .ok t (env.set 0 (some c')) ∧ PotOk c' := by
  obtain ⟨r, c', e, _, _, h⟩ := draw_p hm (p := pK (.int 3)) (s := 3) h0 rfl hc (by decide) (by decide)
  refine ⟨r == 0, c', ?_, h⟩
  have := eOp_ok (op := eqV') (g := eP (pK (.int 0))) (b := .frz (.int 0)) (e2 := env.set 0 (some c')) (v := .bl (r == 0)) e rfl (by simp only [C.toD, eqV', eqD_int, Option.map_some])
  unfold tOfE
  rw [this]
  rfl
theorem given_loop {draw : List C → Out C} (hm : DrawOk draw) {A : Option C} : ∀ (ps : List (List Int)) (acc : List D) (c : C) (o : Option C), PotOk c → acc.length + ps.length ≤ 1000 →
    ∃ c' rows o', forL (gV false 3) (sDrop (eApp 2 (eIf (tOfE (eOp eqV' (eFnL draw 0 [eP (pK (.int 3))]) (eP (pK (.int 0))))) (eP (pTupL (lP (pV 3)))) (eP (pF (fSq (pV 3))))))) (lnD ps) [some c, A, some (.own (fz acc)), o] = .nx [some c', A, some (.own (fz (acc ++ rows))), o'] ∧ PotOk c' ∧ (∃ bs : List Bool, bs.length = ps.length ∧ rows = List.zipWith (fun b l => gv b (inD l)) bs ps)
  | [], acc, c, o, hc, _ => ⟨c, [], o, by simp [forL, lnD], hc, [], rfl, rfl⟩
  | l :: ps, acc, c, o, hc, hl => by
    simp only [List.length_cons] at hl
    obtain ⟨b, c1, e1, hc1⟩ := tossed_gen hm (env := [some c, A, some (.own (fz acc)), some (.frz (.lst (inD l)))]) rfl hc
    simp only [List.set_cons_zero] at e1
    have ei : eIf (tOfE (eOp eqV' (eFnL draw 0 [eP (pK (.int 3))]) (eP (pK (.int 0))))) (eP (pTupL (lP (pV 3)))) (eP (pF (fSq (pV 3)))) [some c, A, some (.own (fz acc)), some (.frz (.lst (inD l)))] = .ok (.frz (gv b (inD l))) [some c1, A, some (.own (fz acc)), some (.frz (.lst (inD l)))] := by
      unfold eIf
      rw [e1]
      cases b <;> rfl
    have s := drop_ok (eApp_ok (i := 2) (l0 := fz acc) (l := fz acc) rfl ei rfl (by rw [fz_len]; omega))
    simp only [List.set_cons_succ, List.set_cons_zero] at s
    have fe : fz acc ++ [C.frz (gv b (inD l))] = fz (acc ++ [gv b (inD l)]) := by rw [fz_app]; rfl
    rw [fe] at s
    obtain ⟨c2, rows, o', i1, i2, bs, i3, i4⟩ := given_loop hm (A := A) ps (acc ++ [gv b (inD l)]) c1 (some (.frz (.lst (inD l)))) hc1 (by simp; omega)
    refine ⟨c2, gv b (inD l) :: rows, o', ?_, i2, b :: bs, by simp [i3], by simp [i4]⟩
    rw [show lnD (l :: ps) = .lst (inD l) :: lnD ps from rfl, forL]
    rw [show gV false 3 (.lst (inD l)) [some c, A, some (.own (fz acc)), o] = some [some c, A, some (.own (fz acc)), some (.frz (.lst (inD l)))] from rfl]
    simp only [s]
    rw [i1]
    simp
/-- rows as lists and tuples -/
def gvv (b : Bool) (bs : List Bool) (ps : List (List Int)) : D := gv b (List.zipWith (fun b l => gv b (inD l)) bs ps)
theorem gvv_sh {b : Bool} {bs : List Bool} {ps : List (List Int)} (h : bs.length = ps.length) : Sh (gvv b bs ps) ps := by
  refine ⟨_, gv_sq _ _, ?_⟩
  induction ps generalizing bs with
  | nil => cases bs <;> rfl
  | cons l ps ih =>
    cases bs with
    | nil => cases h
    | cons c bs =>
      simp only [List.zipWith_cons_cons, List.map_cons, gv_sq, ih (by simpa using h)]
theorem given_gen {draw : List C → Out C} (hm : DrawOk draw) {c : C} (hc : PotOk c) {ps : List (List Int)} (hl : ps.length ≤ 1000) :
    ∃ c' b bs o, bodyM 4 [0] 2 (sSeq (sSet 2 (eF (evPs []))) (sSeq (sFor (mSq (eP (pV 1))) (gV false 3) (sDrop (eApp 2 (eIf (tOfE (eOp eqV' (eFnL draw 0 [eP (pK (.int 3))]) (eP (pK (.int 0))))) (eP (pTupL (lP (pV 3)))) (eP (pF (fSq (pV 3)))))))) (sRet (eIf (tOfE (eOp eqV' (eFnL draw 0 [eP (pK (.int 3))]) (eP (pK (.int 0))))) (eP (pTupL (lKf (kV 2)))) (eV 2))))) [c, .frz (.lst (lnD ps))] = .ok (.frz (gvv b bs ps)) (some c' :: o) ∧ PotOk c' ∧ bs.length = ps.length := by
  obtain ⟨c1, rows, o', lp, hc1, bs, hb, hr⟩ := given_loop hm (A := some (.frz (.lst (lnD ps)))) ps [] c none hc (by simpa using hl)
  rw [List.nil_append] at lp
  obtain ⟨b, c2, e2, hc2⟩ := tossed_gen hm (env := [some c1, some (.frz (.lst (lnD ps))), some (.own (fz rows)), o']) rfl hc1
  simp only [List.set_cons_zero] at e2
  have ei : ∃ e, eIf (tOfE (eOp eqV' (eFnL draw 0 [eP (pK (.int 3))]) (eP (pK (.int 0))))) (eP (pTupL (lKf (kV 2)))) (eV 2) [some c1, some (.frz (.lst (lnD ps))), some (.own (fz rows)), o'] = .ok (.frz (gv b rows)) (some c2 :: e) := by
    unfold eIf
    rw [e2]
    cases b with
    | true =>
      refine ⟨_, eP_of (env := [some c2, some (.frz (.lst (lnD ps))), some (.own (fz rows)), o']) ?_⟩
      unfold pTupL lKf kV
      simp only [List.getElem?_cons_succ, List.getElem?_cons_zero, frzs_fz, Option.map_some]
      rfl
    | false =>
      refine ⟨[some (.frz (.lst (lnD ps))), some (.frz (.lst rows)), o'], ?_⟩
      simp only [Out.bind, Bool.false_eq_true, if_false, eV, List.getElem?_cons_succ, List.getElem?_cons_zero, C.toD, toDs_fz, List.set_cons_succ, List.set_cons_zero]
      rfl
  obtain ⟨e, ei⟩ := ei
  refine ⟨c2, b, bs, _, body_rt (e := some c2 :: e) ?_, hc2, hb⟩
  rw [show startE 4 [c, .frz (.lst (lnD ps))] = [some c, some (.frz (.lst (lnD ps))), none, none] from rfl]
  rw [seq_nx (set_ok (h := eF (evPs [])) (c := .own (fz [])) (e := [some c, some (.frz (.lst (lnD ps))), none, none]) rfl)]
  simp only [List.set_cons_succ, List.set_cons_zero]
  rw [seq_nx ((for_ok (mSq_ok (d := .lst (lnD ps)) (eP_of rfl) rfl)).trans lp)]
  rw [hr] at ei
  exact ret_ok (by rw [hr]; exact ei)
end PL
/-! ### greatest common divisors of planes; plain planes -/
namespace PL
open PySem PySem.Spec PyProof.Rows L2
theorem gcd_loop (A B : Option C) : ∀ (k : Nat) (x y : Nat), y < k → x < HUGE → y < HUGE → (sWhile (tP (qOf (pOp neV' (pV 3) (pK (.int 0))))) (sPar [2, 3] [eP (pV 3), eP (pOp subI (pV 2) (pOp mulI (pOp fdivI (pV 2) (pV 3)) (pV 3)))])) [A, B, some (.frz (.int x)), some (.frz (.int y))] = .nx [A, B, some (.frz (.int (Int.gcd x y))), some (.frz (.int 0))]
  | 0, x, y, h, _, _ => by omega
  | k + 1, x, y, h, hx, hy => by
    by_cases h0 : y = 0
    · subst h0
      rw [sWhile_eq]
      simp [tP, qOf, pOp, pV, C.toD, pK, neV', ofV, sOf]
    · have l := Int.fmod_lt_of_pos (x : Int) (b := (y : Int)) (by omega)
      have nn := Int.fmod_nonneg_of_pos (x : Int) (b := (y : Int)) (by omega)
      have hm : ((x : Int).fmod y) = (((x : Int).fmod y).toNat : Int) := by omega
      have ih := gcd_loop A B k y ((x : Int).fmod y).toNat (by omega) hy (by omega)
      rw [← hm, gcd_fmod] at ih
      have h0' : ((y : Int) == 0) = false := by rw [beq_eq_false_iff_ne]; omega
      have d1 : divOk x y = true := divOk_big (by omega) (by simpa using hx)
      have q1 : ((x : Int).fdiv y).natAbs < HUGE := by
        rw [Int.fdiv_eq_ediv_of_nonneg _ (by omega)]
        exact Nat.lt_of_le_of_lt (Int.natAbs_ediv_le_natAbs ..) (by simpa using hx)
      have m1 : mulOk ((x : Int).fdiv y) y = true := mulOk_big q1 (by simpa using hy)
      have hf := fmod_def' (x : Int) y
      have st : (sPar [2, 3] [eP (pV 3), eP (pOp subI (pV 2) (pOp mulI (pOp fdivI (pV 2) (pV 3)) (pV 3)))]) [A, B, some (.frz (.int x)), some (.frz (.int y))] = .nx [A, B, some (.frz (.int y)), some (.frz (.int ((x : Int).fmod y)))] := by
        simp [PL.bodyM, PL.startE, PL.outsE, PL.sSeq, PL.sNx, PL.sBk, PL.sCt, PL.sNo, PL.sOf, PL.sSet, PL.sRet, PL.sRetN, PL.sDrop, PL.sIf, PL.sAsg, PL.sAug, PL.sAugIx, PL.sPar, PL.sFor, PL.eP, PL.eF, PL.eFrz, PL.eV, PL.eMv, PL.eFn, PL.eFnO, PL.eFnL, PL.lentTo, PL.eLst, PL.eTup, PL.eCall, PL.eOp, PL.eBin, PL.eIx, PL.eIf, PL.eAnd, PL.eOr, PL.eApp, PL.eAppP, PL.ePop, PL.eExt, PL.eExtM, PL.eCat, PL.eRep, PL.catD, PL.repD, PL.eComp, PL.tP, PL.tOfE, PL.tAnd, PL.tOr, PL.tNot, PL.pV, PL.bV, PL.pK, PL.pOp, PL.pChain, PL.qOf, PL.qAnd, PL.qOr, PL.qNot, PL.pAnd, PL.pOr, PL.pNot, PL.pIf, PL.pNeg, PL.pCall, PL.pFn, PL.pFnB, PL.pFnK, PL.pick, PL.pDm, PL.dmD, PL.pIx, PL.ixD, L2.atI, L2.ixN, PL.pSl, PL.pTup, PL.pF, PL.lP, PL.lKf, PL.frzs, PL.kV, PL.kIx, PL.ixC, PL.pKf, PL.bKf, PL.evPs_n, PL.evPs_c, PL.evMs_n, PL.evMs_c, PL.fCat, PL.fRep, PL.fSl, PL.evO, PL.fRev, PL.fSq, PL.sqD, PL.fList, PL.pTupL, PL.fComp, PL.enumS, PL.enumP, PL.zipP, PL.rngP, PL.rngM, PL.rngL, PL.mSq, PL.mP, PL.gV, PL.gTupD, PL.gsCons, PL.gsNil, PL.gIx, PL.paV, PL.paIx, PL.ownAt, PL.setAt, PL.getP, PL.setP, PL.intOf, PL.isFree, PL.wipeE, PL.freeE, PL.C.toD, PL.C.toDs, PL.ofV, PL.addI, PL.subI, PL.mulI, PL.fdivI, PL.modI, PL.powI, PL.cmpI, PL.iLt, PL.iLe, PL.iGt, PL.iGe, PL.eqV', PL.neV', PL.isN, PL.notN, PL.isNonD, PL.lenF, PL.absF, PL.intF, PL.strF, PL.maxF, PL.minF, PL.sumF, PL.allF, PL.anyF, PL.isiF, PL.clsD, PL.tyN, PL.isSubN, PL.intsOf, PL.blsOf, PL.flatD, PL.Out.bind, d1, m1, hf]
      have c : (tP (qOf (pOp neV' (pV 3) (pK (.int 0))))) [A, B, some (.frz (.int x)), some (.frz (.int y))] = .ok true [A, B, some (.frz (.int x)), some (.frz (.int y))] := by
        simp [tP, qOf, pOp, pV, C.toD, pK, neV', ofV, h0']
      rw [sWhile_eq, c]
      simp only [sOf, if_true]
      rw [st]
      exact ih
theorem lgcd_loop (A B : Option C) : ∀ (k : Nat) (x y : Nat), y < k → (sWhile (tP (qOf (pOp neV' (pV 3) (pK (.int 0))))) (sPar [2, 3] [eP (pV 3), eP (pOp modI (pCall intF [pV 2]) (pV 3))])) [A, B, some (.frz (.int x)), some (.frz (.int y))] = .nx [A, B, some (.frz (.int (Int.gcd x y))), some (.frz (.int 0))]
  | 0, x, y, h => by omega
  | k + 1, x, y, h => by
    by_cases h0 : y = 0
    · subst h0
      rw [sWhile_eq]
      simp [tP, qOf, pOp, pV, C.toD, pK, neV', ofV, sOf]
    · have l := Int.fmod_lt_of_pos (x : Int) (b := (y : Int)) (by omega)
      have nn := Int.fmod_nonneg_of_pos (x : Int) (b := (y : Int)) (by omega)
      have hm : ((x : Int).fmod y) = (((x : Int).fmod y).toNat : Int) := by omega
      have ih := lgcd_loop A B k y ((x : Int).fmod y).toNat (by omega)
      rw [← hm, gcd_fmod] at ih
      have h0' : ((y : Int) == 0) = false := by rw [beq_eq_false_iff_ne]; omega
      have st : (sPar [2, 3] [eP (pV 3), eP (pOp modI (pCall intF [pV 2]) (pV 3))]) [A, B, some (.frz (.int x)), some (.frz (.int y))] = .nx [A, B, some (.frz (.int y)), some (.frz (.int ((x : Int).fmod y)))] := by
        simp [PL.bodyM, PL.startE, PL.outsE, PL.sSeq, PL.sNx, PL.sBk, PL.sCt, PL.sNo, PL.sOf, PL.sSet, PL.sRet, PL.sRetN, PL.sDrop, PL.sIf, PL.sAsg, PL.sAug, PL.sAugIx, PL.sPar, PL.sFor, PL.eP, PL.eF, PL.eFrz, PL.eV, PL.eMv, PL.eFn, PL.eFnO, PL.eFnL, PL.lentTo, PL.eLst, PL.eTup, PL.eCall, PL.eOp, PL.eBin, PL.eIx, PL.eIf, PL.eAnd, PL.eOr, PL.eApp, PL.eAppP, PL.ePop, PL.eExt, PL.eExtM, PL.eCat, PL.eRep, PL.catD, PL.repD, PL.eComp, PL.tP, PL.tOfE, PL.tAnd, PL.tOr, PL.tNot, PL.pV, PL.bV, PL.pK, PL.pOp, PL.pChain, PL.qOf, PL.qAnd, PL.qOr, PL.qNot, PL.pAnd, PL.pOr, PL.pNot, PL.pIf, PL.pNeg, PL.pCall, PL.pFn, PL.pFnB, PL.pFnK, PL.pick, PL.pDm, PL.dmD, PL.pIx, PL.ixD, L2.atI, L2.ixN, PL.pSl, PL.pTup, PL.pF, PL.lP, PL.lKf, PL.frzs, PL.kV, PL.kIx, PL.ixC, PL.pKf, PL.bKf, PL.evPs_n, PL.evPs_c, PL.evMs_n, PL.evMs_c, PL.fCat, PL.fRep, PL.fSl, PL.evO, PL.fRev, PL.fSq, PL.sqD, PL.fList, PL.pTupL, PL.fComp, PL.enumS, PL.enumP, PL.zipP, PL.rngP, PL.rngM, PL.rngL, PL.mSq, PL.mP, PL.gV, PL.gTupD, PL.gsCons, PL.gsNil, PL.gIx, PL.paV, PL.paIx, PL.ownAt, PL.setAt, PL.getP, PL.setP, PL.intOf, PL.isFree, PL.wipeE, PL.freeE, PL.C.toD, PL.C.toDs, PL.ofV, PL.addI, PL.subI, PL.mulI, PL.fdivI, PL.modI, PL.powI, PL.cmpI, PL.iLt, PL.iLe, PL.iGt, PL.iGe, PL.eqV', PL.neV', PL.isN, PL.notN, PL.isNonD, PL.lenF, PL.absF, PL.intF, PL.strF, PL.maxF, PL.minF, PL.sumF, PL.allF, PL.anyF, PL.isiF, PL.clsD, PL.tyN, PL.isSubN, PL.intsOf, PL.blsOf, PL.flatD, PL.Out.bind, h0]
      have c : (tP (qOf (pOp neV' (pV 3) (pK (.int 0))))) [A, B, some (.frz (.int x)), some (.frz (.int y))] = .ok true [A, B, some (.frz (.int x)), some (.frz (.int y))] := by
        simp [tP, qOf, pOp, pV, C.toD, pK, neV', ofV, h0']
      rw [sWhile_eq, c]
      simp only [sOf, if_true]
      rw [st]
      exact ih
def DivOk (m : List C → Out C) : Prop := ∀ (g : Nat) (x : Int), g < HUGE → x.natAbs < HUGE → Gives m [.frz (.int g), .frz (.int x)] (.frz (.int (Int.gcd g x)))
theorem divisor_gen : DivOk (bodyM 4 [] 2 (sSeq (sPar [2, 3] [eP (pCall absF [pV 0]), eP (pCall absF [pV 1])]) (sSeq (sWhile (tP (qOf (pOp neV' (pV 3) (pK (.int 0))))) (sPar [2, 3] [eP (pV 3), eP (pOp subI (pV 2) (pOp mulI (pOp fdivI (pV 2) (pV 3)) (pV 3)))])) (sRet (eP (pV 2)))))) := fun g x hg hx => by
  refine gives_rt ?_
  have r := gcd_loop (some (.frz (.int g))) (some (.frz (.int x))) (x.natAbs + 1) g x.natAbs (by omega) hg hx
  have gg : Int.gcd (g : Int) (x.natAbs : Int) = Int.gcd g x := by simp [Int.gcd]
  rw [gg] at r
  refine ⟨[some (.frz (.int g)), some (.frz (.int x)), some (.frz (.int (Int.gcd g x))), some (.frz (.int 0))], ?_⟩
  rw [seq_nx (e := [some (.frz (.int g)), some (.frz (.int x)), some (.frz (.int g)), some (.frz (.int x.natAbs))]) (by
    have : ¬ ((g : Int) < 0) := by omega
    simp [PL.bodyM, PL.startE, PL.outsE, PL.sSeq, PL.sNx, PL.sBk, PL.sCt, PL.sNo, PL.sOf, PL.sSet, PL.sRet, PL.sRetN, PL.sDrop, PL.sIf, PL.sAsg, PL.sAug, PL.sAugIx, PL.sPar, PL.sFor, PL.eP, PL.eF, PL.eFrz, PL.eV, PL.eMv, PL.eFn, PL.eFnO, PL.eFnL, PL.lentTo, PL.eLst, PL.eTup, PL.eCall, PL.eOp, PL.eBin, PL.eIx, PL.eIf, PL.eAnd, PL.eOr, PL.eApp, PL.eAppP, PL.ePop, PL.eExt, PL.eExtM, PL.eCat, PL.eRep, PL.catD, PL.repD, PL.eComp, PL.tP, PL.tOfE, PL.tAnd, PL.tOr, PL.tNot, PL.pV, PL.bV, PL.pK, PL.pOp, PL.pChain, PL.qOf, PL.qAnd, PL.qOr, PL.qNot, PL.pAnd, PL.pOr, PL.pNot, PL.pIf, PL.pNeg, PL.pCall, PL.pFn, PL.pFnB, PL.pFnK, PL.pick, PL.pDm, PL.dmD, PL.pIx, PL.ixD, L2.atI, L2.ixN, PL.pSl, PL.pTup, PL.pF, PL.lP, PL.lKf, PL.frzs, PL.kV, PL.kIx, PL.ixC, PL.pKf, PL.bKf, PL.evPs_n, PL.evPs_c, PL.evMs_n, PL.evMs_c, PL.fCat, PL.fRep, PL.fSl, PL.evO, PL.fRev, PL.fSq, PL.sqD, PL.fList, PL.pTupL, PL.fComp, PL.enumS, PL.enumP, PL.zipP, PL.rngP, PL.rngM, PL.rngL, PL.mSq, PL.mP, PL.gV, PL.gTupD, PL.gsCons, PL.gsNil, PL.gIx, PL.paV, PL.paIx, PL.ownAt, PL.setAt, PL.getP, PL.setP, PL.intOf, PL.isFree, PL.wipeE, PL.freeE, PL.C.toD, PL.C.toDs, PL.ofV, PL.addI, PL.subI, PL.mulI, PL.fdivI, PL.modI, PL.powI, PL.cmpI, PL.iLt, PL.iLe, PL.iGt, PL.iGe, PL.eqV', PL.neV', PL.isN, PL.notN, PL.isNonD, PL.lenF, PL.absF, PL.intF, PL.strF, PL.maxF, PL.minF, PL.sumF, PL.allF, PL.anyF, PL.isiF, PL.clsD, PL.tyN, PL.isSubN, PL.intsOf, PL.blsOf, PL.flatD, PL.Out.bind, this]
    split <;> omega), seq_nx r]
  simp [sRet, eP, pV, C.toD, sOf]
theorem ldivisor_gen : DivOk (bodyM 4 [] 2 (sSeq (sPar [2, 3] [eP (pCall absF [pV 0]), eP (pCall absF [pV 1])]) (sSeq (sWhile (tP (qOf (pOp neV' (pV 3) (pK (.int 0))))) (sPar [2, 3] [eP (pV 3), eP (pOp modI (pCall intF [pV 2]) (pV 3))])) (sRet (eP (pV 2)))))) := fun g x hg hx => by
  refine gives_rt ?_
  have r := lgcd_loop (some (.frz (.int g))) (some (.frz (.int x))) (x.natAbs + 1) g x.natAbs (by omega)
  have gg : Int.gcd (g : Int) (x.natAbs : Int) = Int.gcd g x := by simp [Int.gcd]
  rw [gg] at r
  refine ⟨[some (.frz (.int g)), some (.frz (.int x)), some (.frz (.int (Int.gcd g x))), some (.frz (.int 0))], ?_⟩
  rw [seq_nx (e := [some (.frz (.int g)), some (.frz (.int x)), some (.frz (.int g)), some (.frz (.int x.natAbs))]) (by
    have : ¬ ((g : Int) < 0) := by omega
    simp [PL.bodyM, PL.startE, PL.outsE, PL.sSeq, PL.sNx, PL.sBk, PL.sCt, PL.sNo, PL.sOf, PL.sSet, PL.sRet, PL.sRetN, PL.sDrop, PL.sIf, PL.sAsg, PL.sAug, PL.sAugIx, PL.sPar, PL.sFor, PL.eP, PL.eF, PL.eFrz, PL.eV, PL.eMv, PL.eFn, PL.eFnO, PL.eFnL, PL.lentTo, PL.eLst, PL.eTup, PL.eCall, PL.eOp, PL.eBin, PL.eIx, PL.eIf, PL.eAnd, PL.eOr, PL.eApp, PL.eAppP, PL.ePop, PL.eExt, PL.eExtM, PL.eCat, PL.eRep, PL.catD, PL.repD, PL.eComp, PL.tP, PL.tOfE, PL.tAnd, PL.tOr, PL.tNot, PL.pV, PL.bV, PL.pK, PL.pOp, PL.pChain, PL.qOf, PL.qAnd, PL.qOr, PL.qNot, PL.pAnd, PL.pOr, PL.pNot, PL.pIf, PL.pNeg, PL.pCall, PL.pFn, PL.pFnB, PL.pFnK, PL.pick, PL.pDm, PL.dmD, PL.pIx, PL.ixD, L2.atI, L2.ixN, PL.pSl, PL.pTup, PL.pF, PL.lP, PL.lKf, PL.frzs, PL.kV, PL.kIx, PL.ixC, PL.pKf, PL.bKf, PL.evPs_n, PL.evPs_c, PL.evMs_n, PL.evMs_c, PL.fCat, PL.fRep, PL.fSl, PL.evO, PL.fRev, PL.fSq, PL.sqD, PL.fList, PL.pTupL, PL.fComp, PL.enumS, PL.enumP, PL.zipP, PL.rngP, PL.rngM, PL.rngL, PL.mSq, PL.mP, PL.gV, PL.gTupD, PL.gsCons, PL.gsNil, PL.gIx, PL.paV, PL.paIx, PL.ownAt, PL.setAt, PL.getP, PL.setP, PL.intOf, PL.isFree, PL.wipeE, PL.freeE, PL.C.toD, PL.C.toDs, PL.ofV, PL.addI, PL.subI, PL.mulI, PL.fdivI, PL.modI, PL.powI, PL.cmpI, PL.iLt, PL.iLe, PL.iGt, PL.iGe, PL.eqV', PL.neV', PL.isN, PL.notN, PL.isNonD, PL.lenF, PL.absF, PL.intF, PL.strF, PL.maxF, PL.minF, PL.sumF, PL.allF, PL.anyF, PL.isiF, PL.clsD, PL.tyN, PL.isSubN, PL.intsOf, PL.blsOf, PL.flatD, PL.Out.bind, this]
    split <;> omega), seq_nx r]
  simp [sRet, eP, pV, C.toD, sOf]
theorem gof_loop {m : List C → Out C} (hm : DivOk m) : ∀ (l : List Int) (g : Nat) (s o : Option C), g < HUGE → (∀ x ∈ l, x.natAbs < HUGE) → ∃ o', forL (gV false 2) (sSet 1 (eP (pFn m [pV 1, pV 2]))) (inD l) [s, some (.frz (.int g)), o] = .nx [s, some (.frz (.int (gcdF g l))), o']
  | [], g, s, o, _, _ => ⟨o, rfl⟩
  | x :: l, g, s, o, hg, hl => by
    obtain ⟨o', ih⟩ := gof_loop hm l (Int.gcd g x) s (some (.frz (.int x))) (gcd_lt hg (hl x (by simp))) fun y hy => hl y (by simp [hy])
    refine ⟨o', ?_⟩
    rw [gcdF_cons, ← ih]
    rw [inD_cons, forL]
    rw [show gV false 2 (.int x) [s, some (.frz (.int g)), o] = some [s, some (.frz (.int g)), some (.frz (.int x))] from rfl]
    simp only []
    have z := pFn_2 (p := pV 1) (q := pV 2) (env := [s, some (.frz (.int g)), some (.frz (.int x))]) rfl rfl (hm g x hg (hl x (by simp)))
    rw [C.toD] at z
    rw [set_ok (eP_of z)]
    rfl
def GrOk (m : List C → Out C) : Prop := ∀ l : List Int, (∀ x ∈ l, x.natAbs < HUGE) → Gives m [.frz (.lst (inD l))] (.frz (.int (gcdF 0 l)))
theorem greatest_gen {m : List C → Out C} (hm : DivOk m) : GrOk (bodyM 3 [] 1 (sSeq (sSet 1 (eP (pK (.int 0)))) (sSeq (sFor (mSq (eP (pV 0))) (gV false 2) (sSet 1 (eP (pFn m [pV 1, pV 2])))) (sRet (eP (pV 1)))))) := fun l h => by
  obtain ⟨o', e⟩ := gof_loop hm l 0 (some (.frz (.lst (inD l)))) none (Nat.two_pow_pos _) h
  refine gives_rt ⟨[some (.frz (.lst (inD l))), some (.frz (.int (gcdF 0 l))), o'], ?_⟩
  rw [show startE 3 [.frz (.lst (inD l))] = [some (.frz (.lst (inD l))), none, none] from rfl]
  rw [seq_nx (set_ok (h := eP (pK (.int 0))) rfl)]
  simp only [List.set_cons_succ, List.set_cons_zero]
  rw [seq_nx ((for_ok (src := mSq (eP (pV 0))) (l := inD l) (e := [some (.frz (.lst (inD l))), some (.frz (.int 0)), none]) rfl).trans e)]
  exact ret_ok (eP_of rfl)
theorem dvd_gcdF (d : Nat) : ∀ (l : List Int) (g : Nat), d ∣ gcdF g l ↔ d ∣ g ∧ ∀ x ∈ l, (d : Int) ∣ x
  | [], g => by simp [gcdF]
  | x :: l, g => by
    rw [gcdF_cons, dvd_gcdF d l, ← Int.natCast_dvd_natCast, Int.dvd_coe_gcd_iff, Int.natCast_dvd_natCast]
    simp only [List.mem_cons, forall_eq_or_imp, and_assoc]
theorem dvd_ext {a b : Nat} (h : ∀ d, d ∣ a ↔ d ∣ b) : a = b := Nat.dvd_antisymm ((h a).mp (Nat.dvd_refl a)) ((h b).mpr (Nat.dvd_refl b))
/-- the greatest common divisor of a plane -/
def gcdP (ps : List (List Int)) : Nat := gcdF 0 (ps.map fun l => (gcdF 0 l : Int))
theorem dvd_gcdP {d : Nat} {ps : List (List Int)} : d ∣ gcdP ps ↔ ∀ l ∈ ps, ∀ x ∈ l, (d : Int) ∣ x := by
  unfold gcdP
  rw [dvd_gcdF]
  constructor
  · intro h l hl x hx
    have := h.2 _ (List.mem_map_of_mem hl)
    have := (dvd_gcdF d l 0).mp (Int.natCast_dvd_natCast.mp this)
    exact this.2 x hx
  · intro h
    refine ⟨Nat.dvd_zero _, fun y hy => ?_⟩
    obtain ⟨l, hl, rfl⟩ := List.mem_map.mp hy
    exact Int.natCast_dvd_natCast.mpr ((dvd_gcdF d l 0).mpr ⟨Nat.dvd_zero _, h l hl⟩)
theorem co_mem {ps : List (List Int)} {l : List Int} {x : Int} (hl : l ∈ ps) (hx : x ∈ l) : ∃ i j, co ps i j = x := by
  obtain ⟨i, hi, rfl⟩ := List.getElem_of_mem hl
  obtain ⟨j, hj, rfl⟩ := List.getElem_of_mem hx
  refine ⟨i, j, ?_⟩
  unfold co
  rw [List.getD_eq_getElem?_getD (l := ps), List.getElem?_eq_getElem hi]
  show ps[i].getD j 0 = _
  rw [List.getD_eq_getElem?_getD, List.getElem?_eq_getElem hj]
  rfl
theorem Dof.gcd {t : TD} {ps : List (List Int)} (h : Dof t ps) : gcdF 0 (t.map (·.2)) = gcdP ps := by
  refine dvd_ext fun d => ?_
  rw [dvd_gcdF, dvd_gcdP]
  constructor
  · intro g l hl x hx
    obtain ⟨i, j, e⟩ := co_mem hl hx
    by_cases hz : x = 0
    · rw [hz]; exact Int.dvd_zero _
    · have := h.key (i := i) (j := j) (by rw [e]; exact hz)
      rw [← e]
      exact g.2 _ (List.mem_map.mpr ⟨_, this, rfl⟩)
  · intro g
    refine ⟨Nat.dvd_zero _, fun x hx => ?_⟩
    obtain ⟨e, he, rfl⟩ := List.mem_map.mp hx
    obtain ⟨i, j, _, e2, hi, hj⟩ := h.mem he
    rw [e2]
    unfold co
    rw [List.getD_eq_getElem?_getD (l := ps), List.getElem?_eq_getElem hi]
    show (d : Int) ∣ ps[i].getD j 0
    rw [List.getD_eq_getElem?_getD, List.getElem?_eq_getElem hj]
    exact g _ (List.getElem_mem hi) _ (List.getElem_mem hj)
/-! #### divided -/
def divP (ps : List (List Int)) (c : Int) : List (List Int) := ps.map fun l => divL l c
theorem divP_co (ps : List (List Int)) (c : Int) (i j : Nat) : co (divP ps c) i j = (co ps i j).fdiv c := by
  unfold co divP
  by_cases hi : i < ps.length
  · have e1 : (ps.map fun l => divL l c).getD i [] = divL ps[i] c := by rw [List.getD_eq_getElem?_getD, List.getElem?_map, List.getElem?_eq_getElem hi]; rfl
    have e2 : ps.getD i [] = ps[i] := by rw [List.getD_eq_getElem?_getD, List.getElem?_eq_getElem hi]; rfl
    rw [e1, e2]
    unfold divL
    by_cases hj : j < ps[i].length
    · rw [List.getD_eq_getElem?_getD, List.getElem?_map, List.getElem?_eq_getElem hj, List.getD_eq_getElem?_getD, List.getElem?_eq_getElem hj]; rfl
    · rw [getD_ge (by simp; omega), getD_ge (by omega)]; simp
  · rw [getD_ge (l := ps) (by omega), getD_ge (l := ps.map fun l => divL l c) (by simp; omega)]
    simp
theorem fdiv_nz {y c : Int} (h : c ∣ y) (hy : y ≠ 0) : y.fdiv c ≠ 0 := fun z => by
  have := fdiv_dvd h
  rw [z, Int.mul_zero] at this
  exact hy this.symm
theorem divP_pl {ps : List (List Int)} {c : Int} (p : Pl ps) (h : ∀ l ∈ ps, ∀ x ∈ l, c ∣ x) : Pl (divP ps c) := by
  refine ⟨fun r hr => ?_, fun r hr => ?_⟩
  · obtain ⟨l, hl, rfl⟩ := List.mem_map.mp hr
    intro x hx
    unfold divL at hx
    rw [List.getLast?_map] at hx
    obtain ⟨y, hy, rfl⟩ := Option.map_eq_some_iff.mp hx
    exact fdiv_nz (h l hl y (List.mem_of_getLast? hy)) (p.tr l hl y hy)
  · unfold divP at hr
    rw [List.getLast?_map] at hr
    obtain ⟨l, hl, rfl⟩ := Option.map_eq_some_iff.mp hr
    have := p.top l hl
    unfold divL
    intro z
    exact this (List.map_eq_nil_iff.mp z)
def divT (t : TD) (c : Int) : TD := t.map fun e => (e.1, e.2.fdiv c)
theorem divT_cf (t : TD) (c : Int) (k : K2) : cf (divT t c) k = (cf t k).fdiv c := by
  induction t with
  | nil => simp [divT, cf_nil]
  | cons e t ih =>
    unfold divT at ih ⊢
    rw [List.map_cons, cf_cons, cf_cons, ih]
    split <;> rfl
theorem Dof.div {t : TD} {ps : List (List Int)} {c : Int} (h : Dof t ps) (hc : ∀ l ∈ ps, ∀ x ∈ l, c ∣ x) : Dof (divT t c) (divP ps c) := by
  refine ⟨?_, fun e he => ?_, fun k => ?_⟩
  · have := h.dk
    unfold Dk divT at *
    rw [List.map_map]
    exact this
  · obtain ⟨x, hx, rfl⟩ := List.mem_map.mp he
    obtain ⟨i, j, _, e2, hi, hj⟩ := h.mem hx
    refine fdiv_nz ?_ (h.nz x hx)
    rw [e2]
    obtain ⟨_, _, e3⟩ := co_out (ps := ps) (i := i) (j := j) (by rw [← e2]; exact h.nz x hx)
    rw [e3]
    exact hc _ (List.getElem_mem hi) _ (List.getElem_mem hj)
  · rw [divT_cf, h.eq]
    split
    · rw [divP_co]
    · simp
/-- the number that a plane is divided by -/
def plainC (ps : List (List Int)) : Int := if (ps.getLastD []).getLastD 0 < 0 then 0 - (gcdP ps : Int) else gcdP ps
def plainPl (ps : List (List Int)) : List (List Int) := if ps = [] then [] else divP ps (plainC ps)
theorem plainC_dvd {ps : List (List Int)} : ∀ l ∈ ps, ∀ x ∈ l, plainC ps ∣ x := fun l hl x hx => by
  have h := dvd_gcdP.mp (Nat.dvd_refl (gcdP ps)) l hl x hx
  unfold plainC
  split
  · rw [Int.zero_sub]; exact Int.neg_dvd.mpr h
  · exact h
theorem head_nz {ps : List (List Int)} (p : Pl ps) (hp : ps ≠ []) : (ps.getLastD []).getLastD 0 ≠ 0 ∧ ps.getLastD [] ∈ ps ∧ (ps.getLastD []).getLastD 0 ∈ ps.getLastD [] := by
  have h1 := getD_last hp []
  have h2 : ps.getLastD [] ∈ ps := by
    rw [List.getLastD_eq_getLast?, h1]
    exact List.mem_of_getLast? h1
  have h3 : ps.getLastD [] ≠ [] := by
    rw [List.getLastD_eq_getLast?, h1]
    exact p.top _ h1
  have h4 := getD_last h3 0
  refine ⟨?_, h2, ?_⟩
  · rw [List.getLastD_eq_getLast? (l := ps.getLastD []), h4]
    exact p.tr _ h2 _ h4
  · rw [List.getLastD_eq_getLast? (l := ps.getLastD []), h4]
    exact List.mem_of_getLast? h4
theorem gcdP_nz {ps : List (List Int)} (p : Pl ps) (hp : ps ≠ []) : gcdP ps ≠ 0 := fun z => by
  obtain ⟨h1, h2, h3⟩ := head_nz p hp
  have := dvd_gcdP.mp (Nat.dvd_refl (gcdP ps)) _ h2 _ h3
  rw [z] at this
  exact h1 (by simpa using this)
theorem plainPl_pl {ps : List (List Int)} (p : Pl ps) : Pl (plainPl ps) := by
  unfold plainPl
  split
  · exact ⟨nofun, nofun⟩
  · exact divP_pl p plainC_dvd
end PL
/-! ### degrees, head, plain form: code -/
namespace PL
open PySem PySem.Spec PyProof.Rows L2
def headP (ps : List (List Int)) : Int := (ps.getLastD []).getLastD 0
theorem plainC_eq (ps : List (List Int)) : plainC ps = if headP ps < 0 then 0 - (gcdP ps : Int) else gcdP ps := rfl
theorem lnD_get {ps : List (List Int)} {l : List Int} (h : ps.getLast? = some l) : atI (lnD ps) (-1) = some (.lst (inD l)) := by
  obtain ⟨ys, rfl⟩ := List.getLast?_eq_some_iff.mp h
  rw [lnD_app]
  exact atI_snoc _ _
theorem inD_get {l : List Int} {x : Int} (h : l.getLast? = some x) : atI (inD l) (-1) = some (.int x) := by
  obtain ⟨ys, rfl⟩ := List.getLast?_eq_some_iff.mp h
  rw [inD_app]
  exact atI_snoc _ _
theorem lenP_q {env : Slots} {p : P} {ps : List (List Int)} (h : p env = some (.lst (lnD ps))) : pCall lenF [p] env = some (.int ps.length) ∧ qOf (pOp (cmpI iGt) (pCall lenF [p]) (pK (.int 0))) env = some (decide (ps ≠ [])) := by
  have e : pCall lenF [p] env = some (.int ps.length) := pCall_1 (v := .int ps.length) h (by simp [lenF])
  refine ⟨e, qOf_b (pOp_v (a := .int ps.length) (b := .int 0) (v := .bl (decide (ps ≠ []))) e rfl ?_)⟩
  simp only [cmpI, iGt]
  congr 2
  by_cases hh : ps = []
  · subst hh; rfl
  · have := List.length_pos_iff.mpr hh
    rw [decide_eq_true hh, decide_eq_true (by omega)]
theorem head_gen {ps : List (List Int)} (p : Pl ps) : Gives (bodyM 1 [] 1 (sRet (eP (pIf (qOf (pOp (cmpI iGt) (pCall lenF [pV 0]) (pK (.int 0)))) (pIx (pIx (pV 0) (pNeg (pK (.int 1)))) (pNeg (pK (.int 1)))) (pK (.int 0)))))) [.frz (.lst (lnD ps))] (.frz (.int (headP ps))) := by
  refine gives_rt ⟨[some (.frz (.lst (lnD ps)))], ret_ok (eP_of ?_)⟩
  rw [show startE 1 [.frz (.lst (lnD ps))] = [some (.frz (.lst (lnD ps)))] from rfl]
  unfold pIf
  rw [(lenP_q (p := pV 0) (ps := ps) rfl).2]
  by_cases hp : ps = []
  · subst hp; rfl
  · rw [decide_eq_true hp]
    have h1 := getD_last hp []
    have h2 := p.top _ h1
    have h3 := getD_last h2 0
    have e : headP ps = (ps.getD (ps.length - 1) []).getD ((ps.getD (ps.length - 1) []).length - 1) 0 := by
      unfold headP
      rw [List.getLastD_eq_getLast? (l := ps), h1]
      show (ps.getD (ps.length - 1) []).getLastD 0 = _
      rw [List.getLastD_eq_getLast?, h3]
      rfl
    have hh : pIx (pIx (pV 0) (pNeg (pK (.int 1)))) (pNeg (pK (.int 1))) [some (.frz (.lst (lnD ps)))] = some (.int (headP ps)) := by
      rw [e]
      exact pIx_ok (d := .lst (inD (ps.getD (ps.length - 1) []))) (k := .int (-1)) (pIx_ok (d := .lst (lnD ps)) (k := .int (-1)) rfl rfl (by simpa [ixD] using lnD_get h1)) rfl (by simpa [ixD] using inD_get h3)
    exact hh
theorem wide_max {ps : List (List Int)} (hp : ps ≠ []) : maxF [.lst (inD (ps.map fun l => (l.length : Int)))] = some (.int (wideI ps)) := by
  obtain ⟨m1, m2, m3⟩ := mx0_spec (ps.map fun l => (l.length : Int))
  refine maxF_of ?_ m2
  rcases m1 with m1 | m1
  · cases ps with
    | nil => exact absurd rfl hp
    | cons l ps =>
      have := m2 (l.length : Int) (by simp)
      rw [m1] at this
      show mx0 _ ∈ _
      rw [m1]
      refine List.mem_map.mpr ⟨l, by simp, ?_⟩
      omega
  · exact m1
theorem lens_comp {env : Slots} {i : Nat} {p : P} {ps : List (List Int)} (h : p env = some (.lst (lnD ps))) (hl : ps.length ≤ 1000) (hg : ∀ d, ∃ e, gV true i d (wipeE env [i]) = some e ∧ pV i e = some d) :
    pF (fComp [i] (gV true i) (fun _ => some true) (pCall lenF [pV i]) (fSq p)) env = some (.lst (inD (ps.map fun l => (l.length : Int)))) := by
  refine pF_ok (fComp_ok (fSq_ok h) (by simpa using hl) ?_)
  rw [show lnD ps = ps.map (fun l => D.lst (inD l)) from rfl, compF_mm (fun l : List Int => D.lst (inD l)) (fun l => .int (l.length : Int))]
  · simp [inD, List.map_map, Function.comp_def]
  · intro l _
    obtain ⟨e, h1, h2⟩ := hg (.lst (inD l))
    exact ⟨e, h1, rfl, pCall_1 (v := .int l.length) h2 (by simp [lenF])⟩
theorem degrees_gen {ps : List (List Int)} (hl : ps.length ≤ 1000) : Gives (bodyM 2 [] 1 (sRet (eP (pTup [pOp subI (pCall lenF [pV 0]) (pK (.int 1)), pIf (qOf (pOp (cmpI iGt) (pCall lenF [pV 0]) (pK (.int 0)))) (pOp subI (pCall maxF [pF (fComp [1] (gV true 1) (fun _ => some true) (pCall lenF [pV 1]) (fSq (pV 0)))]) (pK (.int 1))) (pNeg (pK (.int 1)))])))) [.frz (.lst (lnD ps))] (.frz (.tup [.int ((ps.length : Int) - 1), .int (wideI ps - 1)])) := by
  refine gives_rt ⟨[some (.frz (.lst (lnD ps))), none], ret_ok (eP_of (tup2 ?_ ?_))⟩
  · exact pOp_v (a := .int ps.length) (b := .int 1) (v := .int ((ps.length : Int) - 1)) (lenP_q (ps := ps) rfl).1 rfl rfl
  · unfold pIf
    rw [(lenP_q (p := pV 0) (ps := ps) rfl).2]
    by_cases hp : ps = []
    · subst hp; rfl
    · rw [decide_eq_true hp]
      exact pOp_v (a := .int (wideI ps)) (b := .int 1) (v := .int (wideI ps - 1)) (pCall_1 (v := .int (wideI ps)) (lens_comp rfl hl fun d => ⟨_, rfl, rfl⟩) (wide_max hp)) rfl rfl
def BigP (ps : List (List Int)) : Prop := ∀ l ∈ ps, ∀ x ∈ l, x.natAbs < HUGE
theorem divisor_of_gen {gr : List C → Out C} (hg : GrOk gr) {ps : List (List Int)} (hl : ps.length ≤ 1000) (hb : BigP ps) : Gives (bodyM 2 [] 1 (sRet (eP (pFn gr [pF (fComp [1] (gV true 1) (fun _ => some true) (pFn gr [pV 1]) (fSq (pV 0)))])))) [.frz (.lst (lnD ps))] (.frz (.int (gcdP ps))) := by
  have cm : pF (fComp [1] (gV true 1) (fun _ => some true) (pFn gr [pV 1]) (fSq (pV 0))) [some (.frz (.lst (lnD ps))), none] = some (.lst (inD (ps.map fun l => (gcdF 0 l : Int)))) := by
    refine pF_ok (fComp_ok (fSq_ok rfl) (by simpa using hl) ?_)
    rw [show lnD ps = ps.map (fun l => D.lst (inD l)) from rfl, compF_mm (fun l : List Int => D.lst (inD l)) (fun l => .int (gcdF 0 l : Int))]
    · simp [inD, List.map_map, Function.comp_def]
    · intro l hl'
      refine ⟨[some (.frz (.lst (ps.map fun l => D.lst (inD l)))), some (.frz (.lst (inD l)))], rfl, rfl, ?_⟩
      have z := pFn_1 (p := pV 1) (env := [some (.frz (.lst (ps.map fun l => D.lst (inD l)))), some (.frz (.lst (inD l)))]) rfl (hg l (hb l hl'))
      rw [C.toD] at z
      exact z
  have z := pFn_1 cm (hg _ fun x hx => by
    obtain ⟨l, hl', rfl⟩ := List.mem_map.mp hx
    have := gcdF_lt (K := HUGE) (g := 0) (Nat.two_pow_pos _) (hb l hl')
    simpa using this)
  rw [C.toD] at z
  exact gives_rt ⟨[some (.frz (.lst (lnD ps))), none], ret_ok (eP_of z)⟩
/-- a plane that is the caller's own through and through -/
def ownP (ps : List (List Int)) : C := .own (ps.map fun l => .own (fz (inD l)))
theorem ownP_toD (ps : List (List Int)) : (ownP ps).toD = .lst (lnD ps) := by
  unfold ownP
  rw [C.toD, toDs_map, List.map_map]
  congr 1
  exact List.map_congr_left fun l _ => by simp [C.toD]
theorem made_gen {pd hd : List C → Out C} {ps : List (List Int)} (p : Pl ps) (hl : ps.length ≤ 1000) (hr : ∀ l ∈ ps, l.length ≤ 1000) (hb : BigP ps) (h1 : Gives pd [.frz (.lst (lnD ps))] (.frz (.int (gcdP ps)))) (h2 : Gives hd [.frz (.lst (lnD ps))] (.frz (.int (headP ps)))) :
    Gives (bodyM 4 [] 1 (sSeq (sSet 1 (eP (pFn pd [pV 0]))) (sSeq (sIf (tP (qOf (pOp eqV' (pV 1) (pK (.int 0))))) (sRet (eLst [])) (sNx)) (sSeq (sIf (tP (qOf (pOp (cmpI iLt) (pFn hd [pV 0]) (pK (.int 0))))) (sSet 1 (eP (pOp subI (pK (.int 0)) (pV 1)))) (sNx)) (sRet (eComp [2] (gV true 2) (fun _ => some true) (eF (fComp [3] (gV true 3) (fun _ => some true) (pOp fdivI (pV 3) (pV 1)) (fSq (pV 2)))) (mSq (eP (pV 0))))))))) [.frz (.lst (lnD ps))] (ownP (plainPl ps)) := by
  refine gives_rt ?_
  rw [show startE 4 [.frz (.lst (lnD ps))] = [some (.frz (.lst (lnD ps))), none, none, none] from rfl]
  have z1 := pFn_1 (p := pV 0) (env := [some (.frz (.lst (lnD ps))), none, none, none]) rfl h1
  rw [C.toD] at z1
  have s1 := set_ok (i := 1) (eP_of z1)
  simp only [List.set_cons_succ, List.set_cons_zero] at s1
  rw [seq_nx s1]
  have q1 : qOf (pOp eqV' (pV 1) (pK (.int 0))) [some (.frz (.lst (lnD ps))), some (.frz (.int (gcdP ps))), none, none] = some ((gcdP ps : Int) == 0) := qOf_b (pOp_v (a := .int (gcdP ps)) (b := .int 0) (v := .bl ((gcdP ps : Int) == 0)) rfl rfl (by simp only [eqV', eqD_int, Option.map_some]))
  by_cases hp : ps = []
  · subst hp
    rw [show ((gcdP [] : Int) == 0) = true from rfl] at q1
    refine ⟨[some (.frz (.lst (lnD []))), some (.frz (.int (gcdP []))), none, none], seq_rt ?_⟩
    rw [if_t (tP_of q1)]
    rfl
  · have g0 := gcdP_nz p hp
    rw [show ((gcdP ps : Int) == 0) = false by rw [beq_eq_false_iff_ne]; omega] at q1
    rw [seq_nx (if_no (tP_of q1))]
    have z2 := pFn_1 (p := pV 0) (env := [some (.frz (.lst (lnD ps))), some (.frz (.int (gcdP ps))), none, none]) rfl h2
    rw [C.toD] at z2
    have q2 : qOf (pOp (cmpI iLt) (pFn hd [pV 0]) (pK (.int 0))) [some (.frz (.lst (lnD ps))), some (.frz (.int (gcdP ps))), none, none] = some (decide (headP ps < 0)) := qOf_b (pOp_v (a := .int (headP ps)) (b := .int 0) (v := .bl (decide (headP ps < 0))) z2 rfl rfl)
    have s2 : (sIf (tP (qOf (pOp (cmpI iLt) (pFn hd [pV 0]) (pK (.int 0))))) (sSet 1 (eP (pOp subI (pK (.int 0)) (pV 1)))) (sNx)) [some (.frz (.lst (lnD ps))), some (.frz (.int (gcdP ps))), none, none] = .nx [some (.frz (.lst (lnD ps))), some (.frz (.int (plainC ps))), none, none] := by
      rw [plainC_eq]
      by_cases hn : headP ps < 0
      · rw [decide_eq_true hn] at q2
        rw [if_t (tP_of q2), if_pos hn]
        rfl
      · rw [decide_eq_false hn] at q2
        rw [if_no (tP_of q2), if_neg hn]
    rw [seq_nx s2]
    have c0 : plainC ps ≠ 0 := by
      unfold plainC
      split <;> omega
    refine ⟨[some (.frz (.lst (lnD ps))), some (.frz (.int (plainC ps))), none, none], ret_ok ?_⟩
    have cm : compM [2] (gV true 2) (fun _ => some true) (eF (fComp [3] (gV true 3) (fun _ => some true) (pOp fdivI (pV 3) (pV 1)) (fSq (pV 2)))) (lnD ps) [some (.frz (.lst (lnD ps))), some (.frz (.int (plainC ps))), none, none] = some ((lnD ps).map (fun d => match d with | .lst l => .own (fz (inD (divL ((intsOf l).getD []) (plainC ps)))) | d => .frz d), [some (.frz (.lst (lnD ps))), some (.frz (.int (plainC ps))), none, none]) := by
      refine compM_map _ fun d hd => ?_
      obtain ⟨l, hl', rfl⟩ := List.mem_map.mp hd
      refine ⟨[some (.frz (.lst (lnD ps))), some (.frz (.int (plainC ps))), some (.frz (.lst (inD l))), none], [some (.frz (.lst (lnD ps))), some (.frz (.int (plainC ps))), some (.frz (.lst (inD l))), none], rfl, ?_, rfl⟩
      simp only [intsOf_inD, Option.getD_some]
      refine eF_ok (fComp_ok (fSq_ok rfl) (by have := hr l hl'; simpa using this) ?_)
      exact compF_int (fun y => y.fdiv (plainC ps)) fun y hy => ⟨[some (.frz (.lst (lnD ps))), some (.frz (.int (plainC ps))), some (.frz (.lst (inD l))), some (.frz (.int y))], rfl, rfl, pOp_v (a := .int y) (b := .int (plainC ps)) (v := .int (y.fdiv (plainC ps))) rfl rfl (by simp only [fdivI, divOk_big c0 (hb l hl' y hy), if_true])⟩
    have ec := eComp_ok (vs := [2]) (t := gV true 2) (q := fun _ => some true) (src := mSq (eP (pV 0))) (env := [some (.frz (.lst (lnD ps))), some (.frz (.int (plainC ps))), none, none]) rfl rfl (by simp; omega) cm
    have ee : ownP (plainPl ps) = .own ((lnD ps).map (fun d => match d with | .lst l => .own (fz (inD (divL ((intsOf l).getD []) (plainC ps)))) | d => .frz d)) := by
      unfold ownP plainPl
      rw [if_neg hp]
      unfold divP lnD
      rw [List.map_map, List.map_map]
      congr 1
      exact List.map_congr_left fun l _ => by simp
    rw [ee]
    exact ec
/-! #### the law's side -/
theorem max_ok {env : Slots} {p : P} {t : TD} {ps : List (List Int)} (h : p env = some (dL t)) (d : Dof t ps) (q : Pl ps) (hp : ps ≠ []) : pDix p (pMaxT p) env = some (.int (headP ps)) := by
  obtain ⟨e, r, rfl, m1, m2⟩ := d.max q hp
  refine pDix_ok (t := e :: r) (k := (((ps.length - 1 : Nat) : Int), (((ps.getLastD []).length - 1 : Nat) : Int))) h ?_ m2
  unfold pMaxT
  rw [h]
  have ha : ((tdD (e :: r)).all fun kv => isPair kv.1) = true := by
    refine List.all_eq_true.mpr fun kv hkv => ?_
    obtain ⟨x, _, rfl⟩ := List.mem_map.mp hkv
    rfl
  have hm : (tdD r).map (·.1) = r.map fun e => kk e.1 := by
    unfold tdD
    rw [List.map_map]
    rfl
  show (if ((tdD (e :: r)).all fun kv => isPair kv.1) = true then some (dKey (maxKs (kk e.1) ((tdD r).map (·.1)))) else none) = _
  rw [if_pos ha, hm, m1]
  rfl
theorem dof_nil {t : TD} {ps : List (List Int)} (d : Dof t ps) (q : Pl ps) : t = [] ↔ ps = [] := by
  constructor
  · intro h
    by_cases hp : ps = []
    · exact hp
    · obtain ⟨e, r, h2, _⟩ := d.max q hp
      rw [h] at h2; cases h2
  · intro h
    cases t with
    | nil => rfl
    | cons e r =>
      obtain ⟨i, j, _, _, hi, _⟩ := d.mem (e := e) (by simp)
      rw [h] at hi
      simp at hi
theorem lplain_gen {dv : List C → Out C} (hg : GrOk dv) {t : TD} {ps : List (List Int)} (d : Dof t ps) (q : Pl ps) (hl : t.length ≤ 1000) (hb : BigP ps) :
    ∃ t', Gives (bodyM 3 [] 1 (sSeq (sIf (tP (qOf (pOp eq0V (pV 0) (pK (.dct []))))) (sRet (eLk (eDnew))) (sNx)) (sSeq (sSet 1 (eP (pFn dv [pF (fComp [2] (gV true 2) (fun _ => some true) (pDix (pV 0) (pV 2)) (fKeys (pV 0)))]))) (sSeq (sSet 1 (eP (pIf (qOf (pOp (cmpI iGt) (pDix (pV 0) (pMaxT (pV 0))) (pK (.int 0)))) (pV 1) (pOp subI (pK (.int 0)) (pV 1))))) (sRet (eLk (eDictT (pF (fComp [2] (gV true 2) (fun _ => some true) (pTup [pV 2, pOp fdivI (pDix (pV 0) (pV 2)) (pV 1)]) (fKeys (pV 0))))))))))) [.frz (dL t)] (.frz (dL t')) ∧ Dof t' (plainPl ps) ∧ t'.length ≤ t.length ∧ ∀ e ∈ t', ∃ f ∈ t, e.1 = f.1 := by
  have q0 : qOf (pOp eq0V (pV 0) (pK (.dct []))) [some (.frz (dL t)), none, none] = some t.isEmpty := qOf_b (pOp_v (a := dL t) (b := .dct []) (v := .bl t.isEmpty) rfl rfl (by
    cases t <;> rfl))
  by_cases hp : ps = []
  · have ht := (dof_nil d q).mpr hp
    subst hp
    subst ht
    refine ⟨[], gives_rt ⟨[some (.frz (dL [])), none, none], seq_rt ?_⟩, ?_, Nat.le_refl _, nofun⟩
    · rw [show startE 3 [.frz (dL [])] = [some (.frz (dL [])), none, none] from rfl, if_t (tP_of q0)]
      rfl
    · rw [show plainPl [] = [] from rfl]
      exact d
  · have ht : t ≠ [] := fun z => hp ((dof_nil d q).mp z)
    have he : t.isEmpty = false := by cases t <;> first | exact absurd rfl ht | rfl
    rw [he] at q0
    have hv : ∀ e ∈ t, e.2.natAbs < HUGE := fun e he => by
      obtain ⟨i, j, _, e2, hi, hj⟩ := d.mem he
      obtain ⟨_, _, e3⟩ := co_out (ps := ps) (i := i) (j := j) (by rw [← e2]; exact d.nz e he)
      rw [e2, e3]
      exact hb _ (List.getElem_mem hi) _ (List.getElem_mem hj)
    have cm : pF (fComp [2] (gV true 2) (fun _ => some true) (pDix (pV 0) (pV 2)) (fKeys (pV 0))) [some (.frz (dL t)), none, none] = some (.lst (inD (t.map (·.2)))) := by
      refine pF_ok (fComp_ok (fKeys_ok rfl) (by simpa using hl) ?_)
      rw [compF_mm (fun e : K2 × Int => kD e.1) (fun e => .int e.2)]
      · simp [inD, List.map_map, Function.comp_def]
      · intro e he
        exact ⟨[some (.frz (dL t)), none, some (.frz (kD e.1))], rfl, rfl, pDix_ok rfl rfl (cf_mem d.dk he)⟩
    have z := pFn_1 cm (hg _ fun x hx => by
      obtain ⟨e, he, rfl⟩ := List.mem_map.mp hx
      exact hv e he)
    rw [C.toD, d.gcd] at z
    have s1 := set_ok (i := 1) (eP_of z)
    simp only [List.set_cons_succ, List.set_cons_zero] at s1
    have mx := max_ok (p := pV 0) (env := [some (.frz (dL t)), some (.frz (.int (gcdP ps))), none]) rfl d q hp
    have q2 : qOf (pOp (cmpI iGt) (pDix (pV 0) (pMaxT (pV 0))) (pK (.int 0))) [some (.frz (dL t)), some (.frz (.int (gcdP ps))), none] = some (decide (0 < headP ps)) := qOf_b (pOp_v (a := .int (headP ps)) (b := .int 0) (v := .bl (decide (0 < headP ps))) mx rfl rfl)
    have hz := (head_nz q hp).1
    have hz : headP ps ≠ 0 := hz
    have s2 : (sSet 1 (eP (pIf (qOf (pOp (cmpI iGt) (pDix (pV 0) (pMaxT (pV 0))) (pK (.int 0)))) (pV 1) (pOp subI (pK (.int 0)) (pV 1))))) [some (.frz (dL t)), some (.frz (.int (gcdP ps))), none] = .nx [some (.frz (dL t)), some (.frz (.int (plainC ps))), none] := by
      refine set_ok (c := .frz (.int (plainC ps))) (e := [some (.frz (dL t)), some (.frz (.int (gcdP ps))), none]) (eP_of ?_)
      rw [plainC_eq]
      unfold pIf
      rw [q2]
      by_cases hn : headP ps < 0
      · rw [decide_eq_false (by omega), if_pos hn]
        rfl
      · rw [decide_eq_true (by omega), if_neg hn]
        rfl
    have g0 := gcdP_nz q hp
    have c0 : plainC ps ≠ 0 := by
      unfold plainC
      split <;> omega
    have dd := d.div plainC_dvd
    have er := eDictT_ok (t := divT t (plainC ps)) (p := pF (fComp [2] (gV true 2) (fun _ => some true) (pTup [pV 2, pOp fdivI (pDix (pV 0) (pV 2)) (pV 1)]) (fKeys (pV 0)))) (env := [some (.frz (dL t)), some (.frz (.int (plainC ps))), none]) (by
      refine pF_ok (fComp_ok (fKeys_ok rfl) (by simpa using hl) ?_)
      rw [compF_mm (fun e : K2 × Int => kD e.1) (fun e => .tup [kD e.1, .int (e.2.fdiv (plainC ps))])]
      · simp [divT, List.map_map, Function.comp_def]
      · intro e he
        exact ⟨[some (.frz (dL t)), some (.frz (.int (plainC ps))), some (.frz (kD e.1))], rfl, rfl, tup2 rfl (pOp_v (a := .int e.2) (b := .int (plainC ps)) (v := .int (e.2.fdiv (plainC ps))) (pDix_ok rfl rfl (cf_mem d.dk he)) rfl (by simp only [fdivI, divOk_big c0 (hv e he), if_true]))⟩) dd.dk
    refine ⟨divT t (plainC ps), gives_rt ⟨[some (.frz (dL t)), some (.frz (.int (plainC ps))), none], ?_⟩, ?_, by simp [divT], fun e he => ?_⟩
    · rw [show startE 3 [.frz (dL t)] = [some (.frz (dL t)), none, none] from rfl, seq_nx (if_no (tP_of q0)), seq_nx s1, seq_nx s2]
      exact ret_ok er
    · unfold plainPl
      rw [if_neg hp]
      exact dd
    · obtain ⟨x, hx, rfl⟩ := List.mem_map.mp he
      exact ⟨x, hx, rfl⟩
end PL
namespace k21
open PySem PySem.Spec PyProof.Rows L2 PL
noncomputable def is_integer_b : SS := sRet (eP (pAnd (pCall isiF [pV 0, pK (.opq (.ty "int"))]) (pNot (pCall isiF [pV 0, pK (.opq (.ty "bool"))]))))
noncomputable def is_integer_m : List C → Out C := bodyM 1 [] 1 is_integer_b
noncomputable def is_list_b : SS := sRet (eP (pCall isiF [pV 0, pTup [pK (.opq (.ty "list")), pK (.opq (.ty "tuple"))]]))
noncomputable def is_list_m : List C → Out C := bodyM 1 [] 1 is_list_b
noncomputable def divisor_of_b : SS := sSeq (sPar [2, 3] [eP (pCall absF [pV 0]), eP (pCall absF [pV 1])]) (sSeq (sWhile (tP (qOf (pOp neV' (pV 3) (pK (.int 0))))) (sPar [2, 3] [eP (pV 3), eP (pOp subI (pV 2) (pOp mulI (pOp fdivI (pV 2) (pV 3)) (pV 3)))])) (sRet (eP (pV 2))))
noncomputable def divisor_of_m : List C → Out C := bodyM 4 [] 2 divisor_of_b
noncomputable def degrees_of_b : SS := sRet (eP (pTup [pOp subI (pCall lenF [pV 0]) (pK (.int 1)), pIf (qOf (pOp (cmpI iGt) (pCall lenF [pV 0]) (pK (.int 0)))) (pOp subI (pCall maxF [pF (fComp [1] (gV true 1) (fun _ => some true) (pCall lenF [pV 1]) (fSq (pV 0)))]) (pK (.int 1))) (pNeg (pK (.int 1)))]))
noncomputable def degrees_of_m : List C → Out C := bodyM 2 [] 1 degrees_of_b
noncomputable def head_of_plane_b : SS := sRet (eP (pIf (qOf (pOp (cmpI iGt) (pCall lenF [pV 0]) (pK (.int 0)))) (pIx (pIx (pV 0) (pNeg (pK (.int 1)))) (pNeg (pK (.int 1)))) (pK (.int 0))))
noncomputable def head_of_plane_m : List C → Out C := bodyM 1 [] 1 head_of_plane_b
noncomputable def _law_pot_b : SS := sSeq (sSet 2 (eP (pIf (qOf (pOp (cmpI iLt) (pV 1) (pCall lenF [pV 0]))) (pCall absF [pIx (pV 0) (pV 1)]) (pOp addI (pOp mulI (pK (.int 83)) (pV 1)) (pK (.int 127)))))) (sRet (eF (evPs [pCall maxF [pK (.int 0), pOp subI (pV 2) (pOp powI (pK (.int 10)) (pK (.int 18)))], pOp addI (pOp modI (pCall intF [pOp addI (pOp addI (pOp mulI (pOp modI (pCall intF [pV 2]) (pK (.int 2147483549))) (pK (.int 48271))) (pOp mulI (pK (.int 4421)) (pV 1))) (pK (.int 109))]) (pK (.int 2147483579))) (pK (.int 1))])))
noncomputable def _law_pot_m : List C → Out C := bodyM 3 [] 2 _law_pot_b
noncomputable def _law_draw_b : SS := sSeq (sIf (tP (qOf (pOp (cmpI iGt) (bKf (kIx (kV 0) (pK (.int 0)))) (pK (.int 0))))) (sSeq (sAsg (eP (pDm (bKf (kIx (kV 0) (pK (.int 0)))) (pV 1))) (gTupD 2 (gsCons (gIx 0 (paV 0) (pK (.int 0))) (gsCons (gV false 2) gsNil)))) (sRet (eP (pV 2)))) (sNx)) (sSeq (sAsg (eP (pOp modI (pCall intF [pOp addI (pOp mulI (bKf (kIx (kV 0) (pK (.int 1)))) (pK (.int 39373))) (pK (.int 565))]) (pK (.int 2147483629)))) (gIx 0 (paV 0) (pK (.int 1)))) (sRet (eP (pOp modI (pCall intF [pOp fdivI (pOp modI (pCall intF [pOp mulI (bKf (kIx (kV 0) (pK (.int 1)))) (bKf (kIx (kV 0) (pK (.int 1))))]) (pK (.int 2147483587))) (pK (.int 13))]) (pV 1)))))
noncomputable def _law_draw_m : List C → Out C := bodyM 3 [0] 2 _law_draw_b
noncomputable def _law_dict_b : SS := sSeq (sSet 1 (eDnew)) (sSeq (sFor (mP (enumS (pV 0))) (gTupD 2 (gsCons (gV false 2) (gsCons (gV false 3) gsNil))) (sFor (mP (enumS (pV 3))) (gTupD 2 (gsCons (gV false 4) (gsCons (gV false 5) gsNil))) (sIf (tP (qOf (pOp neV' (pV 5) (pK (.int 0))))) (sDput 1 (pTup [pV 2, pV 4]) (eP (pV 5))) (sNx)))) (sRet (eLk (eMv 1))))
noncomputable def _law_dict_m : List C → Out C := bodyM 6 [] 1 _law_dict_b
noncomputable def _law_listed_b : SS := sSeq (sSet 1 (eF (evPs []))) (sSeq (sFor (rngM [eP (pCall maxF [pF (fCat (evPs [pK (.int 0)]) (fComp [5] (gV true 5) (fun _ => some true) (pOp addI (pIx (pV 5) (pK (.int 0))) (pK (.int 1))) (fKeys (pV 0))))])]) (gV false 2) (sSeq (sSet 3 (eP (pCall maxF [pF (fCat (evPs [pK (.int 0)]) (fComp [5] (gV true 5) (qOf (pOp eqV' (pIx (pV 5) (pK (.int 0))) (pV 2))) (pOp addI (pIx (pV 5) (pK (.int 1))) (pK (.int 1))) (fKeys (pV 0))))]))) (sDrop (eApp 1 (eP (pF (fComp [4] (gV true 4) (fun _ => some true) (pDget (pV 0) (pTup [pV 2, pV 4]) (pK (.int 0))) (rngP [pV 3])))))))) (sRet (eV 1)))
noncomputable def _law_listed_m : List C → Out C := bodyM 6 [] 1 _law_listed_b
noncomputable def _law_bare_b : SS := sRet (eLk (eDictT (pF (fComp [1] (gV true 1) (qOf (pOp neV' (pDix (pV 0) (pV 1)) (pK (.int 0)))) (pTup [pV 1, pDix (pV 0) (pV 1)]) (fKeys (pV 0))))))
noncomputable def _law_bare_m : List C → Out C := bodyM 2 [] 1 _law_bare_b
noncomputable def _law_degrees_b : SS := sRet (eP (pTup [pCall maxF [pF (fCat (evPs [pNeg (pK (.int 1))]) (fComp [1] (gV true 1) (fun _ => some true) (pIx (pV 1) (pK (.int 0))) (fKeys (pV 0))))], pCall maxF [pF (fCat (evPs [pNeg (pK (.int 1))]) (fComp [1] (gV true 1) (fun _ => some true) (pIx (pV 1) (pK (.int 1))) (fKeys (pV 0))))]]))
noncomputable def _law_degrees_m : List C → Out C := bodyM 2 [] 1 _law_degrees_b
noncomputable def _law_divisor_b : SS := sSeq (sPar [2, 3] [eP (pCall absF [pV 0]), eP (pCall absF [pV 1])]) (sSeq (sWhile (tP (qOf (pOp neV' (pV 3) (pK (.int 0))))) (sPar [2, 3] [eP (pV 3), eP (pOp modI (pCall intF [pV 2]) (pV 3))])) (sRet (eP (pV 2))))
noncomputable def _law_divisor_m : List C → Out C := bodyM 4 [] 2 _law_divisor_b
noncomputable def _law_is_integer_b : SS := sRet (eP (pAnd (pCall isiF [pV 0, pK (.opq (.ty "int"))]) (pNot (pCall isiF [pV 0, pK (.opq (.ty "bool"))]))))
noncomputable def _law_is_integer_m : List C → Out C := bodyM 1 [] 1 _law_is_integer_b
noncomputable def _law_is_row_b : SS := sRet (eP (pAnd (pCall isiF [pV 0, pTup [pK (.opq (.ty "list")), pK (.opq (.ty "tuple"))]]) (pOp (cmpI iLe) (pCall lenF [pV 0]) (pV 1))))
noncomputable def _law_is_row_m : List C → Out C := bodyM 2 [] 2 _law_is_row_b
noncomputable def greatest_of_b : SS := sSeq (sSet 1 (eP (pK (.int 0)))) (sSeq (sFor (mSq (eP (pV 0))) (gV false 2) (sSet 1 (eP (pFn divisor_of_m [pV 1, pV 2])))) (sRet (eP (pV 1))))
noncomputable def greatest_of_m : List C → Out C := bodyM 3 [] 1 greatest_of_b
noncomputable def plane_in_b : SS := sSeq (sIf (tP (qOr (qNot (qOf (pFn is_list_m [pV 0]))) (qOf (pOp (cmpI iGt) (pCall lenF [pV 0]) (pOp addI (pK (.int 8)) (pK (.int 1))))))) (sRet (eP (pK .non))) (sNx)) (sSeq (sFor (mSq (eP (pV 0))) (gV false 1) (sSeq (sIf (tP (qOr (qNot (qOf (pFn is_list_m [pV 1]))) (qOr (qOf (pOp (cmpI iGt) (pCall lenF [pV 1]) (pOp addI (pK (.int 8)) (pK (.int 1))))) (qNot (qOf (pCall allF [pF (fComp [2] (gV true 2) (fun _ => some true) (pFn is_integer_m [pV 2]) (fSq (pV 1)))])))))) (sRet (eP (pK .non))) (sNx)) (sIf (tP (qAnd (qOf (pOp (cmpI iGt) (pCall lenF [pV 1]) (pK (.int 0)))) (qOf (pOp eqV' (pIx (pV 1) (pNeg (pK (.int 1)))) (pK (.int 0)))))) (sRet (eP (pK .non))) (sNx)))) (sSeq (sIf (tP (qAnd (qOf (pOp (cmpI iGt) (pCall lenF [pV 0]) (pK (.int 0)))) (qOf (pOp eqV' (pCall lenF [pIx (pV 0) (pNeg (pK (.int 1)))]) (pK (.int 0)))))) (sRet (eP (pK .non))) (sNx)) (sRet (eP (pF (fComp [1] (gV true 1) (fun _ => some true) (pF (fSq (pV 1))) (fSq (pV 0))))))))
noncomputable def plane_in_m : List C → Out C := bodyM 3 [] 1 plane_in_b
noncomputable def change_in_b : SS := sSeq (sIf (tP (qOr (qNot (qOf (pFn is_list_m [pV 0]))) (qOr (qOf (pOp neV' (pCall lenF [pV 0]) (pK (.int 6)))) (qNot (qOf (pCall allF [pF (fComp [1] (gV true 1) (fun _ => some true) (pFn is_integer_m [pV 1]) (fSq (pV 0)))])))))) (sRet (eP (pK .non))) (sNx)) (sRet (eP (pIf (qOf (pOp neV' (pOp mulI (pIx (pV 0) (pK (.int 0))) (pIx (pV 0) (pK (.int 4)))) (pOp mulI (pIx (pV 0) (pK (.int 1))) (pIx (pV 0) (pK (.int 3)))))) (pF (fSq (pV 0))) (pK .non))))
noncomputable def change_in_m : List C → Out C := bodyM 2 [] 1 change_in_b
noncomputable def _law_times_b : SS := sSeq (sSet 2 (eDnew)) (sSeq (sFor (mKeys (eP (pV 0))) (gV false 3) (sFor (mKeys (eP (pV 1))) (gV false 4) (sSeq (sSet 5 (eP (pTup [pOp addI (pIx (pV 3) (pK (.int 0))) (pIx (pV 4) (pK (.int 0))), pOp addI (pIx (pV 3) (pK (.int 1))) (pIx (pV 4) (pK (.int 1)))]))) (sDput 2 (pV 5) (eP (pOp addI (pDget (bV 2) (pV 5) (pK (.int 0))) (pOp mulI (pDix (pV 0) (pV 3)) (pDix (pV 1) (pV 4))))))))) (sRet (eFn _law_bare_m [eLk (eMv 2)])))
noncomputable def _law_times_m : List C → Out C := bodyM 6 [] 2 _law_times_b
noncomputable def _law_divisor_of_b : SS := sSeq (sSet 1 (eP (pK (.int 0)))) (sSeq (sFor (mSq (eP (pV 0))) (gV false 2) (sSet 1 (eP (pFn _law_divisor_m [pV 1, pV 2])))) (sRet (eP (pV 1))))
noncomputable def _law_divisor_of_m : List C → Out C := bodyM 3 [] 1 _law_divisor_of_b
noncomputable def _law_piece_b : SS := sSeq (sPar [1, 2] [eFnL _law_draw_m 0 [eP (pK (.int 6))], eDnew]) (sSeq (sSet 3 (eP (pIx (pF (evPs [pF (evPs [pTup [pK (.int 1), pK (.int 0)], pTup [pK (.int 0), pK (.int 1)], pTup [pK (.int 0), pK (.int 0)]]), pF (evPs [pTup [pK (.int 1), pK (.int 1)], pTup [pK (.int 0), pK (.int 0)], pTup [pK (.int 1), pK (.int 0)]]), pF (evPs [pTup [pK (.int 2), pK (.int 0)], pTup [pK (.int 0), pK (.int 1)], pTup [pK (.int 0), pK (.int 0)]]), pF (evPs [pTup [pK (.int 1), pK (.int 0)], pTup [pK (.int 0), pK (.int 2)], pTup [pK (.int 0), pK (.int 0)]]), pF (evPs [pTup [pK (.int 2), pK (.int 0)], pTup [pK (.int 0), pK (.int 2)], pTup [pK (.int 0), pK (.int 0)]]), pF (evPs [pTup [pK (.int 1), pK (.int 0)], pTup [pK (.int 0), pK (.int 0)]])])) (pV 1)))) (sSeq (sFor (mSq (eP (pV 3))) (gV false 4) (sDput 2 (pV 4) (eOp subI (eFnL _law_draw_m 0 [eP (pK (.int 9))]) (eP (pK (.int 4)))))) (sSeq (sDput 2 (pIx (pV 3) (pK (.int 0))) (eOp addI (eP (pK (.int 1))) (eFnL _law_draw_m 0 [eP (pK (.int 3))]))) (sRet (eFn _law_bare_m [eLk (eMv 2)])))))
noncomputable def _law_piece_m : List C → Out C := bodyM 5 [0] 1 _law_piece_b
noncomputable def _law_given_b : SS := sSeq (sSet 2 (eF (evPs []))) (sSeq (sFor (mSq (eP (pV 1))) (gV false 3) (sDrop (eApp 2 (eIf (tOfE (eOp eqV' (eFnL _law_draw_m 0 [eP (pK (.int 3))]) (eP (pK (.int 0))))) (eP (pTupL (lP (pV 3)))) (eP (pF (fSq (pV 3)))))))) (sRet (eIf (tOfE (eOp eqV' (eFnL _law_draw_m 0 [eP (pK (.int 3))]) (eP (pK (.int 0))))) (eP (pTupL (lKf (kV 2)))) (eV 2))))
noncomputable def _law_given_m : List C → Out C := bodyM 4 [0] 2 _law_given_b
noncomputable def _law_is_plane_b : SS := sSeq (sIf (tP (qOr (qNot (qOf (pFn _law_is_row_m [pV 0, pK (.int 9)]))) (qNot (qOf (pCall allF [pF (fComp [1] (gV true 1) (fun _ => some true) (pFn _law_is_row_m [pV 1, pK (.int 9)]) (fSq (pV 0)))]))))) (sRet (eP (pK (.bl false)))) (sNx)) (sSeq (sFor (mSq (eP (pV 0))) (gV false 1) (sIf (tP (qOr (qNot (qOf (pCall allF [pF (fComp [2] (gV true 2) (fun _ => some true) (pFn _law_is_integer_m [pV 2]) (fSq (pV 1)))]))) (qAnd (qOf (pOp (cmpI iGt) (pCall lenF [pV 1]) (pK (.int 0)))) (qOf (pOp eqV' (pIx (pV 1) (pNeg (pK (.int 1)))) (pK (.int 0))))))) (sRet (eP (pK (.bl false)))) (sNx))) (sRet (eP (pOr (pOp eqV' (pCall lenF [pV 0]) (pK (.int 0))) (pOp (cmpI iGt) (pCall lenF [pIx (pV 0) (pNeg (pK (.int 1)))]) (pK (.int 0)))))))
noncomputable def _law_is_plane_m : List C → Out C := bodyM 3 [] 1 _law_is_plane_b
noncomputable def _law_is_change_b : SS := sSeq (sIf (tP (qOr (qNot (qOf (pFn _law_is_row_m [pV 0, pK (.int 6)]))) (qOr (qOf (pOp neV' (pCall lenF [pV 0]) (pK (.int 6)))) (qNot (qOf (pCall allF [pF (fComp [1] (gV true 1) (fun _ => some true) (pFn _law_is_integer_m [pV 1]) (fSq (pV 0)))])))))) (sRet (eP (pK (.bl false)))) (sNx)) (sRet (eP (pOp neV' (pOp subI (pOp mulI (pIx (pV 0) (pK (.int 0))) (pIx (pV 0) (pK (.int 4)))) (pOp mulI (pIx (pV 0) (pK (.int 1))) (pIx (pV 0) (pK (.int 3))))) (pK (.int 0)))))
noncomputable def _law_is_change_m : List C → Out C := bodyM 2 [] 1 _law_is_change_b
noncomputable def _law_values_b : SS := sSeq (sPar [2, 3] [eFnL _law_draw_m 0 [eP (pCall lenF [pV 1])], eF (evPs [pV 1, pTupL (lP (pV 1)), pF (evPs [pV 1]), pF (fCat (lP (pV 1)) (evPs [pF (evPs [])])), pF (fCat (lP (pV 1)) (evPs [pF (evPs [pK (.int 0)])])), pF (fCat (evPs [pF (evPs [])]) (lP (pV 1))), pF (fSl (lP (pV 1)) none (some (pNeg (pK (.int 1))))), pF (fRep (lP (pV 1)) (pK (.int 5)))])]) (sSeq (sFor (mSq (eP (pF (evPs [pK .non, pK (.int 0), pK (.str "1"), pF (evPs [pK (.bl true)]), pF (evPs [pK (.int 1), pK (.int 0)]), pF (evPs [pK (.int 0)]), pF (evPs [pK .non]), pF (evPs [pK (.str "1")]), pTup [pK (.int 2), pK (.int 1)], pF (evPs [pK (.int 100000)]), pF (fRep (evPs [pK (.int 1)]) (pK (.int 9))), pF (fRep (evPs [pK (.int 1)]) (pK (.int 10))), pF (evPs [pF (evPs [pK (.int 1)])]), pK (.dct []), pF (evPs [])])))) (gV false 4) (sDrop (eApp 3 (eP (pF (fCat (fCat (fSl (lP (pV 1)) none (some (pV 2))) (evPs [pV 4])) (fSl (lP (pV 1)) (some (pOp addI (pV 2) (pK (.int 1)))) none))))))) (sRet (eP (pF (fCat (lKf (kV 3)) (evPs [pK .non, pK (.int 0), pK (.bl true), pK (.str ""), pK (.str "ab"), pK (.dct []), pF (evPs []), pTup [], pF (evPs [pF (evPs [])]), pTup [pTup []], pTup [pF (evPs [pK (.int 1)])], pF (evPs [pK (.int 1)]), pF (fRep (evPs [pF (fRep (evPs [pK (.int 1)]) (pK (.int 9)))]) (pK (.int 9))), pF (fRep (evPs [pF (evPs [pK (.int 1)])]) (pK (.int 10))), pDisp [(pK (.int 0), pF (evPs [pK (.int 1)]))]]))))))
noncomputable def _law_values_m : List C → Out C := bodyM 5 [0] 2 _law_values_b
noncomputable def _law_changes_b : SS := sSeq (sSet 1 (eF (evPs []))) (sSeq (sFor (rngM [eP (pK (.int 6))]) (gV false 2) (sDrop (eApp 1 (eOp subI (eFnL _law_draw_m 0 [eP (pK (.int 7))]) (eP (pK (.int 3))))))) (sSeq (sPar [3, 4] [eLst [eV 1, eP (pTupL (lKf (kV 1))), eP (pF (fSl (lKf (kV 1)) none (some (pK (.int 5))))), eP (pF (fCat (lKf (kV 1)) (evPs [pK (.int 1)]))), eFrz (eLst [eV 1]), eP (pF (fCat (fSl (lKf (kV 1)) none (some (pK (.int 3)))) (fSl (lKf (kV 1)) none (some (pK (.int 3)))))), eP (pF (evPs [pK (.int 1), pK (.int 2), pK (.int 0), pK (.int 2), pK (.int 4), pK (.int 0)])), eP (pF (evPs [pK (.int 1), pK (.int 0), pK (.int 0), pK (.int 0), pK (.int 1), pK (.int 0)]))], eFnL _law_draw_m 0 [eP (pK (.int 6))]]) (sSeq (sFor (mSq (eP (pF (evPs [pK (.bl true), pK (.bl false), pK .non, pK (.str "1"), pF (evPs [pK (.int 1)]), pOp powI (pK (.int 10)) (pK (.int 20)), pNeg (pK (.int 1))])))) (gV false 5) (sDrop (eApp 3 (eP (pF (fCat (fCat (fSl (lKf (kV 1)) none (some (pV 4))) (evPs [pV 5])) (fSl (lKf (kV 1)) (some (pOp addI (pV 4) (pK (.int 1)))) none))))))) (sRet (eP (pF (fCat (lKf (kV 3)) (evPs [pK .non, pK (.int 0), pK (.str ""), pK (.str "abcdef"), pK (.dct []), pF (evPs []), pTup [], pK (.bl true)]))))))))
noncomputable def _law_changes_m : List C → Out C := bodyM 6 [0] 1 _law_changes_b
noncomputable def want_plane_b : SS := sSeq (sSet 1 (eP (pFn plane_in_m [pV 0]))) (sSeq (sIf (tP (qOf (pOp isN (pV 1) (pK .non)))) (sNo) (sNx)) (sRet (eP (pV 1))))
noncomputable def want_plane_m : List C → Out C := bodyM 2 [] 1 want_plane_b
noncomputable def plane_divisor_b : SS := sRet (eP (pFn greatest_of_m [pF (fComp [1] (gV true 1) (fun _ => some true) (pFn greatest_of_m [pV 1]) (fSq (pV 0)))]))
noncomputable def plane_divisor_m : List C → Out C := bodyM 2 [] 1 plane_divisor_b
noncomputable def is_plane_b : SS := sRet (eP (pOp notN (pFn plane_in_m [pV 0]) (pK .non)))
noncomputable def is_plane_m : List C → Out C := bodyM 1 [] 1 is_plane_b
noncomputable def is_change_b : SS := sRet (eP (pOp notN (pFn change_in_m [pV 0]) (pK .non)))
noncomputable def is_change_m : List C → Out C := bodyM 1 [] 1 is_change_b
noncomputable def _law_plain_b : SS := sSeq (sIf (tP (qOf (pOp eq0V (pV 0) (pK (.dct []))))) (sRet (eLk (eDnew))) (sNx)) (sSeq (sSet 1 (eP (pFn _law_divisor_of_m [pF (fComp [2] (gV true 2) (fun _ => some true) (pDix (pV 0) (pV 2)) (fKeys (pV 0)))]))) (sSeq (sSet 1 (eP (pIf (qOf (pOp (cmpI iGt) (pDix (pV 0) (pMaxT (pV 0))) (pK (.int 0)))) (pV 1) (pOp subI (pK (.int 0)) (pV 1))))) (sRet (eLk (eDictT (pF (fComp [2] (gV true 2) (fun _ => some true) (pTup [pV 2, pOp fdivI (pDix (pV 0) (pV 2)) (pV 1)]) (fKeys (pV 0)))))))))
noncomputable def _law_plain_m : List C → Out C := bodyM 3 [] 1 _law_plain_b
noncomputable def _law_product_b : SS := sSeq (sSet 1 (eLk (eDispT [(pTup [pK (.int 0), pK (.int 0)], pK (.int 1))]))) (sSeq (sFor (mSq (eP (pV 0))) (gV false 2) (sSet 1 (eP (pFn _law_times_m [pV 1, pV 2])))) (sRet (eP (pV 1))))
noncomputable def _law_product_m : List C → Out C := bodyM 3 [] 1 _law_product_b
noncomputable def made_plain_b : SS := sSeq (sSet 1 (eP (pFn plane_divisor_m [pV 0]))) (sSeq (sIf (tP (qOf (pOp eqV' (pV 1) (pK (.int 0))))) (sRet (eLst [])) (sNx)) (sSeq (sIf (tP (qOf (pOp (cmpI iLt) (pFn head_of_plane_m [pV 0]) (pK (.int 0))))) (sSet 1 (eP (pOp subI (pK (.int 0)) (pV 1)))) (sNx)) (sRet (eComp [2] (gV true 2) (fun _ => some true) (eF (fComp [3] (gV true 3) (fun _ => some true) (pOp fdivI (pV 3) (pV 1)) (fSq (pV 2)))) (mSq (eP (pV 0)))))))
noncomputable def made_plain_m : List C → Out C := bodyM 4 [] 1 made_plain_b
noncomputable def degrees_b : SS := sRet (eP (pFn degrees_of_m [pFn want_plane_m [pV 0]]))
noncomputable def degrees_m : List C → Out C := bodyM 1 [] 1 degrees_b
noncomputable def head_b : SS := sRet (eP (pFn head_of_plane_m [pFn want_plane_m [pV 0]]))
noncomputable def head_m : List C → Out C := bodyM 1 [] 1 head_b
noncomputable def plain_plane_b : SS := sRet (eFnO made_plain_m [eP (pFn want_plane_m [pV 0])])
noncomputable def plain_plane_m : List C → Out C := bodyM 1 [] 1 plain_plane_b
noncomputable def _law_right_b : SS := sSeq (sSet 1 (eF (evPs []))) (sSeq (sFor (rngM [eOp addI (eP (pK (.int 1))) (eFnL _law_draw_m 0 [eP (pK (.int 3))])]) (gV false 2) (sDrop (eApp 1 (eFnL _law_piece_m 0 [])))) (sSeq (sSet 3 (eFn _law_product_m [eV 1])) (sSeq (sFor (enumM (eFnL _law_values_m 0 [eP (pFn _law_listed_m [pV 3])])) (gTupD 2 (gsCons (gV false 4) (gsCons (gV false 5) gsNil))) (sSeq (sPar [8, 9] [eP (pFn _law_is_plane_m [pV 5]), eP (pCall reprF2 [pV 5])]) (sSeq (sSet 10 (eP (pIf (qOf (pOp eqV' (pOp modI (pCall intF [pV 4]) (pK (.int 2))) (pK (.int 0)))) (pFn is_plane_m [pV 5]) (pFnK is_plane_m [0] [pV 5])))) (sSeq (sIf (tP (qOr (qOf (pOp neT' (pCall reprF2 [pV 10]) (pCall reprF2 [pV 8]))) (qOf (pOp neT' (pCall reprF2 [pV 5]) (pV 9))))) (sRet (eP (pK (.bl false)))) (sNx)) (sIf (tP (qOf (pV 8))) (sSeq (sSet 11 (eP (pFn _law_dict_m [pV 5]))) (sSeq (sIf (tP (qOf (pOp neT' (pCall reprF2 [pF (evPs [pFn degrees_m [pV 5], pFnK head_m [0] [pV 5]])]) (pCall reprF2 [pF (evPs [pFn _law_degrees_m [pV 11], pIf (qOf (pOp ne0V (pV 11) (pK (.dct [])))) (pDix (pV 11) (pMaxT (pV 11))) (pK (.int 0))])])))) (sRet (eP (pK (.bl false)))) (sNx)) (sIf (tP (qOr (qOf (pOp neV' (pFn plain_plane_m [pV 5]) (pFn _law_listed_m [pFn _law_plain_m [pV 11]]))) (qOf (pOp neT' (pCall reprF2 [pV 5]) (pV 9))))) (sRet (eP (pK (.bl false)))) (sNx)))) (sNx)))))) (sSeq (sFor (enumM (eFnL _law_changes_m 0 [])) (gTupD 2 (gsCons (gV false 4) (gsCons (gV false 5) gsNil))) (sSeq (sSet 10 (eP (pIf (qOf (pOp eqV' (pOp modI (pCall intF [pV 4]) (pK (.int 2))) (pK (.int 0)))) (pFn is_change_m [pV 5]) (pFnK is_change_m [0] [pV 5])))) (sIf (tP (qOf (pOp neT' (pCall reprF2 [pV 10]) (pCall reprF2 [pFn _law_is_change_m [pV 5]])))) (sRet (eP (pK (.bl false)))) (sNx)))) (sSeq (sSet 6 (eFnL _law_given_m 0 [eP (pFn _law_listed_m [pV 3])])) (sSeq (sSet 7 (eFnO plain_plane_m [eP (pV 6)])) (sSeq (sDrop (eAppP 7 (paIx 7 (paV 7) (pK (.int 0))) (pK (.int 5)))) (sRet (eP (pOp eqV' (pFnK plain_plane_m [0] [pV 6]) (pFn _law_listed_m [pFn _law_plain_m [pV 3]])))))))))))
noncomputable def _law_right_m : List C → Out C := bodyM 12 [0] 1 _law_right_b
noncomputable def law_b : SS := sRet (eFn _law_right_m [eFnO _law_pot_m [eP (pV 0), eP (pK (.int 0))]])
noncomputable def law_m : List C → Out C := bodyM 1 [] 1 law_b
def top (i : Nat) : Stmt := PySem.Challenge.pw_curvemeets_k21_any_value_as_plane_and_ch.main.body.getD i (.Pass ⟨0, 0, 0, 0⟩)
abbrev st_is_integer : Stmt := top 4
abbrev st_is_list : Stmt := top 5
abbrev st_divisor_of : Stmt := top 7
abbrev st_degrees_of : Stmt := top 13
abbrev st_head_of_plane : Stmt := top 14
abbrev st__law_pot : Stmt := top 26
abbrev st__law_draw : Stmt := top 27
abbrev st__law_dict : Stmt := top 28
abbrev st__law_listed : Stmt := top 29
abbrev st__law_bare : Stmt := top 30
abbrev st__law_degrees : Stmt := top 32
abbrev st__law_divisor : Stmt := top 33
abbrev st__law_is_integer : Stmt := top 39
abbrev st__law_is_row : Stmt := top 40
abbrev st_greatest_of : Stmt := top 8
abbrev st_plane_in : Stmt := top 11
abbrev st_change_in : Stmt := top 23
abbrev st__law_times : Stmt := top 31
abbrev st__law_divisor_of : Stmt := top 34
abbrev st__law_piece : Stmt := top 36
abbrev st__law_given : Stmt := top 38
abbrev st__law_is_plane : Stmt := top 41
abbrev st__law_is_change : Stmt := top 42
abbrev st__law_values : Stmt := top 43
abbrev st__law_changes : Stmt := top 44
abbrev st_want_plane : Stmt := top 12
abbrev st_plane_divisor : Stmt := top 15
abbrev st_is_plane : Stmt := top 17
abbrev st_is_change : Stmt := top 24
abbrev st__law_plain : Stmt := top 35
abbrev st__law_product : Stmt := top 37
abbrev st_made_plain : Stmt := top 16
abbrev st_degrees : Stmt := top 18
abbrev st_head : Stmt := top 19
abbrev st_plain_plane : Stmt := top 20
abbrev st__law_right : Stmt := top 45
abbrev st_law : Stmt := top 46
structure Txt (K : PySem.W.Frag) (mg : Str → Option Value) : Prop where
  z_abs : mg "abs" = none
  z_all : mg "all" = none
  z_bool : mg "bool" = none
  z_dict : mg "dict" = none
  z_divmod : mg "divmod" = none
  z_enumerate : mg "enumerate" = none
  z_int : mg "int" = none
  z_isinstance : mg "isinstance" = none
  z_len : mg "len" = none
  z_list : mg "list" = none
  z_max : mg "max" = none
  z_range : mg "range" = none
  z_repr : mg "repr" = none
  z_tuple : mg "tuple" = none
  g_MOST_DEGREE : ∃ t, mg "MOST_DEGREE" = some (.int 8 t)
  g_SIX : ∃ t, mg "SIX" = some (.int 6 t)
  d_is_integer : DefAt K mg "is_integer" st_is_integer
  d_is_list : DefAt K mg "is_list" st_is_list
  d_divisor_of : DefAt K mg "divisor_of" st_divisor_of
  d_degrees_of : DefAt K mg "degrees_of" st_degrees_of
  d_head_of_plane : DefAt K mg "head_of_plane" st_head_of_plane
  d__law_pot : DefAt K mg "_law_pot" st__law_pot
  d__law_draw : DefAt K mg "_law_draw" st__law_draw
  d__law_dict : DefAt K mg "_law_dict" st__law_dict
  d__law_listed : DefAt K mg "_law_listed" st__law_listed
  d__law_bare : DefAt K mg "_law_bare" st__law_bare
  d__law_degrees : DefAt K mg "_law_degrees" st__law_degrees
  d__law_divisor : DefAt K mg "_law_divisor" st__law_divisor
  d__law_is_integer : DefAt K mg "_law_is_integer" st__law_is_integer
  d__law_is_row : DefAt K mg "_law_is_row" st__law_is_row
  d_greatest_of : DefAt K mg "greatest_of" st_greatest_of
  d_plane_in : DefAt K mg "plane_in" st_plane_in
  d_change_in : DefAt K mg "change_in" st_change_in
  d__law_times : DefAt K mg "_law_times" st__law_times
  d__law_divisor_of : DefAt K mg "_law_divisor_of" st__law_divisor_of
  d__law_piece : DefAt K mg "_law_piece" st__law_piece
  d__law_given : DefAt K mg "_law_given" st__law_given
  d__law_is_plane : DefAt K mg "_law_is_plane" st__law_is_plane
  d__law_is_change : DefAt K mg "_law_is_change" st__law_is_change
  d__law_values : DefAt K mg "_law_values" st__law_values
  d__law_changes : DefAt K mg "_law_changes" st__law_changes
  d_want_plane : DefAt K mg "want_plane" st_want_plane
  d_plane_divisor : DefAt K mg "plane_divisor" st_plane_divisor
  d_is_plane : DefAt K mg "is_plane" st_is_plane
  d_is_change : DefAt K mg "is_change" st_is_change
  d__law_plain : DefAt K mg "_law_plain" st__law_plain
  d__law_product : DefAt K mg "_law_product" st__law_product
  d_made_plain : DefAt K mg "made_plain" st_made_plain
  d_degrees : DefAt K mg "degrees" st_degrees
  d_head : DefAt K mg "head" st_head
  d_plain_plane : DefAt K mg "plain_plane" st_plain_plane
  d__law_right : DefAt K mg "_law_right" st__law_right
  d_law : DefAt K mg "law" st_law
theorem bp_is_integer : BindP "is_integer" st_is_integer ["value"] := fun _ _ _ _ _ _ us hl => match us, hl with | [_], _ => rfl
theorem bp_is_list : BindP "is_list" st_is_list ["value"] := fun _ _ _ _ _ _ us hl => match us, hl with | [_], _ => rfl
theorem bp_divisor_of : BindP "divisor_of" st_divisor_of ["number", "other"] := fun _ _ _ _ _ _ us hl => match us, hl with | [_, _], _ => rfl
theorem bp_degrees_of : BindP "degrees_of" st_degrees_of ["plane"] := fun _ _ _ _ _ _ us hl => match us, hl with | [_], _ => rfl
theorem bp_head_of_plane : BindP "head_of_plane" st_head_of_plane ["plane"] := fun _ _ _ _ _ _ us hl => match us, hl with | [_], _ => rfl
theorem bp__law_pot : BindP "_law_pot" st__law_pot ["script", "k"] := fun _ _ _ _ _ _ us hl => match us, hl with | [_, _], _ => rfl
theorem bp__law_draw : BindP "_law_draw" st__law_draw ["pot", "many"] := fun _ _ _ _ _ _ us hl => match us, hl with | [_, _], _ => rfl
theorem bp__law_dict : BindP "_law_dict" st__law_dict ["plane"] := fun _ _ _ _ _ _ us hl => match us, hl with | [_], _ => rfl
theorem bp__law_listed : BindP "_law_listed" st__law_listed ["terms"] := fun _ _ _ _ _ _ us hl => match us, hl with | [_], _ => rfl
theorem bp__law_bare : BindP "_law_bare" st__law_bare ["terms"] := fun _ _ _ _ _ _ us hl => match us, hl with | [_], _ => rfl
theorem bp__law_degrees : BindP "_law_degrees" st__law_degrees ["terms"] := fun _ _ _ _ _ _ us hl => match us, hl with | [_], _ => rfl
theorem bp__law_divisor : BindP "_law_divisor" st__law_divisor ["one", "other"] := fun _ _ _ _ _ _ us hl => match us, hl with | [_, _], _ => rfl
theorem bp__law_is_integer : BindP "_law_is_integer" st__law_is_integer ["value"] := fun _ _ _ _ _ _ us hl => match us, hl with | [_], _ => rfl
theorem bp__law_is_row : BindP "_law_is_row" st__law_is_row ["value", "most"] := fun _ _ _ _ _ _ us hl => match us, hl with | [_, _], _ => rfl
theorem bp_greatest_of : BindP "greatest_of" st_greatest_of ["some"] := fun _ _ _ _ _ _ us hl => match us, hl with | [_], _ => rfl
theorem bp_plane_in : BindP "plane_in" st_plane_in ["value"] := fun _ _ _ _ _ _ us hl => match us, hl with | [_], _ => rfl
theorem bp_change_in : BindP "change_in" st_change_in ["value"] := fun _ _ _ _ _ _ us hl => match us, hl with | [_], _ => rfl
theorem bp__law_times : BindP "_law_times" st__law_times ["one", "other"] := fun _ _ _ _ _ _ us hl => match us, hl with | [_, _], _ => rfl
theorem bp__law_divisor_of : BindP "_law_divisor_of" st__law_divisor_of ["numbers"] := fun _ _ _ _ _ _ us hl => match us, hl with | [_], _ => rfl
theorem bp__law_piece : BindP "_law_piece" st__law_piece ["pot"] := fun _ _ _ _ _ _ us hl => match us, hl with | [_], _ => rfl
theorem bp__law_given : BindP "_law_given" st__law_given ["pot", "plane"] := fun _ _ _ _ _ _ us hl => match us, hl with | [_, _], _ => rfl
theorem bp__law_is_plane : BindP "_law_is_plane" st__law_is_plane ["value"] := fun _ _ _ _ _ _ us hl => match us, hl with | [_], _ => rfl
theorem bp__law_is_change : BindP "_law_is_change" st__law_is_change ["value"] := fun _ _ _ _ _ _ us hl => match us, hl with | [_], _ => rfl
theorem bp__law_values : BindP "_law_values" st__law_values ["pot", "plane"] := fun _ _ _ _ _ _ us hl => match us, hl with | [_, _], _ => rfl
theorem bp__law_changes : BindP "_law_changes" st__law_changes ["pot"] := fun _ _ _ _ _ _ us hl => match us, hl with | [_], _ => rfl
theorem bp_want_plane : BindP "want_plane" st_want_plane ["value"] := fun _ _ _ _ _ _ us hl => match us, hl with | [_], _ => rfl
theorem bp_plane_divisor : BindP "plane_divisor" st_plane_divisor ["plane"] := fun _ _ _ _ _ _ us hl => match us, hl with | [_], _ => rfl
theorem bp_is_plane : BindP "is_plane" st_is_plane ["value"] := fun _ _ _ _ _ _ us hl => match us, hl with | [_], _ => rfl
theorem bp_is_change : BindP "is_change" st_is_change ["value"] := fun _ _ _ _ _ _ us hl => match us, hl with | [_], _ => rfl
theorem bp__law_plain : BindP "_law_plain" st__law_plain ["terms"] := fun _ _ _ _ _ _ us hl => match us, hl with | [_], _ => rfl
theorem bp__law_product : BindP "_law_product" st__law_product ["pieces"] := fun _ _ _ _ _ _ us hl => match us, hl with | [_], _ => rfl
theorem bp_made_plain : BindP "made_plain" st_made_plain ["plane"] := fun _ _ _ _ _ _ us hl => match us, hl with | [_], _ => rfl
theorem bp_degrees : BindP "degrees" st_degrees ["plane"] := fun _ _ _ _ _ _ us hl => match us, hl with | [_], _ => rfl
theorem bp_head : BindP "head" st_head ["plane"] := fun _ _ _ _ _ _ us hl => match us, hl with | [_], _ => rfl
theorem bp_plain_plane : BindP "plain_plane" st_plain_plane ["plane"] := fun _ _ _ _ _ _ us hl => match us, hl with | [_], _ => rfl
theorem bp__law_right : BindP "_law_right" st__law_right ["pot"] := fun _ _ _ _ _ _ us hl => match us, hl with | [_], _ => rfl
theorem bp_law : BindP "law" st_law ["script"] := fun _ _ _ _ _ _ us hl => match us, hl with | [_], _ => rfl
theorem bk_head_plane : BindK "head" st_head ["plane"] ["plane"] [0] := fun _ _ _ _ _ _ ws hl => match ws, hl with | [_], _ => rfl
theorem bk_is_change_value : BindK "is_change" st_is_change ["value"] ["value"] [0] := fun _ _ _ _ _ _ ws hl => match ws, hl with | [_], _ => rfl
theorem bk_is_plane_value : BindK "is_plane" st_is_plane ["value"] ["value"] [0] := fun _ _ _ _ _ _ ws hl => match ws, hl with | [_], _ => rfl
theorem bk_plain_plane_plane : BindK "plain_plane" st_plain_plane ["plane"] ["plane"] [0] := fun _ _ _ _ _ _ ws hl => match ws, hl with | [_], _ => rfl
section
variable {Pr : Program} {w : World} {K : PySem.W.Frag} {mg : Str → Option Value} {base : Heap}
theorem sc_is_integer : FnScope ["value"] ["value"] (defScope st_is_integer) := ⟨rfl, rfl, rfl, by decide +kernel, rfl, by decide +kernel, by decide +kernel⟩
theorem is_integer_bd (V : Txt K mg) (hS : SysD base) : BdOk Pr w K mg base 0 "is_integer" st_is_integer ["value"] [] is_integer_b := fun fa cdv A outer s H E hg hr => by
  have hN := (sc_is_integer).nd
  exact s_one (s_ret (e_P (p_and (p_isi V.z_isinstance (ab_cons (b_P (p_V rfl (.inl rfl))) (ab_cons (b_P (p_ty (by rfl) V.z_int (by decide +kernel))) ab_nil))) (p_one (p_not (p_isi V.z_isinstance (ab_cons (b_P (p_V rfl (.inl rfl))) (ab_cons (b_P (p_ty (by rfl) V.z_bool (by decide +kernel))) ab_nil))))))))
theorem is_integer_ok (V : Txt K mg) (hS : SysD base) : FnM Pr w K mg base 1 "is_integer" st_is_integer ["value"] is_integer_m := FnM.by V.d_is_integer sc_is_integer (is_integer_bd V hS)
theorem sc_is_list : FnScope ["value"] ["value"] (defScope st_is_list) := ⟨rfl, rfl, rfl, by decide +kernel, rfl, by decide +kernel, by decide +kernel⟩
theorem is_list_bd (V : Txt K mg) (hS : SysD base) : BdOk Pr w K mg base 0 "is_list" st_is_list ["value"] [] is_list_b := fun fa cdv A outer s H E hg hr => by
  have hN := (sc_is_list).nd
  exact s_one (s_ret (e_P (p_isi V.z_isinstance (ab_cons (b_P (p_V rfl (.inl rfl))) (ab_cons (b_P (p_tup (ad_cons (p_ty (by rfl) V.z_list (by decide +kernel)) (ad_cons (p_ty (by rfl) V.z_tuple (by decide +kernel)) ad_nil)))) ab_nil)))))
theorem is_list_ok (V : Txt K mg) (hS : SysD base) : FnM Pr w K mg base 1 "is_list" st_is_list ["value"] is_list_m := FnM.by V.d_is_list sc_is_list (is_list_bd V hS)
theorem sc_divisor_of : FnScope ["number", "other", "near", "far"] ["number", "other"] (defScope st_divisor_of) := ⟨rfl, rfl, rfl, by decide +kernel, rfl, by decide +kernel, by decide +kernel⟩
theorem divisor_of_bd (V : Txt K mg) (hS : SysD base) : BdOk Pr w K mg base 0 "divisor_of" st_divisor_of ["number", "other", "near", "far"] [] divisor_of_b := fun fa cdv A outer s H E hg hr => by
  have hN := (sc_divisor_of).nd
  exact s_cons (s_par (i := 2) (j := 3) rfl hN rfl rfl (by decide) rfl rfl (am_cons (e_P (p_abs V.z_abs (ab_cons (b_P (p_V rfl (.inl rfl))) ab_nil))) (am_cons (e_P (p_abs V.z_abs (ab_cons (b_P (p_V rfl (.inl rfl))) ab_nil))) am_nil)) (by decide) (by decide) rfl) (s_cons (s_while (passes_of rfl) (t_P (q_ne hr (b_P (p_V rfl (.inl rfl))) (b_P (p_int)))) (s_one (s_par (i := 2) (j := 3) rfl hN rfl rfl (by decide) rfl rfl (am_cons (e_P (p_V rfl (.inl rfl))) (am_cons (e_P (p_sub (b_P (p_V rfl (.inl rfl))) (b_P (p_mul (b_P (p_fdiv (b_P (p_V rfl (.inl rfl))) (b_P (p_V rfl (.inl rfl))))) (b_P (p_V rfl (.inl rfl))))))) am_nil)) (by decide) (by decide) rfl))) (s_one (s_ret (e_P (p_V rfl (.inl rfl))))))
theorem divisor_of_ok (V : Txt K mg) (hS : SysD base) : FnM Pr w K mg base 1 "divisor_of" st_divisor_of ["number", "other"] divisor_of_m := FnM.by V.d_divisor_of sc_divisor_of (divisor_of_bd V hS)
theorem sc_degrees_of : FnScope ["plane", "line"] ["plane"] (defScope st_degrees_of) := ⟨rfl, rfl, rfl, by decide +kernel, rfl, by decide +kernel, by decide +kernel⟩
theorem degrees_of_bd (V : Txt K mg) (hS : SysD base) : BdOk Pr w K mg base 0 "degrees_of" st_degrees_of ["plane", "line"] [] degrees_of_b := fun fa cdv A outer s H E hg hr => by
  have hN := (sc_degrees_of).nd
  exact s_one (s_ret (e_P (p_tup (ad_cons (p_sub (b_P (p_len V.z_len (ab_cons (b_P (p_V rfl (.inl rfl))) ab_nil))) (b_P (p_int))) (ad_cons (p_if (q_gt (b_P (p_len V.z_len (ab_cons (b_P (p_V rfl (.inl rfl))) ab_nil))) (b_P (p_int))) (p_sub (b_P (p_max rfl V.z_max (ab_cons (b_P (p_F (f_comp rfl hN (iG_seq (p_V rfl (.inl rfl))) (blkOk_by (own := [("line", 1)]) rfl) (fun _ _ _ _ _ => g_V hN rfl (by first | exact .inl rfl | exact .inr rfl) (by first | exact .inr rfl | exact .inl rfl)) (fun _ _ _ _ _ => ts_nil) (fun _ _ _ _ _ => p_len V.z_len (ab_cons (b_P (p_V rfl (.inl rfl))) ab_nil)) (by decide)))) ab_nil))) (b_P (p_int))) (p_neg (b_P (p_int)))) ad_nil)))))
theorem degrees_of_ok (V : Txt K mg) (hS : SysD base) : FnM Pr w K mg base 1 "degrees_of" st_degrees_of ["plane"] degrees_of_m := FnM.by V.d_degrees_of sc_degrees_of (degrees_of_bd V hS)
theorem sc_head_of_plane : FnScope ["plane"] ["plane"] (defScope st_head_of_plane) := ⟨rfl, rfl, rfl, by decide +kernel, rfl, by decide +kernel, by decide +kernel⟩
theorem head_of_plane_bd (V : Txt K mg) (hS : SysD base) : BdOk Pr w K mg base 0 "head_of_plane" st_head_of_plane ["plane"] [] head_of_plane_b := fun fa cdv A outer s H E hg hr => by
  have hN := (sc_head_of_plane).nd
  exact s_one (s_ret (e_P (p_if (q_gt (b_P (p_len V.z_len (ab_cons (b_P (p_V rfl (.inl rfl))) ab_nil))) (b_P (p_int))) (p_ix (p_ix (p_V rfl (.inl rfl)) (b_P (p_neg (b_P (p_int)))) (fun _ _ => rfl)) (b_P (p_neg (b_P (p_int)))) (fun _ _ => rfl)) (p_int))))
theorem head_of_plane_ok (V : Txt K mg) (hS : SysD base) : FnM Pr w K mg base 1 "head_of_plane" st_head_of_plane ["plane"] head_of_plane_m := FnM.by V.d_head_of_plane sc_head_of_plane (head_of_plane_bd V hS)
theorem sc__law_pot : FnScope ["script", "k", "cell"] ["script", "k"] (defScope st__law_pot) := ⟨rfl, rfl, rfl, by decide +kernel, rfl, by decide +kernel, by decide +kernel⟩
theorem _law_pot_bd (V : Txt K mg) (hS : SysD base) : BdOk Pr w K mg base 0 "_law_pot" st__law_pot ["script", "k", "cell"] [] _law_pot_b := fun fa cdv A outer s H E hg hr => by
  have hN := (sc__law_pot).nd
  exact s_cons (s_set (i := 2) hN rfl (.inl rfl) (e_P (p_if (q_lt (b_P (p_V rfl (.inl rfl))) (b_P (p_len V.z_len (ab_cons (b_P (p_V rfl (.inl rfl))) ab_nil)))) (p_abs V.z_abs (ab_cons (b_P (p_ix (p_V rfl (.inl rfl)) (b_P (p_V rfl (.inl rfl))) (fun _ _ => rfl))) ab_nil)) (p_add (b_P (p_mul (b_P (p_int)) (b_P (p_V rfl (.inl rfl))))) (b_P (p_int)))))) (s_one (s_ret (e_F (f_lst (ad_cons (p_max rfl V.z_max (ab_cons (b_P (p_int)) (ab_cons (b_P (p_sub (b_P (p_V rfl (.inl rfl))) (b_P (p_pow (b_P (p_int)) (b_P (p_int)))))) ab_nil))) (ad_cons (p_add (b_P (p_mod (b_P (p_intC V.z_int (ab_cons (b_P (p_add (b_P (p_add (b_P (p_mul (b_P (p_mod (b_P (p_intC V.z_int (ab_cons (b_P (p_V rfl (.inl rfl))) ab_nil))) (b_P (p_int)))) (b_P (p_int)))) (b_P (p_mul (b_P (p_int)) (b_P (p_V rfl (.inl rfl))))))) (b_P (p_int)))) ab_nil))) (b_P (p_int)))) (b_P (p_int))) ad_nil))))))
theorem _law_pot_ok (V : Txt K mg) (hS : SysD base) : FnM Pr w K mg base 1 "_law_pot" st__law_pot ["script", "k"] _law_pot_m := FnM.by V.d__law_pot sc__law_pot (_law_pot_bd V hS)
theorem sc__law_draw : FnScope ["pot", "many", "digit"] ["pot", "many"] (defScope st__law_draw) := ⟨rfl, rfl, rfl, by decide +kernel, rfl, by decide +kernel, by decide +kernel⟩
theorem _law_draw_bd (V : Txt K mg) (hS : SysD base) : BdOk Pr w K mg base 0 "_law_draw" st__law_draw ["pot", "many", "digit"] [0] _law_draw_b := fun fa cdv A outer s H E hg hr => by
  have hN := (sc__law_draw).nd
  exact s_cons (s_if (t_P (q_gt (b_Kf (k_ix (k_V rfl (.inl rfl)) (b_P (p_int)) (fun _ _ => rfl))) (b_P (p_int)))) (s_cons (s_asg (e_P (p_divmod (by rfl) V.z_divmod (ab_cons (b_Kf (k_ix (k_V rfl (.inl rfl)) (b_P (p_int)) (fun _ _ => rfl))) (ab_cons (b_P (p_V rfl (.inl rfl))) ab_nil)))) (g_tup rfl (gs_cons (g_ix (pa_V rfl (.inl rfl)) (b_P (p_int))) (gs_cons (g_V hN rfl (.inl rfl) (.inl rfl)) (gs_nil))))) (s_one (s_ret (e_P (p_V rfl (.inl rfl)))))) (s_nil)) (s_cons (s_asg (e_P (p_mod (b_P (p_intC V.z_int (ab_cons (b_P (p_add (b_P (p_mul (b_Kf (k_ix (k_V rfl (.inl rfl)) (b_P (p_int)) (fun _ _ => rfl))) (b_P (p_int)))) (b_P (p_int)))) ab_nil))) (b_P (p_int)))) (g_ix (pa_V rfl (.inl rfl)) (b_P (p_int)))) (s_one (s_ret (e_P (p_mod (b_P (p_intC V.z_int (ab_cons (b_P (p_fdiv (b_P (p_mod (b_P (p_intC V.z_int (ab_cons (b_P (p_mul (b_Kf (k_ix (k_V rfl (.inl rfl)) (b_P (p_int)) (fun _ _ => rfl))) (b_Kf (k_ix (k_V rfl (.inl rfl)) (b_P (p_int)) (fun _ _ => rfl))))) ab_nil))) (b_P (p_int)))) (b_P (p_int)))) ab_nil))) (b_P (p_V rfl (.inl rfl))))))))
theorem _law_draw_ok (V : Txt K mg) (hS : SysD base) : FnM Pr w K mg base 1 "_law_draw" st__law_draw ["pot", "many"] _law_draw_m := FnM.by V.d__law_draw sc__law_draw (_law_draw_bd V hS)
theorem sc__law_dict : FnScope ["plane", "found", "i", "line", "j", "number"] ["plane"] (defScope st__law_dict) := ⟨rfl, rfl, rfl, by decide +kernel, rfl, by decide +kernel, by decide +kernel⟩
theorem _law_dict_bd (V : Txt K mg) (hS : SysD base) : BdOk Pr w K mg base 0 "_law_dict" st__law_dict ["plane", "found", "i", "line", "j", "number"] [] _law_dict_b := fun fa cdv A outer s H E hg hr => by
  have hN := (sc__law_dict).nd
  exact s_cons (s_set (i := 1) hN rfl (.inl rfl) (e_dnewT)) (s_cons (s_for (passes_of rfl) rfl (iD_enumS (by rfl) V.z_enumerate (p_V rfl (.inl rfl))) (g_tup rfl (gs_cons (g_V hN rfl (.inl rfl) (.inl rfl)) (gs_cons (g_V hN rfl (.inl rfl) (.inl rfl)) (gs_nil)))) (s_one (s_for (passes_of rfl) rfl (iD_enumS (by rfl) V.z_enumerate (p_V rfl (.inl rfl))) (g_tup rfl (gs_cons (g_V hN rfl (.inl rfl) (.inl rfl)) (gs_cons (g_V hN rfl (.inl rfl) (.inl rfl)) (gs_nil)))) (s_one (s_if (t_P (q_ne hr (b_P (p_V rfl (.inl rfl))) (b_P (p_int)))) (s_one (s_dput hr rfl (.inl rfl) (b_P (p_tup (ad_cons (p_V rfl (.inl rfl)) (ad_cons (p_V rfl (.inl rfl)) ad_nil)))) (e_P (p_V rfl (.inl rfl))))) (s_nil)))))) (s_one (s_ret (e_lk (e_Mv rfl (.inl rfl))))))
theorem _law_dict_ok (V : Txt K mg) (hS : SysD base) : FnM Pr w K mg base 1 "_law_dict" st__law_dict ["plane"] _law_dict_m := FnM.by V.d__law_dict sc__law_dict (_law_dict_bd V hS)
theorem sc__law_listed : FnScope ["terms", "found", "i", "wide", "j", "key"] ["terms"] (defScope st__law_listed) := ⟨rfl, rfl, rfl, by decide +kernel, rfl, by decide +kernel, by decide +kernel⟩
theorem _law_listed_bd (V : Txt K mg) (hS : SysD base) : BdOk Pr w K mg base 0 "_law_listed" st__law_listed ["terms", "found", "i", "wide", "j", "key"] [] _law_listed_b := fun fa cdv A outer s H E hg hr => by
  have hN := (sc__law_listed).nd
  exact s_cons (s_set (i := 1) hN rfl (.inl rfl) (e_F (f_lst (ad_nil)))) (s_cons (s_for (passes_of rfl) rfl (iD_rng1 (by rfl) V.z_range (am_cons (e_P (p_max rfl V.z_max (ab_cons (b_P (p_F (f_cat (l_F (f_lst (ad_cons (p_int) ad_nil))) (l_F (f_comp rfl hN (iG_keys (p_V rfl (.inr (.inl rfl)))) (blkOk_by (own := [("key", 5)]) rfl) (fun _ _ _ _ _ => g_V hN rfl (by first | exact .inl rfl | exact .inr rfl) (by first | exact .inr rfl | exact .inl rfl)) (fun _ _ _ _ _ => ts_nil) (fun _ _ _ _ _ => p_add (b_P (p_ix (p_V rfl (.inl rfl)) (b_P (p_int)) (fun _ _ => rfl))) (b_P (p_int))) (by decide)))))) ab_nil))) am_nil)) (g_V hN rfl (.inr rfl) (.inl rfl)) (s_cons (s_set (i := 3) hN rfl (.inl rfl) (e_P (p_max rfl V.z_max (ab_cons (b_P (p_F (f_cat (l_F (f_lst (ad_cons (p_int) ad_nil))) (l_F (f_comp rfl hN (iG_keys (p_V rfl (.inr (.inl rfl)))) (blkOk_by (own := [("key", 5)]) rfl) (fun _ _ _ _ _ => g_V hN rfl (by first | exact .inl rfl | exact .inr rfl) (by first | exact .inr rfl | exact .inl rfl)) (fun _ _ _ _ _ => (ts_one (q_eq hr (b_P (p_ix (p_V rfl (.inl rfl)) (b_P (p_int)) (fun _ _ => rfl))) (b_P (p_V rfl (by first | exact .inr (.inr rfl) | exact .inr (.inl rfl) | exact .inl rfl)))))) (fun _ _ _ _ _ => p_add (b_P (p_ix (p_V rfl (.inl rfl)) (b_P (p_int)) (fun _ _ => rfl))) (b_P (p_int))) (by decide)))))) ab_nil)))) (s_one (s_expr (e_app rfl (.inl rfl) (e_P (p_F (f_comp rfl hN (iG_rng1 (by rfl) V.z_range (ab_cons (b_P (p_V rfl (.inl rfl))) ab_nil)) (blkOk_by (own := [("j", 4)]) rfl) (fun _ _ _ _ _ => g_V hN rfl (by first | exact .inl rfl | exact .inr rfl) (by first | exact .inr rfl | exact .inl rfl)) (fun _ _ _ _ _ => ts_nil) (fun _ _ _ _ _ => p_dget hr (b_P (p_V rfl (by first | exact .inr (.inr rfl) | exact .inr (.inl rfl) | exact .inl rfl))) (b_P (p_tup (ad_cons (p_V rfl (by first | exact .inr (.inr rfl) | exact .inr (.inl rfl) | exact .inl rfl)) (ad_cons (p_V rfl (.inl rfl)) ad_nil)))) (b_P (p_int)) ⟨rfl, rfl, rfl, rfl⟩) (by decide))))))))) (s_one (s_ret (e_V rfl (.inl rfl)))))
theorem _law_listed_ok (V : Txt K mg) (hS : SysD base) : FnM Pr w K mg base 1 "_law_listed" st__law_listed ["terms"] _law_listed_m := FnM.by V.d__law_listed sc__law_listed (_law_listed_bd V hS)
theorem sc__law_bare : FnScope ["terms", "key"] ["terms"] (defScope st__law_bare) := ⟨rfl, rfl, rfl, by decide +kernel, rfl, by decide +kernel, by decide +kernel⟩
theorem _law_bare_bd (V : Txt K mg) (hS : SysD base) : BdOk Pr w K mg base 0 "_law_bare" st__law_bare ["terms", "key"] [] _law_bare_b := fun fa cdv A outer s H E hg hr => by
  have hN := (sc__law_bare).nd
  exact s_one (s_ret (e_lk (e_dictT hr rfl (by rfl) V.z_dict (by decide +kernel) (p_F (f_comp rfl hN (iG_keys (p_V rfl (.inr (.inl rfl)))) (blkOk_by (own := [("key", 1)]) rfl) (fun _ _ _ _ _ => g_V hN rfl (by first | exact .inl rfl | exact .inr rfl) (by first | exact .inr rfl | exact .inl rfl)) (fun _ _ _ _ _ => (ts_one (q_ne hr (b_P (p_dix hr (b_P (p_V rfl (by first | exact .inr (.inr rfl) | exact .inr (.inl rfl) | exact .inl rfl))) (b_P (p_V rfl (.inl rfl))) (fun _ _ => rfl))) (b_P (p_int))))) (fun _ _ _ _ _ => p_tup (ad_cons (p_V rfl (.inl rfl)) (ad_cons (p_dix hr (b_P (p_V rfl (by first | exact .inr (.inr rfl) | exact .inr (.inl rfl) | exact .inl rfl))) (b_P (p_V rfl (.inl rfl))) (fun _ _ => rfl)) ad_nil))) (by decide))))))
theorem _law_bare_ok (V : Txt K mg) (hS : SysD base) : FnM Pr w K mg base 1 "_law_bare" st__law_bare ["terms"] _law_bare_m := FnM.by V.d__law_bare sc__law_bare (_law_bare_bd V hS)
theorem sc__law_degrees : FnScope ["terms", "key"] ["terms"] (defScope st__law_degrees) := ⟨rfl, rfl, rfl, by decide +kernel, rfl, by decide +kernel, by decide +kernel⟩
theorem _law_degrees_bd (V : Txt K mg) (hS : SysD base) : BdOk Pr w K mg base 0 "_law_degrees" st__law_degrees ["terms", "key"] [] _law_degrees_b := fun fa cdv A outer s H E hg hr => by
  have hN := (sc__law_degrees).nd
  exact s_one (s_ret (e_P (p_tup (ad_cons (p_max rfl V.z_max (ab_cons (b_P (p_F (f_cat (l_F (f_lst (ad_cons (p_neg (b_P (p_int))) ad_nil))) (l_F (f_comp rfl hN (iG_keys (p_V rfl (.inl rfl))) (blkOk_by (own := [("key", 1)]) rfl) (fun _ _ _ _ _ => g_V hN rfl (by first | exact .inl rfl | exact .inr rfl) (by first | exact .inr rfl | exact .inl rfl)) (fun _ _ _ _ _ => ts_nil) (fun _ _ _ _ _ => p_ix (p_V rfl (.inl rfl)) (b_P (p_int)) (fun _ _ => rfl)) (by decide)))))) ab_nil)) (ad_cons (p_max rfl V.z_max (ab_cons (b_P (p_F (f_cat (l_F (f_lst (ad_cons (p_neg (b_P (p_int))) ad_nil))) (l_F (f_comp rfl hN (iG_keys (p_V rfl (.inl rfl))) (blkOk_by (own := [("key", 1)]) rfl) (fun _ _ _ _ _ => g_V hN rfl (by first | exact .inl rfl | exact .inr rfl) (by first | exact .inr rfl | exact .inl rfl)) (fun _ _ _ _ _ => ts_nil) (fun _ _ _ _ _ => p_ix (p_V rfl (.inl rfl)) (b_P (p_int)) (fun _ _ => rfl)) (by decide)))))) ab_nil)) ad_nil)))))
theorem _law_degrees_ok (V : Txt K mg) (hS : SysD base) : FnM Pr w K mg base 1 "_law_degrees" st__law_degrees ["terms"] _law_degrees_m := FnM.by V.d__law_degrees sc__law_degrees (_law_degrees_bd V hS)
theorem sc__law_divisor : FnScope ["one", "other", "near", "far"] ["one", "other"] (defScope st__law_divisor) := ⟨rfl, rfl, rfl, by decide +kernel, rfl, by decide +kernel, by decide +kernel⟩
theorem _law_divisor_bd (V : Txt K mg) (hS : SysD base) : BdOk Pr w K mg base 0 "_law_divisor" st__law_divisor ["one", "other", "near", "far"] [] _law_divisor_b := fun fa cdv A outer s H E hg hr => by
  have hN := (sc__law_divisor).nd
  exact s_cons (s_par (i := 2) (j := 3) rfl hN rfl rfl (by decide) rfl rfl (am_cons (e_P (p_abs V.z_abs (ab_cons (b_P (p_V rfl (.inl rfl))) ab_nil))) (am_cons (e_P (p_abs V.z_abs (ab_cons (b_P (p_V rfl (.inl rfl))) ab_nil))) am_nil)) (by decide) (by decide) rfl) (s_cons (s_while (passes_of rfl) (t_P (q_ne hr (b_P (p_V rfl (.inl rfl))) (b_P (p_int)))) (s_one (s_par (i := 2) (j := 3) rfl hN rfl rfl (by decide) rfl rfl (am_cons (e_P (p_V rfl (.inl rfl))) (am_cons (e_P (p_mod (b_P (p_intC V.z_int (ab_cons (b_P (p_V rfl (.inl rfl))) ab_nil))) (b_P (p_V rfl (.inl rfl))))) am_nil)) (by decide) (by decide) rfl))) (s_one (s_ret (e_P (p_V rfl (.inl rfl))))))
theorem _law_divisor_ok (V : Txt K mg) (hS : SysD base) : FnM Pr w K mg base 1 "_law_divisor" st__law_divisor ["one", "other"] _law_divisor_m := FnM.by V.d__law_divisor sc__law_divisor (_law_divisor_bd V hS)
theorem sc__law_is_integer : FnScope ["value"] ["value"] (defScope st__law_is_integer) := ⟨rfl, rfl, rfl, by decide +kernel, rfl, by decide +kernel, by decide +kernel⟩
theorem _law_is_integer_bd (V : Txt K mg) (hS : SysD base) : BdOk Pr w K mg base 0 "_law_is_integer" st__law_is_integer ["value"] [] _law_is_integer_b := fun fa cdv A outer s H E hg hr => by
  have hN := (sc__law_is_integer).nd
  exact s_one (s_ret (e_P (p_and (p_isi V.z_isinstance (ab_cons (b_P (p_V rfl (.inl rfl))) (ab_cons (b_P (p_ty (by rfl) V.z_int (by decide +kernel))) ab_nil))) (p_one (p_not (p_isi V.z_isinstance (ab_cons (b_P (p_V rfl (.inl rfl))) (ab_cons (b_P (p_ty (by rfl) V.z_bool (by decide +kernel))) ab_nil))))))))
theorem _law_is_integer_ok (V : Txt K mg) (hS : SysD base) : FnM Pr w K mg base 1 "_law_is_integer" st__law_is_integer ["value"] _law_is_integer_m := FnM.by V.d__law_is_integer sc__law_is_integer (_law_is_integer_bd V hS)
theorem sc__law_is_row : FnScope ["value", "most"] ["value", "most"] (defScope st__law_is_row) := ⟨rfl, rfl, rfl, by decide +kernel, rfl, by decide +kernel, by decide +kernel⟩
theorem _law_is_row_bd (V : Txt K mg) (hS : SysD base) : BdOk Pr w K mg base 0 "_law_is_row" st__law_is_row ["value", "most"] [] _law_is_row_b := fun fa cdv A outer s H E hg hr => by
  have hN := (sc__law_is_row).nd
  exact s_one (s_ret (e_P (p_and (p_isi V.z_isinstance (ab_cons (b_P (p_V rfl (.inl rfl))) (ab_cons (b_P (p_tup (ad_cons (p_ty (by rfl) V.z_list (by decide +kernel)) (ad_cons (p_ty (by rfl) V.z_tuple (by decide +kernel)) ad_nil)))) ab_nil))) (p_one (p_le (b_P (p_len V.z_len (ab_cons (b_P (p_V rfl (.inl rfl))) ab_nil))) (b_P (p_V rfl (.inl rfl))))))))
theorem _law_is_row_ok (V : Txt K mg) (hS : SysD base) : FnM Pr w K mg base 1 "_law_is_row" st__law_is_row ["value", "most"] _law_is_row_m := FnM.by V.d__law_is_row sc__law_is_row (_law_is_row_bd V hS)
theorem sc_greatest_of : FnScope ["some", "found", "number"] ["some"] (defScope st_greatest_of) := ⟨rfl, rfl, rfl, by decide +kernel, rfl, by decide +kernel, by decide +kernel⟩
theorem greatest_of_bd (V : Txt K mg) (hS : SysD base) : BdOk Pr w K mg base 1 "greatest_of" st_greatest_of ["some", "found", "number"] [] greatest_of_b := fun fa cdv A outer s H E hg hr => by
  have hN := (sc_greatest_of).nd
  exact s_cons (s_set (i := 1) hN rfl (.inl rfl) (e_P (p_int))) (s_cons (s_for (passes_of rfl) rfl (iD_seq (e_P (p_V rfl (.inl rfl)))) (g_V hN rfl (.inl rfl) (.inl rfl)) (s_one (s_set (i := 1) hN rfl (.inl rfl) (e_P (p_fn (divisor_of_ok V hS) bp_divisor_of hg hr (by rfl) (ad_cons (p_V rfl (.inl rfl)) (ad_cons (p_V rfl (.inl rfl)) ad_nil))))))) (s_one (s_ret (e_P (p_V rfl (.inl rfl))))))
theorem greatest_of_ok (V : Txt K mg) (hS : SysD base) : FnM Pr w K mg base 2 "greatest_of" st_greatest_of ["some"] greatest_of_m := FnM.by V.d_greatest_of sc_greatest_of (greatest_of_bd V hS)
theorem sc_plane_in : FnScope ["value", "line", "number"] ["value"] (defScope st_plane_in) := ⟨rfl, rfl, rfl, by decide +kernel, rfl, by decide +kernel, by decide +kernel⟩
theorem plane_in_bd (V : Txt K mg) (hS : SysD base) : BdOk Pr w K mg base 1 "plane_in" st_plane_in ["value", "line", "number"] [] plane_in_b := fun fa cdv A outer s H E hg hr => by
  have hN := (sc_plane_in).nd
  exact s_cons (s_if (t_P (q_W (w_or (q_not (q_val (p_fn (is_list_ok V hS) bp_is_list hg hr (by rfl) (ad_cons (p_V rfl (.inl rfl)) ad_nil)))) (w_or1 (q_gt (b_P (p_len V.z_len (ab_cons (b_P (p_V rfl (.inl rfl))) ab_nil))) (b_P (p_add (b_P (p_glob (v := .int 8) rfl V.g_MOST_DEGREE.choose_spec ⟨_, rfl⟩)) (b_P (p_int))))))))) (s_one (s_ret (e_P (p_non)))) (s_nil)) (s_cons (s_for (passes_of rfl) rfl (iD_seq (e_P (p_V rfl (.inl rfl)))) (g_V hN rfl (.inl rfl) (.inl rfl)) (s_cons (s_if (t_P (q_W (w_or (q_not (q_val (p_fn (is_list_ok V hS) bp_is_list hg hr (by rfl) (ad_cons (p_V rfl (.inl rfl)) ad_nil)))) (w_or (q_gt (b_P (p_len V.z_len (ab_cons (b_P (p_V rfl (.inl rfl))) ab_nil))) (b_P (p_add (b_P (p_glob (v := .int 8) rfl V.g_MOST_DEGREE.choose_spec ⟨_, rfl⟩)) (b_P (p_int))))) (w_or1 (q_not (q_val (p_all rfl V.z_all (ab_cons (b_P (p_F (f_comp rfl hN (iG_seq (p_V rfl (.inl rfl))) (blkOk_by (own := [("number", 2)]) rfl) (fun _ _ _ _ _ => g_V hN rfl (by first | exact .inl rfl | exact .inr rfl) (by first | exact .inr rfl | exact .inl rfl)) (fun _ _ _ _ _ => ts_nil) (fun _ _ _ _ _ => p_fn (is_integer_ok V hS) bp_is_integer hg hr (by rfl) (ad_cons (p_V rfl (.inl rfl)) ad_nil)) (by decide)))) ab_nil))))))))) (s_one (s_ret (e_P (p_non)))) (s_nil)) (s_one (s_if (t_P (q_W (w_and (q_gt (b_P (p_len V.z_len (ab_cons (b_P (p_V rfl (.inl rfl))) ab_nil))) (b_P (p_int))) (w_and1 (q_eq hr (b_P (p_ix (p_V rfl (.inl rfl)) (b_P (p_neg (b_P (p_int)))) (fun _ _ => rfl))) (b_P (p_int))))))) (s_one (s_ret (e_P (p_non)))) (s_nil))))) (s_cons (s_if (t_P (q_W (w_and (q_gt (b_P (p_len V.z_len (ab_cons (b_P (p_V rfl (.inl rfl))) ab_nil))) (b_P (p_int))) (w_and1 (q_eq hr (b_P (p_len V.z_len (ab_cons (b_P (p_ix (p_V rfl (.inl rfl)) (b_P (p_neg (b_P (p_int)))) (fun _ _ => rfl))) ab_nil))) (b_P (p_int))))))) (s_one (s_ret (e_P (p_non)))) (s_nil)) (s_one (s_ret (e_P (p_F (f_comp rfl hN (iG_seq (p_V rfl (.inl rfl))) (blkOk_by (own := [("line", 1)]) rfl) (fun _ _ _ _ _ => g_V hN rfl (by first | exact .inl rfl | exact .inr rfl) (by first | exact .inr rfl | exact .inl rfl)) (fun _ _ _ _ _ => ts_nil) (fun _ _ _ _ _ => p_F (f_listC V.z_list (p_V rfl (.inl rfl)))) (by decide))))))))
theorem plane_in_ok (V : Txt K mg) (hS : SysD base) : FnM Pr w K mg base 2 "plane_in" st_plane_in ["value"] plane_in_m := FnM.by V.d_plane_in sc_plane_in (plane_in_bd V hS)
theorem sc_change_in : FnScope ["value", "number"] ["value"] (defScope st_change_in) := ⟨rfl, rfl, rfl, by decide +kernel, rfl, by decide +kernel, by decide +kernel⟩
theorem change_in_bd (V : Txt K mg) (hS : SysD base) : BdOk Pr w K mg base 1 "change_in" st_change_in ["value", "number"] [] change_in_b := fun fa cdv A outer s H E hg hr => by
  have hN := (sc_change_in).nd
  exact s_cons (s_if (t_P (q_W (w_or (q_not (q_val (p_fn (is_list_ok V hS) bp_is_list hg hr (by rfl) (ad_cons (p_V rfl (.inl rfl)) ad_nil)))) (w_or (q_ne hr (b_P (p_len V.z_len (ab_cons (b_P (p_V rfl (.inl rfl))) ab_nil))) (b_P (p_glob (v := .int 6) rfl V.g_SIX.choose_spec ⟨_, rfl⟩))) (w_or1 (q_not (q_val (p_all rfl V.z_all (ab_cons (b_P (p_F (f_comp rfl hN (iG_seq (p_V rfl (.inl rfl))) (blkOk_by (own := [("number", 1)]) rfl) (fun _ _ _ _ _ => g_V hN rfl (by first | exact .inl rfl | exact .inr rfl) (by first | exact .inr rfl | exact .inl rfl)) (fun _ _ _ _ _ => ts_nil) (fun _ _ _ _ _ => p_fn (is_integer_ok V hS) bp_is_integer hg hr (by rfl) (ad_cons (p_V rfl (.inl rfl)) ad_nil)) (by decide)))) ab_nil))))))))) (s_one (s_ret (e_P (p_non)))) (s_nil)) (s_one (s_ret (e_P (p_if (q_ne hr (b_P (p_mul (b_P (p_ix (p_V rfl (.inl rfl)) (b_P (p_int)) (fun _ _ => rfl))) (b_P (p_ix (p_V rfl (.inl rfl)) (b_P (p_int)) (fun _ _ => rfl))))) (b_P (p_mul (b_P (p_ix (p_V rfl (.inl rfl)) (b_P (p_int)) (fun _ _ => rfl))) (b_P (p_ix (p_V rfl (.inl rfl)) (b_P (p_int)) (fun _ _ => rfl)))))) (p_F (f_listC V.z_list (p_V rfl (.inl rfl)))) (p_non)))))
theorem change_in_ok (V : Txt K mg) (hS : SysD base) : FnM Pr w K mg base 2 "change_in" st_change_in ["value"] change_in_m := FnM.by V.d_change_in sc_change_in (change_in_bd V hS)
theorem sc__law_times : FnScope ["one", "other", "found", "near", "far", "key"] ["one", "other"] (defScope st__law_times) := ⟨rfl, rfl, rfl, by decide +kernel, rfl, by decide +kernel, by decide +kernel⟩
theorem _law_times_bd (V : Txt K mg) (hS : SysD base) : BdOk Pr w K mg base 1 "_law_times" st__law_times ["one", "other", "found", "near", "far", "key"] [] _law_times_b := fun fa cdv A outer s H E hg hr => by
  have hN := (sc__law_times).nd
  exact s_cons (s_set (i := 2) hN rfl (.inl rfl) (e_dnewT)) (s_cons (s_for (passes_of rfl) rfl (iD_keys (e_P (p_V rfl (.inl rfl)))) (g_V hN rfl (.inl rfl) (.inl rfl)) (s_one (s_for (passes_of rfl) rfl (iD_keys (e_P (p_V rfl (.inl rfl)))) (g_V hN rfl (.inl rfl) (.inl rfl)) (s_cons (s_set (i := 5) hN rfl (.inl rfl) (e_P (p_tup (ad_cons (p_add (b_P (p_ix (p_V rfl (.inl rfl)) (b_P (p_int)) (fun _ _ => rfl))) (b_P (p_ix (p_V rfl (.inl rfl)) (b_P (p_int)) (fun _ _ => rfl)))) (ad_cons (p_add (b_P (p_ix (p_V rfl (.inl rfl)) (b_P (p_int)) (fun _ _ => rfl))) (b_P (p_ix (p_V rfl (.inl rfl)) (b_P (p_int)) (fun _ _ => rfl)))) ad_nil))))) (s_one (s_dput hr rfl (.inl rfl) (b_P (p_V rfl (.inl rfl))) (e_P (p_add (b_P (p_dget hr (b_V rfl (.inl rfl)) (b_P (p_V rfl (.inl rfl))) (b_P (p_int)) ⟨rfl, rfl, rfl, rfl⟩)) (b_P (p_mul (b_P (p_dix hr (b_P (p_V rfl (.inl rfl))) (b_P (p_V rfl (.inl rfl))) (fun _ _ => rfl))) (b_P (p_dix hr (b_P (p_V rfl (.inl rfl))) (b_P (p_V rfl (.inl rfl))) (fun _ _ => rfl))))))))))))) (s_one (s_ret (e_fn (_law_bare_ok V hS) bp__law_bare hg hr (takes_of rfl rfl rfl rfl) (by rfl) (am_cons (e_lk (e_Mv rfl (.inl rfl))) am_nil)))))
theorem _law_times_ok (V : Txt K mg) (hS : SysD base) : FnM Pr w K mg base 2 "_law_times" st__law_times ["one", "other"] _law_times_m := FnM.by V.d__law_times sc__law_times (_law_times_bd V hS)
theorem sc__law_divisor_of : FnScope ["numbers", "found", "number"] ["numbers"] (defScope st__law_divisor_of) := ⟨rfl, rfl, rfl, by decide +kernel, rfl, by decide +kernel, by decide +kernel⟩
theorem _law_divisor_of_bd (V : Txt K mg) (hS : SysD base) : BdOk Pr w K mg base 1 "_law_divisor_of" st__law_divisor_of ["numbers", "found", "number"] [] _law_divisor_of_b := fun fa cdv A outer s H E hg hr => by
  have hN := (sc__law_divisor_of).nd
  exact s_cons (s_set (i := 1) hN rfl (.inl rfl) (e_P (p_int))) (s_cons (s_for (passes_of rfl) rfl (iD_seq (e_P (p_V rfl (.inl rfl)))) (g_V hN rfl (.inl rfl) (.inl rfl)) (s_one (s_set (i := 1) hN rfl (.inl rfl) (e_P (p_fn (_law_divisor_ok V hS) bp__law_divisor hg hr (by rfl) (ad_cons (p_V rfl (.inl rfl)) (ad_cons (p_V rfl (.inl rfl)) ad_nil))))))) (s_one (s_ret (e_P (p_V rfl (.inl rfl))))))
theorem _law_divisor_of_ok (V : Txt K mg) (hS : SysD base) : FnM Pr w K mg base 2 "_law_divisor_of" st__law_divisor_of ["numbers"] _law_divisor_of_m := FnM.by V.d__law_divisor_of sc__law_divisor_of (_law_divisor_of_bd V hS)
theorem sc__law_piece : FnScope ["pot", "way", "found", "shape", "key"] ["pot"] (defScope st__law_piece) := ⟨rfl, rfl, rfl, by decide +kernel, rfl, by decide +kernel, by decide +kernel⟩
theorem _law_piece_bd (V : Txt K mg) (hS : SysD base) : BdOk Pr w K mg base 1 "_law_piece" st__law_piece ["pot", "way", "found", "shape", "key"] [0] _law_piece_b := fun fa cdv A outer s H E hg hr => by
  have hN := (sc__law_piece).nd
  exact s_cons (s_par (i := 1) (j := 2) rfl hN rfl rfl (by decide) rfl rfl (am_cons (e_fnL (_law_draw_ok V hS) bp__law_draw hg hr (takes_of rfl rfl rfl rfl) (by rfl) rfl (.inl rfl) (am_cons (e_P (p_int)) am_nil)) (am_cons (e_dnewT) am_nil)) (by decide) (by decide) rfl) (s_cons (s_set (i := 3) hN rfl (.inl rfl) (e_P (p_ix (p_F (f_lst (ad_cons (p_F (f_lst (ad_cons (p_tup (ad_cons (p_int) (ad_cons (p_int) ad_nil))) (ad_cons (p_tup (ad_cons (p_int) (ad_cons (p_int) ad_nil))) (ad_cons (p_tup (ad_cons (p_int) (ad_cons (p_int) ad_nil))) ad_nil))))) (ad_cons (p_F (f_lst (ad_cons (p_tup (ad_cons (p_int) (ad_cons (p_int) ad_nil))) (ad_cons (p_tup (ad_cons (p_int) (ad_cons (p_int) ad_nil))) (ad_cons (p_tup (ad_cons (p_int) (ad_cons (p_int) ad_nil))) ad_nil))))) (ad_cons (p_F (f_lst (ad_cons (p_tup (ad_cons (p_int) (ad_cons (p_int) ad_nil))) (ad_cons (p_tup (ad_cons (p_int) (ad_cons (p_int) ad_nil))) (ad_cons (p_tup (ad_cons (p_int) (ad_cons (p_int) ad_nil))) ad_nil))))) (ad_cons (p_F (f_lst (ad_cons (p_tup (ad_cons (p_int) (ad_cons (p_int) ad_nil))) (ad_cons (p_tup (ad_cons (p_int) (ad_cons (p_int) ad_nil))) (ad_cons (p_tup (ad_cons (p_int) (ad_cons (p_int) ad_nil))) ad_nil))))) (ad_cons (p_F (f_lst (ad_cons (p_tup (ad_cons (p_int) (ad_cons (p_int) ad_nil))) (ad_cons (p_tup (ad_cons (p_int) (ad_cons (p_int) ad_nil))) (ad_cons (p_tup (ad_cons (p_int) (ad_cons (p_int) ad_nil))) ad_nil))))) (ad_cons (p_F (f_lst (ad_cons (p_tup (ad_cons (p_int) (ad_cons (p_int) ad_nil))) (ad_cons (p_tup (ad_cons (p_int) (ad_cons (p_int) ad_nil))) ad_nil)))) ad_nil)))))))) (b_P (p_V rfl (.inl rfl))) (fun _ _ => rfl)))) (s_cons (s_for (passes_of rfl) rfl (iD_seq (e_P (p_V rfl (.inl rfl)))) (g_V hN rfl (.inl rfl) (.inl rfl)) (s_one (s_dput hr rfl (.inl rfl) (b_P (p_V rfl (.inl rfl))) (e_op (op_sub) pure_sub (e_fnL (_law_draw_ok V hS) bp__law_draw hg hr (takes_of rfl rfl rfl rfl) (by rfl) rfl (.inl rfl) (am_cons (e_P (p_int)) am_nil)) (e_P (p_int)))))) (s_cons (s_dput hr rfl (.inl rfl) (b_P (p_ix (p_V rfl (.inl rfl)) (b_P (p_int)) (fun _ _ => rfl))) (e_op (op_add.or op_add_str) pure_add (e_P (p_int)) (e_fnL (_law_draw_ok V hS) bp__law_draw hg hr (takes_of rfl rfl rfl rfl) (by rfl) rfl (.inl rfl) (am_cons (e_P (p_int)) am_nil)))) (s_one (s_ret (e_fn (_law_bare_ok V hS) bp__law_bare hg hr (takes_of rfl rfl rfl rfl) (by rfl) (am_cons (e_lk (e_Mv rfl (.inl rfl))) am_nil)))))))
theorem _law_piece_ok (V : Txt K mg) (hS : SysD base) : FnM Pr w K mg base 2 "_law_piece" st__law_piece ["pot"] _law_piece_m := FnM.by V.d__law_piece sc__law_piece (_law_piece_bd V hS)
theorem sc__law_given : FnScope ["pot", "plane", "found", "line"] ["pot", "plane"] (defScope st__law_given) := ⟨rfl, rfl, rfl, by decide +kernel, rfl, by decide +kernel, by decide +kernel⟩
theorem _law_given_bd (V : Txt K mg) (hS : SysD base) : BdOk Pr w K mg base 1 "_law_given" st__law_given ["pot", "plane", "found", "line"] [0] _law_given_b := fun fa cdv A outer s H E hg hr => by
  have hN := (sc__law_given).nd
  exact s_cons (s_set (i := 2) hN rfl (.inl rfl) (e_F (f_lst (ad_nil)))) (s_cons (s_for (passes_of rfl) rfl (iD_seq (e_P (p_V rfl (.inl rfl)))) (g_V hN rfl (.inl rfl) (.inl rfl)) (s_one (s_expr (e_app rfl (.inl rfl) (e_if (t_cmp (op_eqD hr.units) pure_eq (nomark _) (e_fnL (_law_draw_ok V hS) bp__law_draw hg hr (takes_of rfl rfl rfl rfl) (by rfl) rfl (.inl rfl) (am_cons (e_P (p_int)) am_nil)) (e_P (p_int))) (e_P (p_tupC V.z_tuple (l_P (p_V rfl (.inl rfl))))) (e_P (p_F (f_listC V.z_list (p_V rfl (.inl rfl)))))))))) (s_one (s_ret (e_if (t_cmp (op_eqD hr.units) pure_eq (nomark _) (e_fnL (_law_draw_ok V hS) bp__law_draw hg hr (takes_of rfl rfl rfl rfl) (by rfl) rfl (.inl rfl) (am_cons (e_P (p_int)) am_nil)) (e_P (p_int))) (e_P (p_tupC V.z_tuple (l_Kf (k_V rfl (.inl rfl))))) (e_V rfl (.inl rfl))))))
theorem _law_given_ok (V : Txt K mg) (hS : SysD base) : FnM Pr w K mg base 2 "_law_given" st__law_given ["pot", "plane"] _law_given_m := FnM.by V.d__law_given sc__law_given (_law_given_bd V hS)
theorem sc__law_is_plane : FnScope ["value", "line", "number"] ["value"] (defScope st__law_is_plane) := ⟨rfl, rfl, rfl, by decide +kernel, rfl, by decide +kernel, by decide +kernel⟩
theorem _law_is_plane_bd (V : Txt K mg) (hS : SysD base) : BdOk Pr w K mg base 1 "_law_is_plane" st__law_is_plane ["value", "line", "number"] [] _law_is_plane_b := fun fa cdv A outer s H E hg hr => by
  have hN := (sc__law_is_plane).nd
  exact s_cons (s_if (t_P (q_W (w_or (q_not (q_val (p_fn (_law_is_row_ok V hS) bp__law_is_row hg hr (by rfl) (ad_cons (p_V rfl (.inl rfl)) (ad_cons (p_int) ad_nil))))) (w_or1 (q_not (q_val (p_all rfl V.z_all (ab_cons (b_P (p_F (f_comp rfl hN (iG_seq (p_V rfl (.inl rfl))) (blkOk_by (own := [("line", 1)]) rfl) (fun _ _ _ _ _ => g_V hN rfl (by first | exact .inl rfl | exact .inr rfl) (by first | exact .inr rfl | exact .inl rfl)) (fun _ _ _ _ _ => ts_nil) (fun _ _ _ _ _ => p_fn (_law_is_row_ok V hS) bp__law_is_row hg hr (by rfl) (ad_cons (p_V rfl (.inl rfl)) (ad_cons (p_int) ad_nil))) (by decide)))) ab_nil)))))))) (s_one (s_ret (e_P (p_bl)))) (s_nil)) (s_cons (s_for (passes_of rfl) rfl (iD_seq (e_P (p_V rfl (.inl rfl)))) (g_V hN rfl (.inl rfl) (.inl rfl)) (s_one (s_if (t_P (q_W (w_or (q_not (q_val (p_all rfl V.z_all (ab_cons (b_P (p_F (f_comp rfl hN (iG_seq (p_V rfl (.inl rfl))) (blkOk_by (own := [("number", 2)]) rfl) (fun _ _ _ _ _ => g_V hN rfl (by first | exact .inl rfl | exact .inr rfl) (by first | exact .inr rfl | exact .inl rfl)) (fun _ _ _ _ _ => ts_nil) (fun _ _ _ _ _ => p_fn (_law_is_integer_ok V hS) bp__law_is_integer hg hr (by rfl) (ad_cons (p_V rfl (.inl rfl)) ad_nil)) (by decide)))) ab_nil)))) (w_or1 (q_W (w_and (q_gt (b_P (p_len V.z_len (ab_cons (b_P (p_V rfl (.inl rfl))) ab_nil))) (b_P (p_int))) (w_and1 (q_eq hr (b_P (p_ix (p_V rfl (.inl rfl)) (b_P (p_neg (b_P (p_int)))) (fun _ _ => rfl))) (b_P (p_int)))))))))) (s_one (s_ret (e_P (p_bl)))) (s_nil)))) (s_one (s_ret (e_P (p_or (p_eq hr (b_P (p_len V.z_len (ab_cons (b_P (p_V rfl (.inl rfl))) ab_nil))) (b_P (p_int))) (p_one (p_gt (b_P (p_len V.z_len (ab_cons (b_P (p_ix (p_V rfl (.inl rfl)) (b_P (p_neg (b_P (p_int)))) (fun _ _ => rfl))) ab_nil))) (b_P (p_int)))))))))
theorem _law_is_plane_ok (V : Txt K mg) (hS : SysD base) : FnM Pr w K mg base 2 "_law_is_plane" st__law_is_plane ["value"] _law_is_plane_m := FnM.by V.d__law_is_plane sc__law_is_plane (_law_is_plane_bd V hS)
theorem sc__law_is_change : FnScope ["value", "number"] ["value"] (defScope st__law_is_change) := ⟨rfl, rfl, rfl, by decide +kernel, rfl, by decide +kernel, by decide +kernel⟩
theorem _law_is_change_bd (V : Txt K mg) (hS : SysD base) : BdOk Pr w K mg base 1 "_law_is_change" st__law_is_change ["value", "number"] [] _law_is_change_b := fun fa cdv A outer s H E hg hr => by
  have hN := (sc__law_is_change).nd
  exact s_cons (s_if (t_P (q_W (w_or (q_not (q_val (p_fn (_law_is_row_ok V hS) bp__law_is_row hg hr (by rfl) (ad_cons (p_V rfl (.inl rfl)) (ad_cons (p_int) ad_nil))))) (w_or (q_ne hr (b_P (p_len V.z_len (ab_cons (b_P (p_V rfl (.inl rfl))) ab_nil))) (b_P (p_int))) (w_or1 (q_not (q_val (p_all rfl V.z_all (ab_cons (b_P (p_F (f_comp rfl hN (iG_seq (p_V rfl (.inl rfl))) (blkOk_by (own := [("number", 1)]) rfl) (fun _ _ _ _ _ => g_V hN rfl (by first | exact .inl rfl | exact .inr rfl) (by first | exact .inr rfl | exact .inl rfl)) (fun _ _ _ _ _ => ts_nil) (fun _ _ _ _ _ => p_fn (_law_is_integer_ok V hS) bp__law_is_integer hg hr (by rfl) (ad_cons (p_V rfl (.inl rfl)) ad_nil)) (by decide)))) ab_nil))))))))) (s_one (s_ret (e_P (p_bl)))) (s_nil)) (s_one (s_ret (e_P (p_ne hr (b_P (p_sub (b_P (p_mul (b_P (p_ix (p_V rfl (.inl rfl)) (b_P (p_int)) (fun _ _ => rfl))) (b_P (p_ix (p_V rfl (.inl rfl)) (b_P (p_int)) (fun _ _ => rfl))))) (b_P (p_mul (b_P (p_ix (p_V rfl (.inl rfl)) (b_P (p_int)) (fun _ _ => rfl))) (b_P (p_ix (p_V rfl (.inl rfl)) (b_P (p_int)) (fun _ _ => rfl))))))) (b_P (p_int))))))
theorem _law_is_change_ok (V : Txt K mg) (hS : SysD base) : FnM Pr w K mg base 2 "_law_is_change" st__law_is_change ["value"] _law_is_change_m := FnM.by V.d__law_is_change sc__law_is_change (_law_is_change_bd V hS)
theorem sc__law_values : FnScope ["pot", "plane", "at", "found", "odd"] ["pot", "plane"] (defScope st__law_values) := ⟨rfl, rfl, rfl, by decide +kernel, rfl, by decide +kernel, by decide +kernel⟩
theorem _law_values_bd (V : Txt K mg) (hS : SysD base) : BdOk Pr w K mg base 1 "_law_values" st__law_values ["pot", "plane", "at", "found", "odd"] [0] _law_values_b := fun fa cdv A outer s H E hg hr => by
  have hN := (sc__law_values).nd
  exact s_cons (s_par (i := 2) (j := 3) rfl hN rfl rfl (by decide) rfl rfl (am_cons (e_fnL (_law_draw_ok V hS) bp__law_draw hg hr (takes_of rfl rfl rfl rfl) (by rfl) rfl (.inl rfl) (am_cons (e_P (p_len V.z_len (ab_cons (b_P (p_V rfl (.inl rfl))) ab_nil))) am_nil)) (am_cons (e_F (f_lst (ad_cons (p_V rfl (.inl rfl)) (ad_cons (p_tupC V.z_tuple (l_P (p_V rfl (.inl rfl)))) (ad_cons (p_F (f_lst (ad_cons (p_V rfl (.inl rfl)) ad_nil))) (ad_cons (p_F (f_cat (l_P (p_V rfl (.inl rfl))) (l_F (f_lst (ad_cons (p_F (f_lst (ad_nil))) ad_nil))))) (ad_cons (p_F (f_cat (l_P (p_V rfl (.inl rfl))) (l_F (f_lst (ad_cons (p_F (f_lst (ad_cons (p_int) ad_nil))) ad_nil))))) (ad_cons (p_F (f_cat (l_F (f_lst (ad_cons (p_F (f_lst (ad_nil))) ad_nil))) (l_P (p_V rfl (.inl rfl))))) (ad_cons (p_F (f_slice (l_P (p_V rfl (.inl rfl))) o_none (o_some (b_P (p_neg (b_P (p_int))))))) (ad_cons (p_F (f_rep (l_P (p_V rfl (.inl rfl))) (b_P (p_int)))) ad_nil)))))))))) am_nil)) (by decide) (by decide) rfl) (s_cons (s_for (passes_of rfl) rfl (iD_seq (e_P (p_F (f_lst (ad_cons (p_non) (ad_cons (p_int) (ad_cons (p_str) (ad_cons (p_F (f_lst (ad_cons (p_bl) ad_nil))) (ad_cons (p_F (f_lst (ad_cons (p_int) (ad_cons (p_int) ad_nil)))) (ad_cons (p_F (f_lst (ad_cons (p_int) ad_nil))) (ad_cons (p_F (f_lst (ad_cons (p_non) ad_nil))) (ad_cons (p_F (f_lst (ad_cons (p_str) ad_nil))) (ad_cons (p_tup (ad_cons (p_int) (ad_cons (p_int) ad_nil))) (ad_cons (p_F (f_lst (ad_cons (p_int) ad_nil))) (ad_cons (p_F (f_rep (l_F (f_lst (ad_cons (p_int) ad_nil))) (b_P (p_int)))) (ad_cons (p_F (f_rep (l_F (f_lst (ad_cons (p_int) ad_nil))) (b_P (p_int)))) (ad_cons (p_F (f_lst (ad_cons (p_F (f_lst (ad_cons (p_int) ad_nil))) ad_nil))) (ad_cons (p_dct0) (ad_cons (p_F (f_lst (ad_nil))) ad_nil))))))))))))))))))) (g_V hN rfl (.inl rfl) (.inl rfl)) (s_one (s_expr (e_app rfl (.inl rfl) (e_P (p_F (f_cat (l_F (f_cat (l_F (f_slice (l_P (p_V rfl (.inl rfl))) o_none (o_some (b_P (p_V rfl (.inl rfl)))))) (l_F (f_lst (ad_cons (p_V rfl (.inl rfl)) ad_nil))))) (l_F (f_slice (l_P (p_V rfl (.inl rfl))) (o_some (b_P (p_add (b_P (p_V rfl (.inl rfl))) (b_P (p_int))))) o_none))))))))) (s_one (s_ret (e_P (p_F (f_cat (l_Kf (k_V rfl (.inl rfl))) (l_F (f_lst (ad_cons (p_non) (ad_cons (p_int) (ad_cons (p_bl) (ad_cons (p_str) (ad_cons (p_str) (ad_cons (p_dct0) (ad_cons (p_F (f_lst (ad_nil))) (ad_cons (p_tup (ad_nil)) (ad_cons (p_F (f_lst (ad_cons (p_F (f_lst (ad_nil))) ad_nil))) (ad_cons (p_tup (ad_cons (p_tup (ad_nil)) ad_nil)) (ad_cons (p_tup (ad_cons (p_F (f_lst (ad_cons (p_int) ad_nil))) ad_nil)) (ad_cons (p_F (f_lst (ad_cons (p_int) ad_nil))) (ad_cons (p_F (f_rep (l_F (f_lst (ad_cons (p_F (f_rep (l_F (f_lst (ad_cons (p_int) ad_nil))) (b_P (p_int)))) ad_nil))) (b_P (p_int)))) (ad_cons (p_F (f_rep (l_F (f_lst (ad_cons (p_F (f_lst (ad_cons (p_int) ad_nil))) ad_nil))) (b_P (p_int)))) (ad_cons (p_disp (dd_cons (p_int) (p_F (f_lst (ad_cons (p_int) ad_nil))) (dd_nil))) ad_nil)))))))))))))))))))))))
theorem _law_values_ok (V : Txt K mg) (hS : SysD base) : FnM Pr w K mg base 2 "_law_values" st__law_values ["pot", "plane"] _law_values_m := FnM.by V.d__law_values sc__law_values (_law_values_bd V hS)
theorem sc__law_changes : FnScope ["pot", "some", "turn", "found", "at", "odd"] ["pot"] (defScope st__law_changes) := ⟨rfl, rfl, rfl, by decide +kernel, rfl, by decide +kernel, by decide +kernel⟩
theorem _law_changes_bd (V : Txt K mg) (hS : SysD base) : BdOk Pr w K mg base 1 "_law_changes" st__law_changes ["pot", "some", "turn", "found", "at", "odd"] [0] _law_changes_b := fun fa cdv A outer s H E hg hr => by
  have hN := (sc__law_changes).nd
  exact s_cons (s_set (i := 1) hN rfl (.inl rfl) (e_F (f_lst (ad_nil)))) (s_cons (s_for (passes_of rfl) rfl (iD_rng1 (by rfl) V.z_range (am_cons (e_P (p_int)) am_nil)) (g_V hN rfl (.inl rfl) (.inl rfl)) (s_one (s_expr (e_app rfl (.inl rfl) (e_op (op_sub) pure_sub (e_fnL (_law_draw_ok V hS) bp__law_draw hg hr (takes_of rfl rfl rfl rfl) (by rfl) rfl (.inl rfl) (am_cons (e_P (p_int)) am_nil)) (e_P (p_int))))))) (s_cons (s_par (i := 3) (j := 4) rfl hN rfl rfl (by decide) rfl rfl (am_cons (e_lst (am_cons (e_V rfl (.inl rfl)) (am_cons (e_P (p_tupC V.z_tuple (l_Kf (k_V rfl (.inl rfl))))) (am_cons (e_P (p_F (f_slice (l_Kf (k_V rfl (.inl rfl))) o_none (o_some (b_P (p_int)))))) (am_cons (e_P (p_F (f_cat (l_Kf (k_V rfl (.inl rfl))) (l_F (f_lst (ad_cons (p_int) ad_nil)))))) (am_cons (e_frz (e_lst (am_cons (e_V rfl (.inl rfl)) am_nil))) (am_cons (e_P (p_F (f_cat (l_F (f_slice (l_Kf (k_V rfl (.inl rfl))) o_none (o_some (b_P (p_int))))) (l_F (f_slice (l_Kf (k_V rfl (.inl rfl))) o_none (o_some (b_P (p_int)))))))) (am_cons (e_P (p_F (f_lst (ad_cons (p_int) (ad_cons (p_int) (ad_cons (p_int) (ad_cons (p_int) (ad_cons (p_int) (ad_cons (p_int) ad_nil))))))))) (am_cons (e_P (p_F (f_lst (ad_cons (p_int) (ad_cons (p_int) (ad_cons (p_int) (ad_cons (p_int) (ad_cons (p_int) (ad_cons (p_int) ad_nil))))))))) am_nil))))))))) (am_cons (e_fnL (_law_draw_ok V hS) bp__law_draw hg hr (takes_of rfl rfl rfl rfl) (by rfl) rfl (.inl rfl) (am_cons (e_P (p_int)) am_nil)) am_nil)) (by decide) (by decide) rfl) (s_cons (s_for (passes_of rfl) rfl (iD_seq (e_P (p_F (f_lst (ad_cons (p_bl) (ad_cons (p_bl) (ad_cons (p_non) (ad_cons (p_str) (ad_cons (p_F (f_lst (ad_cons (p_int) ad_nil))) (ad_cons (p_pow (b_P (p_int)) (b_P (p_int))) (ad_cons (p_neg (b_P (p_int))) ad_nil))))))))))) (g_V hN rfl (.inl rfl) (.inl rfl)) (s_one (s_expr (e_app rfl (.inl rfl) (e_P (p_F (f_cat (l_F (f_cat (l_F (f_slice (l_Kf (k_V rfl (.inl rfl))) o_none (o_some (b_P (p_V rfl (.inl rfl)))))) (l_F (f_lst (ad_cons (p_V rfl (.inl rfl)) ad_nil))))) (l_F (f_slice (l_Kf (k_V rfl (.inl rfl))) (o_some (b_P (p_add (b_P (p_V rfl (.inl rfl))) (b_P (p_int))))) o_none))))))))) (s_one (s_ret (e_P (p_F (f_cat (l_Kf (k_V rfl (.inl rfl))) (l_F (f_lst (ad_cons (p_non) (ad_cons (p_int) (ad_cons (p_str) (ad_cons (p_str) (ad_cons (p_dct0) (ad_cons (p_F (f_lst (ad_nil))) (ad_cons (p_tup (ad_nil)) (ad_cons (p_bl) ad_nil))))))))))))))))))
theorem _law_changes_ok (V : Txt K mg) (hS : SysD base) : FnM Pr w K mg base 2 "_law_changes" st__law_changes ["pot"] _law_changes_m := FnM.by V.d__law_changes sc__law_changes (_law_changes_bd V hS)
theorem sc_want_plane : FnScope ["value", "found"] ["value"] (defScope st_want_plane) := ⟨rfl, rfl, rfl, by decide +kernel, rfl, by decide +kernel, by decide +kernel⟩
theorem want_plane_bd (V : Txt K mg) (hS : SysD base) : BdOk Pr w K mg base 2 "want_plane" st_want_plane ["value", "found"] [] want_plane_b := fun fa cdv A outer s H E hg hr => by
  have hN := (sc_want_plane).nd
  exact s_cons (s_set (i := 1) hN rfl (.inl rfl) (e_P (p_fn (plane_in_ok V hS) bp_plane_in hg hr (by rfl) (ad_cons (p_V rfl (.inl rfl)) ad_nil)))) (s_cons (s_if (t_P (q_isN (b_P (p_V rfl (.inl rfl))) (b_P (p_non)))) (s_one (s_never)) (s_nil)) (s_one (s_ret (e_P (p_V rfl (.inl rfl))))))
theorem want_plane_ok (V : Txt K mg) (hS : SysD base) : FnM Pr w K mg base 3 "want_plane" st_want_plane ["value"] want_plane_m := FnM.by V.d_want_plane sc_want_plane (want_plane_bd V hS)
theorem sc_plane_divisor : FnScope ["plane", "line"] ["plane"] (defScope st_plane_divisor) := ⟨rfl, rfl, rfl, by decide +kernel, rfl, by decide +kernel, by decide +kernel⟩
theorem plane_divisor_bd (V : Txt K mg) (hS : SysD base) : BdOk Pr w K mg base 2 "plane_divisor" st_plane_divisor ["plane", "line"] [] plane_divisor_b := fun fa cdv A outer s H E hg hr => by
  have hN := (sc_plane_divisor).nd
  exact s_one (s_ret (e_P (p_fn (greatest_of_ok V hS) bp_greatest_of hg hr (by rfl) (ad_cons (p_F (f_comp rfl hN (iG_seq (p_V rfl (.inl rfl))) (blkOk_by (own := [("line", 1)]) rfl) (fun _ _ _ _ _ => g_V hN rfl (by first | exact .inl rfl | exact .inr rfl) (by first | exact .inr rfl | exact .inl rfl)) (fun _ _ _ _ _ => ts_nil) (fun _ _ _ _ _ => p_fn (greatest_of_ok V hS) bp_greatest_of hg hr (by rfl) (ad_cons (p_V rfl (.inl rfl)) ad_nil)) (by decide))) ad_nil))))
theorem plane_divisor_ok (V : Txt K mg) (hS : SysD base) : FnM Pr w K mg base 3 "plane_divisor" st_plane_divisor ["plane"] plane_divisor_m := FnM.by V.d_plane_divisor sc_plane_divisor (plane_divisor_bd V hS)
theorem sc_is_plane : FnScope ["value"] ["value"] (defScope st_is_plane) := ⟨rfl, rfl, rfl, by decide +kernel, rfl, by decide +kernel, by decide +kernel⟩
theorem is_plane_bd (V : Txt K mg) (hS : SysD base) : BdOk Pr w K mg base 2 "is_plane" st_is_plane ["value"] [] is_plane_b := fun fa cdv A outer s H E hg hr => by
  have hN := (sc_is_plane).nd
  exact s_one (s_ret (e_P (p_notN (b_P (p_fn (plane_in_ok V hS) bp_plane_in hg hr (by rfl) (ad_cons (p_V rfl (.inl rfl)) ad_nil))) (b_P (p_non)))))
theorem is_plane_ok (V : Txt K mg) (hS : SysD base) : FnM Pr w K mg base 3 "is_plane" st_is_plane ["value"] is_plane_m := FnM.by V.d_is_plane sc_is_plane (is_plane_bd V hS)
theorem sc_is_change : FnScope ["value"] ["value"] (defScope st_is_change) := ⟨rfl, rfl, rfl, by decide +kernel, rfl, by decide +kernel, by decide +kernel⟩
theorem is_change_bd (V : Txt K mg) (hS : SysD base) : BdOk Pr w K mg base 2 "is_change" st_is_change ["value"] [] is_change_b := fun fa cdv A outer s H E hg hr => by
  have hN := (sc_is_change).nd
  exact s_one (s_ret (e_P (p_notN (b_P (p_fn (change_in_ok V hS) bp_change_in hg hr (by rfl) (ad_cons (p_V rfl (.inl rfl)) ad_nil))) (b_P (p_non)))))
theorem is_change_ok (V : Txt K mg) (hS : SysD base) : FnM Pr w K mg base 3 "is_change" st_is_change ["value"] is_change_m := FnM.by V.d_is_change sc_is_change (is_change_bd V hS)
theorem sc__law_plain : FnScope ["terms", "part", "key"] ["terms"] (defScope st__law_plain) := ⟨rfl, rfl, rfl, by decide +kernel, rfl, by decide +kernel, by decide +kernel⟩
theorem _law_plain_bd (V : Txt K mg) (hS : SysD base) : BdOk Pr w K mg base 2 "_law_plain" st__law_plain ["terms", "part", "key"] [] _law_plain_b := fun fa cdv A outer s H E hg hr => by
  have hN := (sc__law_plain).nd
  exact s_cons (s_if (t_P (q_eq0 hr (b_P (p_V rfl (.inr (.inl rfl)))) (b_P (p_dct0)))) (s_one (s_ret (e_lk (e_dnewT)))) (s_nil)) (s_cons (s_set (i := 1) hN rfl (.inr rfl) (e_P (p_fn (_law_divisor_of_ok V hS) bp__law_divisor_of hg hr (by rfl) (ad_cons (p_F (f_comp rfl hN (iG_keys (p_V rfl (.inr (.inl rfl)))) (blkOk_by (own := [("key", 2)]) rfl) (fun _ _ _ _ _ => g_V hN rfl (by first | exact .inl rfl | exact .inr rfl) (by first | exact .inr rfl | exact .inl rfl)) (fun _ _ _ _ _ => ts_nil) (fun _ _ _ _ _ => p_dix hr (b_P (p_V rfl (by first | exact .inr (.inr rfl) | exact .inr (.inl rfl) | exact .inl rfl))) (b_P (p_V rfl (.inl rfl))) (fun _ _ => rfl)) (by decide))) ad_nil)))) (s_cons (s_set (i := 1) hN rfl (.inr rfl) (e_P (p_if (q_gt (b_P (p_dix hr (b_P (p_V rfl (.inr (.inl rfl)))) (b_P (p_maxT hr rfl V.z_max (p_V rfl (.inr (.inl rfl))))) (fun _ _ => rfl))) (b_P (p_int))) (p_V rfl (.inr (.inl rfl))) (p_sub (b_P (p_int)) (b_P (p_V rfl (.inr (.inl rfl)))))))) (s_one (s_ret (e_lk (e_dictT hr rfl (by rfl) V.z_dict (by decide +kernel) (p_F (f_comp rfl hN (iG_keys (p_V rfl (.inr (.inl rfl)))) (blkOk_by (own := [("key", 2)]) rfl) (fun _ _ _ _ _ => g_V hN rfl (by first | exact .inl rfl | exact .inr rfl) (by first | exact .inr rfl | exact .inl rfl)) (fun _ _ _ _ _ => ts_nil) (fun _ _ _ _ _ => p_tup (ad_cons (p_V rfl (.inl rfl)) (ad_cons (p_fdiv (b_P (p_dix hr (b_P (p_V rfl (by first | exact .inr (.inr rfl) | exact .inr (.inl rfl) | exact .inl rfl))) (b_P (p_V rfl (.inl rfl))) (fun _ _ => rfl))) (b_P (p_V rfl (by first | exact .inr (.inr rfl) | exact .inr (.inl rfl) | exact .inl rfl)))) ad_nil))) (by decide)))))))))
theorem _law_plain_ok (V : Txt K mg) (hS : SysD base) : FnM Pr w K mg base 3 "_law_plain" st__law_plain ["terms"] _law_plain_m := FnM.by V.d__law_plain sc__law_plain (_law_plain_bd V hS)
theorem sc__law_product : FnScope ["pieces", "found", "piece"] ["pieces"] (defScope st__law_product) := ⟨rfl, rfl, rfl, by decide +kernel, rfl, by decide +kernel, by decide +kernel⟩
theorem _law_product_bd (V : Txt K mg) (hS : SysD base) : BdOk Pr w K mg base 2 "_law_product" st__law_product ["pieces", "found", "piece"] [] _law_product_b := fun fa cdv A outer s H E hg hr => by
  have hN := (sc__law_product).nd
  exact s_cons (s_set (i := 1) hN rfl (.inl rfl) (e_lk (e_dispT hr (dd_cons (p_tup (ad_cons (p_int) (ad_cons (p_int) ad_nil))) (p_int) (dd_nil))))) (s_cons (s_for (passes_of rfl) rfl (iD_seq (e_P (p_V rfl (.inl rfl)))) (g_V hN rfl (.inl rfl) (.inl rfl)) (s_one (s_set (i := 1) hN rfl (.inl rfl) (e_P (p_fn (_law_times_ok V hS) bp__law_times hg hr (by rfl) (ad_cons (p_V rfl (.inl rfl)) (ad_cons (p_V rfl (.inl rfl)) ad_nil))))))) (s_one (s_ret (e_P (p_V rfl (.inl rfl))))))
theorem _law_product_ok (V : Txt K mg) (hS : SysD base) : FnM Pr w K mg base 3 "_law_product" st__law_product ["pieces"] _law_product_m := FnM.by V.d__law_product sc__law_product (_law_product_bd V hS)
theorem sc_made_plain : FnScope ["plane", "common", "line", "number"] ["plane"] (defScope st_made_plain) := ⟨rfl, rfl, rfl, by decide +kernel, rfl, by decide +kernel, by decide +kernel⟩
theorem made_plain_bd (V : Txt K mg) (hS : SysD base) : BdOk Pr w K mg base 3 "made_plain" st_made_plain ["plane", "common", "line", "number"] [] made_plain_b := fun fa cdv A outer s H E hg hr => by
  have hN := (sc_made_plain).nd
  exact s_cons (s_set (i := 1) hN rfl (.inr rfl) (e_P (p_fn (plane_divisor_ok V hS) bp_plane_divisor hg hr (by rfl) (ad_cons (p_V rfl (.inl rfl)) ad_nil)))) (s_cons (s_if (t_P (q_eq hr (b_P (p_V rfl (.inr (.inl rfl)))) (b_P (p_int)))) (s_one (s_ret (e_lst (am_nil)))) (s_nil)) (s_cons (s_if (t_P (q_lt (b_P (p_fn (head_of_plane_ok V hS) bp_head_of_plane hg (hr.mono (by decide : 1 ≤ 3)) (by rfl) (ad_cons (p_V rfl (.inl rfl)) ad_nil))) (b_P (p_int)))) (s_one (s_set (i := 1) hN rfl (.inr rfl) (e_P (p_sub (b_P (p_int)) (b_P (p_V rfl (.inr (.inl rfl)))))))) (s_nil)) (s_one (s_ret (e_comp rfl hN (iD_seq (e_P (p_V rfl (.inl rfl)))) (blkOk_by (own := [("line", 2)]) rfl) (fun _ _ _ _ _ => g_V hN rfl (by first | exact .inl rfl | exact .inr rfl) (by first | exact .inr rfl | exact .inl rfl)) (fun _ _ _ _ _ => ts_nil) (fun _ _ _ _ _ => e_F (f_comp rfl hN (iG_seq (p_V rfl (.inl rfl))) (blkOk_by (own := [("number", 3)]) rfl) (fun _ _ _ _ _ => g_V hN rfl (by first | exact .inl rfl | exact .inr rfl) (by first | exact .inr rfl | exact .inl rfl)) (fun _ _ _ _ _ => ts_nil) (fun _ _ _ _ _ => p_fdiv (b_P (p_V rfl (.inl rfl))) (b_P (p_V rfl (by first | exact .inr (.inr rfl) | exact .inr (.inl rfl) | exact .inl rfl)))) (by decide))) (by decide))))))
theorem made_plain_ok (V : Txt K mg) (hS : SysD base) : FnM Pr w K mg base 4 "made_plain" st_made_plain ["plane"] made_plain_m := FnM.by V.d_made_plain sc_made_plain (made_plain_bd V hS)
theorem sc_degrees : FnScope ["plane"] ["plane"] (defScope st_degrees) := ⟨rfl, rfl, rfl, by decide +kernel, rfl, by decide +kernel, by decide +kernel⟩
theorem degrees_bd (V : Txt K mg) (hS : SysD base) : BdOk Pr w K mg base 3 "degrees" st_degrees ["plane"] [] degrees_b := fun fa cdv A outer s H E hg hr => by
  have hN := (sc_degrees).nd
  exact s_one (s_ret (e_P (p_fn (degrees_of_ok V hS) bp_degrees_of hg (hr.mono (by decide : 1 ≤ 3)) (by rfl) (ad_cons (p_fn (want_plane_ok V hS) bp_want_plane hg hr (by rfl) (ad_cons (p_V rfl (.inl rfl)) ad_nil)) ad_nil))))
theorem degrees_ok (V : Txt K mg) (hS : SysD base) : FnM Pr w K mg base 4 "degrees" st_degrees ["plane"] degrees_m := FnM.by V.d_degrees sc_degrees (degrees_bd V hS)
theorem sc_head : FnScope ["plane"] ["plane"] (defScope st_head) := ⟨rfl, rfl, rfl, by decide +kernel, rfl, by decide +kernel, by decide +kernel⟩
theorem head_bd (V : Txt K mg) (hS : SysD base) : BdOk Pr w K mg base 3 "head" st_head ["plane"] [] head_b := fun fa cdv A outer s H E hg hr => by
  have hN := (sc_head).nd
  exact s_one (s_ret (e_P (p_fn (head_of_plane_ok V hS) bp_head_of_plane hg (hr.mono (by decide : 1 ≤ 3)) (by rfl) (ad_cons (p_fn (want_plane_ok V hS) bp_want_plane hg hr (by rfl) (ad_cons (p_V rfl (.inl rfl)) ad_nil)) ad_nil))))
theorem head_ok (V : Txt K mg) (hS : SysD base) : FnM Pr w K mg base 4 "head" st_head ["plane"] head_m := FnM.by V.d_head sc_head (head_bd V hS)
theorem sc_plain_plane : FnScope ["plane"] ["plane"] (defScope st_plain_plane) := ⟨rfl, rfl, rfl, by decide +kernel, rfl, by decide +kernel, by decide +kernel⟩
theorem plain_plane_bd (V : Txt K mg) (hS : SysD base) : BdOk Pr w K mg base 4 "plain_plane" st_plain_plane ["plane"] [] plain_plane_b := fun fa cdv A outer s H E hg hr => by
  have hN := (sc_plain_plane).nd
  exact s_one (s_ret (e_fnO (made_plain_ok V hS) bp_made_plain hg hr (takes_of rfl rfl rfl rfl) (by rfl) (am_cons (e_P (p_fn (want_plane_ok V hS) bp_want_plane hg (hr.mono (by decide : 3 ≤ 4)) (by rfl) (ad_cons (p_V rfl (.inl rfl)) ad_nil))) am_nil)))
theorem plain_plane_ok (V : Txt K mg) (hS : SysD base) : FnM Pr w K mg base 5 "plain_plane" st_plain_plane ["plane"] plain_plane_m := FnM.by V.d_plain_plane sc_plain_plane (plain_plane_bd V hS)
theorem sc__law_right : FnScope ["pot", "pieces", "turn", "terms", "at", "value", "given", "told", "due", "shown", "found", "here"] ["pot"] (defScope st__law_right) := ⟨rfl, rfl, rfl, by decide +kernel, rfl, by decide +kernel, by decide +kernel⟩
theorem _law_right_bd (V : Txt K mg) (hS : SysD base) : BdOk Pr w K mg base 5 "_law_right" st__law_right ["pot", "pieces", "turn", "terms", "at", "value", "given", "told", "due", "shown", "found", "here"] [0] _law_right_b := fun fa cdv A outer s H E hg hr => by
  have hN := (sc__law_right).nd
  exact s_cons (s_set (i := 1) hN rfl (.inl rfl) (e_F (f_lst (ad_nil)))) (s_cons (s_for (passes_of rfl) rfl (iD_rng1 (by rfl) V.z_range (am_cons (e_op (op_add.or op_add_str) pure_add (e_P (p_int)) (e_fnL (_law_draw_ok V hS) bp__law_draw hg (hr.mono (by decide : 1 ≤ 5)) (takes_of rfl rfl rfl rfl) (by rfl) rfl (.inl rfl) (am_cons (e_P (p_int)) am_nil))) am_nil)) (g_V hN rfl (.inl rfl) (.inl rfl)) (s_one (s_expr (e_app rfl (.inl rfl) (e_fnL (_law_piece_ok V hS) bp__law_piece hg (hr.mono (by decide : 2 ≤ 5)) (takes_of rfl rfl rfl rfl) (by rfl) rfl (.inl rfl) (am_nil)))))) (s_cons (s_set (i := 3) hN rfl (.inl rfl) (e_fn (_law_product_ok V hS) bp__law_product hg (hr.mono (by decide : 3 ≤ 5)) (takes_of rfl rfl rfl rfl) (by rfl) (am_cons (e_V rfl (.inl rfl)) am_nil))) (s_cons (s_for (passes_of rfl) rfl (iD_enum (by rfl) V.z_enumerate (am_cons (e_fnL (_law_values_ok V hS) bp__law_values hg (hr.mono (by decide : 2 ≤ 5)) (takes_of rfl rfl rfl rfl) (by rfl) rfl (.inl rfl) (am_cons (e_P (p_fn (_law_listed_ok V hS) bp__law_listed hg (hr.mono (by decide : 1 ≤ 5)) (by rfl) (ad_cons (p_V rfl (.inl rfl)) ad_nil))) am_nil)) am_nil)) (g_tup rfl (gs_cons (g_V hN rfl (.inl rfl) (.inl rfl)) (gs_cons (g_V hN rfl (.inl rfl) (.inl rfl)) (gs_nil)))) (s_cons (s_par (i := 8) (j := 9) rfl hN rfl rfl (by decide) rfl rfl (am_cons (e_P (p_fn (_law_is_plane_ok V hS) bp__law_is_plane hg (hr.mono (by decide : 2 ≤ 5)) (by rfl) (ad_cons (p_V rfl (.inl rfl)) ad_nil))) (am_cons (e_P (p_repr2 V.z_repr hr hg hS (ab_cons (b_P (p_V rfl (.inl rfl))) ab_nil))) am_nil)) (by decide) (by decide) rfl) (s_cons (s_set (i := 10) hN rfl (.inl rfl) (e_P (p_if (q_eq hr (b_P (p_mod (b_P (p_intC V.z_int (ab_cons (b_P (p_V rfl (.inl rfl))) ab_nil))) (b_P (p_int)))) (b_P (p_int))) (p_fn (is_plane_ok V hS) bp_is_plane hg (hr.mono (by decide : 3 ≤ 5)) (by rfl) (ad_cons (p_V rfl (.inl rfl)) ad_nil)) (p_fnK0 (js := [0]) (is_plane_ok V hS) (bk_is_plane_value) hg (hr.mono (by decide : 3 ≤ 5)) (by rfl) (kd_cons (p_V rfl (.inl rfl)) (kd_nil)) (hj := fun ds hl => match ds, hl with | [_], _ => rfl))))) (s_cons (s_if (t_P (q_W (w_or (q_neT hr (b_P (p_repr2 V.z_repr hr hg hS (ab_cons (b_P (p_V rfl (.inl rfl))) ab_nil))) (b_P (p_repr2 V.z_repr hr hg hS (ab_cons (b_P (p_V rfl (.inl rfl))) ab_nil)))) (w_or1 (q_neT hr (b_P (p_repr2 V.z_repr hr hg hS (ab_cons (b_P (p_V rfl (.inl rfl))) ab_nil))) (b_P (p_V rfl (.inl rfl)))))))) (s_one (s_ret (e_P (p_bl)))) (s_nil)) (s_one (s_if (t_P (q_val (p_V rfl (.inl rfl)))) (s_cons (s_set (i := 11) hN rfl (.inl rfl) (e_P (p_fn (_law_dict_ok V hS) bp__law_dict hg (hr.mono (by decide : 1 ≤ 5)) (by rfl) (ad_cons (p_V rfl (.inl rfl)) ad_nil)))) (s_cons (s_if (t_P (q_neT hr (b_P (p_repr2 V.z_repr hr hg hS (ab_cons (b_P (p_F (f_lst (ad_cons (p_fn (degrees_ok V hS) bp_degrees hg (hr.mono (by decide : 4 ≤ 5)) (by rfl) (ad_cons (p_V rfl (.inl rfl)) ad_nil)) (ad_cons (p_fnK0 (js := [0]) (head_ok V hS) (bk_head_plane) hg (hr.mono (by decide : 4 ≤ 5)) (by rfl) (kd_cons (p_V rfl (.inl rfl)) (kd_nil)) (hj := fun ds hl => match ds, hl with | [_], _ => rfl)) ad_nil))))) ab_nil))) (b_P (p_repr2 V.z_repr hr hg hS (ab_cons (b_P (p_F (f_lst (ad_cons (p_fn (_law_degrees_ok V hS) bp__law_degrees hg (hr.mono (by decide : 1 ≤ 5)) (by rfl) (ad_cons (p_V rfl (.inl rfl)) ad_nil)) (ad_cons (p_if (q_ne0 hr (b_P (p_V rfl (.inl rfl))) (b_P (p_dct0))) (p_dix hr (b_P (p_V rfl (.inl rfl))) (b_P (p_maxT hr rfl V.z_max (p_V rfl (.inl rfl)))) (fun _ _ => rfl)) (p_int)) ad_nil))))) ab_nil))))) (s_one (s_ret (e_P (p_bl)))) (s_nil)) (s_one (s_if (t_P (q_W (w_or (q_ne hr (b_P (p_fn (plain_plane_ok V hS) bp_plain_plane hg hr (by rfl) (ad_cons (p_V rfl (.inl rfl)) ad_nil))) (b_P (p_fn (_law_listed_ok V hS) bp__law_listed hg (hr.mono (by decide : 1 ≤ 5)) (by rfl) (ad_cons (p_fn (_law_plain_ok V hS) bp__law_plain hg (hr.mono (by decide : 3 ≤ 5)) (by rfl) (ad_cons (p_V rfl (.inl rfl)) ad_nil)) ad_nil)))) (w_or1 (q_neT hr (b_P (p_repr2 V.z_repr hr hg hS (ab_cons (b_P (p_V rfl (.inl rfl))) ab_nil))) (b_P (p_V rfl (.inl rfl)))))))) (s_one (s_ret (e_P (p_bl)))) (s_nil))))) (s_nil))))))) (s_cons (s_for (passes_of rfl) rfl (iD_enum (by rfl) V.z_enumerate (am_cons (e_fnL (_law_changes_ok V hS) bp__law_changes hg (hr.mono (by decide : 2 ≤ 5)) (takes_of rfl rfl rfl rfl) (by rfl) rfl (.inl rfl) (am_nil)) am_nil)) (g_tup rfl (gs_cons (g_V hN rfl (.inl rfl) (.inl rfl)) (gs_cons (g_V hN rfl (.inl rfl) (.inl rfl)) (gs_nil)))) (s_cons (s_set (i := 10) hN rfl (.inl rfl) (e_P (p_if (q_eq hr (b_P (p_mod (b_P (p_intC V.z_int (ab_cons (b_P (p_V rfl (.inl rfl))) ab_nil))) (b_P (p_int)))) (b_P (p_int))) (p_fn (is_change_ok V hS) bp_is_change hg (hr.mono (by decide : 3 ≤ 5)) (by rfl) (ad_cons (p_V rfl (.inl rfl)) ad_nil)) (p_fnK0 (js := [0]) (is_change_ok V hS) (bk_is_change_value) hg (hr.mono (by decide : 3 ≤ 5)) (by rfl) (kd_cons (p_V rfl (.inl rfl)) (kd_nil)) (hj := fun ds hl => match ds, hl with | [_], _ => rfl))))) (s_one (s_if (t_P (q_neT hr (b_P (p_repr2 V.z_repr hr hg hS (ab_cons (b_P (p_V rfl (.inl rfl))) ab_nil))) (b_P (p_repr2 V.z_repr hr hg hS (ab_cons (b_P (p_fn (_law_is_change_ok V hS) bp__law_is_change hg (hr.mono (by decide : 2 ≤ 5)) (by rfl) (ad_cons (p_V rfl (.inl rfl)) ad_nil))) ab_nil))))) (s_one (s_ret (e_P (p_bl)))) (s_nil))))) (s_cons (s_set (i := 6) hN rfl (.inl rfl) (e_fnL (_law_given_ok V hS) bp__law_given hg (hr.mono (by decide : 2 ≤ 5)) (takes_of rfl rfl rfl rfl) (by rfl) rfl (.inl rfl) (am_cons (e_P (p_fn (_law_listed_ok V hS) bp__law_listed hg (hr.mono (by decide : 1 ≤ 5)) (by rfl) (ad_cons (p_V rfl (.inl rfl)) ad_nil))) am_nil))) (s_cons (s_set (i := 7) hN rfl (.inl rfl) (e_fnO (plain_plane_ok V hS) bp_plain_plane hg hr (takes_of rfl rfl rfl rfl) (by rfl) (am_cons (e_P (p_V rfl (.inl rfl))) am_nil))) (s_cons (s_expr (e_appP (pa_ix (pa_V rfl (.inl rfl)) (b_P (p_int)) (fun _ _ => rfl)) (p_int))) (s_one (s_ret (e_P (p_eq hr (b_P (p_fnK0 (js := [0]) (plain_plane_ok V hS) (bk_plain_plane_plane) hg hr (by rfl) (kd_cons (p_V rfl (.inl rfl)) (kd_nil)) (hj := fun ds hl => match ds, hl with | [_], _ => rfl))) (b_P (p_fn (_law_listed_ok V hS) bp__law_listed hg (hr.mono (by decide : 1 ≤ 5)) (by rfl) (ad_cons (p_fn (_law_plain_ok V hS) bp__law_plain hg (hr.mono (by decide : 3 ≤ 5)) (by rfl) (ad_cons (p_V rfl (.inl rfl)) ad_nil)) ad_nil))))))))))))))
theorem _law_right_ok (V : Txt K mg) (hS : SysD base) : FnM Pr w K mg base 6 "_law_right" st__law_right ["pot"] _law_right_m := FnM.by V.d__law_right sc__law_right (_law_right_bd V hS)
theorem sc_law : FnScope ["script"] ["script"] (defScope st_law) := ⟨rfl, rfl, rfl, by decide +kernel, rfl, by decide +kernel, by decide +kernel⟩
theorem law_bd (V : Txt K mg) (hS : SysD base) : BdOk Pr w K mg base 6 "law" st_law ["script"] [] law_b := fun fa cdv A outer s H E hg hr => by
  have hN := (sc_law).nd
  exact s_one (s_ret (e_fn (_law_right_ok V hS) bp__law_right hg hr (takes_of rfl rfl rfl rfl) (by rfl) (am_cons (e_fnO (_law_pot_ok V hS) bp__law_pot hg (hr.mono (by decide : 1 ≤ 6)) (takes_of rfl rfl rfl rfl) (by rfl) (am_cons (e_P (p_V rfl (.inl rfl))) (am_cons (e_P (p_int)) am_nil))) am_nil)))
theorem law_ok (V : Txt K mg) (hS : SysD base) : FnM Pr w K mg base 7 "law" st_law ["script"] law_m := FnM.by V.d_law sc_law (law_bd V hS)
end
end k21
namespace k21
open PySem PySem.Spec PyProof.Rows L2 PL
/-! ### the functions that other laws have, too -/
theorem draw_ok : DrawOk _law_draw_m := draw_gen (by decide) (by decide) (by decide) (by decide) (by decide) (by decide) (by decide)
theorem bare_v {t : TD} (d : Dk t) (hl : t.length ≤ 1000) : Gives _law_bare_m [.frz (dL t)] (.frz (dL (bareT t))) := bare_gen d hl
theorem times_v {a b : TD} (da : Dk a) (db : Dk b) (na : nrT a < 2 ^ 60) (nb : nrT b < 2 ^ 60) (hl : a.length * b.length ≤ 1000) : Gives _law_times_m [.frz (dL a), .frz (dL b)] (.frz (dL (bareT (timesT a b)))) := times_gen bare_v da db na nb hl
theorem listed_v {t : TD} {B : Nat} (hB : B ≤ 900) (hl : t.length ≤ 900) (hb : ∀ e ∈ t, e.1.1 < B ∧ e.1.2 < B) : Gives _law_listed_m [.frz (dL t)] (.frz (.lst (lnD (listT t)))) := listed_gen hB hl hb
theorem dict_v {d : D} {ps : List (List Int)} (h : Sh d ps) (hl : (ps.map List.length).sum ≤ 100000) : Gives _law_dict_m [.frz d] (.frz (dL (dictT ps))) := dict_gen h hl
theorem degs_v {t : TD} {ps : List (List Int)} (h : Dof t ps) (p : Pl ps) (hl : t.length ≤ 800) : Gives _law_degrees_m [.frz (dL t)] (.frz (.tup [.int ((ps.length : Int) - 1), .int (wideI ps - 1)])) := degs_gen h p hl
theorem piece_v {c : C} (hc : PotOk c) : ∃ c' t o, _law_piece_m [c] = .ok (.frz (dL t)) (some c' :: o) ∧ PotOk c' ∧ Tm 1 t := piece_gen draw_ok bare_v hc
theorem product_v {ts : List TD} (h : ∀ x ∈ ts, Tm 1 x) (hl : ts.length ≤ 5) : ∃ t, Gives _law_product_m [.frz (.lst (ts.map dL))] (.frz (dL t)) ∧ Tm ts.length t := product_gen times_v h hl
theorem given_v {c : C} (hc : PotOk c) {ps : List (List Int)} (hl : ps.length ≤ 1000) : ∃ c' b bs o, _law_given_m [c, .frz (.lst (lnD ps))] = .ok (.frz (gvv b bs ps)) (some c' :: o) ∧ PotOk c' ∧ bs.length = ps.length := given_gen draw_ok hc hl
theorem divisor_v : DivOk divisor_of_m := divisor_gen
theorem ldivisor_v : DivOk _law_divisor_m := ldivisor_gen
theorem greatest_v : GrOk greatest_of_m := greatest_gen divisor_v
theorem lgreatest_v : GrOk _law_divisor_of_m := greatest_gen ldivisor_v
theorem is_integer_v {d : D} (h : plD d = true) : is_integer_m [.frz d] = .ok (.frz (.bl (itD d))) [none] := by
  cases d <;> simp [is_integer_m, is_integer_b, PL.bodyM, PL.startE, PL.outsE, PL.sSeq, PL.sNx, PL.sBk, PL.sCt, PL.sNo, PL.sOf, PL.sSet, PL.sRet, PL.sRetN, PL.sDrop, PL.sIf, PL.sAsg, PL.sAug, PL.sAugIx, PL.sPar, PL.sFor, PL.eP, PL.eF, PL.eFrz, PL.eV, PL.eMv, PL.eFn, PL.eFnO, PL.eFnL, PL.lentTo, PL.eLst, PL.eTup, PL.eCall, PL.eOp, PL.eBin, PL.eIx, PL.eIf, PL.eAnd, PL.eOr, PL.eApp, PL.eAppP, PL.ePop, PL.eExt, PL.eExtM, PL.eCat, PL.eRep, PL.catD, PL.repD, PL.eComp, PL.tP, PL.tOfE, PL.tAnd, PL.tOr, PL.tNot, PL.pV, PL.bV, PL.pK, PL.pOp, PL.pChain, PL.qOf, PL.qAnd, PL.qOr, PL.qNot, PL.pAnd, PL.pOr, PL.pNot, PL.pIf, PL.pNeg, PL.pCall, PL.pFn, PL.pFnB, PL.pFnK, PL.pick, PL.pDm, PL.dmD, PL.pIx, PL.ixD, L2.atI, L2.ixN, PL.pSl, PL.pTup, PL.pF, PL.lP, PL.lKf, PL.frzs, PL.kV, PL.kIx, PL.ixC, PL.pKf, PL.bKf, PL.evPs_n, PL.evPs_c, PL.evMs_n, PL.evMs_c, PL.fCat, PL.fRep, PL.fSl, PL.evO, PL.fRev, PL.fSq, PL.sqD, PL.fList, PL.pTupL, PL.fComp, PL.enumS, PL.enumP, PL.zipP, PL.rngP, PL.rngM, PL.rngL, PL.mSq, PL.mP, PL.gV, PL.gTupD, PL.gsCons, PL.gsNil, PL.gIx, PL.paV, PL.paIx, PL.ownAt, PL.setAt, PL.getP, PL.setP, PL.intOf, PL.isFree, PL.wipeE, PL.freeE, PL.C.toD, PL.C.toDs, PL.ofV, PL.addI, PL.subI, PL.mulI, PL.fdivI, PL.modI, PL.powI, PL.cmpI, PL.iLt, PL.iLe, PL.iGt, PL.iGe, PL.eqV', PL.neV', PL.isN, PL.notN, PL.isNonD, PL.lenF, PL.absF, PL.intF, PL.strF, PL.maxF, PL.minF, PL.sumF, PL.allF, PL.anyF, PL.isiF, PL.clsD, PL.tyN, PL.isSubN, PL.intsOf, PL.blsOf, PL.flatD, PL.Out.bind, itD, plD] at h ⊢
theorem law_is_integer_v {d : D} (h : plD d = true) : _law_is_integer_m [.frz d] = .ok (.frz (.bl (itD d))) [none] := by
  cases d <;> simp [_law_is_integer_m, _law_is_integer_b, PL.bodyM, PL.startE, PL.outsE, PL.sSeq, PL.sNx, PL.sBk, PL.sCt, PL.sNo, PL.sOf, PL.sSet, PL.sRet, PL.sRetN, PL.sDrop, PL.sIf, PL.sAsg, PL.sAug, PL.sAugIx, PL.sPar, PL.sFor, PL.eP, PL.eF, PL.eFrz, PL.eV, PL.eMv, PL.eFn, PL.eFnO, PL.eFnL, PL.lentTo, PL.eLst, PL.eTup, PL.eCall, PL.eOp, PL.eBin, PL.eIx, PL.eIf, PL.eAnd, PL.eOr, PL.eApp, PL.eAppP, PL.ePop, PL.eExt, PL.eExtM, PL.eCat, PL.eRep, PL.catD, PL.repD, PL.eComp, PL.tP, PL.tOfE, PL.tAnd, PL.tOr, PL.tNot, PL.pV, PL.bV, PL.pK, PL.pOp, PL.pChain, PL.qOf, PL.qAnd, PL.qOr, PL.qNot, PL.pAnd, PL.pOr, PL.pNot, PL.pIf, PL.pNeg, PL.pCall, PL.pFn, PL.pFnB, PL.pFnK, PL.pick, PL.pDm, PL.dmD, PL.pIx, PL.ixD, L2.atI, L2.ixN, PL.pSl, PL.pTup, PL.pF, PL.lP, PL.lKf, PL.frzs, PL.kV, PL.kIx, PL.ixC, PL.pKf, PL.bKf, PL.evPs_n, PL.evPs_c, PL.evMs_n, PL.evMs_c, PL.fCat, PL.fRep, PL.fSl, PL.evO, PL.fRev, PL.fSq, PL.sqD, PL.fList, PL.pTupL, PL.fComp, PL.enumS, PL.enumP, PL.zipP, PL.rngP, PL.rngM, PL.rngL, PL.mSq, PL.mP, PL.gV, PL.gTupD, PL.gsCons, PL.gsNil, PL.gIx, PL.paV, PL.paIx, PL.ownAt, PL.setAt, PL.getP, PL.setP, PL.intOf, PL.isFree, PL.wipeE, PL.freeE, PL.C.toD, PL.C.toDs, PL.ofV, PL.addI, PL.subI, PL.mulI, PL.fdivI, PL.modI, PL.powI, PL.cmpI, PL.iLt, PL.iLe, PL.iGt, PL.iGe, PL.eqV', PL.neV', PL.isN, PL.notN, PL.isNonD, PL.lenF, PL.absF, PL.intF, PL.strF, PL.maxF, PL.minF, PL.sumF, PL.allF, PL.anyF, PL.isiF, PL.clsD, PL.tyN, PL.isSubN, PL.intsOf, PL.blsOf, PL.flatD, PL.Out.bind, itD, plD] at h ⊢
theorem is_list_v {d : D} (h : plD d = true) : is_list_m [.frz d] = .ok (.frz (.bl (sqB d))) [none] := by
  cases d <;> simp [is_list_m, is_list_b, PL.bodyM, PL.startE, PL.outsE, PL.sSeq, PL.sNx, PL.sBk, PL.sCt, PL.sNo, PL.sOf, PL.sSet, PL.sRet, PL.sRetN, PL.sDrop, PL.sIf, PL.sAsg, PL.sAug, PL.sAugIx, PL.sPar, PL.sFor, PL.eP, PL.eF, PL.eFrz, PL.eV, PL.eMv, PL.eFn, PL.eFnO, PL.eFnL, PL.lentTo, PL.eLst, PL.eTup, PL.eCall, PL.eOp, PL.eBin, PL.eIx, PL.eIf, PL.eAnd, PL.eOr, PL.eApp, PL.eAppP, PL.ePop, PL.eExt, PL.eExtM, PL.eCat, PL.eRep, PL.catD, PL.repD, PL.eComp, PL.tP, PL.tOfE, PL.tAnd, PL.tOr, PL.tNot, PL.pV, PL.bV, PL.pK, PL.pOp, PL.pChain, PL.qOf, PL.qAnd, PL.qOr, PL.qNot, PL.pAnd, PL.pOr, PL.pNot, PL.pIf, PL.pNeg, PL.pCall, PL.pFn, PL.pFnB, PL.pFnK, PL.pick, PL.pDm, PL.dmD, PL.pIx, PL.ixD, L2.atI, L2.ixN, PL.pSl, PL.pTup, PL.pF, PL.lP, PL.lKf, PL.frzs, PL.kV, PL.kIx, PL.ixC, PL.pKf, PL.bKf, PL.evPs_n, PL.evPs_c, PL.evMs_n, PL.evMs_c, PL.fCat, PL.fRep, PL.fSl, PL.evO, PL.fRev, PL.fSq, PL.sqD, PL.fList, PL.pTupL, PL.fComp, PL.enumS, PL.enumP, PL.zipP, PL.rngP, PL.rngM, PL.rngL, PL.mSq, PL.mP, PL.gV, PL.gTupD, PL.gsCons, PL.gsNil, PL.gIx, PL.paV, PL.paIx, PL.ownAt, PL.setAt, PL.getP, PL.setP, PL.intOf, PL.isFree, PL.wipeE, PL.freeE, PL.C.toD, PL.C.toDs, PL.ofV, PL.addI, PL.subI, PL.mulI, PL.fdivI, PL.modI, PL.powI, PL.cmpI, PL.iLt, PL.iLe, PL.iGt, PL.iGe, PL.eqV', PL.neV', PL.isN, PL.notN, PL.isNonD, PL.lenF, PL.absF, PL.intF, PL.strF, PL.maxF, PL.minF, PL.sumF, PL.allF, PL.anyF, PL.isiF, PL.clsD, PL.tyN, PL.isSubN, PL.intsOf, PL.blsOf, PL.flatD, PL.Out.bind, sqB, plD] at h ⊢
def rowN (n : Int) (d : D) : Bool := match sqD d with
  | some l => decide ((l.length : Int) ≤ n)
  | none => false
theorem is_row_v {d : D} (n : Int) (h : plD d = true) : _law_is_row_m [.frz d, .frz (.int n)] = .ok (.frz (.bl (rowN n d))) [none, none] := by
  cases d <;> simp [_law_is_row_m, _law_is_row_b, PL.bodyM, PL.startE, PL.outsE, PL.sSeq, PL.sNx, PL.sBk, PL.sCt, PL.sNo, PL.sOf, PL.sSet, PL.sRet, PL.sRetN, PL.sDrop, PL.sIf, PL.sAsg, PL.sAug, PL.sAugIx, PL.sPar, PL.sFor, PL.eP, PL.eF, PL.eFrz, PL.eV, PL.eMv, PL.eFn, PL.eFnO, PL.eFnL, PL.lentTo, PL.eLst, PL.eTup, PL.eCall, PL.eOp, PL.eBin, PL.eIx, PL.eIf, PL.eAnd, PL.eOr, PL.eApp, PL.eAppP, PL.ePop, PL.eExt, PL.eExtM, PL.eCat, PL.eRep, PL.catD, PL.repD, PL.eComp, PL.tP, PL.tOfE, PL.tAnd, PL.tOr, PL.tNot, PL.pV, PL.bV, PL.pK, PL.pOp, PL.pChain, PL.qOf, PL.qAnd, PL.qOr, PL.qNot, PL.pAnd, PL.pOr, PL.pNot, PL.pIf, PL.pNeg, PL.pCall, PL.pFn, PL.pFnB, PL.pFnK, PL.pick, PL.pDm, PL.dmD, PL.pIx, PL.ixD, L2.atI, L2.ixN, PL.pSl, PL.pTup, PL.pF, PL.lP, PL.lKf, PL.frzs, PL.kV, PL.kIx, PL.ixC, PL.pKf, PL.bKf, PL.evPs_n, PL.evPs_c, PL.evMs_n, PL.evMs_c, PL.fCat, PL.fRep, PL.fSl, PL.evO, PL.fRev, PL.fSq, PL.sqD, PL.fList, PL.pTupL, PL.fComp, PL.enumS, PL.enumP, PL.zipP, PL.rngP, PL.rngM, PL.rngL, PL.mSq, PL.mP, PL.gV, PL.gTupD, PL.gsCons, PL.gsNil, PL.gIx, PL.paV, PL.paIx, PL.ownAt, PL.setAt, PL.getP, PL.setP, PL.intOf, PL.isFree, PL.wipeE, PL.freeE, PL.C.toD, PL.C.toDs, PL.ofV, PL.addI, PL.subI, PL.mulI, PL.fdivI, PL.modI, PL.powI, PL.cmpI, PL.iLt, PL.iLe, PL.iGt, PL.iGe, PL.eqV', PL.neV', PL.isN, PL.notN, PL.isNonD, PL.lenF, PL.absF, PL.intF, PL.strF, PL.maxF, PL.minF, PL.sumF, PL.allF, PL.anyF, PL.isiF, PL.clsD, PL.tyN, PL.isSubN, PL.intsOf, PL.blsOf, PL.flatD, PL.Out.bind, rowN, plD] at h ⊢
/-! ### what a value tells -/
theorem plD_sq {d : D} {l : List D} (h : plD d = true) (e : sqD d = some l) : plL l = true := by
  cases d with
  | lst l' => cases e; exact h
  | tup l' => cases e; exact h
  | ro _ => cases h
  | _ => cases e
def intsB (r : D) : Bool := match sqD r with
  | some l => l.all itD
  | none => false
def line0 (x : D) : Bool := match x with
  | .int 0 => false
  | _ => true
def endB (r : D) : Bool := match sqD r with
  | some l => (match l.getLast? with | some x => line0 x | none => true)
  | none => false
def rowI (r : D) : Bool := intsB r && endB r
def topB (rows : List D) : Bool := match rows.getLast? with
  | some r => (match sqD r with | some l => decide (0 < l.length) | none => false)
  | none => true
def isPl (d : D) : Bool := match sqD d with
  | some rows => decide ((rows.length : Int) ≤ 9) && rows.all (rowN 9) && rows.all rowI && topB rows
  | none => false
theorem atI_last {α : Type} {l : List α} {x : α} (h : l.getLast? = some x) : atI l (-1) = some x := by
  obtain ⟨ys, rfl⟩ := List.getLast?_eq_some_iff.mp h
  exact atI_snoc _ _
theorem ix_last {d x : D} {l : List D} (hs : sqD d = some l) (h : l.getLast? = some x) (hp : plD d = true) : ixD d (.int (-1)) = some x := by
  cases d with
  | lst l' => cases hs; simpa [ixD] using atI_last h
  | tup l' => cases hs; simpa [ixD] using atI_last h
  | ro _ => cases hp
  | _ => cases hs
theorem len_sq {d : D} {l : List D} (hs : sqD d = some l) : lenF [d] = some (.int l.length) := by
  cases d <;> cases hs <;> simp [lenF]
theorem all_its (l : List D) : allF [.lst (l.map fun y => D.bl (itD y))] = some (.bl (l.all itD)) := by
  rw [show (l.map fun y => D.bl (itD y)) = (l.map itD).map D.bl by rw [List.map_map]; rfl]
  have e : blsOf ((l.map itD).map D.bl) = some (l.map itD) := blsOf_map _
  simp only [allF, e, Option.map_some]
  simp [List.all_map, Function.comp_def]
theorem all_comp {env : Slots} {i : Nat} {m : List C → Out C} (hm : ∀ {d : D}, plD d = true → m [.frz d] = .ok (.frz (.bl (itD d))) [none]) {p : P} {r : D} {l : List D} (h : p env = some r) (hs : sqD r = some l) (hp : plL l = true) (hl : l.length ≤ 1000) (hg : ∀ d, ∃ e, gV true i d (wipeE env [i]) = some e ∧ pV i e = some d) :
    qOf (pCall allF [pF (fComp [i] (gV true i) (fun _ => some true) (pFn m [pV i]) (fSq p))]) env = some (l.all itD) := by
  refine qOf_b (pCall_1 (v := .bl (l.all itD)) (d := .lst (l.map fun y => D.bl (itD y))) (pF_ok (fComp_ok (l := l) ?_ hl (compF_map _ fun y hy => ?_))) (all_its l))
  · unfold fSq; rw [h]; exact hs
  · obtain ⟨e, h1, h2⟩ := hg y
    refine ⟨e, h1, rfl, ?_⟩
    have := pFn_1 (c := .frz (.bl (itD y))) h2 ⟨_, hm (plL_mem hp hy)⟩
    rw [C.toD] at this
    exact this
theorem isl_q {env : Slots} {p : P} {r : D} (h : p env = some r) (hp : plD r = true) : qOf (pFn is_list_m [p]) env = some (sqB r) := by
  have := pFn_1 (c := .frz (.bl (sqB r))) h ⟨_, is_list_v hp⟩
  rw [C.toD] at this
  exact qOf_b this
theorem gt_q {env : Slots} {p q : P} {r : D} {l : List D} {n : Int} (h : p env = some r) (hs : sqD r = some l) (hq : q env = some (.int n)) : qOf (pOp (cmpI iGt) (pCall lenF [p]) q) env = some (!decide ((l.length : Int) ≤ n)) := by
  refine qOf_b (pOp_v (a := .int l.length) (b := .int n) (v := .bl (!decide ((l.length : Int) ≤ n))) (pCall_1 (v := .int l.length) h (len_sq hs)) hq ?_)
  simp only [cmpI, iGt]
  by_cases hh : (l.length : Int) ≤ n
  · rw [decide_eq_true hh, decide_eq_false (by omega)]; rfl
  · rw [decide_eq_false hh, decide_eq_true (by omega)]; rfl
theorem pos_q {env : Slots} {p : P} {r : D} {l : List D} (h : p env = some r) (hs : sqD r = some l) : qOf (pOp (cmpI iGt) (pCall lenF [p]) (pK (.int 0))) env = some (decide (0 < l.length)) := by
  rw [gt_q h hs (n := 0) rfl]
  congr 1
  by_cases hh : 0 < l.length
  · rw [decide_eq_true hh, decide_eq_false (by omega)]; rfl
  · rw [decide_eq_false hh, decide_eq_true (by omega)]; rfl
theorem nought_q {env : Slots} {p : P} {r x : D} {l : List D} (h : p env = some r) (hp : plD r = true) (hs : sqD r = some l) (hl : l.getLast? = some x) (hx : itD x = true) : qOf (pOp eqV' (pIx p (pNeg (pK (.int 1)))) (pK (.int 0))) env = some (!line0 x) := by
  cases x with
  | int z =>
    refine qOf_b (pOp_v (a := .int z) (b := .int 0) (v := .bl (z == 0)) (pIx_ok h (k := .int (-1)) rfl (ix_last hs hl hp)) rfl (by simp only [eqV', eqD_int, Option.map_some])) |>.trans ?_
    congr 1
    cases z with
    | ofNat n => cases n <;> rfl
    | negSucc n => rfl
  | _ => cases hx
/-- both looks at the end of a row of numbers -/
theorem end_q {env : Slots} {p : P} {r : D} {l : List D} (h : p env = some r) (hp : plD r = true) (hs : sqD r = some l) (hi : l.all itD = true) : qAnd (qOf (pOp (cmpI iGt) (pCall lenF [p]) (pK (.int 0)))) (qOf (pOp eqV' (pIx p (pNeg (pK (.int 1)))) (pK (.int 0)))) env = some (!endB r) := by
  have e : endB r = (match l.getLast? with | some x => line0 x | none => true) := by unfold endB; rw [hs]
  rw [e]
  unfold qAnd
  rw [pos_q h hs]
  cases hl : l.getLast? with
  | none =>
    have : l = [] := List.getLast?_eq_none_iff.mp hl
    subst this
    rfl
  | some x =>
    have hx := List.mem_of_getLast? hl
    have h0 : 0 < l.length := List.length_pos_of_mem hx
    rw [decide_eq_true h0]
    exact nought_q h hp hs hl (List.all_eq_true.mp hi x hx)
end k21
namespace k21
open PySem PySem.Spec PyProof.Rows L2 PL
/-! ### the looks at a plane -/
theorem rowN_le {r : D} {l : List D} {n : Int} (hs : sqD r = some l) : rowN n r = decide ((l.length : Int) ≤ n) := by unfold rowN; rw [hs]
theorem rowN_sq {r : D} {n : Int} (h : rowN n r = true) : ∃ l, sqD r = some l ∧ (l.length : Int) ≤ n := by
  unfold rowN at h
  split at h
  · rename_i l hs; exact ⟨l, hs, of_decide_eq_true h⟩
  · cases h
theorem sqB_some {r : D} {l : List D} (hs : sqD r = some l) : sqB r = true ∨ ∃ ns, r = .ro ns := by
  cases r <;> cases hs <;> first | exact .inl rfl | exact .inr ⟨_, rfl⟩
theorem sqB_pl {r : D} {l : List D} (hp : plD r = true) (hs : sqD r = some l) : sqB r = true := by
  rcases sqB_some hs with h | ⟨ns, rfl⟩
  · exact h
  · cases hp
theorem sqB_no {r : D} (hp : plD r = true) (h : sqB r = false) : sqD r = none := by
  cases r <;> first | rfl | cases h | cases hp
/-- the program's look at a row -/
theorem row_body {d r : D} {o : Option C} (hr : plD r = true) (hb : ∀ l, sqD r = some l → l.length ≤ 1000) :
    ((rowN 9 r && rowI r) = true → (sSeq (sIf (tP (qOr (qNot (qOf (pFn is_list_m [pV 1]))) (qOr (qOf (pOp (cmpI iGt) (pCall lenF [pV 1]) (pOp addI (pK (.int 8)) (pK (.int 1))))) (qNot (qOf (pCall allF [pF (fComp [2] (gV true 2) (fun _ => some true) (pFn is_integer_m [pV 2]) (fSq (pV 1)))])))))) (sRet (eP (pK .non))) (sNx)) (sIf (tP (qAnd (qOf (pOp (cmpI iGt) (pCall lenF [pV 1]) (pK (.int 0)))) (qOf (pOp eqV' (pIx (pV 1) (pNeg (pK (.int 1)))) (pK (.int 0)))))) (sRet (eP (pK .non))) (sNx))) [some (.frz d), some (.frz r), o] = .nx [some (.frz d), some (.frz r), o]) ∧
    ((rowN 9 r && rowI r) = false → (sSeq (sIf (tP (qOr (qNot (qOf (pFn is_list_m [pV 1]))) (qOr (qOf (pOp (cmpI iGt) (pCall lenF [pV 1]) (pOp addI (pK (.int 8)) (pK (.int 1))))) (qNot (qOf (pCall allF [pF (fComp [2] (gV true 2) (fun _ => some true) (pFn is_integer_m [pV 2]) (fSq (pV 1)))])))))) (sRet (eP (pK .non))) (sNx)) (sIf (tP (qAnd (qOf (pOp (cmpI iGt) (pCall lenF [pV 1]) (pK (.int 0)))) (qOf (pOp eqV' (pIx (pV 1) (pNeg (pK (.int 1)))) (pK (.int 0)))))) (sRet (eP (pK .non))) (sNx))) [some (.frz d), some (.frz r), o] = .rt (.frz .non) [some (.frz d), some (.frz r), o]) := by
  have i1 := isl_q (env := [some (.frz d), some (.frz r), o]) (p := pV 1) rfl hr
  have ret : ∀ {t : M Bool} {g : SS} {e : Slots}, t e = .ok true e → sIf t (sRet (eP (pK .non))) g e = .rt (.frz .non) e := fun h => by rw [if_t h]; rfl
  cases hq : sqB r with
  | false =>
    rw [hq] at i1
    have hn := sqB_no hr hq
    have e0 : rowN 9 r = false := by unfold rowN; rw [hn]
    rw [e0]
    refine ⟨fun z => by simp at z, fun _ => ?_⟩
    refine seq_rt (ret (tP_of ?_))
    unfold qOr qNot
    rw [i1]; rfl
  | true =>
    rw [hq] at i1
    obtain ⟨l, hs, _⟩ := sqB_sq hq
    have i2 := gt_q (env := [some (.frz d), some (.frz r), o]) (p := pV 1) (q := pOp addI (pK (.int 8)) (pK (.int 1))) (n := 9) rfl hs rfl
    have i3 := all_comp (env := [some (.frz d), some (.frz r), o]) (i := 2) is_integer_v (p := pV 1) rfl hs (plD_sq hr hs) (hb l hs) fun x => ⟨_, rfl, rfl⟩
    have c1 : qOr (qNot (qOf (pFn is_list_m [pV 1]))) (qOr (qOf (pOp (cmpI iGt) (pCall lenF [pV 1]) (pOp addI (pK (.int 8)) (pK (.int 1))))) (qNot (qOf (pCall allF [pF (fComp [2] (gV true 2) (fun _ => some true) (pFn is_integer_m [pV 2]) (fSq (pV 1)))])))) [some (.frz d), some (.frz r), o] = some (!(rowN 9 r && l.all itD)) := by
      unfold qOr qNot
      rw [i1, i2, i3, rowN_le hs]
      cases decide ((l.length : Int) ≤ 9) <;> cases l.all itD <;> rfl
    have ei : intsB r = l.all itD := by unfold intsB; rw [hs]
    cases hc : (rowN 9 r && l.all itD) with
    | false =>
      rw [hc] at c1
      have : (rowN 9 r && rowI r) = false := by
        unfold rowI
        rw [ei, ← Bool.and_assoc, hc]; rfl
      rw [this]
      exact ⟨fun z => by simp at z, fun _ => seq_rt (ret (tP_of c1))⟩
    | true =>
      rw [hc] at c1
      have ha : l.all itD = true := by
        rw [Bool.and_eq_true] at hc; exact hc.2
      have c2 := end_q (env := [some (.frz d), some (.frz r), o]) (p := pV 1) rfl hr hs ha
      have : (rowN 9 r && rowI r) = endB r := by
        unfold rowI
        rw [ei, ← Bool.and_assoc, hc]; rfl
      rw [this]
      rw [seq_nx (if_no (tP_of c1))]
      cases he : endB r with
      | false =>
        rw [he] at c2
        exact ⟨fun z => by simp at z, fun _ => ret (tP_of c2)⟩
      | true =>
        rw [he] at c2
        exact ⟨fun _ => if_no (tP_of c2), fun z => by simp at z⟩
theorem seqs_of : ∀ {rows : List D}, (∀ r ∈ rows, ∃ l, sqD r = some l) → ∃ ls : List (List D), rows.map sqD = ls.map some
  | [], _ => ⟨[], rfl⟩
  | r :: rows, h => by
    obtain ⟨l, hl⟩ := h r (by simp)
    obtain ⟨ls, hls⟩ := seqs_of fun x hx => h x (List.mem_cons_of_mem _ hx)
    exact ⟨l :: ls, by simp [hl, hls]⟩
theorem row_sh {r : D} (h : rowI r = true) : ∃ ns, sqD r = some (inD ns) ∧ Tr ns := by
  unfold rowI intsB at h
  rw [Bool.and_eq_true] at h
  cases hs : sqD r with
  | none => rw [hs] at h; cases h.1
  | some l =>
    rw [hs] at h
    obtain ⟨ns, rfl⟩ := itD_all h.1
    refine ⟨ns, rfl, fun x hx => ?_⟩
    have he := h.2
    unfold endB at he
    rw [hs] at he
    have : (inD ns).getLast? = some (.int x) := by unfold inD; rw [List.getLast?_map, hx]; rfl
    simp only [this] at he
    intro z
    rw [z] at he
    cases he
theorem rows_sh : ∀ {rows : List D}, rows.all rowI = true → rows.all (rowN 9) = true → ∃ ps : List (List Int), rows.map sqD = ps.map (fun l => some (inD l)) ∧ (∀ l ∈ ps, Tr l ∧ l.length ≤ 9)
  | [], _, _ => ⟨[], rfl, nofun⟩
  | r :: rows, h, h9 => by
    simp only [List.all_cons, Bool.and_eq_true] at h h9
    obtain ⟨ns, e, t⟩ := row_sh h.1
    obtain ⟨ps, e2, t2⟩ := rows_sh h.2 h9.2
    obtain ⟨l, e3, l9⟩ := rowN_sq h9.1
    rw [e] at e3
    cases e3
    refine ⟨ns :: ps, by simp [e, e2], fun l hl => ?_⟩
    rcases List.mem_cons.mp hl with rfl | hl
    · exact ⟨t, by simp at l9; omega⟩
    · exact t2 l hl
/-- a plane as lists or tuples -/
structure Pv (d : D) (ps : List (List Int)) : Prop where
  sh : Sh d ps
  pl : Pl ps
  l9 : ps.length ≤ 9
  r9 : ∀ l ∈ ps, l.length ≤ 9
theorem map_len {rows : List D} {ps : List (List Int)} (h : rows.map sqD = ps.map fun l => some (inD l)) : rows.length = ps.length := by
  have := congrArg List.length h
  simpa using this
theorem top_iff {rows : List D} {ps : List (List Int)} (h : rows.map sqD = ps.map fun l => some (inD l)) : topB rows = true ↔ ∀ r, ps.getLast? = some r → r ≠ [] := by
  have e : rows.getLast?.map sqD = ps.getLast?.map fun l => some (inD l) := by
    rw [← List.getLast?_map, ← List.getLast?_map, h]
  unfold topB
  cases hr : rows.getLast? with
  | none =>
    rw [hr] at e
    cases hp : ps.getLast? with
    | none => simp
    | some x => rw [hp] at e; cases e
  | some r =>
    rw [hr] at e
    cases hp : ps.getLast? with
    | none => rw [hp] at e; cases e
    | some x =>
      rw [hp] at e
      simp only [Option.map_some, Option.some.injEq] at e
      simp only [e, inD_len, decide_eq_true_eq, Option.some.injEq, forall_eq']
      exact List.length_pos_iff
theorem isPl_pv {d : D} (h : isPl d = true) : ∃ ps, Pv d ps := by
  unfold isPl at h
  split at h
  · rename_i rows hs
    simp only [Bool.and_eq_true] at h
    obtain ⟨ps, e, t⟩ := rows_sh h.1.2 h.1.1.2
    refine ⟨ps, ⟨rows, hs, e⟩, ⟨fun l hl => (t l hl).1, (top_iff e).mp h.2⟩, ?_, fun l hl => (t l hl).2⟩
    have := of_decide_eq_true h.1.1.1
    have := map_len e
    omega
  · cases h
theorem lists_comp {env : Slots} {i : Nat} {p : P} {d : D} {ps : List (List Int)} (h : p env = some d) (hs : Sh d ps) (hl : ps.length ≤ 1000) (hg : ∀ d, ∃ e, gV true i d (wipeE env [i]) = some e ∧ pV i e = some d) :
    pF (fComp [i] (gV true i) (fun _ => some true) (pF (fSq (pV i))) (fSq p)) env = some (.lst (lnD ps)) := by
  obtain ⟨rows, e1, e2⟩ := hs
  have hlen := map_len e2
  refine pF_ok (fComp_ok (l := rows) (by unfold fSq; rw [h]; exact e1) (by omega) ?_)
  clear e1 hl hlen h
  induction rows generalizing ps with
  | nil => cases ps with
    | nil => rfl
    | cons _ _ => cases e2
  | cons r rows ih =>
    cases ps with
    | nil => cases e2
    | cons l ps =>
      simp only [List.map_cons, List.cons.injEq] at e2
      obtain ⟨e, h1, h2⟩ := hg r
      have : pF (fSq (pV i)) e = some (.lst (inD l)) := pF_ok (by unfold fSq; rw [h2]; exact e2.1)
      unfold compF
      simp only [h1, this, ih e2.2]
      rfl
theorem all_and {α : Type} (p q : α → Bool) : ∀ l : List α, l.all (fun r => p r && q r) = (l.all p && l.all q)
  | [] => rfl
  | r :: l => by
    simp only [List.all_cons, all_and p q l]
    cases p r <;> cases q r <;> cases l.all p <;> rfl
theorem plane_in_v {d : D} (hd : plD d = true) (hb : ∀ rows, sqD d = some rows → rows.length ≤ 1000 ∧ ∀ r ∈ rows, ∀ l, sqD r = some l → l.length ≤ 1000) :
    (isPl d = false → Gives plane_in_m [.frz d] (.frz .non)) ∧ (∀ ps, isPl d = true → Pv d ps → Gives plane_in_m [.frz d] (.frz (.lst (lnD ps)))) := by
  have ret : ∀ {t : M Bool} {g : SS} {e : Slots}, t e = .ok true e → sIf t (sRet (eP (pK .non))) g e = .rt (.frz .non) e := fun h => by rw [if_t h]; rfl
  suffices hh : (isPl d = false → ∃ e, plane_in_b [some (.frz d), none, none] = .rt (.frz .non) e) ∧ (∀ ps, isPl d = true → Pv d ps → ∃ e, plane_in_b [some (.frz d), none, none] = .rt (.frz (.lst (lnD ps))) e) from ⟨fun h => gives_rt (hh.1 h), fun ps h h2 => gives_rt (hh.2 ps h h2)⟩
  unfold plane_in_b
  have i1 := isl_q (env := [some (.frz d), none, none]) (p := pV 0) rfl hd
  cases hq : sqB d with
  | false =>
    rw [hq] at i1
    have hn := sqB_no hd hq
    have e0 : isPl d = false := by unfold isPl; rw [hn]
    refine ⟨fun _ => ⟨_, seq_rt (ret (tP_of ?_))⟩, fun ps h => by rw [e0] at h; cases h⟩
    unfold qOr qNot
    rw [i1]; rfl
  | true =>
    rw [hq] at i1
    obtain ⟨rows, hs, _⟩ := sqB_sq hq
    obtain ⟨b1, b2⟩ := hb rows hs
    have hp := plD_sq hd hs
    have i2 := gt_q (env := [some (.frz d), none, none]) (p := pV 0) (q := pOp addI (pK (.int 8)) (pK (.int 1))) (n := 9) rfl hs rfl
    have c1 : qOr (qNot (qOf (pFn is_list_m [pV 0]))) (qOf (pOp (cmpI iGt) (pCall lenF [pV 0]) (pOp addI (pK (.int 8)) (pK (.int 1))))) [some (.frz d), none, none] = some (!decide ((rows.length : Int) ≤ 9)) := by
      unfold qOr qNot
      rw [i1, i2]; rfl
    have ep : isPl d = (decide ((rows.length : Int) ≤ 9) && rows.all (rowN 9) && rows.all rowI && topB rows) := by unfold isPl; rw [hs]
    by_cases h9 : (rows.length : Int) ≤ 9
    · rw [decide_eq_true h9] at c1 ep
      rw [Bool.true_and] at ep
      rw [seq_nx (if_no (tP_of c1))]
      have lp := forL_all (t := gV false 1) (b := sSeq (sIf (tP (qOr (qNot (qOf (pFn is_list_m [pV 1]))) (qOr (qOf (pOp (cmpI iGt) (pCall lenF [pV 1]) (pOp addI (pK (.int 8)) (pK (.int 1))))) (qNot (qOf (pCall allF [pF (fComp [2] (gV true 2) (fun _ => some true) (pFn is_integer_m [pV 2]) (fSq (pV 1)))])))))) (sRet (eP (pK .non))) (sNx)) (sIf (tP (qAnd (qOf (pOp (cmpI iGt) (pCall lenF [pV 1]) (pK (.int 0)))) (qOf (pOp eqV' (pIx (pV 1) (pNeg (pK (.int 1)))) (pK (.int 0)))))) (sRet (eP (pK .non))) (sNx))) (c := .frz .non) (fun e => ∃ o, e = [some (.frz d), o, none]) (fun r => rowN 9 r && rowI r) (l := rows) (e := [some (.frz d), none, none]) (fun r hr e ⟨o, he⟩ => by
        subst he
        obtain ⟨k1, k2⟩ := row_body (d := d) (r := r) (o := none) (plL_mem hp hr) (b2 r hr)
        exact ⟨_, rfl, fun h => ⟨_, k1 h, _, rfl⟩, fun h => ⟨_, k2 h⟩⟩) ⟨none, rfl⟩
      rw [all_and] at lp
      have src : mSq (eP (pV 0)) [some (.frz d), none, none] = .ok rows [some (.frz d), none, none] := mSq_ok (eP_of rfl) hs
      rcases lp with ⟨h1, e2, h2, o, he⟩ | ⟨h1, e2, h2⟩
      · rw [h1, Bool.true_and] at ep
        subst he
        rw [seq_nx ((for_ok src).trans h2)]
        rw [Bool.and_eq_true] at h1
        obtain ⟨ps, es, t⟩ := rows_sh h1.2 h1.1
        have i3 := pos_q (env := [some (.frz d), o, none]) (p := pV 0) rfl hs
        have c3 : qAnd (qOf (pOp (cmpI iGt) (pCall lenF [pV 0]) (pK (.int 0)))) (qOf (pOp eqV' (pCall lenF [pIx (pV 0) (pNeg (pK (.int 1)))]) (pK (.int 0)))) [some (.frz d), o, none] = some (!topB rows) := by
          unfold qAnd
          rw [i3]
          unfold topB
          cases hl : rows.getLast? with
          | none =>
            have : rows = [] := List.getLast?_eq_none_iff.mp hl
            subst this
            rfl
          | some x =>
            have hx := List.mem_of_getLast? hl
            rw [decide_eq_true (List.length_pos_of_mem hx)]
            obtain ⟨l, hlx, _⟩ := rowN_sq (List.all_eq_true.mp h1.1 x hx)
            have ix := pIx_ok (p := pV 0) (q := pNeg (pK (.int 1))) (env := [some (.frz d), o, none]) (d := d) (k := .int (-1)) rfl rfl (ix_last hs hl hd)
            have := qOf_b (pOp_v (op := eqV') (p := pCall lenF [pIx (pV 0) (pNeg (pK (.int 1)))]) (q := pK (.int 0)) (a := .int l.length) (b := .int 0) (v := .bl ((l.length : Int) == 0)) (pCall_1 (v := .int l.length) ix (len_sq hlx)) rfl (by simp only [eqV', eqD_int, Option.map_some]))
            refine this.trans ?_
            simp only [hlx]
            congr 1
            by_cases h0 : l.length = 0
            · rw [h0]; rfl
            · have h1 : ((l.length : Int) == 0) = false := by rw [beq_eq_false_iff_ne]; omega
              rw [h1, decide_eq_true (by omega)]; rfl
        cases ht : topB rows with
        | false =>
          rw [ht] at c3 ep
          exact ⟨fun _ => ⟨_, seq_rt (ret (tP_of c3))⟩, fun ps h => by rw [ep] at h; cases h⟩
        | true =>
          rw [ht] at c3 ep
          refine ⟨fun h => (by rw [ep] at h; cases h), fun qs _ hq => ?_⟩
          rw [seq_nx (if_no (tP_of c3))]
          exact ⟨_, ret_ok (eP_of (lists_comp (i := 1) rfl hq.sh (by have := hq.l9; omega) fun x => ⟨_, rfl, rfl⟩))⟩
      · rw [h1, Bool.false_and] at ep
        refine ⟨fun _ => ⟨e2, ?_⟩, fun ps h => by rw [ep] at h; cases h⟩
        rw [seq_rt ((for_ok src).trans h2)]
    · rw [decide_eq_false h9] at c1 ep
      rw [Bool.false_and, Bool.false_and, Bool.false_and] at ep
      exact ⟨fun _ => ⟨_, seq_rt (ret (tP_of c1))⟩, fun ps h => by rw [ep] at h; cases h⟩
end k21
namespace k21
open PySem PySem.Spec PyProof.Rows L2 PL
/-! ### the law's look at a plane -/
theorem rows_comp {env : Slots} {i : Nat} {p : P} {d : D} {rows : List D} {n : Int} (h : p env = some d) (hs : sqD d = some rows) (hp : plL rows = true) (hl : rows.length ≤ 1000) (hg : ∀ d, ∃ e, gV true i d (wipeE env [i]) = some e ∧ pV i e = some d) :
    qOf (pCall allF [pF (fComp [i] (gV true i) (fun _ => some true) (pFn _law_is_row_m [pV i, pK (.int n)]) (fSq p))]) env = some (rows.all (rowN n)) := by
  have e : allF [.lst (rows.map fun y => D.bl (rowN n y))] = some (.bl (rows.all (rowN n))) := by
    rw [show (rows.map fun y => D.bl (rowN n y)) = (rows.map (rowN n)).map D.bl by rw [List.map_map]; rfl]
    have e : blsOf ((rows.map (rowN n)).map D.bl) = some (rows.map (rowN n)) := blsOf_map _
    simp only [allF, e, Option.map_some]
    simp [List.all_map, Function.comp_def]
  refine qOf_b (pCall_1 (v := .bl (rows.all (rowN n))) (d := .lst (rows.map fun y => D.bl (rowN n y))) (pF_ok (fComp_ok (l := rows) ?_ hl (compF_map _ fun y hy => ?_))) e)
  · unfold fSq; rw [h]; exact hs
  · obtain ⟨e, h1, h2⟩ := hg y
    refine ⟨e, h1, rfl, ?_⟩
    have := pFn_2 (q := pK (.int n)) (b := .int n) (c := .frz (.bl (rowN n y))) h2 rfl ⟨_, is_row_v n (plL_mem hp hy)⟩
    rw [C.toD] at this
    exact this
theorem isr_q {env : Slots} {p : P} {r : D} {n : Int} (h : p env = some r) (hp : plD r = true) : qOf (pFn _law_is_row_m [p, pK (.int n)]) env = some (rowN n r) := by
  have := pFn_2 (q := pK (.int n)) (b := .int n) (c := .frz (.bl (rowN n r))) h rfl ⟨_, is_row_v n hp⟩
  rw [C.toD] at this
  exact qOf_b this
theorem law_row_body {d r : D} {o : Option C} (hr : plD r = true) (h9 : rowN 9 r = true) :
    (rowI r = true → (sIf (tP (qOr (qNot (qOf (pCall allF [pF (fComp [2] (gV true 2) (fun _ => some true) (pFn _law_is_integer_m [pV 2]) (fSq (pV 1)))]))) (qAnd (qOf (pOp (cmpI iGt) (pCall lenF [pV 1]) (pK (.int 0)))) (qOf (pOp eqV' (pIx (pV 1) (pNeg (pK (.int 1)))) (pK (.int 0))))))) (sRet (eP (pK (.bl false)))) (sNx)) [some (.frz d), some (.frz r), o] = .nx [some (.frz d), some (.frz r), o]) ∧
    (rowI r = false → (sIf (tP (qOr (qNot (qOf (pCall allF [pF (fComp [2] (gV true 2) (fun _ => some true) (pFn _law_is_integer_m [pV 2]) (fSq (pV 1)))]))) (qAnd (qOf (pOp (cmpI iGt) (pCall lenF [pV 1]) (pK (.int 0)))) (qOf (pOp eqV' (pIx (pV 1) (pNeg (pK (.int 1)))) (pK (.int 0))))))) (sRet (eP (pK (.bl false)))) (sNx)) [some (.frz d), some (.frz r), o] = .rt (.frz (.bl false)) [some (.frz d), some (.frz r), o]) := by
  have ret : ∀ {t : M Bool} {g : SS} {e : Slots}, t e = .ok true e → sIf t (sRet (eP (pK (.bl false)))) g e = .rt (.frz (.bl false)) e := fun h => by rw [if_t h]; rfl
  obtain ⟨l, hs, hl⟩ := rowN_sq h9
  have i3 := all_comp (env := [some (.frz d), some (.frz r), o]) (i := 2) law_is_integer_v (p := pV 1) rfl hs (plD_sq hr hs) (by omega) fun x => ⟨_, rfl, rfl⟩
  have ei : intsB r = l.all itD := by unfold intsB; rw [hs]
  have c : qOr (qNot (qOf (pCall allF [pF (fComp [2] (gV true 2) (fun _ => some true) (pFn _law_is_integer_m [pV 2]) (fSq (pV 1)))]))) (qAnd (qOf (pOp (cmpI iGt) (pCall lenF [pV 1]) (pK (.int 0)))) (qOf (pOp eqV' (pIx (pV 1) (pNeg (pK (.int 1)))) (pK (.int 0))))) [some (.frz d), some (.frz r), o] = some (!rowI r) := by
    unfold qOr qNot
    rw [i3]
    unfold rowI
    rw [ei]
    cases ha : l.all itD with
    | false => rfl
    | true => exact (end_q (p := pV 1) rfl hr hs ha).trans (by simp)
  cases hI : rowI r with
  | false => rw [hI] at c; exact ⟨fun z => by simp at z, fun _ => ret (tP_of c)⟩
  | true => rw [hI] at c; exact ⟨fun _ => if_no (tP_of c), fun z => by simp at z⟩
theorem law_is_plane_v {d : D} (hd : plD d = true) : Gives _law_is_plane_m [.frz d] (.frz (.bl (isPl d))) := by
  have ret : ∀ {t : M Bool} {g : SS} {e : Slots}, t e = .ok true e → sIf t (sRet (eP (pK (.bl false)))) g e = .rt (.frz (.bl false)) e := fun h => by rw [if_t h]; rfl
  refine gives_rt ?_
  rw [show startE 3 [.frz d] = [some (.frz d), none, none] from rfl]
  unfold _law_is_plane_b
  have i1 := isr_q (env := [some (.frz d), none, none]) (p := pV 0) (n := 9) rfl hd
  cases hq : rowN 9 d with
  | false =>
    rw [hq] at i1
    have e0 : isPl d = false := by
      unfold isPl
      unfold rowN at hq
      split
      · rename_i rows hs
        rw [hs] at hq
        simp only [] at hq
        rw [hq]; rfl
      · rfl
    rw [e0]
    refine ⟨_, seq_rt (ret (tP_of ?_))⟩
    unfold qOr qNot
    rw [i1]; rfl
  | true =>
    rw [hq] at i1
    obtain ⟨rows, hs, h9⟩ := rowN_sq hq
    have hp := plD_sq hd hs
    have i2 := rows_comp (env := [some (.frz d), none, none]) (i := 1) (p := pV 0) (n := 9) rfl hs hp (by omega) fun x => ⟨_, rfl, rfl⟩
    have ep : isPl d = (rows.all (rowN 9) && rows.all rowI && topB rows) := by unfold isPl; rw [hs]; simp only [decide_eq_true h9, Bool.true_and]
    have c1 : qOr (qNot (qOf (pFn _law_is_row_m [pV 0, pK (.int 9)]))) (qNot (qOf (pCall allF [pF (fComp [1] (gV true 1) (fun _ => some true) (pFn _law_is_row_m [pV 1, pK (.int 9)]) (fSq (pV 0)))]))) [some (.frz d), none, none] = some (!rows.all (rowN 9)) := by
      unfold qOr qNot
      rw [i1, i2]; rfl
    cases h1 : rows.all (rowN 9) with
    | false =>
      rw [h1] at c1 ep
      rw [ep]
      exact ⟨_, seq_rt (ret (tP_of c1))⟩
    | true =>
      rw [h1] at c1 ep
      rw [Bool.true_and] at ep
      rw [seq_nx (if_no (tP_of c1))]
      have lp := forL_all (t := gV false 1) (b := sIf (tP (qOr (qNot (qOf (pCall allF [pF (fComp [2] (gV true 2) (fun _ => some true) (pFn _law_is_integer_m [pV 2]) (fSq (pV 1)))]))) (qAnd (qOf (pOp (cmpI iGt) (pCall lenF [pV 1]) (pK (.int 0)))) (qOf (pOp eqV' (pIx (pV 1) (pNeg (pK (.int 1)))) (pK (.int 0))))))) (sRet (eP (pK (.bl false)))) (sNx)) (c := .frz (.bl false)) (fun e => ∃ o, e = [some (.frz d), o, none]) rowI (l := rows) (e := [some (.frz d), none, none]) (fun r hr e ⟨o, he⟩ => by
        subst he
        obtain ⟨k1, k2⟩ := law_row_body (d := d) (r := r) (o := none) (plL_mem hp hr) (List.all_eq_true.mp h1 r hr)
        exact ⟨_, rfl, fun h => ⟨_, k1 h, _, rfl⟩, fun h => ⟨_, k2 h⟩⟩) ⟨none, rfl⟩
      have src : mSq (eP (pV 0)) [some (.frz d), none, none] = .ok rows [some (.frz d), none, none] := mSq_ok (eP_of rfl) hs
      rcases lp with ⟨h2, e2, h3, o, he⟩ | ⟨h2, e2, h3⟩
      · rw [h2, Bool.true_and] at ep
        subst he
        rw [seq_nx ((for_ok src).trans h3), ep]
        refine ⟨_, ret_ok (eP_of ?_)⟩
        have a1 : pOp eqV' (pCall lenF [pV 0]) (pK (.int 0)) [some (.frz d), o, none] = some (.bl ((rows.length : Int) == 0)) := pOp_v (a := .int rows.length) (b := .int 0) (v := .bl ((rows.length : Int) == 0)) (pCall_1 (v := .int rows.length) rfl (len_sq hs)) rfl (by simp only [eqV', eqD_int, Option.map_some])
        unfold pOr
        rw [a1]
        unfold topB
        cases hl : rows.getLast? with
        | none =>
          have : rows = [] := List.getLast?_eq_none_iff.mp hl
          subst this
          rfl
        | some x =>
          have hx := List.mem_of_getLast? hl
          have hn : ((rows.length : Int) == 0) = false := by
            have := List.length_pos_of_mem hx
            rw [beq_eq_false_iff_ne]; omega
          rw [hn]
          obtain ⟨l, hlx, _⟩ := rowN_sq (List.all_eq_true.mp h1 x hx)
          have ix := pIx_ok (p := pV 0) (q := pNeg (pK (.int 1))) (env := [some (.frz d), o, none]) (d := d) (k := .int (-1)) rfl rfl (ix_last hs hl hd)
          simp only [hlx]
          refine pOp_v (a := .int l.length) (b := .int 0) (v := .bl (decide (0 < l.length))) (pCall_1 (v := .int l.length) ix (len_sq hlx)) rfl ?_
          simp only [cmpI, iGt]
          congr 2
          by_cases hh : 0 < l.length
          · rw [decide_eq_true hh, decide_eq_true (by omega)]
          · rw [decide_eq_false hh, decide_eq_false (by omega)]
      · rw [h2, Bool.false_and] at ep
        rw [seq_rt ((for_ok src).trans h3), ep]
        exact ⟨_, rfl⟩
theorem is_plane_v {d : D} (hd : plD d = true) (hb : ∀ rows, sqD d = some rows → rows.length ≤ 1000 ∧ ∀ r ∈ rows, ∀ l, sqD r = some l → l.length ≤ 1000) : Gives is_plane_m [.frz d] (.frz (.bl (isPl d))) := by
  obtain ⟨h0, h1⟩ := plane_in_v hd hb
  refine gives_rt ⟨[some (.frz d)], ?_⟩
  rw [show startE 1 [.frz d] = [some (.frz d)] from rfl]
  unfold is_plane_b
  cases hp : isPl d with
  | false =>
    have z := pFn_1 (p := pV 0) (env := [some (.frz d)]) rfl (h0 hp)
    rw [C.toD] at z
    exact ret_ok (eP_of (pOp_v (b := .non) (v := .bl false) z rfl rfl))
  | true =>
    obtain ⟨ps, hv⟩ := isPl_pv hp
    have z := pFn_1 (p := pV 0) (env := [some (.frz d)]) rfl (h1 ps hp hv)
    rw [C.toD] at z
    exact ret_ok (eP_of (pOp_v (b := .non) (v := .bl true) z rfl rfl))
theorem want_plane_v {d : D} {ps : List (List Int)} (hd : plD d = true) (hb : ∀ rows, sqD d = some rows → rows.length ≤ 1000 ∧ ∀ r ∈ rows, ∀ l, sqD r = some l → l.length ≤ 1000) (hp : isPl d = true) (hv : Pv d ps) : Gives want_plane_m [.frz d] (.frz (.lst (lnD ps))) := by
  obtain ⟨h0, h1⟩ := plane_in_v hd hb
  have z := pFn_1 (p := pV 0) (env := [some (.frz d), none]) rfl (h1 ps hp hv)
  rw [C.toD] at z
  refine gives_rt ⟨[some (.frz d), some (.frz (.lst (lnD ps)))], ?_⟩
  rw [show startE 2 [.frz d] = [some (.frz d), none] from rfl]
  unfold want_plane_b
  rw [seq_nx (set_ok (eP_of z))]
  simp only [List.set_cons_succ, List.set_cons_zero]
  have q1 : qOf (pOp isN (pV 1) (pK .non)) [some (.frz d), some (.frz (.lst (lnD ps)))] = some false := rfl
  rw [seq_nx (if_no (tP_of q1))]
  exact ret_ok (eP_of rfl)
end k21
namespace k21
open PySem PySem.Spec PyProof.Rows L2 PL
/-! ### degrees, head, plain form -/
theorem degrees_of_v {ps : List (List Int)} (hl : ps.length ≤ 1000) : Gives degrees_of_m [.frz (.lst (lnD ps))] (.frz (.tup [.int ((ps.length : Int) - 1), .int (wideI ps - 1)])) := degrees_gen hl
theorem head_of_v {ps : List (List Int)} (p : Pl ps) : Gives head_of_plane_m [.frz (.lst (lnD ps))] (.frz (.int (headP ps))) := head_gen p
theorem plane_divisor_v {ps : List (List Int)} (hl : ps.length ≤ 1000) (hb : BigP ps) : Gives plane_divisor_m [.frz (.lst (lnD ps))] (.frz (.int (gcdP ps))) := divisor_of_gen greatest_v hl hb
theorem made_v {ps : List (List Int)} (p : Pl ps) (hl : ps.length ≤ 1000) (hr : ∀ l ∈ ps, l.length ≤ 1000) (hb : BigP ps) : Gives made_plain_m [.frz (.lst (lnD ps))] (ownP (plainPl ps)) := made_gen p hl hr hb (plane_divisor_v hl hb) (head_of_v p)
theorem lplain_v {t : TD} {ps : List (List Int)} (d : Dof t ps) (q : Pl ps) (hl : t.length ≤ 1000) (hb : BigP ps) : ∃ t', Gives _law_plain_m [.frz (dL t)] (.frz (dL t')) ∧ Dof t' (plainPl ps) ∧ t'.length ≤ t.length ∧ ∀ e ∈ t', ∃ f ∈ t, e.1 = f.1 := lplain_gen lgreatest_v d q hl hb
/-- a value of which both looks can be taken -/
structure Gd (d : D) : Prop where
  rk : Rok 50000 4 d
  sz : ∀ rows, sqD d = some rows → rows.length ≤ 1000 ∧ ∀ r ∈ rows, ∀ l, sqD r = some l → l.length ≤ 1000
theorem rokL_mem : ∀ {l : List D} {d : D}, rokL l = true → d ∈ l → rok d = true
  | x :: l, d, h, hd => by
    simp only [rokL, Bool.and_eq_true] at h
    rcases List.mem_cons.mp hd with rfl | hd
    · exact h.1
    · exact rokL_mem h.2 hd
theorem rok_sq {d : D} {l : List D} (h : rok d = true) (hs : sqD d = some l) : rokL l = true := by
  cases d with
  | lst l' => cases hs; exact h
  | tup l' => cases hs; exact h
  | ro _ => cases h
  | _ => cases hs
theorem ten26 {i : Int} (h : rok (.int i) = true) : i.natAbs < 10 ^ 26 := of_decide_eq_true h
theorem huge26 {n : Nat} (h : n < 10 ^ 26) : n < HUGE := huge_of (k := 90) (Nat.lt_of_lt_of_le h (by decide)) (by decide)
theorem Gd.small {d : D} {ps : List (List Int)} (g : Gd d) (h : Sh d ps) : ∀ l ∈ ps, ∀ x ∈ l, x.natAbs < 10 ^ 26 := fun l hl x hx => by
  obtain ⟨rows, h1, h2⟩ := h
  have r1 := rok_sq g.rk.2.1 h1
  have : some (inD l) ∈ rows.map sqD := by rw [h2]; exact List.mem_map.mpr ⟨l, hl, rfl⟩
  obtain ⟨r, hr, e⟩ := List.mem_map.mp this
  have r2 := rok_sq (rokL_mem r1 hr) e
  exact ten26 (rokL_mem r2 (List.mem_map.mpr ⟨x, hx, rfl⟩))
theorem Gd.big {d : D} {ps : List (List Int)} (g : Gd d) (h : Sh d ps) : BigP ps := fun l hl x hx => huge26 (g.small h l hl x hx)
theorem sum_le (ps : List (List Int)) (h : ps.length ≤ 9) (h9 : ∀ l ∈ ps, l.length ≤ 9) : (ps.map List.length).sum ≤ 81 := by
  have : ∀ ps : List (List Int), (∀ l ∈ ps, l.length ≤ 9) → (ps.map List.length).sum ≤ 9 * ps.length := fun ps => by
    induction ps with
    | nil => intro _; simp
    | cons l ps ih =>
      intro h
      have := h l (by simp)
      have := ih fun x hx => h x (List.mem_cons_of_mem _ hx)
      simp only [List.map_cons, List.sum_cons, List.length_cons]
      omega
  have := this ps h9
  omega
theorem plain_plane_v {d : D} {ps : List (List Int)} (g : Gd d) (hp : isPl d = true) (hv : Pv d ps) : Gives plain_plane_m [.frz d] (ownP (plainPl ps)) := by
  have z := pFn_1 (p := pV 0) (env := [some (.frz d)]) rfl (want_plane_v g.rk.1 g.sz hp hv)
  rw [C.toD] at z
  obtain ⟨o, e⟩ := made_v hv.pl (by have := hv.l9; omega) (fun l hl => by have := hv.r9 l hl; omega) (g.big hv.sh)
  exact gives_rt ⟨[some (.frz d)], ret_ok (eFnO_1 (eP_of z) e)⟩
theorem degrees_v {d : D} {ps : List (List Int)} (g : Gd d) (hp : isPl d = true) (hv : Pv d ps) : Gives degrees_m [.frz d] (.frz (.tup [.int ((ps.length : Int) - 1), .int (wideI ps - 1)])) := by
  have z := pFn_1 (p := pV 0) (env := [some (.frz d)]) rfl (want_plane_v g.rk.1 g.sz hp hv)
  rw [C.toD] at z
  have z2 := pFn_1 z (degrees_of_v (ps := ps) (by have := hv.l9; omega))
  rw [C.toD] at z2
  exact gives_rt ⟨[some (.frz d)], ret_ok (eP_of z2)⟩
theorem head_v {d : D} {ps : List (List Int)} (g : Gd d) (hp : isPl d = true) (hv : Pv d ps) : Gives head_m [.frz d] (.frz (.int (headP ps))) := by
  have z := pFn_1 (p := pV 0) (env := [some (.frz d)]) rfl (want_plane_v g.rk.1 g.sz hp hv)
  rw [C.toD] at z
  have z2 := pFn_1 z (head_of_v hv.pl)
  rw [C.toD] at z2
  exact gives_rt ⟨[some (.frz d)], ret_ok (eP_of z2)⟩
/-! ### the looks at a change -/
def isCh (d : D) : Bool := match sqD d with
  | some l => decide (l.length = 6) && l.all itD && (match intsOf l with | some [a, b, _, x, y, _] => decide (a * y ≠ b * x) | _ => false)
  | none => false
theorem gv_of {d : D} {l : List D} (hp : plD d = true) (hs : sqD d = some l) : ∃ b, d = gv b l := by
  cases d with
  | lst l' => cases hs; exact ⟨false, rfl⟩
  | tup l' => cases hs; exact ⟨true, rfl⟩
  | ro _ => cases hp
  | _ => cases hs
theorem ne6_q {env : Slots} {p : P} {r : D} {l : List D} (h : p env = some r) (hs : sqD r = some l) : qOf (pOp neV' (pCall lenF [p]) (pK (.int 6))) env = some (!decide (l.length = 6)) := by
  refine qOf_b (pOp_v (a := .int l.length) (b := .int 6) (v := .bl (!decide (l.length = 6))) (pCall_1 (v := .int l.length) h (len_sq hs)) rfl ?_)
  simp only [neV', eqD_int, Option.map_some]
  congr 3
  by_cases hh : l.length = 6
  · rw [decide_eq_true hh, hh]; rfl
  · rw [decide_eq_false hh, beq_eq_false_iff_ne]; omega
theorem six {ns : List Int} (h : ns.length = 6) : ∃ a b c x y z, ns = [a, b, c, x, y, z] := by
  match ns, h with
  | [a, b, c, x, y, z], _ => exact ⟨a, b, c, x, y, z, rfl⟩
theorem not_non {r : D} (h : plD r = true) : notN r .non = some (.bl (!isNonD r)) := by
  cases r <;> first | rfl | cases h
theorem change_both {d : D} (g : Gd d) : Gives is_change_m [.frz d] (.frz (.bl (isCh d))) ∧ Gives _law_is_change_m [.frz d] (.frz (.bl (isCh d))) := by
  have retN : ∀ {t : M Bool} {g : SS} {e : Slots}, t e = .ok true e → sIf t (sRet (eP (pK .non))) g e = .rt (.frz .non) e := fun h => by rw [if_t h]; rfl
  have retF : ∀ {t : M Bool} {g : SS} {e : Slots}, t e = .ok true e → sIf t (sRet (eP (pK (.bl false)))) g e = .rt (.frz (.bl false)) e := fun h => by rw [if_t h]; rfl
  have hd := g.rk.1
  suffices hh : (∃ r, Gives change_in_m [.frz d] (.frz r) ∧ isNonD r = (!isCh d) ∧ plD r = true) ∧ Gives _law_is_change_m [.frz d] (.frz (.bl (isCh d))) by
    obtain ⟨⟨r, h1, h2, h3⟩, h4⟩ := hh
    refine ⟨?_, h4⟩
    have z := pFn_1 (p := pV 0) (env := [some (.frz d)]) rfl h1
    rw [C.toD] at z
    refine gives_rt ⟨[some (.frz d)], ret_ok (eP_of (pOp_v (b := .non) (v := .bl (isCh d)) z rfl ?_))⟩
    rw [not_non h3, h2, Bool.not_not]
  have i1 := isl_q (env := [some (.frz d), none]) (p := pV 0) rfl hd
  have i4 := isr_q (env := [some (.frz d), none]) (p := pV 0) (n := 6) rfl hd
  have st : startE 2 [.frz d] = [some (.frz d), none] := rfl
  cases hq : sqB d with
  | false =>
    have hn := sqB_no hd hq
    rw [hq] at i1
    have e0 : isCh d = false := by unfold isCh; rw [hn]
    have e1 : rowN 6 d = false := by unfold rowN; rw [hn]
    rw [e1] at i4
    rw [e0]
    refine ⟨⟨.non, gives_rt ⟨[some (.frz d), none], ?_⟩, rfl, rfl⟩, gives_rt ⟨[some (.frz d), none], ?_⟩⟩
    · rw [st]
      unfold change_in_b
      refine seq_rt (retN (tP_of ?_))
      unfold qOr qNot
      rw [i1]; rfl
    · rw [st]
      unfold _law_is_change_b
      refine seq_rt (retF (tP_of ?_))
      unfold qOr qNot
      rw [i4]; rfl
  | true =>
    rw [hq] at i1
    obtain ⟨l, hs, _⟩ := sqB_sq hq
    have hp := plD_sq hd hs
    obtain ⟨lb, _⟩ := g.sz l hs
    have i2 := ne6_q (env := [some (.frz d), none]) (p := pV 0) rfl hs
    have i3 := all_comp (env := [some (.frz d), none]) (i := 1) is_integer_v (p := pV 0) rfl hs hp lb fun x => ⟨_, rfl, rfl⟩
    have i5 := all_comp (env := [some (.frz d), none]) (i := 1) law_is_integer_v (p := pV 0) rfl hs hp lb fun x => ⟨_, rfl, rfl⟩
    have c1 : qOr (qNot (qOf (pFn is_list_m [pV 0]))) (qOr (qOf (pOp neV' (pCall lenF [pV 0]) (pK (.int 6)))) (qNot (qOf (pCall allF [pF (fComp [1] (gV true 1) (fun _ => some true) (pFn is_integer_m [pV 1]) (fSq (pV 0)))])))) [some (.frz d), none] = some (!(decide (l.length = 6) && l.all itD)) := by
      unfold qOr qNot
      rw [i1, i2, i3]
      cases decide (l.length = 6) <;> cases l.all itD <;> rfl
    have c2 : qOr (qNot (qOf (pFn _law_is_row_m [pV 0, pK (.int 6)]))) (qOr (qOf (pOp neV' (pCall lenF [pV 0]) (pK (.int 6)))) (qNot (qOf (pCall allF [pF (fComp [1] (gV true 1) (fun _ => some true) (pFn _law_is_integer_m [pV 1]) (fSq (pV 0)))])))) [some (.frz d), none] = some (!(decide (l.length = 6) && l.all itD)) := by
      unfold qOr qNot
      rw [i4, i2, i5, rowN_le hs]
      by_cases h6 : l.length = 6
      · rw [decide_eq_true h6, decide_eq_true (by omega)]
        cases l.all itD <;> rfl
      · rw [decide_eq_false h6]
        cases decide ((l.length : Int) ≤ 6) <;> rfl
    have e1 : isCh d = ((decide (l.length = 6) && l.all itD) && (match intsOf l with | some [a, b, _, x, y, _] => decide (a * y ≠ b * x) | _ => false)) := by unfold isCh; rw [hs]
    cases hc : (decide (l.length = 6) && l.all itD) with
    | false =>
      rw [hc] at c1 c2 e1
      rw [Bool.false_and] at e1
      rw [e1]
      refine ⟨⟨.non, gives_rt ⟨[some (.frz d), none], ?_⟩, rfl, rfl⟩, gives_rt ⟨[some (.frz d), none], ?_⟩⟩
      · rw [st]
        unfold change_in_b
        exact seq_rt (retN (tP_of c1))
      · rw [st]
        unfold _law_is_change_b
        exact seq_rt (retF (tP_of c2))
    | true =>
      rw [hc] at c1 c2 e1
      rw [Bool.and_eq_true] at hc
      obtain ⟨ns, rfl⟩ := itD_all hc.2
      have h6 := of_decide_eq_true hc.1
      rw [inD_len] at h6
      obtain ⟨a, b, c, x, y, z, rfl⟩ := six h6
      rw [intsOf_inD, Bool.true_and] at e1
      have r1 := rok_sq g.rk.2.1 hs
      have big : ∀ i ∈ [a, b, c, x, y, z], i.natAbs < HUGE := fun i hi => huge26 (ten26 (rokL_mem r1 (List.mem_map.mpr ⟨i, hi, rfl⟩)))
      have m1 : mulOk a y = true := mulOk_big (big a (by simp)) (big y (by simp))
      have m2 : mulOk b x = true := mulOk_big (big b (by simp)) (big x (by simp))
      obtain ⟨bb, rfl⟩ := gv_of hd hs
      have ix : ∀ (k : Nat) (w : Int), [a, b, c, x, y, z][k]? = some w → ∀ o : Option C, pIx (pV 0) (pK (.int k)) [some (.frz (gv bb (inD [a, b, c, x, y, z]))), o] = some (.int w) := fun k w hw o => by
        refine pIx_ok (d := gv bb (inD [a, b, c, x, y, z])) (k := .int k) rfl rfl ?_
        rw [gv_ix]
        have hk : k < (inD [a, b, c, x, y, z]).length := by
          rw [inD_len]
          exact (List.getElem?_eq_some_iff.mp hw).1
        have hg : (inD [a, b, c, x, y, z])[k]? = some (.int w) := by unfold inD; rw [List.getElem?_map, hw]; rfl
        rw [atI_nat hk, ← hg, List.getElem?_eq_getElem hk]
      have p1 : pOp mulI (pIx (pV 0) (pK (.int 0))) (pIx (pV 0) (pK (.int 4))) [some (.frz (gv bb (inD [a, b, c, x, y, z]))), none] = some (.int (a * y)) := pOp_v (a := .int a) (b := .int y) (v := .int (a * y)) (ix 0 a rfl none) (ix 4 y rfl none) (by simp only [mulI, m1, if_true])
      have p2 : pOp mulI (pIx (pV 0) (pK (.int 1))) (pIx (pV 0) (pK (.int 3))) [some (.frz (gv bb (inD [a, b, c, x, y, z]))), none] = some (.int (b * x)) := pOp_v (a := .int b) (b := .int x) (v := .int (b * x)) (ix 1 b rfl none) (ix 3 x rfl none) (by simp only [mulI, m2, if_true])
      have q1 : qOf (pOp neV' (pOp mulI (pIx (pV 0) (pK (.int 0))) (pIx (pV 0) (pK (.int 4)))) (pOp mulI (pIx (pV 0) (pK (.int 1))) (pIx (pV 0) (pK (.int 3))))) [some (.frz (gv bb (inD [a, b, c, x, y, z]))), none] = some (decide (a * y ≠ b * x)) := qOf_b (pOp_v (v := .bl (decide (a * y ≠ b * x))) p1 p2 (by
        simp only [neV', eqD_int, Option.map_some]
        congr 2
        by_cases hh : a * y = b * x <;> simp [hh]))
      have q2 : pOp neV' (pOp subI (pOp mulI (pIx (pV 0) (pK (.int 0))) (pIx (pV 0) (pK (.int 4)))) (pOp mulI (pIx (pV 0) (pK (.int 1))) (pIx (pV 0) (pK (.int 3))))) (pK (.int 0)) [some (.frz (gv bb (inD [a, b, c, x, y, z]))), none] = some (.bl (decide (a * y ≠ b * x))) := pOp_v (a := .int (a * y - b * x)) (b := .int 0) (v := .bl (decide (a * y ≠ b * x))) (pOp_v (v := .int (a * y - b * x)) p1 p2 rfl) rfl (by
        simp only [neV', eqD_int, Option.map_some]
        congr 2
        by_cases hh : a * y = b * x
        · rw [hh, decide_eq_false (by simp), Int.sub_self]; rfl
        · rw [decide_eq_true hh]
          have : (a * y - b * x == 0) = false := by rw [beq_eq_false_iff_ne]; omega
          rw [this]; rfl)
      have e1 : isCh (gv bb (inD [a, b, c, x, y, z])) = decide (a * y ≠ b * x) := e1
      rw [e1]
      refine ⟨⟨if a * y ≠ b * x then .lst (inD [a, b, c, x, y, z]) else .non, gives_rt ⟨[some (.frz (gv bb (inD [a, b, c, x, y, z]))), none], ?_⟩, ?_, ?_⟩, gives_rt ⟨[some (.frz (gv bb (inD [a, b, c, x, y, z]))), none], ?_⟩⟩
      · rw [st]
        unfold change_in_b
        rw [seq_nx (if_no (tP_of c1))]
        refine ret_ok (eP_of ?_)
        unfold pIf
        rw [q1]
        by_cases hh : a * y ≠ b * x
        · rw [decide_eq_true hh, if_pos hh]
          exact pF_ok (by unfold fSq; exact hs)
        · rw [decide_eq_false hh, if_neg hh]; rfl
      · by_cases hh : a * y ≠ b * x
        · rw [decide_eq_true hh, if_pos hh]; rfl
        · rw [decide_eq_false hh, if_neg hh]; rfl
      · by_cases hh : a * y ≠ b * x
        · rw [if_pos hh]; exact plL_inD _
        · rw [if_neg hh]; rfl
      · rw [st]
        unfold _law_is_change_b
        rw [seq_nx (if_no (tP_of c2))]
        exact ret_ok (eP_of q2)
end k21
namespace k21
open PySem PySem.Spec PyProof.Rows L2 PL
/-! ### the drawn values -/
theorem fSl_ok {p : PLs} {lo hi : Option P} {env : Slots} {l : List D} {a b : Option Int} (h : p env = some l) (h1 : evO lo env = some a) (h2 : evO hi env = some b) : fSl p lo hi env = some (cutD l a b) := by
  unfold fSl
  rw [h, h1, h2]
theorem fRep_ok {p : PLs} {q : P} {env : Slots} {l : List D} {k : Nat} (h : p env = some l) (h1 : q env = some (.int k)) (hk : k ≤ 100) (hl : l.length ≤ 1000) : fRep p q env = some (List.replicate k l).flatten := by
  unfold fRep
  rw [h, h1]
  simp only [Int.toNat_natCast]
  have : l.length * k ≤ 1000 * 100 := Nat.mul_le_mul hl hk
  rw [if_pos ⟨by omega, by omega, by omega⟩]
theorem cut_mem {l : List D} {a b : Option Int} {d : D} (h : d ∈ cutD l a b) : d ∈ l := List.mem_of_mem_drop (List.mem_of_mem_take h)
theorem cut_len (l : List D) (a b : Option Int) : (cutD l a b).length ≤ l.length := by
  unfold PL.cutD
  rw [List.length_take, List.length_drop]
  omega
/-- a row, or what stands in its place -/
structure It (d : D) : Prop where
  rk : Rok 1100 2 d
  ln : ∀ l, sqD d = some l → l.length ≤ 1000
theorem it_leaf {d : D} (h : Rok 100 2 d) (hs : sqD d = none) : It d := ⟨h.mono (by omega) (by omega), fun l e => by rw [hs] at e; cases e⟩
theorem it_row (c : Bool) {l : List D} (h : ∀ d ∈ l, Rok 100 0 d) (hl : l.length ≤ 10) : It (gv c l) := ⟨(rok_gv c h hl (by decide : 10 * (100 + 1) + 1 ≤ 1100)).mono (by omega) (by omega), fun l' e => by rw [gv_sq] at e; cases e; omega⟩
theorem rok_str1 {x : Str} (h : x.cps.toList.all fun c => decide (c < 4294967296)) (hw : (PyData.str x).weight ≤ 100) : Rok 100 0 (.str x) := ⟨rfl, h, _, rfl, hw, by simp [PyData.depth]⟩
theorem gd_items (c : Bool) {l : List D} (h : ∀ d ∈ l, It d) (hl : l.length ≤ 40) : Gd (gv c l) := ⟨(rok_gv c (fun d hd => (h d hd).rk) hl (by decide : 40 * (1100 + 1) + 1 ≤ 44041)).mono (by omega) (by omega), fun rows e => by
  rw [gv_sq] at e
  cases e
  exact ⟨by omega, fun r hr l' e => (h r hr).ln l' e⟩⟩
theorem gd_lst {l : List D} (h : ∀ d ∈ l, It d) (hl : l.length ≤ 40) : Gd (.lst l) := gd_items false h hl
theorem gd_tup {l : List D} (h : ∀ d ∈ l, It d) (hl : l.length ≤ 40) : Gd (.tup l) := gd_items true h hl
theorem gd_nest {l : List D} (h : ∀ d ∈ l, It d) (hl : l.length ≤ 40) : Gd (.lst [.lst l]) := by
  have r := rok_lst (fun d hd => (h d hd).rk) hl (by decide : 40 * (1100 + 1) + 1 ≤ 44041)
  refine ⟨(rok_lst (l := [.lst l]) (n := 1) (fun d hd => by rw [List.mem_singleton.mp hd]; exact r) (by simp) (by decide : 1 * (44041 + 1) + 1 ≤ 44043)).mono (by omega) (by omega), fun rows e => ?_⟩
  cases e
  exact ⟨by simp, fun r hr l' e => by rw [List.mem_singleton.mp hr] at e; cases e; omega⟩
theorem gd_leaf {d : D} (h : Rok 100 4 d) (hs : sqD d = none) : Gd d := ⟨h.mono (by omega) (by omega), fun l e => by rw [hs] at e; cases e⟩
theorem it_nil : It (.lst []) := it_row false nofun (by simp)
theorem it_ints {l : List Int} (h : ∀ x ∈ l, x.natAbs < 10 ^ 26) (hl : l.length ≤ 10) : It (.lst (inD l)) := it_row false (fun d hd => by
  obtain ⟨x, hx, rfl⟩ := List.mem_map.mp hd
  exact rok_int (h x hx)) (by rw [inD_len]; exact hl)
def oddsV : List D := [.non, .int 0, .str "1", .lst [.bl true], .lst [.int 1, .int 0], .lst [.int 0], .lst [.non], .lst [.str "1"], .tup [.int 2, .int 1], .lst [.int 100000], .lst (inD (List.replicate 9 1)), .lst (inD (List.replicate 10 1)), .lst [.lst [.int 1]], .dct [], .lst []]
theorem one_rok : Rok 100 0 (.str "1") := rok_str1 (by decide) (by decide)
theorem ints_rok {l : List D} (h : ∀ d ∈ l, ∃ i : Int, d = .int i ∧ i.natAbs < 10 ^ 26) : ∀ d ∈ l, Rok 100 0 d := fun d hd => by
  obtain ⟨i, rfl, hi⟩ := h d hd
  exact rok_int hi
theorem it11 : It (.lst [.lst [.int 1]]) := by
  have r : Rok 102 1 (.lst [.int 1]) := rok_lst (n := 1) (fun d hd => by rw [List.mem_singleton.mp hd]; exact rok_int (by decide)) (by simp) (by decide : 1 * (100 + 1) + 1 ≤ 102)
  exact ⟨(rok_lst (l := [.lst [.int 1]]) (n := 1) (fun d hd => by rw [List.mem_singleton.mp hd]; exact r) (by simp) (by decide : 1 * (102 + 1) + 1 ≤ 104)).mono (by omega) (by omega), fun l e => by cases e; simp⟩
theorem it_one {d : D} (c : Bool) (h : Rok 100 0 d) : It (gv c [d]) := it_row c (fun x hx => by rw [List.mem_singleton.mp hx]; exact h) (by simp)
theorem it_two {d e : D} (c : Bool) (h : Rok 100 0 d) (h2 : Rok 100 0 e) : It (gv c [d, e]) := it_row c (fun x hx => by
  rcases List.mem_cons.mp hx with rfl | hx
  · exact h
  · rw [List.mem_singleton.mp hx]; exact h2) (by simp)
theorem dct_rok : Rok 100 1 (.dct []) := ⟨rfl, rfl, _, rfl, by decide, by decide⟩
theorem odds_it : ∀ d ∈ oddsV, It d := fun d hd => by
  simp only [oddsV, List.mem_cons, List.not_mem_nil, or_false] at hd
  rcases hd with rfl | rfl | rfl | rfl | rfl | rfl | rfl | rfl | rfl | rfl | rfl | rfl | rfl | rfl | rfl
  · exact it_leaf (rok_non.mono (by omega) (by omega)) rfl
  · exact it_leaf ((rok_int (by decide)).mono (by omega) (by omega)) rfl
  · exact it_leaf (one_rok.mono (by omega) (by omega)) rfl
  · exact it_one false (rok_bl true)
  · exact it_two false (rok_int (by decide)) (rok_int (by decide))
  · exact it_one false (rok_int (by decide))
  · exact it_one false rok_non
  · exact it_one false one_rok
  · exact it_two true (rok_int (by decide)) (rok_int (by decide))
  · exact it_one false (rok_int (by decide))
  · exact it_ints (fun x hx => by rw [(List.mem_replicate.mp hx).2]; decide) (by simp)
  · exact it_ints (fun x hx => by rw [(List.mem_replicate.mp hx).2]; decide) (by simp)
  · exact it11
  · exact it_leaf (dct_rok.mono (by omega) (by omega)) rfl
  · exact it_nil
def tailV : List D := [.non, .int 0, .bl true, .str "", .str "ab", .dct [], .lst [], .tup [], .lst [.lst []], .tup [.tup []], .tup [.lst [.int 1]], .lst [.int 1], .lst (List.replicate 9 (.lst (inD (List.replicate 9 1)))), .lst (List.replicate 10 (.lst [.int 1])), .dct [(.inl 0, .lst [.int 1])]]
theorem tail_gd : ∀ d ∈ tailV, Gd d := fun d hd => by
  have i1 : It (.lst [.int 1]) := it_one false (rok_int (by decide))
  simp only [tailV, List.mem_cons, List.not_mem_nil, or_false] at hd
  rcases hd with rfl | rfl | rfl | rfl | rfl | rfl | rfl | rfl | rfl | rfl | rfl | rfl | rfl | rfl | rfl
  · exact gd_leaf (rok_non.mono (by omega) (by omega)) rfl
  · exact gd_leaf ((rok_int (by decide)).mono (by omega) (by omega)) rfl
  · exact gd_leaf ((rok_bl true).mono (by omega) (by omega)) rfl
  · exact gd_leaf ((rok_str1 (by decide) (by decide)).mono (by omega) (by omega)) rfl
  · exact gd_leaf ((rok_str1 (by decide) (by decide)).mono (by omega) (by omega)) rfl
  · exact gd_leaf (dct_rok.mono (by omega) (by omega)) rfl
  · exact gd_lst nofun (by simp)
  · exact gd_tup nofun (by simp)
  · exact gd_lst (fun x hx => by rw [List.mem_singleton.mp hx]; exact it_nil) (by simp)
  · exact gd_tup (fun x hx => by rw [List.mem_singleton.mp hx]; exact it_row true nofun (by simp)) (by simp)
  · exact gd_tup (fun x hx => by rw [List.mem_singleton.mp hx]; exact i1) (by simp)
  · exact gd_lst (fun x hx => by rw [List.mem_singleton.mp hx]; exact it_leaf ((rok_int (by decide)).mono (by omega) (by omega)) rfl) (by simp)
  · exact gd_lst (fun x hx => by rw [(List.mem_replicate.mp hx).2]; exact it_ints (fun x hx => by rw [(List.mem_replicate.mp hx).2]; decide) (by simp)) (by simp)
  · exact gd_lst (fun x hx => by rw [(List.mem_replicate.mp hx).2]; exact i1) (by simp)
  · exact gd_leaf ⟨rfl, by decide, _, rfl, by decide, by decide⟩ rfl
theorem app_odds {c : C} {L : List D} {k : Int} (hL : L.length ≤ 400) : ∀ (l acc : List D) (o : Option C), acc.length + l.length ≤ 1000 →
    ∃ o', forL (gV false 4) (sDrop (eApp 3 (eP (pF (fCat (fCat (fSl (lP (pV 1)) none (some (pV 2))) (evPs [pV 4])) (fSl (lP (pV 1)) (some (pOp addI (pV 2) (pK (.int 1)))) none)))))) l [some c, some (.frz (.lst L)), some (.frz (.int k)), some (.own (fz acc)), o]
      = .nx [some c, some (.frz (.lst L)), some (.frz (.int k)), some (.own (fz (acc ++ l.map fun d => .lst ((cutD L none (some k) ++ [d]) ++ cutD L (some (k + 1)) none)))), o']
  | [], acc, o, _ => ⟨o, by simp [forL]⟩
  | d :: l, acc, o, h => by
    simp only [List.length_cons] at h
    obtain ⟨o', ih⟩ := app_odds (c := c) (k := k) hL l (acc ++ [.lst ((cutD L none (some k) ++ [d]) ++ cutD L (some (k + 1)) none)]) (some (.frz d)) (by simp; omega)
    refine ⟨o', ?_⟩
    rw [forL]
    rw [show gV false 4 d [some c, some (.frz (.lst L)), some (.frz (.int k)), some (.own (fz acc)), o] = some [some c, some (.frz (.lst L)), some (.frz (.int k)), some (.own (fz acc)), some (.frz d)] from rfl]
    have lp : lP (pV 1) [some c, some (.frz (.lst L)), some (.frz (.int k)), some (.own (fz acc)), some (.frz d)] = some L := lP_ok rfl
    have c1 := cut_len L none (some k)
    have c2 := cut_len L (some (k + 1)) none
    have s1 := fSl_ok (lo := none) (hi := some (pV 2)) lp (a := none) (b := some k) rfl rfl
    have s2 := fSl_ok (lo := some (pOp addI (pV 2) (pK (.int 1)))) (hi := none) lp (a := some (k + 1)) (b := none) rfl rfl
    have f1 := fCat_ok s1 (q := evPs [pV 4]) (b := [d]) rfl (by simp; omega)
    have f2 := pF_ok (fCat_ok f1 s2 (by
      simp only [List.length_append, List.length_singleton]
      omega))
    have s := drop_ok (eApp_ok (i := 3) (l0 := fz acc) (l := fz acc) rfl (eP_of f2) rfl (by rw [fz_len]; omega))
    simp only [List.set_cons_succ, List.set_cons_zero] at s
    simp only [s]
    have fe : fz acc ++ [C.frz (D.lst ((cutD L none (some k) ++ [d]) ++ cutD L (some (k + 1)) none))] = fz (acc ++ [.lst ((cutD L none (some k) ++ [d]) ++ cutD L (some (k + 1)) none)]) := by rw [fz_app]; rfl
    rw [fe, ih, List.map_cons, List.append_assoc]
    rfl
theorem values_v {c : C} (hc : PotOk c) {L : List D} (h0 : 0 < L.length) (h7 : L.length ≤ 8) (hi : ∀ d ∈ L, It d) :
    ∃ c' V o, _law_values_m [c, .frz (.lst L)] = .ok (.frz (.lst V)) (some c' :: o) ∧ PotOk c' ∧ V.length ≤ 100 ∧ ∀ d ∈ V, Gd d := by
  obtain ⟨k, c1, e1, k1, k2, hc1⟩ := draw_p draw_ok (env := [some c, some (.frz (.lst L)), none, none, none]) (p := pCall lenF [pV 1]) (s := L.length) rfl (pCall_1 (v := .int L.length) (d := .lst L) rfl rfl) hc (by omega) (by omega)
  simp only [List.set_cons_zero] at e1
  have lp : lP (pV 1) [some c1, some (.frz (.lst L)), none, none, none] = some L := lP_ok rfl
  have b1 := pF_ok (fCat_ok lp (q := evPs [pF (evPs [])]) (b := [.lst []]) rfl (by simp; omega))
  have b2 := pF_ok (fCat_ok lp (q := evPs [pF (evPs [pK (.int 0)])]) (b := [.lst [.int 0]]) rfl (by simp; omega))
  have b3 := pF_ok (fCat_ok (p := evPs [pF (evPs [])]) (a := [.lst []]) rfl lp (by simp; omega))
  have b4 := pF_ok (fSl_ok (lo := none) (hi := some (pNeg (pK (.int 1)))) lp (a := none) (b := some (-1)) rfl rfl)
  have b5 := pF_ok (fRep_ok (k := 5) (q := pK (.int 5)) lp rfl (by omega) (by omega))
  have pt : pTupL (lP (pV 1)) [some c1, some (.frz (.lst L)), none, none, none] = some (.tup L) := by unfold pTupL; rw [lp]; rfl
  have vs : evPs [pV 1, pTupL (lP (pV 1)), pF (evPs [pV 1]), pF (fCat (lP (pV 1)) (evPs [pF (evPs [])])), pF (fCat (lP (pV 1)) (evPs [pF (evPs [pK (.int 0)])])), pF (fCat (evPs [pF (evPs [])]) (lP (pV 1))), pF (fSl (lP (pV 1)) none (some (pNeg (pK (.int 1))))), pF (fRep (lP (pV 1)) (pK (.int 5)))] [some c1, some (.frz (.lst L)), none, none, none] =
      some [.lst L, .tup L, .lst [.lst L], .lst (L ++ [.lst []]), .lst (L ++ [.lst [.int 0]]), .lst ([.lst []] ++ L), .lst (cutD L none (some (-1))), .lst (List.replicate 5 L).flatten] := by
    have x1 : pV 1 [some c1, some (.frz (.lst L)), none, none, none] = some (.lst L) := rfl
    have x3 : pF (evPs [pV 1]) [some c1, some (.frz (.lst L)), none, none, none] = some (.lst [.lst L]) := rfl
    rw [evPs_c, x1, evPs_c, pt, evPs_c, x3, evPs_c, b1, evPs_c, b2, evPs_c, b3, evPs_c, b4, evPs_c, b5, evPs_n]
  have s1 : (sPar [2, 3] [eFnL _law_draw_m 0 [eP (pCall lenF [pV 1])], eF (evPs [pV 1, pTupL (lP (pV 1)), pF (evPs [pV 1]), pF (fCat (lP (pV 1)) (evPs [pF (evPs [])])), pF (fCat (lP (pV 1)) (evPs [pF (evPs [pK (.int 0)])])), pF (fCat (evPs [pF (evPs [])]) (lP (pV 1))), pF (fSl (lP (pV 1)) none (some (pNeg (pK (.int 1))))), pF (fRep (lP (pV 1)) (pK (.int 5)))])]) [some c, some (.frz (.lst L)), none, none, none] =
      .nx [some c1, some (.frz (.lst L)), some (.frz (.int k)), some (.own (fz [.lst L, .tup L, .lst [.lst L], .lst (L ++ [.lst []]), .lst (L ++ [.lst [.int 0]]), .lst ([.lst []] ++ L), .lst (cutD L none (some (-1))), .lst (List.replicate 5 L).flatten])), none] := by
    unfold sPar
    rw [evMs_2 e1 (eF_ok vs)]
    rfl
  have g8 : ∀ d ∈ [D.lst L, .tup L, .lst [.lst L], .lst (L ++ [.lst []]), .lst (L ++ [.lst [.int 0]]), .lst ([.lst []] ++ L), .lst (cutD L none (some (-1))), .lst (List.replicate 5 L).flatten], Gd d := by
    have i0 : It (.lst [.int 0]) := it_one false (rok_int (by decide))
    intro d hd
    simp only [List.mem_cons, List.not_mem_nil, or_false] at hd
    rcases hd with rfl | rfl | rfl | rfl | rfl | rfl | rfl | rfl
    · exact gd_lst hi (by omega)
    · exact gd_tup hi (by omega)
    · exact gd_nest hi (by omega)
    · exact gd_lst (fun x hx => by
        rcases List.mem_append.mp hx with h | h
        · exact hi x h
        · rw [List.mem_singleton.mp h]; exact it_nil) (by simp; omega)
    · exact gd_lst (fun x hx => by
        rcases List.mem_append.mp hx with h | h
        · exact hi x h
        · rw [List.mem_singleton.mp h]; exact i0) (by simp; omega)
    · exact gd_lst (fun x hx => by
        rcases List.mem_append.mp hx with h | h
        · rw [List.mem_singleton.mp h]; exact it_nil
        · exact hi x h) (by simp; omega)
    · exact gd_lst (fun x hx => hi x (cut_mem hx)) (by have := cut_len L none (some (-1)); omega)
    · refine gd_lst (fun x hx => ?_) (by simp; omega)
      obtain ⟨l, hl, hx⟩ := List.mem_flatten.mp hx
      rw [(List.mem_replicate.mp hl).2] at hx
      exact hi x hx
  generalize hV : [D.lst L, .tup L, .lst [.lst L], .lst (L ++ [.lst []]), .lst (L ++ [.lst [.int 0]]), .lst ([.lst []] ++ L), .lst (cutD L none (some (-1))), .lst (List.replicate 5 L).flatten] = V8 at s1 g8
  have l8 : V8.length = 8 := by rw [← hV]; rfl
  clear hV vs
  obtain ⟨o', lpp⟩ := app_odds (c := c1) (L := L) (k := k) (by omega) oddsV V8 none (by rw [l8]; decide)
  have src : mSq (eP (pF (evPs [pK .non, pK (.int 0), pK (.str "1"), pF (evPs [pK (.bl true)]), pF (evPs [pK (.int 1), pK (.int 0)]), pF (evPs [pK (.int 0)]), pF (evPs [pK .non]), pF (evPs [pK (.str "1")]), pTup [pK (.int 2), pK (.int 1)], pF (evPs [pK (.int 100000)]), pF (fRep (evPs [pK (.int 1)]) (pK (.int 9))), pF (fRep (evPs [pK (.int 1)]) (pK (.int 10))), pF (evPs [pF (evPs [pK (.int 1)])]), pK (.dct []), pF (evPs [])]))) [some c1, some (.frz (.lst L)), some (.frz (.int k)), some (.own (fz V8)), none] = .ok oddsV [some c1, some (.frz (.lst L)), some (.frz (.int k)), some (.own (fz V8)), none] := mSq_ok (d := .lst oddsV) (eP_of rfl) rfl
  have fin : pF (fCat (lKf (kV 3)) (evPs [pK .non, pK (.int 0), pK (.bl true), pK (.str ""), pK (.str "ab"), pK (.dct []), pF (evPs []), pTup [], pF (evPs [pF (evPs [])]), pTup [pTup []], pTup [pF (evPs [pK (.int 1)])], pF (evPs [pK (.int 1)]), pF (fRep (evPs [pF (fRep (evPs [pK (.int 1)]) (pK (.int 9)))]) (pK (.int 9))), pF (fRep (evPs [pF (evPs [pK (.int 1)])]) (pK (.int 10))), pDisp [(pK (.int 0), pF (evPs [pK (.int 1)]))]])) [some c1, some (.frz (.lst L)), some (.frz (.int k)), some (.own (fz (V8 ++ oddsV.map fun d => .lst ((cutD L none (some k) ++ [d]) ++ cutD L (some (k + 1)) none)))), o'] = some (.lst ((V8 ++ oddsV.map fun d => .lst ((cutD L none (some k) ++ [d]) ++ cutD L (some (k + 1)) none)) ++ tailV)) := by
    refine pF_ok (fCat_ok (b := tailV) ?_ rfl ?_)
    · unfold lKf PL.kV
      simp only [List.getElem?_cons_succ, List.getElem?_cons_zero, frzs_fz]
    · rw [List.length_append, List.length_map, l8]
      decide
  refine ⟨c1, (V8 ++ oddsV.map fun d => .lst ((cutD L none (some k) ++ [d]) ++ cutD L (some (k + 1)) none)) ++ tailV, _, body_rt (e := [some c1, some (.frz (.lst L)), some (.frz (.int k)), some (.own (fz (V8 ++ oddsV.map fun d => .lst ((cutD L none (some k) ++ [d]) ++ cutD L (some (k + 1)) none)))), o']) ?_, hc1, ?_, fun d hd => ?_⟩
  · rw [show startE 5 [c, .frz (.lst L)] = [some c, some (.frz (.lst L)), none, none, none] from rfl]
    unfold _law_values_b
    rw [seq_nx s1, seq_nx ((for_ok src).trans lpp)]
    exact ret_ok (eP_of fin)
  · rw [List.length_append, List.length_append, List.length_map, l8]
    decide
  · rcases List.mem_append.mp hd with hd | hd
    · rcases List.mem_append.mp hd with hd | hd
      · exact g8 d hd
      · obtain ⟨x, hx, rfl⟩ := List.mem_map.mp hd
        have a1 := cut_len L none (some k)
        have a2 := cut_len L (some (k + 1)) none
        refine gd_lst (fun y hy => ?_) (by simp only [List.length_append, List.length_singleton]; omega)
        rcases List.mem_append.mp hy with hy | hy
        · rcases List.mem_append.mp hy with hy | hy
          · exact hi y (cut_mem hy)
          · rw [List.mem_singleton.mp hy]; exact odds_it x hx
        · exact hi y (cut_mem hy)
    · exact tail_gd d hd
end k21
namespace k21
open PySem PySem.Spec PyProof.Rows L2 PL
/-! ### the drawn changes -/
theorem six_loop : ∀ (l : List D) (c : C) (ns : List Int) (o : Option C), PotOk c → l.length + ns.length ≤ 100 → (∀ x ∈ ns, x.natAbs ≤ 4) →
    ∃ c' ms o', forL (gV false 2) (sDrop (eApp 1 (eOp subI (eFnL _law_draw_m 0 [eP (pK (.int 7))]) (eP (pK (.int 3)))))) l [some c, some (.own (fz (inD ns))), o, none, none, none] = .nx [some c', some (.own (fz (inD ms))), o', none, none, none] ∧ PotOk c' ∧ ms.length = ns.length + l.length ∧ ∀ x ∈ ms, x.natAbs ≤ 4
  | [], c, ns, o, hc, _, h => ⟨c, ns, o, rfl, hc, by simp, h⟩
  | d :: l, c, ns, o, hc, hl, h => by
    simp only [List.length_cons] at hl
    obtain ⟨r, c1, e1, r1, r2, hc1⟩ := draw_p draw_ok (env := [some c, some (.own (fz (inD ns))), some (.frz d), none, none, none]) (p := pK (.int 7)) (s := 7) rfl rfl hc (by decide) (by decide)
    simp only [List.set_cons_zero] at e1
    have eo := eOp_ok (op := subI) (g := eP (pK (.int 3))) (b := .frz (.int 3)) (e2 := [some c1, some (.own (fz (inD ns))), some (.frz d), none, none, none]) (v := .int (r - 3)) e1 rfl rfl
    have s := drop_ok (eApp_ok (i := 1) (l0 := fz (inD ns)) (l := fz (inD ns)) rfl eo rfl (by rw [fz_len, inD_len]; omega))
    simp only [List.set_cons_succ, List.set_cons_zero] at s
    have fe : fz (inD ns) ++ [C.frz (ofV (V.int (r - 3)))] = fz (inD (ns ++ [r - 3])) := by rw [inD_app, fz_app]; rfl
    rw [fe] at s
    obtain ⟨c2, ms, o', i1, i2, i3, i4⟩ := six_loop l c1 (ns ++ [r - 3]) (some (.frz d)) hc1 (by simp; omega) (fun x hx => by
      rcases List.mem_append.mp hx with hx | hx
      · exact h x hx
      · rw [List.mem_singleton.mp hx]; omega)
    refine ⟨c2, ms, o', ?_, i2, by simp at i3 ⊢; omega, i4⟩
    rw [forL]
    rw [show gV false 2 d [some c, some (.own (fz (inD ns))), o, none, none, none] = some [some c, some (.own (fz (inD ns))), some (.frz d), none, none, none] from rfl]
    simp only [s]
    exact i1
def oddsC : List D := [.bl true, .bl false, .non, .str "1", .lst [.int 1], .int (10 ^ 20), .int (-1)]
def tailC : List D := [.non, .int 0, .str "", .str "abcdef", .dct [], .lst [], .tup [], .bl true]
theorem oddsC_it : ∀ d ∈ oddsC, It d := fun d hd => by
  simp only [oddsC, List.mem_cons, List.not_mem_nil, or_false] at hd
  rcases hd with rfl | rfl | rfl | rfl | rfl | rfl | rfl
  · exact it_leaf ((rok_bl true).mono (by omega) (by omega)) rfl
  · exact it_leaf ((rok_bl false).mono (by omega) (by omega)) rfl
  · exact it_leaf (rok_non.mono (by omega) (by omega)) rfl
  · exact it_leaf (one_rok.mono (by omega) (by omega)) rfl
  · exact it_one false (rok_int (by decide))
  · exact it_leaf ((rok_int (by decide)).mono (by omega) (by omega)) rfl
  · exact it_leaf ((rok_int (by decide)).mono (by omega) (by omega)) rfl
theorem tailC_gd : ∀ d ∈ tailC, Gd d := fun d hd => by
  simp only [tailC, List.mem_cons, List.not_mem_nil, or_false] at hd
  rcases hd with rfl | rfl | rfl | rfl | rfl | rfl | rfl | rfl
  · exact gd_leaf (rok_non.mono (by omega) (by omega)) rfl
  · exact gd_leaf ((rok_int (by decide)).mono (by omega) (by omega)) rfl
  · exact gd_leaf ((rok_str1 (by decide) (by decide)).mono (by omega) (by omega)) rfl
  · exact gd_leaf ((rok_str1 (by decide) (by decide)).mono (by omega) (by omega)) rfl
  · exact gd_leaf (dct_rok.mono (by omega) (by omega)) rfl
  · exact gd_lst nofun (by simp)
  · exact gd_tup nofun (by simp)
  · exact gd_leaf ((rok_bl true).mono (by omega) (by omega)) rfl
theorem app_oddsC {c o2 : Option C} {L : List D} {k : Int} (hL : L.length ≤ 400) : ∀ (l acc : List D) (o : Option C), acc.length + l.length ≤ 1000 →
    ∃ o', forL (gV false 5) (sDrop (eApp 3 (eP (pF (fCat (fCat (fSl (lKf (PL.kV 1)) none (some (pV 4))) (evPs [pV 5])) (fSl (lKf (PL.kV 1)) (some (pOp addI (pV 4) (pK (.int 1)))) none)))))) l [c, some (.frz (.lst L)), o2, some (.own (fz acc)), some (.frz (.int k)), o]
      = .nx [c, some (.frz (.lst L)), o2, some (.own (fz (acc ++ l.map fun d => .lst ((cutD L none (some k) ++ [d]) ++ cutD L (some (k + 1)) none)))), some (.frz (.int k)), o']
  | [], acc, o, _ => ⟨o, by simp [forL]⟩
  | d :: l, acc, o, h => by
    simp only [List.length_cons] at h
    obtain ⟨o', ih⟩ := app_oddsC (c := c) (o2 := o2) (k := k) hL l (acc ++ [.lst ((cutD L none (some k) ++ [d]) ++ cutD L (some (k + 1)) none)]) (some (.frz d)) (by simp; omega)
    refine ⟨o', ?_⟩
    rw [forL]
    rw [show gV false 5 d [c, some (.frz (.lst L)), o2, some (.own (fz acc)), some (.frz (.int k)), o] = some [c, some (.frz (.lst L)), o2, some (.own (fz acc)), some (.frz (.int k)), some (.frz d)] from rfl]
    have lp : lKf (PL.kV 1) [c, some (.frz (.lst L)), o2, some (.own (fz acc)), some (.frz (.int k)), some (.frz d)] = some L := rfl
    have c1 := cut_len L none (some k)
    have c2 := cut_len L (some (k + 1)) none
    have s1 := fSl_ok (lo := none) (hi := some (pV 4)) lp (a := none) (b := some k) rfl rfl
    have s2 := fSl_ok (lo := some (pOp addI (pV 4) (pK (.int 1)))) (hi := none) lp (a := some (k + 1)) (b := none) rfl rfl
    have f1 := fCat_ok s1 (q := evPs [pV 5]) (b := [d]) rfl (by simp; omega)
    have f2 := pF_ok (fCat_ok f1 s2 (by
      simp only [List.length_append, List.length_singleton]
      omega))
    have s := drop_ok (eApp_ok (i := 3) (l0 := fz acc) (l := fz acc) rfl (eP_of f2) rfl (by rw [fz_len]; omega))
    simp only [List.set_cons_succ, List.set_cons_zero] at s
    simp only [s]
    have fe : fz acc ++ [C.frz (D.lst ((cutD L none (some k) ++ [d]) ++ cutD L (some (k + 1)) none))] = fz (acc ++ [.lst ((cutD L none (some k) ++ [d]) ++ cutD L (some (k + 1)) none)]) := by rw [fz_app]; rfl
    rw [fe, ih, List.map_cons, List.append_assoc]
    rfl
theorem evMs_of {env : Slots} : ∀ {fs : List (M C)} {ds : List D}, fs.length = ds.length → (∀ x ∈ fs.zip ds, x.1 env = .ok (.frz x.2) env) → evMs fs env = .ok (fz ds) env
  | [], [], _, _ => rfl
  | [], _ :: _, h, _ => nomatch h
  | _ :: _, [], h, _ => nomatch h
  | f :: fs, d :: ds, h, g => by
    have h1 : f env = .ok (.frz d) env := g (f, d) (by simp)
    have h2 := evMs_of (fs := fs) (ds := ds) (by simpa using h) fun x hx => g x (by simp [hx])
    rw [evMs_c, h1]
    simp only [Out.bind, h2]
    rfl
theorem eLst_ok {fs : List (M C)} {env e : Slots} {cs : List C} (h : evMs fs env = .ok cs e) (hl : cs.length ≤ 100000) : eLst fs env = .ok (.own cs) e := by
  unfold eLst
  rw [h]
  simp only [Out.bind, hl, if_true]
theorem changes_v {c : C} (hc : PotOk c) : ∃ c' V o, _law_changes_m [c] = .ok (.frz (.lst V)) (some c' :: o) ∧ PotOk c' ∧ V.length ≤ 100 ∧ ∀ d ∈ V, Gd d := by
  obtain ⟨c1, ns, o2, lp1, hc1, ln, hs⟩ := six_loop ((List.range (6 : Int).toNat).map fun (i : Nat) => .int (0 + (i : Int))) c [] none hc (by decide) nofun
  have ln : ns.length = 6 := by simpa using ln
  obtain ⟨k, c2, e1, k1, k2, hc2⟩ := draw_p draw_ok (env := [some c1, some (.frz (.lst (inD ns))), o2, none, none, none]) (p := pK (.int 6)) (s := 6) rfl rfl hc1 (by decide) (by decide)
  simp only [List.set_cons_zero] at e1
  have hi : ∀ d ∈ inD ns, It d := fun d hd => by
    obtain ⟨x, hx, rfl⟩ := List.mem_map.mp hd
    exact it_leaf ((rok_int (by have := hs x hx; omega)).mono (by omega) (by omega)) rfl
  have hr : ∀ d ∈ inD ns, Rok 100 0 d := fun d hd => by
    obtain ⟨x, hx, rfl⟩ := List.mem_map.mp hd
    exact rok_int (by have := hs x hx; omega)
  have lL : (inD ns).length = 6 := by rw [inD_len]; exact ln
  generalize inD ns = L at lp1 e1 hi hr lL
  clear hs ln
  have lk : lKf (PL.kV 1) [some c1, some (.frz (.lst L)), o2, none, none, none] = some L := rfl
  have b2 : pTupL (lKf (PL.kV 1)) [some c1, some (.frz (.lst L)), o2, none, none, none] = some (.tup L) := rfl
  have b3 := pF_ok (fSl_ok (lo := none) (hi := some (pK (.int 5))) lk (a := none) (b := some 5) rfl rfl)
  have b4 := pF_ok (fCat_ok lk (q := evPs [pK (.int 1)]) (b := [.int 1]) rfl (by simp; omega))
  have c3 := fSl_ok (lo := none) (hi := some (pK (.int 3))) lk (a := none) (b := some 3) rfl rfl
  have cl := cut_len L none (some 3)
  have cl5 := cut_len L none (some 5)
  have b6 := pF_ok (fCat_ok c3 c3 (by omega))
  have ev : evMs [eV 1, eP (pTupL (lKf (PL.kV 1))), eP (pF (fSl (lKf (PL.kV 1)) none (some (pK (.int 5))))), eP (pF (fCat (lKf (PL.kV 1)) (evPs [pK (.int 1)]))), eFrz (eLst [eV 1]), eP (pF (fCat (fSl (lKf (PL.kV 1)) none (some (pK (.int 3)))) (fSl (lKf (PL.kV 1)) none (some (pK (.int 3)))))), eP (pF (evPs [pK (.int 1), pK (.int 2), pK (.int 0), pK (.int 2), pK (.int 4), pK (.int 0)])), eP (pF (evPs [pK (.int 1), pK (.int 0), pK (.int 0), pK (.int 0), pK (.int 1), pK (.int 0)]))] [some c1, some (.own (fz L)), o2, none, none, none]
      = .ok (fz [.lst L, .tup L, .lst (cutD L none (some 5)), .lst (L ++ [.int 1]), .lst [.lst L], .lst (cutD L none (some 3) ++ cutD L none (some 3)), .lst (inD [1, 2, 0, 2, 4, 0]), .lst (inD [1, 0, 0, 0, 1, 0])]) [some c1, some (.frz (.lst L)), o2, none, none, none] := by
    have v1 : eV 1 [some c1, some (.own (fz L)), o2, none, none, none] = .ok (.frz (.lst L)) [some c1, some (.frz (.lst L)), o2, none, none, none] := by
      unfold eV
      simp only [List.getElem?_cons_succ, List.getElem?_cons_zero, C.toD, toDs_fz, List.set_cons_succ, List.set_cons_zero]
    have rest := evMs_of (env := [some c1, some (.frz (.lst L)), o2, none, none, none]) (fs := [eP (pTupL (lKf (PL.kV 1))), eP (pF (fSl (lKf (PL.kV 1)) none (some (pK (.int 5))))), eP (pF (fCat (lKf (PL.kV 1)) (evPs [pK (.int 1)]))), eFrz (eLst [eV 1]), eP (pF (fCat (fSl (lKf (PL.kV 1)) none (some (pK (.int 3)))) (fSl (lKf (PL.kV 1)) none (some (pK (.int 3)))))), eP (pF (evPs [pK (.int 1), pK (.int 2), pK (.int 0), pK (.int 2), pK (.int 4), pK (.int 0)])), eP (pF (evPs [pK (.int 1), pK (.int 0), pK (.int 0), pK (.int 0), pK (.int 1), pK (.int 0)]))])
      (ds := [.tup L, .lst (cutD L none (some 5)), .lst (L ++ [.int 1]), .lst [.lst L], .lst (cutD L none (some 3) ++ cutD L none (some 3)), .lst (inD [1, 2, 0, 2, 4, 0]), .lst (inD [1, 0, 0, 0, 1, 0])]) rfl (by
        intro x hx
        simp only [List.zip_cons_cons, List.zip_nil_right, List.mem_cons, List.not_mem_nil, or_false] at hx
        rcases hx with rfl | rfl | rfl | rfl | rfl | rfl | rfl
        · exact eP_of b2
        · exact eP_of b3
        · exact eP_of b4
        · rfl
        · exact eP_of b6
        · rfl
        · rfl)
    rw [evMs_c, v1]
    simp only [Out.bind, rest]
    rfl
  have s1 : (sPar [3, 4] [eLst [eV 1, eP (pTupL (lKf (PL.kV 1))), eP (pF (fSl (lKf (PL.kV 1)) none (some (pK (.int 5))))), eP (pF (fCat (lKf (PL.kV 1)) (evPs [pK (.int 1)]))), eFrz (eLst [eV 1]), eP (pF (fCat (fSl (lKf (PL.kV 1)) none (some (pK (.int 3)))) (fSl (lKf (PL.kV 1)) none (some (pK (.int 3)))))), eP (pF (evPs [pK (.int 1), pK (.int 2), pK (.int 0), pK (.int 2), pK (.int 4), pK (.int 0)])), eP (pF (evPs [pK (.int 1), pK (.int 0), pK (.int 0), pK (.int 0), pK (.int 1), pK (.int 0)]))], eFnL _law_draw_m 0 [eP (pK (.int 6))]]) [some c1, some (.own (fz L)), o2, none, none, none]
      = .nx [some c2, some (.frz (.lst L)), o2, some (.own (fz [.lst L, .tup L, .lst (cutD L none (some 5)), .lst (L ++ [.int 1]), .lst [.lst L], .lst (cutD L none (some 3) ++ cutD L none (some 3)), .lst (inD [1, 2, 0, 2, 4, 0]), .lst (inD [1, 0, 0, 0, 1, 0])])), some (.frz (.int k)), none] := by
    have l1 : eLst [eV 1, eP (pTupL (lKf (PL.kV 1))), eP (pF (fSl (lKf (PL.kV 1)) none (some (pK (.int 5))))), eP (pF (fCat (lKf (PL.kV 1)) (evPs [pK (.int 1)]))), eFrz (eLst [eV 1]), eP (pF (fCat (fSl (lKf (PL.kV 1)) none (some (pK (.int 3)))) (fSl (lKf (PL.kV 1)) none (some (pK (.int 3)))))), eP (pF (evPs [pK (.int 1), pK (.int 2), pK (.int 0), pK (.int 2), pK (.int 4), pK (.int 0)])), eP (pF (evPs [pK (.int 1), pK (.int 0), pK (.int 0), pK (.int 0), pK (.int 1), pK (.int 0)]))] [some c1, some (.own (fz L)), o2, none, none, none]
      = .ok (.own (fz [.lst L, .tup L, .lst (cutD L none (some 5)), .lst (L ++ [.int 1]), .lst [.lst L], .lst (cutD L none (some 3) ++ cutD L none (some 3)), .lst (inD [1, 2, 0, 2, 4, 0]), .lst (inD [1, 0, 0, 0, 1, 0])])) [some c1, some (.frz (.lst L)), o2, none, none, none] := by
      exact eLst_ok ev (by simp)
    unfold sPar
    rw [evMs_2 l1 e1]
    rfl
  have g8 : ∀ d ∈ [D.lst L, .tup L, .lst (cutD L none (some 5)), .lst (L ++ [.int 1]), .lst [.lst L], .lst (cutD L none (some 3) ++ cutD L none (some 3)), .lst (inD [1, 2, 0, 2, 4, 0]), .lst (inD [1, 0, 0, 0, 1, 0])], Gd d := by
    have ii : ∀ l : List Int, (∀ x ∈ l, x.natAbs ≤ 4) → ∀ d ∈ inD l, It d := fun l h d hd => by
      obtain ⟨x, hx, rfl⟩ := List.mem_map.mp hd
      exact it_leaf ((rok_int (by have := h x hx; omega)).mono (by omega) (by omega)) rfl
    intro d hd
    simp only [List.mem_cons, List.not_mem_nil, or_false] at hd
    rcases hd with rfl | rfl | rfl | rfl | rfl | rfl | rfl | rfl
    · exact gd_lst hi (by omega)
    · exact gd_tup hi (by omega)
    · exact gd_lst (fun x hx => hi x (cut_mem hx)) (by omega)
    · exact gd_lst (fun x hx => by
        rcases List.mem_append.mp hx with h | h
        · exact hi x h
        · rw [List.mem_singleton.mp h]; exact it_leaf ((rok_int (by decide)).mono (by omega) (by omega)) rfl) (by simp; omega)
    · exact gd_lst (fun x hx => by rw [List.mem_singleton.mp hx]; exact it_row false hr (by omega)) (by simp)
    · exact gd_lst (fun x hx => by
        rcases List.mem_append.mp hx with h | h <;> exact hi x (cut_mem h)) (by simp; omega)
    · exact gd_lst (ii _ (by decide)) (by decide)
    · exact gd_lst (ii _ (by decide)) (by decide)
  generalize hV : [D.lst L, .tup L, .lst (cutD L none (some 5)), .lst (L ++ [.int 1]), .lst [.lst L], .lst (cutD L none (some 3) ++ cutD L none (some 3)), .lst (inD [1, 2, 0, 2, 4, 0]), .lst (inD [1, 0, 0, 0, 1, 0])] = V8 at s1 g8
  have l8 : V8.length = 8 := by rw [← hV]; rfl
  clear hV ev
  obtain ⟨o', lpp⟩ := app_oddsC (c := some c2) (o2 := o2) (L := L) (k := k) (by omega) oddsC V8 none (by rw [l8]; decide)
  have src : mSq (eP (pF (evPs [pK (.bl true), pK (.bl false), pK .non, pK (.str "1"), pF (evPs [pK (.int 1)]), pOp powI (pK (.int 10)) (pK (.int 20)), pNeg (pK (.int 1))]))) [some c2, some (.frz (.lst L)), o2, some (.own (fz V8)), some (.frz (.int k)), none] = .ok oddsC [some c2, some (.frz (.lst L)), o2, some (.own (fz V8)), some (.frz (.int k)), none] := mSq_ok (d := .lst oddsC) (eP_of rfl) rfl
  have fin : pF (fCat (lKf (PL.kV 3)) (evPs [pK .non, pK (.int 0), pK (.str ""), pK (.str "abcdef"), pK (.dct []), pF (evPs []), pTup [], pK (.bl true)])) [some c2, some (.frz (.lst L)), o2, some (.own (fz (V8 ++ oddsC.map fun d => .lst ((cutD L none (some k) ++ [d]) ++ cutD L (some (k + 1)) none)))), some (.frz (.int k)), o'] = some (.lst ((V8 ++ oddsC.map fun d => .lst ((cutD L none (some k) ++ [d]) ++ cutD L (some (k + 1)) none)) ++ tailC)) := by
    refine pF_ok (fCat_ok (b := tailC) ?_ rfl ?_)
    · unfold lKf PL.kV
      simp only [List.getElem?_cons_succ, List.getElem?_cons_zero, frzs_fz]
    · rw [List.length_append, List.length_map, l8]
      decide
  refine ⟨c2, (V8 ++ oddsC.map fun d => .lst ((cutD L none (some k) ++ [d]) ++ cutD L (some (k + 1)) none)) ++ tailC, _, body_rt (e := [some c2, some (.frz (.lst L)), o2, some (.own (fz (V8 ++ oddsC.map fun d => .lst ((cutD L none (some k) ++ [d]) ++ cutD L (some (k + 1)) none)))), some (.frz (.int k)), o']) ?_, hc2, ?_, fun d hd => ?_⟩
  · rw [show startE 6 [c] = [some c, none, none, none, none, none] from rfl]
    unfold _law_changes_b
    rw [seq_nx (set_ok (h := eF (evPs [])) (c := .own (fz (inD []))) (e := [some c, none, none, none, none, none]) rfl)]
    simp only [List.set_cons_succ, List.set_cons_zero]
    rw [seq_nx ((for_ok (rngM_1 (f := eP (pK (.int 6))) (j := 6) rfl (by decide) (by decide))).trans lp1), seq_nx s1, seq_nx ((for_ok src).trans lpp)]
    exact ret_ok (eP_of fin)
  · rw [List.length_append, List.length_append, List.length_map, l8]
    decide
  · rcases List.mem_append.mp hd with hd | hd
    · rcases List.mem_append.mp hd with hd | hd
      · exact g8 d hd
      · obtain ⟨x, hx, rfl⟩ := List.mem_map.mp hd
        have a1 := cut_len L none (some k)
        have a2 := cut_len L (some (k + 1)) none
        refine gd_lst (fun y hy => ?_) (by simp only [List.length_append, List.length_singleton]; omega)
        rcases List.mem_append.mp hy with hy | hy
        · rcases List.mem_append.mp hy with hy | hy
          · exact hi y (cut_mem hy)
          · rw [List.mem_singleton.mp hy]; exact oddsC_it x hx
        · exact hi y (cut_mem hy)
    · exact tailC_gd d hd
end k21
namespace k21
open PySem PySem.Spec PyProof.Rows L2 PL
/-! ### one value, one change -/
theorem isPl_of {d : D} {ps : List (List Int)} (h : Pv d ps) : isPl d = true := by
  obtain ⟨rows, h1, h2⟩ := h.sh
  have hl := map_len h2
  have l9 := h.l9
  unfold isPl
  rw [h1]
  have key : ∀ r ∈ rows, rowN 9 r = true ∧ rowI r = true := fun r hr => by
    have : sqD r ∈ ps.map (fun l => some (inD l)) := by rw [← h2]; exact List.mem_map_of_mem hr
    obtain ⟨l, hl, e⟩ := List.mem_map.mp this
    have r9 := h.r9 l hl
    have t := h.pl.tr l hl
    refine ⟨by unfold rowN; rw [← e]; simp; omega, ?_⟩
    unfold rowI intsB endB
    rw [← e]
    simp only [Bool.and_eq_true]
    refine ⟨List.all_eq_true.mpr fun x hx => ?_, ?_⟩
    · obtain ⟨i, _, rfl⟩ := List.mem_map.mp hx; rfl
    · unfold inD
      rw [List.getLast?_map]
      cases hg : l.getLast? with
      | none => rfl
      | some x =>
        have := t x hg
        show line0 (.int x) = true
        cases x with
        | ofNat n => cases n with
          | zero => exact absurd rfl this
          | succ n => rfl
        | negSucc n => rfl
  simp only [Bool.and_eq_true]
  exact ⟨⟨⟨decide_eq_true (by omega), List.all_eq_true.mpr fun r hr => (key r hr).1⟩, List.all_eq_true.mpr fun r hr => (key r hr).2⟩, (top_iff h2).mpr h.pl.top⟩
theorem int_mod {env : Slots} {p : P} {i : Int} (h : p env = some (.int i)) : ∃ b, qOf (pOp eqV' (pOp modI (pCall intF [p]) (pK (.int 2))) (pK (.int 0))) env = some b :=
  ⟨_, qOf_b (pOp_v (op := eqV') (a := .int (i.fmod 2)) (b := .int 0) (v := .bl (i.fmod 2 == 0)) (pOp_v (a := .int i) (b := .int 2) (v := .int (i.fmod 2)) (pCall_1 (v := .int i) h rfl) rfl rfl) rfl (by simp only [eqV', eqD_int, Option.map_some]))⟩
theorem either {env : Slots} {p : P} {i : Int} {m : List C → Out C} {q : P} {d : D} {c : C} (h : p env = some (.int i)) (hq : q env = some d) (hm : Gives m [.frz d] c) : pIf (qOf (pOp eqV' (pOp modI (pCall intF [p]) (pK (.int 2))) (pK (.int 0)))) (pFn m [q]) (pFnK m [0] [q]) env = some c.toD := by
  obtain ⟨b, hb⟩ := int_mod h
  unfold pIf
  rw [hb]
  cases b with
  | true => exact pFn_1 hq hm
  | false => exact pFnK_1 hq hm
theorem fst_text {env : Slots} {p q : P} {d : D} {s : Str} (hp : p env = some d) (hq : q env = some (.str s)) (hs : reprF2 [d] = some (.str s)) : qOf (pOp neT' (pCall reprF2 [p]) q) env = some false :=
  qOf_b (pOp_v (a := .str s) (b := .str s) (v := .bl false) (pCall_1 (d := d) (v := .str s) hp hs) hq (by simp [neT', eqDT_str]))
theorem repr_bl (b : Bool) : ∃ s, reprF2 [.bl b] = some (.str s) := (rok_bl b).repr (by omega) (by omega)
theorem wide_le {ps : List (List Int)} (h : ∀ l ∈ ps, l.length ≤ 9) : 0 ≤ wideI ps ∧ wideI ps ≤ 9 := by
  obtain ⟨m1, m2, m3⟩ := mx0_spec (ps.map fun l => (l.length : Int))
  refine ⟨m3, ?_⟩
  show mx0 _ ≤ 9
  rcases m1 with m1 | m1
  · omega
  · obtain ⟨l, hl, e⟩ := List.mem_map.mp m1
    have := h l hl
    omega
theorem head_small {d : D} {ps : List (List Int)} (g : Gd d) (hv : Pv d ps) : (headP ps).natAbs < 10 ^ 26 := by
  by_cases hp : ps = []
  · subst hp; decide
  · obtain ⟨_, h2, h3⟩ := head_nz hv.pl hp
    exact g.small hv.sh _ h2 _ h3
theorem plain_list {t t' : TD} {ps : List (List Int)} {B : Nat} (hB : B ≤ 900) (q : Pl ps) (hl : t.length ≤ 900) (hk : ∀ e ∈ t, e.1.1 < B ∧ e.1.2 < B) (h1 : Dof t' (plainPl ps)) (h2 : t'.length ≤ t.length) (h3 : ∀ e ∈ t', ∃ f ∈ t, e.1 = f.1) : Gives _law_listed_m [.frz (dL t')] (.frz (.lst (lnD (plainPl ps)))) := by
  have := listed_v (t := t') (B := B) hB (by omega) fun e he => by
    obtain ⟨f, hf, e1⟩ := h3 e he
    rw [e1]
    exact hk f hf
  rw [h1.list (plainPl_pl q)] at this
  exact this
theorem value_body {a0 a1 a2 a3 o6 o7 o8 o9 o10 o11 : Option C} {i : Int} {d : D} (g : Gd d) : ∃ p8 p9 p10 p11, (sSeq (sPar [8, 9] [eP (pFn _law_is_plane_m [pV 5]), eP (pCall reprF2 [pV 5])]) (sSeq (sSet 10 (eP (pIf (qOf (pOp eqV' (pOp modI (pCall intF [pV 4]) (pK (.int 2))) (pK (.int 0)))) (pFn is_plane_m [pV 5]) (pFnK is_plane_m [0] [pV 5])))) (sSeq (sIf (tP (qOr (qOf (pOp neT' (pCall reprF2 [pV 10]) (pCall reprF2 [pV 8]))) (qOf (pOp neT' (pCall reprF2 [pV 5]) (pV 9))))) (sRet (eP (pK (.bl false)))) (sNx)) (sIf (tP (qOf (pV 8))) (sSeq (sSet 11 (eP (pFn _law_dict_m [pV 5]))) (sSeq (sIf (tP (qOf (pOp neT' (pCall reprF2 [pF (evPs [pFn degrees_m [pV 5], pFnK head_m [0] [pV 5]])]) (pCall reprF2 [pF (evPs [pFn _law_degrees_m [pV 11], pIf (qOf (pOp ne0V (pV 11) (pK (.dct [])))) (pDix (pV 11) (pMaxT (pV 11))) (pK (.int 0))])])))) (sRet (eP (pK (.bl false)))) (sNx)) (sIf (tP (qOr (qOf (pOp neV' (pFn plain_plane_m [pV 5]) (pFn _law_listed_m [pFn _law_plain_m [pV 11]]))) (qOf (pOp neT' (pCall reprF2 [pV 5]) (pV 9))))) (sRet (eP (pK (.bl false)))) (sNx)))) (sNx))))) [a0, a1, a2, a3, some (.frz (.int i)), some (.frz d), o6, o7, o8, o9, o10, o11] = .nx [a0, a1, a2, a3, some (.frz (.int i)), some (.frz d), o6, o7, p8, p9, p10, p11] := by
  obtain ⟨s, rs⟩ := g.rk.repr (by omega) (by omega)
  obtain ⟨u, ru⟩ := repr_bl (isPl d)
  have f1 := pFn_1 (p := pV 5) (env := [a0, a1, a2, a3, some (.frz (.int i)), some (.frz d), o6, o7, o8, o9, o10, o11]) rfl (law_is_plane_v g.rk.1)
  rw [C.toD] at f1
  have s1 : (sPar [8, 9] [eP (pFn _law_is_plane_m [pV 5]), eP (pCall reprF2 [pV 5])]) [a0, a1, a2, a3, some (.frz (.int i)), some (.frz d), o6, o7, o8, o9, o10, o11] = .nx [a0, a1, a2, a3, some (.frz (.int i)), some (.frz d), o6, o7, some (.frz (.bl (isPl d))), some (.frz (.str s)), o10, o11] := by
    unfold sPar
    rw [evMs_2 (eP_of f1) (eP_of (pCall_1 (d := d) (v := .str s) rfl rs))]
    rfl
  have f2 := either (p := pV 4) (q := pV 5) (i := i) (env := [a0, a1, a2, a3, some (.frz (.int i)), some (.frz d), o6, o7, some (.frz (.bl (isPl d))), some (.frz (.str s)), o10, o11]) rfl rfl (is_plane_v g.rk.1 g.sz)
  rw [C.toD] at f2
  have s2 := set_ok (i := 10) (eP_of f2)
  simp only [List.set_cons_succ, List.set_cons_zero] at s2
  have q1 : qOr (qOf (pOp neT' (pCall reprF2 [pV 10]) (pCall reprF2 [pV 8]))) (qOf (pOp neT' (pCall reprF2 [pV 5]) (pV 9))) [a0, a1, a2, a3, some (.frz (.int i)), some (.frz d), o6, o7, some (.frz (.bl (isPl d))), some (.frz (.str s)), some (.frz (.bl (isPl d))), o11] = some false := by
    unfold qOr
    rw [same_q (d := .bl (isPl d)) rfl rfl ru]
    exact fst_text (d := d) rfl rfl rs
  have q2 : qOf (pV 8) [a0, a1, a2, a3, some (.frz (.int i)), some (.frz d), o6, o7, some (.frz (.bl (isPl d))), some (.frz (.str s)), some (.frz (.bl (isPl d))), o11] = some (isPl d) := qOf_b rfl
  rw [seq_nx s1, seq_nx s2, seq_nx (if_no (tP_of q1))]
  cases hp : isPl d with
  | false =>
    rw [hp] at q2
    exact ⟨_, _, _, _, if_no (tP_of q2)⟩
  | true =>
    rw [hp] at q2
    obtain ⟨ps, hv⟩ := isPl_pv hp
    have sm := sum_le ps hv.l9 hv.r9
    have dv := dict_v hv.sh (by omega)
    obtain ⟨df, dl⟩ := dictT_dof ps
    generalize dictT ps = t at dv df dl
    have f3 := pFn_1 (p := pV 5) (env := [a0, a1, a2, a3, some (.frz (.int i)), some (.frz d), o6, o7, some (.frz (.bl true)), some (.frz (.str s)), some (.frz (.bl true)), o11]) rfl dv
    rw [C.toD] at f3
    have s3 := set_ok (i := 11) (eP_of f3)
    simp only [List.set_cons_succ, List.set_cons_zero] at s3
    have e1 := pFn_1 (p := pV 5) (env := [a0, a1, a2, a3, some (.frz (.int i)), some (.frz d), o6, o7, some (.frz (.bl true)), some (.frz (.str s)), some (.frz (.bl true)), some (.frz (dL t))]) rfl (degrees_v g hp hv)
    rw [C.toD] at e1
    have e2 := pFnK_1 (p := pV 5) (env := [a0, a1, a2, a3, some (.frz (.int i)), some (.frz d), o6, o7, some (.frz (.bl true)), some (.frz (.str s)), some (.frz (.bl true)), some (.frz (dL t))]) rfl (head_v g hp hv)
    rw [C.toD] at e2
    have e3 := pFn_1 (p := pV 11) (env := [a0, a1, a2, a3, some (.frz (.int i)), some (.frz d), o6, o7, some (.frz (.bl true)), some (.frz (.str s)), some (.frz (.bl true)), some (.frz (dL t))]) rfl (degs_v df hv.pl (by omega))
    rw [C.toD] at e3
    have e4 : pIf (qOf (pOp ne0V (pV 11) (pK (.dct [])))) (pDix (pV 11) (pMaxT (pV 11))) (pK (.int 0)) [a0, a1, a2, a3, some (.frz (.int i)), some (.frz d), o6, o7, some (.frz (.bl true)), some (.frz (.str s)), some (.frz (.bl true)), some (.frz (dL t))] = some (.int (headP ps)) := by
      have q0 : qOf (pOp ne0V (pV 11) (pK (.dct []))) [a0, a1, a2, a3, some (.frz (.int i)), some (.frz d), o6, o7, some (.frz (.bl true)), some (.frz (.str s)), some (.frz (.bl true)), some (.frz (dL t))] = some (!t.isEmpty) := qOf_b (pOp_v (a := dL t) (b := .dct []) (v := .bl (!t.isEmpty)) rfl rfl (by cases t <;> rfl))
      unfold pIf
      rw [q0]
      by_cases hz : ps = []
      · have ht := (dof_nil df hv.pl).mpr hz
        subst hz
        subst ht
        rfl
      · have ht : t ≠ [] := fun z => hz ((dof_nil df hv.pl).mp z)
        have he : t.isEmpty = false := by cases t <;> first | exact absurd rfl ht | rfl
        rw [he]
        exact max_ok (p := pV 11) rfl df hv.pl hz
    have wl := wide_le hv.r9
    have l9 := hv.l9
    have hs := head_small g hv
    obtain ⟨s2', r2⟩ : ∃ s, reprF2 [.lst [.tup [.int ((ps.length : Int) - 1), .int (wideI ps - 1)], .int (headP ps)]] = some (.str s) := by
      have r1 : Rok 203 1 (.tup [.int ((ps.length : Int) - 1), .int (wideI ps - 1)]) := rok_tup (n := 2) (ints_rok fun x hx => by
        rcases List.mem_cons.mp hx with rfl | hx
        · exact ⟨_, rfl, by omega⟩
        · rw [List.mem_singleton.mp hx]; exact ⟨_, rfl, by omega⟩) (by simp) (by decide : 2 * (100 + 1) + 1 ≤ 203)
      exact (rok_lst (w := 203) (k := 1) (n := 2) (W := 500) (fun x hx => by
        rcases List.mem_cons.mp hx with rfl | hx
        · exact r1
        · rw [List.mem_singleton.mp hx]; exact (rok_int hs).mono (by omega) (by omega)) (by simp) (by decide)).repr (by omega) (by omega)
    have q3 := same_q (pF_ok (evPs_2 e1 e2)) (pF_ok (evPs_2 e3 e4)) r2
    obtain ⟨t', p1, p2, p3, p4⟩ := lplain_v df hv.pl (by omega) (g.big hv.sh)
    have hk : ∀ e ∈ t, e.1.1 < (9 : Nat) ∧ e.1.2 < (9 : Nat) := fun e he => by
      obtain ⟨x, y, e1, _, hx, hy⟩ := df.mem he
      have := hv.r9 _ (List.getElem_mem hx)
      rw [e1]
      exact ⟨by show (x : Int) < _; omega, by show (y : Int) < _; omega⟩
    have pl := plain_list (B := 9) (by omega) hv.pl (by omega) hk p2 p3 p4
    have e5 := pFn_1 (p := pV 5) (env := [a0, a1, a2, a3, some (.frz (.int i)), some (.frz d), o6, o7, some (.frz (.bl true)), some (.frz (.str s)), some (.frz (.bl true)), some (.frz (dL t))]) rfl (plain_plane_v g hp hv)
    rw [ownP_toD] at e5
    have e6 := pFn_1 (p := pV 11) (env := [a0, a1, a2, a3, some (.frz (.int i)), some (.frz d), o6, o7, some (.frz (.bl true)), some (.frz (.str s)), some (.frz (.bl true)), some (.frz (dL t))]) rfl p1
    rw [C.toD] at e6
    have e7 := pFn_1 e6 pl
    rw [C.toD] at e7
    have q4 : qOr (qOf (pOp neV' (pFn plain_plane_m [pV 5]) (pFn _law_listed_m [pFn _law_plain_m [pV 11]]))) (qOf (pOp neT' (pCall reprF2 [pV 5]) (pV 9))) [a0, a1, a2, a3, some (.frz (.int i)), some (.frz d), o6, o7, some (.frz (.bl true)), some (.frz (.str s)), some (.frz (.bl true)), some (.frz (dL t))] = some false := by
      unfold qOr
      rw [qOf_b (pOp_v (v := .bl false) e5 e7 (by simp [neV', eqD_lns]))]
      exact fst_text (d := d) rfl rfl rs
    refine ⟨some (.frz (.bl true)), some (.frz (.str s)), some (.frz (.bl true)), some (.frz (dL t)), ?_⟩
    rw [if_t (tP_of q2), seq_nx s3, seq_nx (if_no (tP_of q3))]
    exact if_no (tP_of q4)
theorem change_body {a0 a1 a2 a3 o6 o7 o8 o9 o10 o11 : Option C} {i : Int} {d : D} (g : Gd d) : ∃ p10, (sSeq (sSet 10 (eP (pIf (qOf (pOp eqV' (pOp modI (pCall intF [pV 4]) (pK (.int 2))) (pK (.int 0)))) (pFn is_change_m [pV 5]) (pFnK is_change_m [0] [pV 5])))) (sIf (tP (qOf (pOp neT' (pCall reprF2 [pV 10]) (pCall reprF2 [pFn _law_is_change_m [pV 5]])))) (sRet (eP (pK (.bl false)))) (sNx))) [a0, a1, a2, a3, some (.frz (.int i)), some (.frz d), o6, o7, o8, o9, o10, o11] = .nx [a0, a1, a2, a3, some (.frz (.int i)), some (.frz d), o6, o7, o8, o9, p10, o11] := by
  obtain ⟨c1, c2⟩ := change_both g
  obtain ⟨u, ru⟩ := repr_bl (isCh d)
  have f2 := either (p := pV 4) (q := pV 5) (i := i) (env := [a0, a1, a2, a3, some (.frz (.int i)), some (.frz d), o6, o7, o8, o9, o10, o11]) rfl rfl c1
  rw [C.toD] at f2
  have s2 := set_ok (i := 10) (eP_of f2)
  simp only [List.set_cons_succ, List.set_cons_zero] at s2
  have e1 := pFn_1 (p := pV 5) (env := [a0, a1, a2, a3, some (.frz (.int i)), some (.frz d), o6, o7, o8, o9, some (.frz (.bl (isCh d))), o11]) rfl c2
  rw [C.toD] at e1
  have q := same_q (p := pV 10) rfl e1 ru
  refine ⟨some (.frz (.bl (isCh d))), ?_⟩
  rw [seq_nx s2]
  exact if_no (tP_of q)
end k21
namespace k21
open PySem PySem.Spec PyProof.Rows L2 PL
/-! ### the law -/
theorem pieces_loop {o3 o4 o5 o6 o7 o8 o9 o10 o11 : Option C} : ∀ (l : List D) (c : C) (ts : List TD) (o : Option C), PotOk c → l.length + ts.length ≤ 100 → (∀ x ∈ ts, Tm 1 x) →
    ∃ (c' : C) (ts' : List TD) (o' : Option C), forL (gV false 2) (sDrop (eApp 1 (eFnL _law_piece_m 0 []))) l [some c, some (.own (fz (ts.map dL))), o, o3, o4, o5, o6, o7, o8, o9, o10, o11] = .nx [some c', some (.own (fz (ts'.map dL))), o', o3, o4, o5, o6, o7, o8, o9, o10, o11] ∧ PotOk c' ∧ ts'.length = ts.length + l.length ∧ ∀ x ∈ ts', Tm 1 x
  | [], c, ts, o, hc, _, h => ⟨c, ts, o, rfl, hc, by simp, h⟩
  | d :: l, c, ts, o, hc, hl, h => by
    simp only [List.length_cons] at hl
    obtain ⟨c1, t, o1, e1, hc1, tm⟩ := piece_v hc
    have e2 := lend_E (m := _law_piece_m) (fs := []) (env := [some c, some (.own (fz (ts.map dL))), some (.frz d), o3, o4, o5, o6, o7, o8, o9, o10, o11]) (ds := []) rfl rfl e1
    simp only [List.set_cons_zero] at e2
    have s := drop_ok (eApp_ok (i := 1) (l0 := fz (ts.map dL)) (l := fz (ts.map dL)) rfl e2 rfl (by rw [fz_len, List.length_map]; omega))
    simp only [List.set_cons_succ, List.set_cons_zero] at s
    have fe : fz (ts.map dL) ++ [C.frz (dL t)] = fz ((ts ++ [t]).map dL) := by rw [List.map_append, fz_app]; rfl
    rw [fe] at s
    obtain ⟨c2, ts', o', i1, i2, i3, i4⟩ := pieces_loop (o3 := o3) (o4 := o4) (o5 := o5) (o6 := o6) (o7 := o7) (o8 := o8) (o9 := o9) (o10 := o10) (o11 := o11) l c1 (ts ++ [t]) (some (.frz d)) hc1 (by simp; omega) (fun x hx => by
      rcases List.mem_append.mp hx with hx | hx
      · exact h x hx
      · rw [List.mem_singleton.mp hx]; exact tm)
    refine ⟨c2, ts', o', ?_, i2, by simp at i3 ⊢; omega, i4⟩
    rw [forL]
    rw [show gV false 2 d [some c, some (.own (fz (ts.map dL))), o, o3, o4, o5, o6, o7, o8, o9, o10, o11] = some [some c, some (.own (fz (ts.map dL))), some (.frz d), o3, o4, o5, o6, o7, o8, o9, o10, o11] from rfl]
    simp only [s]
    exact i1
theorem enG_mem {l : List D} {s : Nat} {x : D} (h : x ∈ enG s l) : ∃ (i : Int) (d : D), x = .tup [.int i, d] ∧ d ∈ l := by
  unfold enG at h
  obtain ⟨p, hp, rfl⟩ := List.mem_map.mp h
  exact ⟨_, _, rfl, (List.mem_zipIdx hp).2.2 ▸ List.getElem_mem _⟩
theorem enG_len (l : List D) (s : Nat) : (enG s l).length = l.length := by simp [enG]
theorem tm_plane {n : Nat} {t : TD} (h : Tm n t) (hn : n ≤ 3) : Dof t (listT t) ∧ Pl (listT t) ∧ (listT t).length ≤ 7 ∧ (∀ l ∈ listT t, l.length ≤ 7) ∧ listT t ≠ [] ∧ (∀ l ∈ listT t, ∀ x ∈ l, x.natAbs ≤ 1331) ∧ t.length ≤ 27 ∧ ∀ e ∈ t, e.1.1 < (7 : Nat) ∧ e.1.2 < (7 : Nat) := by
  have d := listT_dof h.dk h.kn h.nz
  have p := listT_pl h.dk h.kn h.nz
  have hk : ∀ e ∈ t, e.1.1 < (7 : Nat) ∧ e.1.2 < (7 : Nat) := fun e he => by
    have := h.le e he
    omega
  obtain ⟨l1, l2⟩ := listT_len (B := 7) hk
  have h3 : 3 ^ n ≤ 27 := Nat.le_trans (Nat.pow_le_pow_right (by decide) hn) (by decide)
  have h11 : 11 ^ n ≤ 1331 := Nat.le_trans (Nat.pow_le_pow_right (by decide) hn) (by decide)
  refine ⟨d, p, l1, l2, fun z => ?_, fun l hl x hx => ?_, Nat.le_trans h.len h3, hk⟩
  · have := (dof_nil d p).mpr z
    have hp := h.pos
    rw [this] at hp
    exact absurd hp (by decide)
  · obtain ⟨i, j, e⟩ := co_mem hl hx
    rw [← e, ← d.nat]
    exact Nat.le_trans (nr_cf _ _) (Nat.le_trans h.nr h11)
theorem gvv_gd {b : Bool} {bs : List Bool} {ps : List (List Int)} (hb : bs.length = ps.length) (h7 : ps.length ≤ 9) (hl : ∀ l ∈ ps, l.length ≤ 9) (hs : ∀ l ∈ ps, ∀ x ∈ l, x.natAbs ≤ 1331) : Gd (gvv b bs ps) := by
  refine gd_items b (fun d hd => ?_) (by rw [List.length_zipWith]; omega)
  rw [List.mem_iff_getElem] at hd
  obtain ⟨i, hi, rfl⟩ := hd
  rw [List.getElem_zipWith]
  rw [List.length_zipWith] at hi
  have hm : ps[i] ∈ ps := List.getElem_mem _
  refine it_row _ (ints_rok fun d hd => ?_) (by rw [inD_len]; have := hl _ hm; omega)
  obtain ⟨x, hx, rfl⟩ := List.mem_map.mp hd
  exact ⟨x, rfl, by have := hs _ hm x hx; omega⟩
theorem right_ok {c : C} (hc : PotOk c) : Gives _law_right_m [c] (.frz (.bl true)) := by
  obtain ⟨r, c1, e1, r1, r2, hc1⟩ := draw_p draw_ok (env := [some c, some (.own (fz (([] : List TD).map dL))), none, none, none, none, none, none, none, none, none, none]) (p := pK (.int 3)) (s := 3) rfl rfl hc (by decide) (by decide)
  simp only [List.set_cons_zero] at e1
  have eo := eOp_ok (op := addI) (f := eP (pK (.int 1))) (env := [some c, some (.own (fz (([] : List TD).map dL))), none, none, none, none, none, none, none, none, none, none]) (a := .frz (.int 1)) (v := .int (1 + r)) rfl e1 rfl
  have rg := rngM_1 (j := 1 + r) eo (by omega) (by omega)
  obtain ⟨c2, ts, o2, lp, hc2, tl, tm⟩ := pieces_loop (o3 := none) (o4 := none) (o5 := none) (o6 := none) (o7 := none) (o8 := none) (o9 := none) (o10 := none) (o11 := none) ((List.range (1 + r).toNat).map fun (i : Nat) => .int (0 + (i : Int))) c1 [] none hc1 (by simp; omega) nofun
  have tl : ts.length ≤ 3 := by simp at tl; omega
  obtain ⟨t, pv, tmt⟩ := product_v tm (by omega)
  obtain ⟨df, pl, l7, r7, ne, sm, tl27, tk⟩ := tm_plane tmt tl
  have lv := listed_v (t := t) (B := 7) (by omega) (by omega) tk
  have v1 : eV 1 [some c2, some (.own (fz (ts.map dL))), o2, none, none, none, none, none, none, none, none, none] = .ok (.frz (.lst (ts.map dL))) [some c2, some (.frz (.lst (ts.map dL))), o2, none, none, none, none, none, none, none, none, none] := by
    unfold eV
    simp only [List.getElem?_cons_succ, List.getElem?_cons_zero, C.toD, toDs_fz, List.set_cons_succ, List.set_cons_zero]
  have z3 := eFn_1 v1 pv
  rw [C.toD] at z3
  have s3 := set_ok (i := 3) z3
  simp only [List.set_cons_succ, List.set_cons_zero] at s3
  generalize hps : listT t = ps at df pl l7 r7 ne sm lv
  -- the values
  have x1 := pFn_1 (p := pV 3) (env := [some c2, some (.frz (.lst (ts.map dL))), o2, some (.frz (dL t)), none, none, none, none, none, none, none, none]) rfl lv
  rw [C.toD] at x1
  obtain ⟨c3, V, o3', vv, hc3, Vl, Vg⟩ := values_v (L := lnD ps) hc2 (by rw [lnD_len]; exact List.length_pos_iff.mpr ne) (by rw [lnD_len]; omega) fun d hd => by
    obtain ⟨l, hl, rfl⟩ := List.mem_map.mp hd
    exact it_ints (fun x hx => by have := sm l hl x hx; omega) (by have := r7 l hl; omega)
  have x2 := lend_E (m := _law_values_m) (env := [some c2, some (.frz (.lst (ts.map dL))), o2, some (.frz (dL t)), none, none, none, none, none, none, none, none]) (ds := [.lst (lnD ps)]) rfl (evM_1 x1) vv
  simp only [List.set_cons_zero] at x2
  have sr1 := enumM_ok x2 (l := V) (by rw [C.toD])
  have lp1 := forL_t (t := gTupD 2 (gsCons (gV false 4) (gsCons (gV false 5) gsNil))) (b := sSeq (sPar [8, 9] [eP (pFn _law_is_plane_m [pV 5]), eP (pCall reprF2 [pV 5])]) (sSeq (sSet 10 (eP (pIf (qOf (pOp eqV' (pOp modI (pCall intF [pV 4]) (pK (.int 2))) (pK (.int 0)))) (pFn is_plane_m [pV 5]) (pFnK is_plane_m [0] [pV 5])))) (sSeq (sIf (tP (qOr (qOf (pOp neT' (pCall reprF2 [pV 10]) (pCall reprF2 [pV 8]))) (qOf (pOp neT' (pCall reprF2 [pV 5]) (pV 9))))) (sRet (eP (pK (.bl false)))) (sNx)) (sIf (tP (qOf (pV 8))) (sSeq (sSet 11 (eP (pFn _law_dict_m [pV 5]))) (sSeq (sIf (tP (qOf (pOp neT' (pCall reprF2 [pF (evPs [pFn degrees_m [pV 5], pFnK head_m [0] [pV 5]])]) (pCall reprF2 [pF (evPs [pFn _law_degrees_m [pV 11], pIf (qOf (pOp ne0V (pV 11) (pK (.dct [])))) (pDix (pV 11) (pMaxT (pV 11))) (pK (.int 0))])])))) (sRet (eP (pK (.bl false)))) (sNx)) (sIf (tP (qOr (qOf (pOp neV' (pFn plain_plane_m [pV 5]) (pFn _law_listed_m [pFn _law_plain_m [pV 11]]))) (qOf (pOp neT' (pCall reprF2 [pV 5]) (pV 9))))) (sRet (eP (pK (.bl false)))) (sNx)))) (sNx)))))
    (fun e => ∃ o4 o5 o8 o9 o10 o11, e = [some c3, some (.frz (.lst (ts.map dL))), o2, some (.frz (dL t)), o4, o5, none, none, o8, o9, o10, o11]) (fun _ => true) (l := enG 0 V) (e := [some c3, some (.frz (.lst (ts.map dL))), o2, some (.frz (dL t)), none, none, none, none, none, none, none, none]) (by simp) (fun x hx _ e ⟨o4, o5, o8, o9, o10, o11, he⟩ => by
      subst he
      obtain ⟨i, d, rfl, hd⟩ := enG_mem hx
      obtain ⟨p8, p9, p10, p11, hb⟩ := value_body (a0 := some c3) (a1 := some (.frz (.lst (ts.map dL)))) (a2 := o2) (a3 := some (.frz (dL t))) (o6 := none) (o7 := none) (o8 := o8) (o9 := o9) (o10 := o10) (o11 := o11) (i := i) (Vg d hd)
      exact ⟨_, gT2, _, hb, _, _, _, _, _, _, rfl⟩) ⟨_, _, _, _, _, _, rfl⟩
  obtain ⟨_, lp1, q4, q5, q8, q9, q10, q11, rfl⟩ := lp1
  -- the changes
  obtain ⟨c4, W, o4', cv, hc4, Wl, Wg⟩ := changes_v hc3
  have y2 := lend_E (m := _law_changes_m) (fs := []) (env := [some c3, some (.frz (.lst (ts.map dL))), o2, some (.frz (dL t)), q4, q5, none, none, q8, q9, q10, q11]) (ds := []) rfl rfl cv
  simp only [List.set_cons_zero] at y2
  have sr2 := enumM_ok y2 (l := W) (by rw [C.toD])
  have lp2 := forL_t (t := gTupD 2 (gsCons (gV false 4) (gsCons (gV false 5) gsNil))) (b := sSeq (sSet 10 (eP (pIf (qOf (pOp eqV' (pOp modI (pCall intF [pV 4]) (pK (.int 2))) (pK (.int 0)))) (pFn is_change_m [pV 5]) (pFnK is_change_m [0] [pV 5])))) (sIf (tP (qOf (pOp neT' (pCall reprF2 [pV 10]) (pCall reprF2 [pFn _law_is_change_m [pV 5]])))) (sRet (eP (pK (.bl false)))) (sNx)))
    (fun e => ∃ o4 o5 o10, e = [some c4, some (.frz (.lst (ts.map dL))), o2, some (.frz (dL t)), o4, o5, none, none, q8, q9, o10, q11]) (fun _ => true) (l := enG 0 W) (e := [some c4, some (.frz (.lst (ts.map dL))), o2, some (.frz (dL t)), q4, q5, none, none, q8, q9, q10, q11]) (by simp) (fun x hx _ e ⟨o4, o5, o10, he⟩ => by
      subst he
      obtain ⟨i, d, rfl, hd⟩ := enG_mem hx
      obtain ⟨p10, hb⟩ := change_body (a0 := some c4) (a1 := some (.frz (.lst (ts.map dL)))) (a2 := o2) (a3 := some (.frz (dL t))) (o6 := none) (o7 := none) (o8 := q8) (o9 := q9) (o10 := o10) (o11 := q11) (i := i) (Wg d hd)
      exact ⟨_, gT2, _, hb, _, _, _, rfl⟩) ⟨_, _, _, rfl⟩
  obtain ⟨_, lp2, u4, u5, u10, rfl⟩ := lp2
  -- the plane given
  have w1 := pFn_1 (p := pV 3) (env := [some c4, some (.frz (.lst (ts.map dL))), o2, some (.frz (dL t)), u4, u5, none, none, q8, q9, u10, q11]) rfl lv
  rw [C.toD] at w1
  obtain ⟨c5, b, bs, o5', gvn, hc5, bl⟩ := given_v (ps := ps) hc4 (by omega)
  have w2 := lend_E (m := _law_given_m) (env := [some c4, some (.frz (.lst (ts.map dL))), o2, some (.frz (dL t)), u4, u5, none, none, q8, q9, u10, q11]) (ds := [.lst (lnD ps)]) rfl (evM_1 w1) gvn
  have s6 := set_ok (i := 6) w2
  simp only [List.set_cons_succ, List.set_cons_zero] at s6
  have gg := gvv_gd (b := b) bl (by omega) (fun l hl => by have := r7 l hl; omega) sm
  have pvv : Pv (gvv b bs ps) ps := ⟨gvv_sh bl, pl, by omega, fun l hl => by have := r7 l hl; omega⟩
  have ppv := plain_plane_v gg (isPl_of pvv) pvv
  generalize gvv b bs ps = G at s6 gg pvv ppv
  have big := gg.big pvv.sh
  obtain ⟨op, pe⟩ := ppv
  have s7 := set_ok (i := 7) (eFnO_1 (m := _root_.k21.plain_plane_m) (f := eP (pV 6)) (env := [some c5, some (.frz (.lst (ts.map dL))), o2, some (.frz (dL t)), u4, u5, some (.frz G), none, q8, q9, u10, q11]) (a := .frz G) (eP_of rfl) pe)
  simp only [List.set_cons_succ, List.set_cons_zero] at s7
  have npl : plainPl ps ≠ [] := by
    unfold plainPl
    rw [if_neg ne]
    unfold divP
    intro z
    exact ne (List.map_eq_nil_iff.mp z)
  have s8 : ∃ o, (sDrop (eAppP 7 (paIx 7 (paV 7) (pK (.int 0))) (pK (.int 5)))) [some c5, some (.frz (.lst (ts.map dL))), o2, some (.frz (dL t)), u4, u5, some (.frz G), some (ownP (plainPl ps)), q8, q9, u10, q11] = .nx [some c5, some (.frz (.lst (ts.map dL))), o2, some (.frz (dL t)), u4, u5, some (.frz G), o, q8, q9, u10, q11] := by
    cases hp : plainPl ps with
    | nil => exact absurd hp npl
    | cons l qs =>
      have ll : l.length ≤ 100 := by
        have : l ∈ plainPl ps := by rw [hp]; simp
        unfold plainPl at this
        rw [if_neg ne] at this
        obtain ⟨x, hx, rfl⟩ := List.mem_map.mp this
        have := r7 x hx
        simp [divL]; omega
      refine ⟨_, drop_ok (c := .frz .non) (e := [some c5, some (.frz (.lst (ts.map dL))), o2, some (.frz (dL t)), u4, u5, some (.frz G), some (setP (ownP (l :: qs)) [0] (.own (fz (inD l) ++ [.frz (.int 5)]))), q8, q9, u10, q11]) ?_⟩
      have a0 : paIx 7 (paV 7) (pK (.int 0)) [some c5, some (.frz (.lst (ts.map dL))), o2, some (.frz (dL t)), u4, u5, some (.frz G), some (ownP (l :: qs)), q8, q9, u10, q11] = some [0] := by
        show ((ixN ((l :: qs).map fun l => C.own (fz (inD l))).length 0).map fun j => [] ++ [j]) = some [0]
        have h0 : ixN ((l :: qs).map fun l => C.own (fz (inD l))).length (0 : Int) = some 0 := ixN_nat (j := 0) (by simp)
        rw [h0]
        rfl
      have a1 : ownAt 7 [0] [some c5, some (.frz (.lst (ts.map dL))), o2, some (.frz (dL t)), u4, u5, some (.frz G), some (ownP (l :: qs)), q8, q9, u10, q11] = some (fz (inD l)) := rfl
      unfold eAppP
      rw [a0]
      simp only [Option.bind_some, a1]
      rw [if_pos (by rw [fz_len, inD_len]; omega)]
      rfl
  obtain ⟨o7, s8⟩ := s8
  obtain ⟨t', p1, p2, p3, p4⟩ := lplain_v df pl (by omega) big
  have pl9 := plain_list (B := 7) (by omega) pl (by omega) tk p2 p3 p4
  have e5 := pFnK_1 (p := pV 6) (env := [some c5, some (.frz (.lst (ts.map dL))), o2, some (.frz (dL t)), u4, u5, some (.frz G), o7, q8, q9, u10, q11]) (a := G) rfl ⟨op, pe⟩
  rw [ownP_toD] at e5
  have e6 := pFn_1 (p := pV 3) (env := [some c5, some (.frz (.lst (ts.map dL))), o2, some (.frz (dL t)), u4, u5, some (.frz G), o7, q8, q9, u10, q11]) rfl p1
  rw [C.toD] at e6
  have e7 := pFn_1 e6 pl9
  rw [C.toD] at e7
  have e8 := pOp_v (op := eqV') (v := .bl true) e5 e7 (by simp [eqV', eqD_lns])
  refine gives_rt ⟨[some c5, some (.frz (.lst (ts.map dL))), o2, some (.frz (dL t)), u4, u5, some (.frz G), o7, q8, q9, u10, q11], ?_⟩
  rw [show startE 12 [c] = [some c, none, none, none, none, none, none, none, none, none, none, none] from rfl]
  unfold _law_right_b
  rw [seq_nx (set_ok (h := eF (evPs [])) (c := .own (fz (([] : List TD).map dL))) (e := [some c, none, none, none, none, none, none, none, none, none, none, none]) rfl)]
  simp only [List.set_cons_succ, List.set_cons_zero]
  rw [seq_nx ((for_ok rg).trans lp), seq_nx s3, seq_nx ((for_ok sr1).trans lp1), seq_nx ((for_ok sr2).trans lp2), seq_nx s6, seq_nx s7, seq_nx s8]
  exact ret_ok (eP_of e8)
theorem pot_ok (ns : List Int) : ∃ c o, _law_pot_m [.frz (.ro ns), .frz (.int 0)] = .ok c o ∧ PotOk c := pot_gen (by decide) (by decide) (by decide) (by decide) (by decide) (by decide) (by decide) (by decide) (by decide) ns
theorem law_true : ∀ ns : List Int, ns.length ≤ 63 → (∀ z ∈ ns, Builtin.Int.intBits z ≤ 1048576) → ∃ c outs, law_m [.frz (.ro ns)] = .ok c outs ∧ c.toD = .bl true := fun ns _ _ => by
  obtain ⟨c, o, h1, h2⟩ := pot_ok ns
  obtain ⟨o2, h3⟩ := right_ok h2
  refine ⟨.frz (.bl true), _, body_rt (ret_ok (e := [some (.frz (.ro ns))]) ?_), rfl⟩
  simp [startE, eFn, eFnO, evMs_c, evMs_n, eP, pV, pK, Out.bind, h1, h3, C.toD]
end k21
namespace k21
open PySem PySem.Spec PyProof.Rows L2 PL

theorem all_mk {K : PySem.W.Frag} {h : Heap} {mg : Str → Option Value} {fa f0 f1 f2 f3 f4 f5 f6 f7 f8 f9 f10 f11 f12 f13 f14 f15 f16 f17 f18 f19 f20 f21 f22 f23 f24 f25 f26 f27 f28 f29 f30 f31 f32 f33 f34 f35 f36 : Addr} {l : PySem.W.OpenLaw} {w : World} (X : K.In h) (G : h.Ns mainGlobals mg) (hfa : mg "law" = some (.ref fa))
    {od0 an0 od1 an1 od2 an2 od3 an3 od4 an4 od5 an5 od6 an6 od7 an7 od8 an8 od9 an9 od10 an10 od11 an11 od12 an12 od13 an13 od14 an14 od15 an15 od16 an16 od17 an17 od18 an18 od19 an19 od20 an20 od21 an21 od22 an22 od23 an23 od24 an24 od25 an25 od26 an26 od27 an27 od28 an28 od29 an29 od30 an30 od31 an31 od32 an32 od33 an33 od34 an34 od35 an35 od36 an36 : Option Addr} {sl0 sl1 sl2 sl3 sl4 sl5 sl6 sl7 sl8 sl9 sl10 sl11 sl12 sl13 sl14 sl15 sl16 sl17 sl18 sl19 sl20 sl21 sl22 sl23 sl24 sl25 sl26 sl27 sl28 sl29 sl30 sl31 sl32 sl33 sl34 sl35 sl36 : Array (Option Value)} {oc0 kV0 dc0 pm0 cd0 ct0 oc1 kV1 dc1 pm1 cd1 ct1 oc2 kV2 dc2 pm2 cd2 ct2 oc3 kV3 dc3 pm3 cd3 ct3 oc4 kV4 dc4 pm4 cd4 ct4 oc5 kV5 dc5 pm5 cd5 ct5 oc6 kV6 dc6 pm6 cd6 ct6 oc7 kV7 dc7 pm7 cd7 ct7 oc8 kV8 dc8 pm8 cd8 ct8 oc9 kV9 dc9 pm9 cd9 ct9 oc10 kV10 dc10 pm10 cd10 ct10 oc11 kV11 dc11 pm11 cd11 ct11 oc12 kV12 dc12 pm12 cd12 ct12 oc13 kV13 dc13 pm13 cd13 ct13 oc14 kV14 dc14 pm14 cd14 ct14 oc15 kV15 dc15 pm15 cd15 ct15 oc16 kV16 dc16 pm16 cd16 ct16 oc17 kV17 dc17 pm17 cd17 ct17 oc18 kV18 dc18 pm18 cd18 ct18 oc19 kV19 dc19 pm19 cd19 ct19 oc20 kV20 dc20 pm20 cd20 ct20 oc21 kV21 dc21 pm21 cd21 ct21 oc22 kV22 dc22 pm22 cd22 ct22 oc23 kV23 dc23 pm23 cd23 ct23 oc24 kV24 dc24 pm24 cd24 ct24 oc25 kV25 dc25 pm25 cd25 ct25 oc26 kV26 dc26 pm26 cd26 ct26 oc27 kV27 dc27 pm27 cd27 ct27 oc28 kV28 dc28 pm28 cd28 ct28 oc29 kV29 dc29 pm29 cd29 ct29 oc30 kV30 dc30 pm30 cd30 ct30 oc31 kV31 dc31 pm31 cd31 ct31 oc32 kV32 dc32 pm32 cd32 ct32 oc33 kV33 dc33 pm33 cd33 ct33 oc34 kV34 dc34 pm34 cd34 ct34 oc35 kV35 dc35 pm35 cd35 ct35 oc36 kV36 dc36 pm36 cd36 ct36 : Value}
    {t_MOST_DEGREE t_SIX : Tok}
    (a0 : PySem.W.nsIn K mainGlobals "is_integer" = some (some (.ref f0))) (l0 : K.lookup f0 = some ⟨oc0, od0, .func (PySem.W.fnOf "is_integer" "is_integer" (defArgs st_is_integer) (defBody st_is_integer) (defScope st_is_integer) .none kV0 dc0 pm0 an0 cd0 ct0), sl0⟩) (c0 : PySem.W.codeIn K cd0 "is_integer" = true) (k0 : PySem.W.keepIn K (.ref f0) = true)
    (a1 : PySem.W.nsIn K mainGlobals "is_list" = some (some (.ref f1))) (l1 : K.lookup f1 = some ⟨oc1, od1, .func (PySem.W.fnOf "is_list" "is_list" (defArgs st_is_list) (defBody st_is_list) (defScope st_is_list) .none kV1 dc1 pm1 an1 cd1 ct1), sl1⟩) (c1 : PySem.W.codeIn K cd1 "is_list" = true) (k1 : PySem.W.keepIn K (.ref f1) = true)
    (a2 : PySem.W.nsIn K mainGlobals "divisor_of" = some (some (.ref f2))) (l2 : K.lookup f2 = some ⟨oc2, od2, .func (PySem.W.fnOf "divisor_of" "divisor_of" (defArgs st_divisor_of) (defBody st_divisor_of) (defScope st_divisor_of) .none kV2 dc2 pm2 an2 cd2 ct2), sl2⟩) (c2 : PySem.W.codeIn K cd2 "divisor_of" = true) (k2 : PySem.W.keepIn K (.ref f2) = true)
    (a3 : PySem.W.nsIn K mainGlobals "degrees_of" = some (some (.ref f3))) (l3 : K.lookup f3 = some ⟨oc3, od3, .func (PySem.W.fnOf "degrees_of" "degrees_of" (defArgs st_degrees_of) (defBody st_degrees_of) (defScope st_degrees_of) .none kV3 dc3 pm3 an3 cd3 ct3), sl3⟩) (c3 : PySem.W.codeIn K cd3 "degrees_of" = true) (k3 : PySem.W.keepIn K (.ref f3) = true)
    (a4 : PySem.W.nsIn K mainGlobals "head_of_plane" = some (some (.ref f4))) (l4 : K.lookup f4 = some ⟨oc4, od4, .func (PySem.W.fnOf "head_of_plane" "head_of_plane" (defArgs st_head_of_plane) (defBody st_head_of_plane) (defScope st_head_of_plane) .none kV4 dc4 pm4 an4 cd4 ct4), sl4⟩) (c4 : PySem.W.codeIn K cd4 "head_of_plane" = true) (k4 : PySem.W.keepIn K (.ref f4) = true)
    (a5 : PySem.W.nsIn K mainGlobals "_law_pot" = some (some (.ref f5))) (l5 : K.lookup f5 = some ⟨oc5, od5, .func (PySem.W.fnOf "_law_pot" "_law_pot" (defArgs st__law_pot) (defBody st__law_pot) (defScope st__law_pot) .none kV5 dc5 pm5 an5 cd5 ct5), sl5⟩) (c5 : PySem.W.codeIn K cd5 "_law_pot" = true) (k5 : PySem.W.keepIn K (.ref f5) = true)
    (a6 : PySem.W.nsIn K mainGlobals "_law_draw" = some (some (.ref f6))) (l6 : K.lookup f6 = some ⟨oc6, od6, .func (PySem.W.fnOf "_law_draw" "_law_draw" (defArgs st__law_draw) (defBody st__law_draw) (defScope st__law_draw) .none kV6 dc6 pm6 an6 cd6 ct6), sl6⟩) (c6 : PySem.W.codeIn K cd6 "_law_draw" = true) (k6 : PySem.W.keepIn K (.ref f6) = true)
    (a7 : PySem.W.nsIn K mainGlobals "_law_dict" = some (some (.ref f7))) (l7 : K.lookup f7 = some ⟨oc7, od7, .func (PySem.W.fnOf "_law_dict" "_law_dict" (defArgs st__law_dict) (defBody st__law_dict) (defScope st__law_dict) .none kV7 dc7 pm7 an7 cd7 ct7), sl7⟩) (c7 : PySem.W.codeIn K cd7 "_law_dict" = true) (k7 : PySem.W.keepIn K (.ref f7) = true)
    (a8 : PySem.W.nsIn K mainGlobals "_law_listed" = some (some (.ref f8))) (l8 : K.lookup f8 = some ⟨oc8, od8, .func (PySem.W.fnOf "_law_listed" "_law_listed" (defArgs st__law_listed) (defBody st__law_listed) (defScope st__law_listed) .none kV8 dc8 pm8 an8 cd8 ct8), sl8⟩) (c8 : PySem.W.codeIn K cd8 "_law_listed" = true) (k8 : PySem.W.keepIn K (.ref f8) = true)
    (a9 : PySem.W.nsIn K mainGlobals "_law_bare" = some (some (.ref f9))) (l9 : K.lookup f9 = some ⟨oc9, od9, .func (PySem.W.fnOf "_law_bare" "_law_bare" (defArgs st__law_bare) (defBody st__law_bare) (defScope st__law_bare) .none kV9 dc9 pm9 an9 cd9 ct9), sl9⟩) (c9 : PySem.W.codeIn K cd9 "_law_bare" = true) (k9 : PySem.W.keepIn K (.ref f9) = true)
    (a10 : PySem.W.nsIn K mainGlobals "_law_degrees" = some (some (.ref f10))) (l10 : K.lookup f10 = some ⟨oc10, od10, .func (PySem.W.fnOf "_law_degrees" "_law_degrees" (defArgs st__law_degrees) (defBody st__law_degrees) (defScope st__law_degrees) .none kV10 dc10 pm10 an10 cd10 ct10), sl10⟩) (c10 : PySem.W.codeIn K cd10 "_law_degrees" = true) (k10 : PySem.W.keepIn K (.ref f10) = true)
    (a11 : PySem.W.nsIn K mainGlobals "_law_divisor" = some (some (.ref f11))) (l11 : K.lookup f11 = some ⟨oc11, od11, .func (PySem.W.fnOf "_law_divisor" "_law_divisor" (defArgs st__law_divisor) (defBody st__law_divisor) (defScope st__law_divisor) .none kV11 dc11 pm11 an11 cd11 ct11), sl11⟩) (c11 : PySem.W.codeIn K cd11 "_law_divisor" = true) (k11 : PySem.W.keepIn K (.ref f11) = true)
    (a12 : PySem.W.nsIn K mainGlobals "_law_is_integer" = some (some (.ref f12))) (l12 : K.lookup f12 = some ⟨oc12, od12, .func (PySem.W.fnOf "_law_is_integer" "_law_is_integer" (defArgs st__law_is_integer) (defBody st__law_is_integer) (defScope st__law_is_integer) .none kV12 dc12 pm12 an12 cd12 ct12), sl12⟩) (c12 : PySem.W.codeIn K cd12 "_law_is_integer" = true) (k12 : PySem.W.keepIn K (.ref f12) = true)
    (a13 : PySem.W.nsIn K mainGlobals "_law_is_row" = some (some (.ref f13))) (l13 : K.lookup f13 = some ⟨oc13, od13, .func (PySem.W.fnOf "_law_is_row" "_law_is_row" (defArgs st__law_is_row) (defBody st__law_is_row) (defScope st__law_is_row) .none kV13 dc13 pm13 an13 cd13 ct13), sl13⟩) (c13 : PySem.W.codeIn K cd13 "_law_is_row" = true) (k13 : PySem.W.keepIn K (.ref f13) = true)
    (a14 : PySem.W.nsIn K mainGlobals "greatest_of" = some (some (.ref f14))) (l14 : K.lookup f14 = some ⟨oc14, od14, .func (PySem.W.fnOf "greatest_of" "greatest_of" (defArgs st_greatest_of) (defBody st_greatest_of) (defScope st_greatest_of) .none kV14 dc14 pm14 an14 cd14 ct14), sl14⟩) (c14 : PySem.W.codeIn K cd14 "greatest_of" = true) (k14 : PySem.W.keepIn K (.ref f14) = true)
    (a15 : PySem.W.nsIn K mainGlobals "plane_in" = some (some (.ref f15))) (l15 : K.lookup f15 = some ⟨oc15, od15, .func (PySem.W.fnOf "plane_in" "plane_in" (defArgs st_plane_in) (defBody st_plane_in) (defScope st_plane_in) .none kV15 dc15 pm15 an15 cd15 ct15), sl15⟩) (c15 : PySem.W.codeIn K cd15 "plane_in" = true) (k15 : PySem.W.keepIn K (.ref f15) = true)
    (a16 : PySem.W.nsIn K mainGlobals "change_in" = some (some (.ref f16))) (l16 : K.lookup f16 = some ⟨oc16, od16, .func (PySem.W.fnOf "change_in" "change_in" (defArgs st_change_in) (defBody st_change_in) (defScope st_change_in) .none kV16 dc16 pm16 an16 cd16 ct16), sl16⟩) (c16 : PySem.W.codeIn K cd16 "change_in" = true) (k16 : PySem.W.keepIn K (.ref f16) = true)
    (a17 : PySem.W.nsIn K mainGlobals "_law_times" = some (some (.ref f17))) (l17 : K.lookup f17 = some ⟨oc17, od17, .func (PySem.W.fnOf "_law_times" "_law_times" (defArgs st__law_times) (defBody st__law_times) (defScope st__law_times) .none kV17 dc17 pm17 an17 cd17 ct17), sl17⟩) (c17 : PySem.W.codeIn K cd17 "_law_times" = true) (k17 : PySem.W.keepIn K (.ref f17) = true)
    (a18 : PySem.W.nsIn K mainGlobals "_law_divisor_of" = some (some (.ref f18))) (l18 : K.lookup f18 = some ⟨oc18, od18, .func (PySem.W.fnOf "_law_divisor_of" "_law_divisor_of" (defArgs st__law_divisor_of) (defBody st__law_divisor_of) (defScope st__law_divisor_of) .none kV18 dc18 pm18 an18 cd18 ct18), sl18⟩) (c18 : PySem.W.codeIn K cd18 "_law_divisor_of" = true) (k18 : PySem.W.keepIn K (.ref f18) = true)
    (a19 : PySem.W.nsIn K mainGlobals "_law_piece" = some (some (.ref f19))) (l19 : K.lookup f19 = some ⟨oc19, od19, .func (PySem.W.fnOf "_law_piece" "_law_piece" (defArgs st__law_piece) (defBody st__law_piece) (defScope st__law_piece) .none kV19 dc19 pm19 an19 cd19 ct19), sl19⟩) (c19 : PySem.W.codeIn K cd19 "_law_piece" = true) (k19 : PySem.W.keepIn K (.ref f19) = true)
    (a20 : PySem.W.nsIn K mainGlobals "_law_given" = some (some (.ref f20))) (l20 : K.lookup f20 = some ⟨oc20, od20, .func (PySem.W.fnOf "_law_given" "_law_given" (defArgs st__law_given) (defBody st__law_given) (defScope st__law_given) .none kV20 dc20 pm20 an20 cd20 ct20), sl20⟩) (c20 : PySem.W.codeIn K cd20 "_law_given" = true) (k20 : PySem.W.keepIn K (.ref f20) = true)
    (a21 : PySem.W.nsIn K mainGlobals "_law_is_plane" = some (some (.ref f21))) (l21 : K.lookup f21 = some ⟨oc21, od21, .func (PySem.W.fnOf "_law_is_plane" "_law_is_plane" (defArgs st__law_is_plane) (defBody st__law_is_plane) (defScope st__law_is_plane) .none kV21 dc21 pm21 an21 cd21 ct21), sl21⟩) (c21 : PySem.W.codeIn K cd21 "_law_is_plane" = true) (k21 : PySem.W.keepIn K (.ref f21) = true)
    (a22 : PySem.W.nsIn K mainGlobals "_law_is_change" = some (some (.ref f22))) (l22 : K.lookup f22 = some ⟨oc22, od22, .func (PySem.W.fnOf "_law_is_change" "_law_is_change" (defArgs st__law_is_change) (defBody st__law_is_change) (defScope st__law_is_change) .none kV22 dc22 pm22 an22 cd22 ct22), sl22⟩) (c22 : PySem.W.codeIn K cd22 "_law_is_change" = true) (k22 : PySem.W.keepIn K (.ref f22) = true)
    (a23 : PySem.W.nsIn K mainGlobals "_law_values" = some (some (.ref f23))) (l23 : K.lookup f23 = some ⟨oc23, od23, .func (PySem.W.fnOf "_law_values" "_law_values" (defArgs st__law_values) (defBody st__law_values) (defScope st__law_values) .none kV23 dc23 pm23 an23 cd23 ct23), sl23⟩) (c23 : PySem.W.codeIn K cd23 "_law_values" = true) (k23 : PySem.W.keepIn K (.ref f23) = true)
    (a24 : PySem.W.nsIn K mainGlobals "_law_changes" = some (some (.ref f24))) (l24 : K.lookup f24 = some ⟨oc24, od24, .func (PySem.W.fnOf "_law_changes" "_law_changes" (defArgs st__law_changes) (defBody st__law_changes) (defScope st__law_changes) .none kV24 dc24 pm24 an24 cd24 ct24), sl24⟩) (c24 : PySem.W.codeIn K cd24 "_law_changes" = true) (k24 : PySem.W.keepIn K (.ref f24) = true)
    (a25 : PySem.W.nsIn K mainGlobals "want_plane" = some (some (.ref f25))) (l25 : K.lookup f25 = some ⟨oc25, od25, .func (PySem.W.fnOf "want_plane" "want_plane" (defArgs st_want_plane) (defBody st_want_plane) (defScope st_want_plane) .none kV25 dc25 pm25 an25 cd25 ct25), sl25⟩) (c25 : PySem.W.codeIn K cd25 "want_plane" = true) (k25 : PySem.W.keepIn K (.ref f25) = true)
    (a26 : PySem.W.nsIn K mainGlobals "plane_divisor" = some (some (.ref f26))) (l26 : K.lookup f26 = some ⟨oc26, od26, .func (PySem.W.fnOf "plane_divisor" "plane_divisor" (defArgs st_plane_divisor) (defBody st_plane_divisor) (defScope st_plane_divisor) .none kV26 dc26 pm26 an26 cd26 ct26), sl26⟩) (c26 : PySem.W.codeIn K cd26 "plane_divisor" = true) (k26 : PySem.W.keepIn K (.ref f26) = true)
    (a27 : PySem.W.nsIn K mainGlobals "is_plane" = some (some (.ref f27))) (l27 : K.lookup f27 = some ⟨oc27, od27, .func (PySem.W.fnOf "is_plane" "is_plane" (defArgs st_is_plane) (defBody st_is_plane) (defScope st_is_plane) .none kV27 dc27 pm27 an27 cd27 ct27), sl27⟩) (c27 : PySem.W.codeIn K cd27 "is_plane" = true) (k27 : PySem.W.keepIn K (.ref f27) = true)
    (a28 : PySem.W.nsIn K mainGlobals "is_change" = some (some (.ref f28))) (l28 : K.lookup f28 = some ⟨oc28, od28, .func (PySem.W.fnOf "is_change" "is_change" (defArgs st_is_change) (defBody st_is_change) (defScope st_is_change) .none kV28 dc28 pm28 an28 cd28 ct28), sl28⟩) (c28 : PySem.W.codeIn K cd28 "is_change" = true) (k28 : PySem.W.keepIn K (.ref f28) = true)
    (a29 : PySem.W.nsIn K mainGlobals "_law_plain" = some (some (.ref f29))) (l29 : K.lookup f29 = some ⟨oc29, od29, .func (PySem.W.fnOf "_law_plain" "_law_plain" (defArgs st__law_plain) (defBody st__law_plain) (defScope st__law_plain) .none kV29 dc29 pm29 an29 cd29 ct29), sl29⟩) (c29 : PySem.W.codeIn K cd29 "_law_plain" = true) (k29 : PySem.W.keepIn K (.ref f29) = true)
    (a30 : PySem.W.nsIn K mainGlobals "_law_product" = some (some (.ref f30))) (l30 : K.lookup f30 = some ⟨oc30, od30, .func (PySem.W.fnOf "_law_product" "_law_product" (defArgs st__law_product) (defBody st__law_product) (defScope st__law_product) .none kV30 dc30 pm30 an30 cd30 ct30), sl30⟩) (c30 : PySem.W.codeIn K cd30 "_law_product" = true) (k30 : PySem.W.keepIn K (.ref f30) = true)
    (a31 : PySem.W.nsIn K mainGlobals "made_plain" = some (some (.ref f31))) (l31 : K.lookup f31 = some ⟨oc31, od31, .func (PySem.W.fnOf "made_plain" "made_plain" (defArgs st_made_plain) (defBody st_made_plain) (defScope st_made_plain) .none kV31 dc31 pm31 an31 cd31 ct31), sl31⟩) (c31 : PySem.W.codeIn K cd31 "made_plain" = true) (k31 : PySem.W.keepIn K (.ref f31) = true)
    (a32 : PySem.W.nsIn K mainGlobals "degrees" = some (some (.ref f32))) (l32 : K.lookup f32 = some ⟨oc32, od32, .func (PySem.W.fnOf "degrees" "degrees" (defArgs st_degrees) (defBody st_degrees) (defScope st_degrees) .none kV32 dc32 pm32 an32 cd32 ct32), sl32⟩) (c32 : PySem.W.codeIn K cd32 "degrees" = true) (k32 : PySem.W.keepIn K (.ref f32) = true)
    (a33 : PySem.W.nsIn K mainGlobals "head" = some (some (.ref f33))) (l33 : K.lookup f33 = some ⟨oc33, od33, .func (PySem.W.fnOf "head" "head" (defArgs st_head) (defBody st_head) (defScope st_head) .none kV33 dc33 pm33 an33 cd33 ct33), sl33⟩) (c33 : PySem.W.codeIn K cd33 "head" = true) (k33 : PySem.W.keepIn K (.ref f33) = true)
    (a34 : PySem.W.nsIn K mainGlobals "plain_plane" = some (some (.ref f34))) (l34 : K.lookup f34 = some ⟨oc34, od34, .func (PySem.W.fnOf "plain_plane" "plain_plane" (defArgs st_plain_plane) (defBody st_plain_plane) (defScope st_plain_plane) .none kV34 dc34 pm34 an34 cd34 ct34), sl34⟩) (c34 : PySem.W.codeIn K cd34 "plain_plane" = true) (k34 : PySem.W.keepIn K (.ref f34) = true)
    (a35 : PySem.W.nsIn K mainGlobals "_law_right" = some (some (.ref f35))) (l35 : K.lookup f35 = some ⟨oc35, od35, .func (PySem.W.fnOf "_law_right" "_law_right" (defArgs st__law_right) (defBody st__law_right) (defScope st__law_right) .none kV35 dc35 pm35 an35 cd35 ct35), sl35⟩) (c35 : PySem.W.codeIn K cd35 "_law_right" = true) (k35 : PySem.W.keepIn K (.ref f35) = true)
    (a36 : PySem.W.nsIn K mainGlobals "law" = some (some (.ref f36))) (l36 : K.lookup f36 = some ⟨oc36, od36, .func (PySem.W.fnOf "law" "law" (defArgs st_law) (defBody st_law) (defScope st_law) .none kV36 dc36 pm36 an36 cd36 ct36), sl36⟩) (c36 : PySem.W.codeIn K cd36 "law" = true) (k36 : PySem.W.keepIn K (.ref f36) = true)
    (z_abs : PySem.W.nsIn K mainGlobals "abs" = some none)
    (z_all : PySem.W.nsIn K mainGlobals "all" = some none)
    (z_bool : PySem.W.nsIn K mainGlobals "bool" = some none)
    (z_dict : PySem.W.nsIn K mainGlobals "dict" = some none)
    (z_divmod : PySem.W.nsIn K mainGlobals "divmod" = some none)
    (z_enumerate : PySem.W.nsIn K mainGlobals "enumerate" = some none)
    (z_int : PySem.W.nsIn K mainGlobals "int" = some none)
    (z_isinstance : PySem.W.nsIn K mainGlobals "isinstance" = some none)
    (z_len : PySem.W.nsIn K mainGlobals "len" = some none)
    (z_list : PySem.W.nsIn K mainGlobals "list" = some none)
    (z_max : PySem.W.nsIn K mainGlobals "max" = some none)
    (z_range : PySem.W.nsIn K mainGlobals "range" = some none)
    (z_repr : PySem.W.nsIn K mainGlobals "repr" = some none)
    (z_tuple : PySem.W.nsIn K mainGlobals "tuple" = some none)
    (g_MOST_DEGREE : PySem.W.nsIn K mainGlobals "MOST_DEGREE" = some (some (.int 8 t_MOST_DEGREE)))
    (g_SIX : PySem.W.nsIn K mainGlobals "SIX" = some (some (.int 6 t_SIX)))
    : ∃ (fd : FuncData) (m : List C → Out C), (∀ (s : Shared) (u : Value), BindsTo s fd ⟨[u], []⟩ [("script", u)]) ∧
        (∀ base : Heap, K.In base → base.Ns mainGlobals mg → SysD base → FnG l.prog w K mg base 7 fa fd ["script"] (spM K mg 1 m)) ∧
        ∀ ns : List Int, ns.length ≤ 63 → (∀ z ∈ ns, Builtin.Int.intBits z ≤ 1048576) → ∃ c outs, m [.frz (.ro ns)] = .ok c outs ∧ c.toD = .bl true := by
  have V : Txt K mg := ⟨PySem.W.mg_none_of X G z_abs, PySem.W.mg_none_of X G z_all, PySem.W.mg_none_of X G z_bool, PySem.W.mg_none_of X G z_dict, PySem.W.mg_none_of X G z_divmod, PySem.W.mg_none_of X G z_enumerate, PySem.W.mg_none_of X G z_int, PySem.W.mg_none_of X G z_isinstance, PySem.W.mg_none_of X G z_len, PySem.W.mg_none_of X G z_list, PySem.W.mg_none_of X G z_max, PySem.W.mg_none_of X G z_range, PySem.W.mg_none_of X G z_repr, PySem.W.mg_none_of X G z_tuple, ⟨_, PySem.W.mg_of X G g_MOST_DEGREE⟩, ⟨_, PySem.W.mg_of X G g_SIX⟩, ⟨_, _, _, _, _, _, _, _, _, _, PySem.W.mg_of X G a0, k0, l0, c0⟩, ⟨_, _, _, _, _, _, _, _, _, _, PySem.W.mg_of X G a1, k1, l1, c1⟩, ⟨_, _, _, _, _, _, _, _, _, _, PySem.W.mg_of X G a2, k2, l2, c2⟩, ⟨_, _, _, _, _, _, _, _, _, _, PySem.W.mg_of X G a3, k3, l3, c3⟩, ⟨_, _, _, _, _, _, _, _, _, _, PySem.W.mg_of X G a4, k4, l4, c4⟩, ⟨_, _, _, _, _, _, _, _, _, _, PySem.W.mg_of X G a5, k5, l5, c5⟩, ⟨_, _, _, _, _, _, _, _, _, _, PySem.W.mg_of X G a6, k6, l6, c6⟩, ⟨_, _, _, _, _, _, _, _, _, _, PySem.W.mg_of X G a7, k7, l7, c7⟩, ⟨_, _, _, _, _, _, _, _, _, _, PySem.W.mg_of X G a8, k8, l8, c8⟩, ⟨_, _, _, _, _, _, _, _, _, _, PySem.W.mg_of X G a9, k9, l9, c9⟩, ⟨_, _, _, _, _, _, _, _, _, _, PySem.W.mg_of X G a10, k10, l10, c10⟩, ⟨_, _, _, _, _, _, _, _, _, _, PySem.W.mg_of X G a11, k11, l11, c11⟩, ⟨_, _, _, _, _, _, _, _, _, _, PySem.W.mg_of X G a12, k12, l12, c12⟩, ⟨_, _, _, _, _, _, _, _, _, _, PySem.W.mg_of X G a13, k13, l13, c13⟩, ⟨_, _, _, _, _, _, _, _, _, _, PySem.W.mg_of X G a14, k14, l14, c14⟩, ⟨_, _, _, _, _, _, _, _, _, _, PySem.W.mg_of X G a15, k15, l15, c15⟩, ⟨_, _, _, _, _, _, _, _, _, _, PySem.W.mg_of X G a16, k16, l16, c16⟩, ⟨_, _, _, _, _, _, _, _, _, _, PySem.W.mg_of X G a17, k17, l17, c17⟩, ⟨_, _, _, _, _, _, _, _, _, _, PySem.W.mg_of X G a18, k18, l18, c18⟩, ⟨_, _, _, _, _, _, _, _, _, _, PySem.W.mg_of X G a19, k19, l19, c19⟩, ⟨_, _, _, _, _, _, _, _, _, _, PySem.W.mg_of X G a20, k20, l20, c20⟩, ⟨_, _, _, _, _, _, _, _, _, _, PySem.W.mg_of X G a21, k21, l21, c21⟩, ⟨_, _, _, _, _, _, _, _, _, _, PySem.W.mg_of X G a22, k22, l22, c22⟩, ⟨_, _, _, _, _, _, _, _, _, _, PySem.W.mg_of X G a23, k23, l23, c23⟩, ⟨_, _, _, _, _, _, _, _, _, _, PySem.W.mg_of X G a24, k24, l24, c24⟩, ⟨_, _, _, _, _, _, _, _, _, _, PySem.W.mg_of X G a25, k25, l25, c25⟩, ⟨_, _, _, _, _, _, _, _, _, _, PySem.W.mg_of X G a26, k26, l26, c26⟩, ⟨_, _, _, _, _, _, _, _, _, _, PySem.W.mg_of X G a27, k27, l27, c27⟩, ⟨_, _, _, _, _, _, _, _, _, _, PySem.W.mg_of X G a28, k28, l28, c28⟩, ⟨_, _, _, _, _, _, _, _, _, _, PySem.W.mg_of X G a29, k29, l29, c29⟩, ⟨_, _, _, _, _, _, _, _, _, _, PySem.W.mg_of X G a30, k30, l30, c30⟩, ⟨_, _, _, _, _, _, _, _, _, _, PySem.W.mg_of X G a31, k31, l31, c31⟩, ⟨_, _, _, _, _, _, _, _, _, _, PySem.W.mg_of X G a32, k32, l32, c32⟩, ⟨_, _, _, _, _, _, _, _, _, _, PySem.W.mg_of X G a33, k33, l33, c33⟩, ⟨_, _, _, _, _, _, _, _, _, _, PySem.W.mg_of X G a34, k34, l34, c34⟩, ⟨_, _, _, _, _, _, _, _, _, _, PySem.W.mg_of X G a35, k35, l35, c35⟩, ⟨_, _, _, _, _, _, _, _, _, _, PySem.W.mg_of X G a36, k36, l36, c36⟩⟩
  exact PL.law_end V.d_law sc_law bp_law (fun base hS => law_bd V hS) hfa law_true
end k21
open PySem PySem.W PyProof.Rows in
set_option maxRecDepth 100000 in
set_option maxHeartbeats 0 in
theorem PySem.Challenge.cw_curvemeets_k21_any_value_as_plane_and_ch_holds : PySem.Challenge.rw_curvemeets_k21_any_value_as_plane_and_ch.Holds := by
  w_on; o_law; k_head; (case hw => w_witness2)
  k_fill
  refine PL.walk_ofG (l := PySem.Challenge.rw_curvemeets_k21_any_value_as_plane_and_ch) (n := 63) (k := 7) (x := "script") rfl (by decide) rfl ⟨rfl, by decide, by decide⟩ (by decide +kernel) (fun w h Y => PySem.W.kIn_of Y) ?F
  case F =>
    intro w mg fa h KX G hmg
    refine' k21.all_mk KX G hmg ?a0 ?l0 ?c0 ?k0 ?a1 ?l1 ?c1 ?k1 ?a2 ?l2 ?c2 ?k2 ?a3 ?l3 ?c3 ?k3 ?a4 ?l4 ?c4 ?k4 ?a5 ?l5 ?c5 ?k5 ?a6 ?l6 ?c6 ?k6 ?a7 ?l7 ?c7 ?k7 ?a8 ?l8 ?c8 ?k8 ?a9 ?l9 ?c9 ?k9 ?a10 ?l10 ?c10 ?k10 ?a11 ?l11 ?c11 ?k11 ?a12 ?l12 ?c12 ?k12 ?a13 ?l13 ?c13 ?k13 ?a14 ?l14 ?c14 ?k14 ?a15 ?l15 ?c15 ?k15 ?a16 ?l16 ?c16 ?k16 ?a17 ?l17 ?c17 ?k17 ?a18 ?l18 ?c18 ?k18 ?a19 ?l19 ?c19 ?k19 ?a20 ?l20 ?c20 ?k20 ?a21 ?l21 ?c21 ?k21 ?a22 ?l22 ?c22 ?k22 ?a23 ?l23 ?c23 ?k23 ?a24 ?l24 ?c24 ?k24 ?a25 ?l25 ?c25 ?k25 ?a26 ?l26 ?c26 ?k26 ?a27 ?l27 ?c27 ?k27 ?a28 ?l28 ?c28 ?k28 ?a29 ?l29 ?c29 ?k29 ?a30 ?l30 ?c30 ?k30 ?a31 ?l31 ?c31 ?k31 ?a32 ?l32 ?c32 ?k32 ?a33 ?l33 ?c33 ?k33 ?a34 ?l34 ?c34 ?k34 ?a35 ?l35 ?c35 ?k35 ?a36 ?l36 ?c36 ?k36 ?z_abs ?z_all ?z_bool ?z_dict ?z_divmod ?z_enumerate ?z_int ?z_isinstance ?z_len ?z_list ?z_max ?z_range ?z_repr ?z_tuple ?g_MOST_DEGREE ?g_SIX
    (case a0 => k_is)
    (case l0 => k_is)
    (case c0 => k_is)
    (case k0 => k_is)
    (case a1 => k_is)
    (case l1 => k_is)
    (case c1 => k_is)
    (case k1 => k_is)
    (case a2 => k_is)
    (case l2 => k_is)
    (case c2 => k_is)
    (case k2 => k_is)
    (case a3 => k_is)
    (case l3 => k_is)
    (case c3 => k_is)
    (case k3 => k_is)
    (case a4 => k_is)
    (case l4 => k_is)
    (case c4 => k_is)
    (case k4 => k_is)
    (case a5 => k_is)
    (case l5 => k_is)
    (case c5 => k_is)
    (case k5 => k_is)
    (case a6 => k_is)
    (case l6 => k_is)
    (case c6 => k_is)
    (case k6 => k_is)
    (case a7 => k_is)
    (case l7 => k_is)
    (case c7 => k_is)
    (case k7 => k_is)
    (case a8 => k_is)
    (case l8 => k_is)
    (case c8 => k_is)
    (case k8 => k_is)
    (case a9 => k_is)
    (case l9 => k_is)
    (case c9 => k_is)
    (case k9 => k_is)
    (case a10 => k_is)
    (case l10 => k_is)
    (case c10 => k_is)
    (case k10 => k_is)
    (case a11 => k_is)
    (case l11 => k_is)
    (case c11 => k_is)
    (case k11 => k_is)
    (case a12 => k_is)
    (case l12 => k_is)
    (case c12 => k_is)
    (case k12 => k_is)
    (case a13 => k_is)
    (case l13 => k_is)
    (case c13 => k_is)
    (case k13 => k_is)
    (case a14 => k_is)
    (case l14 => k_is)
    (case c14 => k_is)
    (case k14 => k_is)
    (case a15 => k_is)
    (case l15 => k_is)
    (case c15 => k_is)
    (case k15 => k_is)
    (case a16 => k_is)
    (case l16 => k_is)
    (case c16 => k_is)
    (case k16 => k_is)
    (case a17 => k_is)
    (case l17 => k_is)
    (case c17 => k_is)
    (case k17 => k_is)
    (case a18 => k_is)
    (case l18 => k_is)
    (case c18 => k_is)
    (case k18 => k_is)
    (case a19 => k_is)
    (case l19 => k_is)
    (case c19 => k_is)
    (case k19 => k_is)
    (case a20 => k_is)
    (case l20 => k_is)
    (case c20 => k_is)
    (case k20 => k_is)
    (case a21 => k_is)
    (case l21 => k_is)
    (case c21 => k_is)
    (case k21 => k_is)
    (case a22 => k_is)
    (case l22 => k_is)
    (case c22 => k_is)
    (case k22 => k_is)
    (case a23 => k_is)
    (case l23 => k_is)
    (case c23 => k_is)
    (case k23 => k_is)
    (case a24 => k_is)
    (case l24 => k_is)
    (case c24 => k_is)
    (case k24 => k_is)
    (case a25 => k_is)
    (case l25 => k_is)
    (case c25 => k_is)
    (case k25 => k_is)
    (case a26 => k_is)
    (case l26 => k_is)
    (case c26 => k_is)
    (case k26 => k_is)
    (case a27 => k_is)
    (case l27 => k_is)
    (case c27 => k_is)
    (case k27 => k_is)
    (case a28 => k_is)
    (case l28 => k_is)
    (case c28 => k_is)
    (case k28 => k_is)
    (case a29 => k_is)
    (case l29 => k_is)
    (case c29 => k_is)
    (case k29 => k_is)
    (case a30 => k_is)
    (case l30 => k_is)
    (case c30 => k_is)
    (case k30 => k_is)
    (case a31 => k_is)
    (case l31 => k_is)
    (case c31 => k_is)
    (case k31 => k_is)
    (case a32 => k_is)
    (case l32 => k_is)
    (case c32 => k_is)
    (case k32 => k_is)
    (case a33 => k_is)
    (case l33 => k_is)
    (case c33 => k_is)
    (case k33 => k_is)
    (case a34 => k_is)
    (case l34 => k_is)
    (case c34 => k_is)
    (case k34 => k_is)
    (case a35 => k_is)
    (case l35 => k_is)
    (case c35 => k_is)
    (case k35 => k_is)
    (case a36 => k_is)
    (case l36 => k_is)
    (case c36 => k_is)
    (case k36 => k_is)
    (case z_abs => k_is)
    (case z_all => k_is)
    (case z_bool => k_is)
    (case z_dict => k_is)
    (case z_divmod => k_is)
    (case z_enumerate => k_is)
    (case z_int => k_is)
    (case z_isinstance => k_is)
    (case z_len => k_is)
    (case z_list => k_is)
    (case z_max => k_is)
    (case z_range => k_is)
    (case z_repr => k_is)
    (case z_tuple => k_is)
    (case g_MOST_DEGREE => k_is)
    (case g_SIX => k_is)
