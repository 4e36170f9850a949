import PyProof.Rows.All
import Wide.All
import OpenK.AllK
import Wide.FinOn
import HandS.ForMost
import HandS.Wide
import HandS.IsInst
import HandS.Flow
import HandS.Walk
import HandS.Exc
import HandS.WordsExc
import HandS.ExcInit
import HandS.Zip
import HandS.Small
import HandS.More
import HandS.Style
import HandS.WideBits
import HandS.TupAny
import HandS.TupLen
import PyProof.ReprRoads
import PyProof.CallFns
import HandS.EndBits
import KE.GoesMore
import PyProof.Draws
import HandS.TryMany
import PyProof.Rows.FactsN_abs
import PyProof.Rows.FactsN_isinstance
import PyProof.Rows.FactsT3
import KE.GoesZip
import PyProof.ReprLen
import KE.DataEq
import PySem.Challenge.RW_curvemeets_k71_whole_points_of_curves
set_option Elab.async false
set_option linter.all false
set_option maxRecDepth 100000
set_option maxHeartbeats 4000000
namespace PL
open PySem PySem.Spec PyProof.Rows L2

/-- plain data, what a value stands for -/
inductive D where
  | non | bl (b : Bool) | int (i : Int) | str (s : Str) | tup (l : List D) | lst (l : List D)
  | dct (l : List (Key × D)) | dcT (l : List (List Key × D)) | ro (l : List Int) | opq (v : V)
/-- what a slot holds: plain data, or a list (a dict) that nobody else holds -/
inductive C where
  | frz (d : D) | own (l : List C) | ownD (l : List (Key × D)) | ownT (l : List (List Key × D))
mutual
def C.toD : C → D
  | .frz d => d
  | .own l => .lst (C.toDs l)
  | .ownD l => .dct l
  | .ownT l => .dcT l
def C.toDs : List C → List D
  | [] => []
  | c :: r => C.toD c :: C.toDs r
end
theorem toDs_map : ∀ l : List C, C.toDs l = l.map C.toD
  | [] => rfl
  | c :: r => by rw [C.toDs, toDs_map r]; rfl
theorem toDs_frz (l : List D) : C.toDs (l.map C.frz) = l := by
  induction l with
  | nil => rfl
  | cons d r ih => rw [List.map_cons, C.toDs, ih, C.toD]

def RoK (K : PySem.W.Frag) (a : Addr) (xs : List V) : Prop :=
  ∃ (o : Obj) (its : Array Value) (n : Nat), K.lookup a = some o ∧ o.cls = .type "list" ∧ o.dict = none ∧ o.data = .seq its n ∧ its.size ≤ sizeLine ∧ Vals xs its.toList
section
variable (K : PySem.W.Frag) (W : Addr → Prop) (H : Hp)
mutual
/-- v stands for d; no object of it lies in W -/
def Is : D → V → Prop
  | .non, v => v = .non
  | .bl b, v => v = .bl b
  | .int i, v => v = .int i
  | .str s, v => v = .str s
  | .tup l, v => ∃ a xs, v = .ref a ∧ H a = some (.tup xs) ∧ ¬ W a ∧ IsL l xs
  | .lst l, v => ∃ a xs, v = .ref a ∧ H a = some (.lst xs) ∧ ¬ W a ∧ IsL l xs
  | .dct l, v => ∃ a kvs, v = .ref a ∧ H a = some (.dK kvs) ∧ ¬ W a ∧ IsP l kvs
  | .dcT l, v => ∃ a kvs, v = .ref a ∧ H a = some (.dT kvs) ∧ ¬ W a ∧ IsQ l kvs
  | .ro l, v => ∃ a, v = .ref a ∧ ((Rd H a (.lst (l.map V.int)) ∧ ¬ W a) ∨ RoK K a (l.map V.int))
  | .opq u, v => v = u
def IsL : List D → List V → Prop
  | [], xs => xs = []
  | d :: r, xs => ∃ x ys, xs = x :: ys ∧ Is d x ∧ IsL r ys
def IsP : List (Key × D) → List (Key × V) → Prop
  | [], xs => xs = []
  | (k, d) :: r, xs => ∃ x ys, xs = (k, x) :: ys ∧ Is d x ∧ IsP r ys
def IsQ : List (List Key × D) → List (List Key × V) → Prop
  | [], xs => xs = []
  | (k, d) :: r, xs => ∃ x ys, xs = (k, x) :: ys ∧ Is d x ∧ IsQ r ys
end
end

section
variable {K : PySem.W.Frag} {W W' : Addr → Prop} {H H' : Hp}
/-- what was outside W stands, and is outside W' -/
def Kp (W : Addr → Prop) (H : Hp) (W' : Addr → Prop) (H' : Hp) : Prop := ∀ a o, ¬ W a → H a = some o → H' a = some o ∧ ¬ W' a
theorem Kp.refl : Kp W H W H := fun _ _ w h => ⟨h, w⟩
theorem Kp.trans {W'' H''} (p : Kp W H W' H') (q : Kp W' H' W'' H'') : Kp W H W'' H'' := fun a o w h => q a o (p a o w h).2 (p a o w h).1
theorem Kp.less (h : ∀ a, W' a → W a) : Kp W H W' H := fun a _ w e => ⟨e, fun z => w (h a z)⟩
mutual
theorem Is.kp (p : Kp W H W' H') : ∀ (d : D) (v : V), Is K W H d v → Is K W' H' d v
  | .non, v, h => h
  | .bl b, v, h => h
  | .int i, v, h => h
  | .str s, v, h => h
  | .opq u, v, h => h
  | .tup l, v, h => by
    obtain ⟨a, xs, e, ha, w, r⟩ := h
    exact ⟨a, xs, e, (p a _ w ha).1, (p a _ w ha).2, IsL.kp p l xs r⟩
  | .lst l, v, h => by
    obtain ⟨a, xs, e, ha, w, r⟩ := h
    exact ⟨a, xs, e, (p a _ w ha).1, (p a _ w ha).2, IsL.kp p l xs r⟩
  | .dct l, v, h => by
    obtain ⟨a, xs, e, ha, w, r⟩ := h
    exact ⟨a, xs, e, (p a _ w ha).1, (p a _ w ha).2, IsP.kp p l xs r⟩
  | .dcT l, v, h => by
    obtain ⟨a, xs, e, ha, w, r⟩ := h
    exact ⟨a, xs, e, (p a _ w ha).1, (p a _ w ha).2, IsQ.kp p l xs r⟩
  | .ro l, v, h => by
    obtain ⟨a, e, h⟩ := h
    refine ⟨a, e, ?_⟩
    rcases h with ⟨h, w⟩ | h
    · rcases h with h | ⟨o, h⟩
      · exact .inl ⟨.inl (p a _ w h).1, (p a _ w h).2⟩
      · exact .inl ⟨.inr ⟨o, (p a _ w h).1⟩, (p a _ w h).2⟩
    · exact .inr h
theorem IsL.kp (p : Kp W H W' H') : ∀ (l : List D) (xs : List V), IsL K W H l xs → IsL K W' H' l xs
  | [], xs, h => h
  | d :: r, xs, h => by
    obtain ⟨x, ys, e, h1, h2⟩ := h
    exact ⟨x, ys, e, Is.kp p d x h1, IsL.kp p r ys h2⟩
theorem IsP.kp (p : Kp W H W' H') : ∀ (l : List (Key × D)) (xs : List (Key × V)), IsP K W H l xs → IsP K W' H' l xs
  | [], xs, h => h
  | (k, d) :: r, xs, h => by
    obtain ⟨x, ys, e, h1, h2⟩ := h
    exact ⟨x, ys, e, Is.kp p d x h1, IsP.kp p r ys h2⟩
theorem IsQ.kp (p : Kp W H W' H') : ∀ (l : List (List Key × D)) (xs : List (List Key × V)), IsQ K W H l xs → IsQ K W' H' l xs
  | [], xs, h => h
  | (k, d) :: r, xs, h => by
    obtain ⟨x, ys, e, h1, h2⟩ := h
    exact ⟨x, ys, e, Is.kp p d x h1, IsQ.kp p r ys h2⟩
end
theorem IsL.length : ∀ {l : List D} {xs : List V}, IsL K W H l xs → xs.length = l.length
  | [], xs, h => by rw [show xs = [] from h]; rfl
  | d :: r, xs, h => by
    obtain ⟨x, ys, e, h1, h2⟩ := h
    rw [e, List.length_cons, List.length_cons, IsL.length h2]
theorem IsL.get : ∀ {l : List D} {xs : List V} {i : Nat} {d : D}, IsL K W H l xs → l[i]? = some d → ∃ x, xs[i]? = some x ∧ Is K W H d x
  | [], xs, i, d, h, e => by simp at e
  | d :: r, xs, 0, d', h, e => by
    obtain ⟨x, ys, e1, h1, h2⟩ := h
    simp at e; subst e
    exact ⟨x, by rw [e1]; rfl, h1⟩
  | d :: r, xs, i + 1, d', h, e => by
    obtain ⟨x, ys, e1, h1, h2⟩ := h
    obtain ⟨y, e2, h3⟩ := IsL.get (i := i) h2 (by simpa using e)
    exact ⟨y, by rw [e1]; simpa using e2, h3⟩
theorem IsL.append : ∀ {l l' : List D} {xs ys : List V}, IsL K W H l xs → IsL K W H l' ys → IsL K W H (l ++ l') (xs ++ ys)
  | [], l', xs, ys, h, h' => by rw [show xs = [] from h]; exact h'
  | d :: r, l', xs, ys, h, h' => by
    obtain ⟨x, zs, e1, h1, h2⟩ := h
    exact ⟨x, zs ++ ys, by rw [e1]; rfl, h1, IsL.append h2 h'⟩
theorem IsL.take : ∀ {l : List D} {xs : List V} (n : Nat), IsL K W H l xs → IsL K W H (l.take n) (xs.take n)
  | l, xs, 0, h => by simp [IsL]
  | [], xs, n + 1, h => by rw [show xs = [] from h]; simp [IsL]
  | d :: r, xs, n + 1, h => by
    obtain ⟨x, zs, e1, h1, h2⟩ := h
    rw [e1]
    exact ⟨x, zs.take n, rfl, h1, IsL.take n h2⟩
theorem IsL.drop : ∀ {l : List D} {xs : List V} (n : Nat), IsL K W H l xs → IsL K W H (l.drop n) (xs.drop n)
  | l, xs, 0, h => h
  | [], xs, n + 1, h => by rw [show xs = [] from h]; simp [IsL]
  | d :: r, xs, n + 1, h => by
    obtain ⟨x, zs, e1, h1, h2⟩ := h
    rw [e1]
    exact IsL.drop n h2
theorem IsL.rep {l : List D} {xs : List V} (h : IsL K W H l xs) : ∀ n : Nat, IsL K W H (List.replicate n l).flatten (List.replicate n xs).flatten
  | 0 => by simp [IsL]
  | n + 1 => by
    rw [List.replicate_succ, List.replicate_succ, List.flatten_cons, List.flatten_cons]
    exact h.append (IsL.rep h n)
theorem IsL.set {d : D} {x : V} (h : Is K W H d x) : ∀ {l : List D} {xs : List V} (i : Nat), IsL K W H l xs → IsL K W H (l.set i d) (xs.set i x)
  | [], xs, i, r => by rw [show xs = [] from r]; simp [IsL]
  | e :: r, xs, 0, q => by
    obtain ⟨y, zs, e1, h1, h2⟩ := q
    rw [e1]
    exact ⟨x, zs, rfl, h, h2⟩
  | e :: r, xs, i + 1, q => by
    obtain ⟨y, zs, e1, h1, h2⟩ := q
    rw [e1]
    exact ⟨y, zs.set i x, rfl, h1, IsL.set h i h2⟩
theorem IsL.ints : ∀ (l : List Int), IsL K W H (l.map D.int) (l.map V.int)
  | [] => rfl
  | i :: r => ⟨.int i, r.map V.int, rfl, rfl, IsL.ints r⟩
theorem IsL.of_ints : ∀ {l : List Int} {xs : List V}, IsL K W H (l.map D.int) xs → xs = l.map V.int
  | [], xs, h => h
  | i :: r, xs, h => by
    obtain ⟨x, ys, e, h1, h2⟩ := h
    rw [e, show x = V.int i from h1, IsL.of_ints h2]; rfl
end

/-! ### cells -/
section
variable (K : PySem.W.Frag) (W : Addr → Prop) (H : Hp)
mutual
/-- v stands for the cell c; A: the objects that c alone holds -/
def RepC : C → V → List Addr → Prop
  | .frz d, v, A => A = [] ∧ Is K W H d v
  | .own l, v, A => ∃ a xs B, v = .ref a ∧ A = a :: B ∧ H a = some (.lst xs) ∧ RepL l xs B
  | .ownD l, v, A => ∃ a kvs, v = .ref a ∧ A = [a] ∧ H a = some (.dK kvs) ∧ IsP K W H l kvs
  | .ownT l, v, A => ∃ a kvs, v = .ref a ∧ A = [a] ∧ H a = some (.dT kvs) ∧ IsQ K W H l kvs
def RepL : List C → List V → List Addr → Prop
  | [], xs, A => xs = [] ∧ A = []
  | c :: r, xs, A => ∃ x ys B B', xs = x :: ys ∧ A = B ++ B' ∧ RepC c x B ∧ RepL r ys B'
end
end
section
variable {K : PySem.W.Frag} {W W' : Addr → Prop} {H H' : Hp}
mutual
/-- carried over: frozen parts by p, its own objects stand -/
theorem RepC.kp (p : Kp W H W' H') : ∀ (c : C) (v : V) (A : List Addr), (∀ a ∈ A, ∀ o, H a = some o → H' a = some o) → RepC K W H c v A → RepC K W' H' c v A
  | .frz d, v, A, _, h => ⟨h.1, Is.kp p d v h.2⟩
  | .own l, v, A, q, h => by
    obtain ⟨a, xs, B, e, eA, ha, r⟩ := h
    subst eA
    exact ⟨a, xs, B, e, rfl, q a (by simp) _ ha, RepL.kp p l xs B (fun b hb => q b (by simp [hb])) r⟩
  | .ownD l, v, A, q, h => by
    obtain ⟨a, xs, e, eA, ha, r⟩ := h
    subst eA
    exact ⟨a, xs, e, rfl, q a (by simp) _ ha, IsP.kp p l xs r⟩
  | .ownT l, v, A, q, h => by
    obtain ⟨a, xs, e, eA, ha, r⟩ := h
    subst eA
    exact ⟨a, xs, e, rfl, q a (by simp) _ ha, IsQ.kp p l xs r⟩
theorem RepL.kp (p : Kp W H W' H') : ∀ (l : List C) (xs : List V) (A : List Addr), (∀ a ∈ A, ∀ o, H a = some o → H' a = some o) → RepL K W H l xs A → RepL K W' H' l xs A
  | [], xs, A, _, h => h
  | c :: r, xs, A, q, h => by
    obtain ⟨x, ys, B, B', e, eA, h1, h2⟩ := h
    subst eA
    exact ⟨x, ys, B, B', e, rfl, RepC.kp p c x B (fun a ha => q a (by simp [ha])) h1, RepL.kp p r ys B' (fun a ha => q a (by simp [ha])) h2⟩
end
mutual
/-- a cell read as plain data: its objects are given up -/
theorem RepC.is (hw : ∀ a, W' a → W a) : ∀ (c : C) (v : V) (A : List Addr), (∀ a ∈ A, ¬ W' a) → RepC K W H c v A → Is K W' H c.toD v
  | .frz d, v, A, _, h => Is.kp (Kp.less hw) d v h.2
  | .own l, v, A, q, h => by
    obtain ⟨a, xs, B, e, eA, ha, r⟩ := h
    subst eA
    exact ⟨a, xs, e, ha, q a (by simp), RepL.is hw l xs B (fun b hb => q b (by simp [hb])) r⟩
  | .ownD l, v, A, q, h => by
    obtain ⟨a, xs, e, eA, ha, r⟩ := h
    subst eA
    exact ⟨a, xs, e, ha, q a (by simp), IsP.kp (Kp.less hw) l xs r⟩
  | .ownT l, v, A, q, h => by
    obtain ⟨a, xs, e, eA, ha, r⟩ := h
    subst eA
    exact ⟨a, xs, e, ha, q a (by simp), IsQ.kp (Kp.less hw) l xs r⟩
theorem RepL.is (hw : ∀ a, W' a → W a) : ∀ (l : List C) (xs : List V) (A : List Addr), (∀ a ∈ A, ¬ W' a) → RepL K W H l xs A → IsL K W' H (C.toDs l) xs
  | [], xs, A, _, h => h.1
  | c :: r, xs, A, q, h => by
    obtain ⟨x, ys, B, B', e, eA, h1, h2⟩ := h
    subst eA
    exact ⟨x, ys, e, RepC.is hw c x B (fun a ha => q a (by simp [ha])) h1, RepL.is hw r ys B' (fun a ha => q a (by simp [ha])) h2⟩
end
mutual
/-- its objects are tracked -/
theorem RepC.trk : ∀ (c : C) (v : V) (A : List Addr), RepC K W H c v A → ∀ a ∈ A, ∃ o, H a = some o
  | .frz d, v, A, h => by rw [h.1]; simp
  | .own l, v, A, h => by
    obtain ⟨a, xs, B, e, eA, ha, r⟩ := h
    subst eA
    intro b hb
    rcases List.mem_cons.mp hb with z | z
    · exact ⟨_, z ▸ ha⟩
    · exact RepL.trk l xs B r b z
  | .ownD l, v, A, h => by
    obtain ⟨a, xs, e, eA, ha, r⟩ := h
    subst eA
    intro b hb
    rw [List.mem_singleton.mp hb]
    exact ⟨_, ha⟩
  | .ownT l, v, A, h => by
    obtain ⟨a, xs, e, eA, ha, r⟩ := h
    subst eA
    intro b hb
    rw [List.mem_singleton.mp hb]
    exact ⟨_, ha⟩
theorem RepL.trk : ∀ (l : List C) (xs : List V) (A : List Addr), RepL K W H l xs A → ∀ a ∈ A, ∃ o, H a = some o
  | [], xs, A, h => by rw [h.2]; simp
  | c :: r, xs, A, h => by
    obtain ⟨x, ys, B, B', e, eA, h1, h2⟩ := h
    subst eA
    intro b hb
    rcases List.mem_append.mp hb with z | z
    · exact RepC.trk c x B h1 b z
    · exact RepL.trk r ys B' h2 b z
end
theorem RepL.append : ∀ {l l' : List C} {xs ys : List V} {A B : List Addr}, RepL K W H l xs A → RepL K W H l' ys B → RepL K W H (l ++ l') (xs ++ ys) (A ++ B)
  | [], l', xs, ys, A, B, h, h' => by rw [h.1, h.2]; exact h'
  | c :: r, l', xs, ys, A, B, h, h' => by
    obtain ⟨x, zs, A1, A2, e1, e2, h1, h2⟩ := h
    exact ⟨x, zs ++ ys, A1, A2 ++ B, by rw [e1]; rfl, by rw [e2, List.append_assoc], h1, RepL.append h2 h'⟩
theorem RepL.one {c : C} {x : V} {A : List Addr} (h : RepC K W H c x A) : RepL K W H [c] [x] A := ⟨x, [], A, [], rfl, by simp, h, rfl, rfl⟩
theorem RepL.length : ∀ {l : List C} {xs : List V} {A : List Addr}, RepL K W H l xs A → xs.length = l.length
  | [], xs, A, h => by rw [h.1]; rfl
  | c :: r, xs, A, h => by
    obtain ⟨x, zs, A1, A2, e1, e2, h1, h2⟩ := h
    rw [e1, List.length_cons, List.length_cons, RepL.length h2]
theorem RepL.frz : ∀ {l : List D} {xs : List V}, IsL K W H l xs → RepL K W H (l.map C.frz) xs []
  | [], xs, h => ⟨h, rfl⟩
  | d :: r, xs, h => by
    obtain ⟨x, ys, e, h1, h2⟩ := h
    exact ⟨x, ys, [], [], e, rfl, ⟨rfl, h1⟩, RepL.frz h2⟩
/-- split at a place -/
theorem RepL.at : ∀ {l : List C} {xs : List V} {A : List Addr} {i : Nat} {c : C}, RepL K W H l xs A → l[i]? = some c →
    ∃ x A1 A2 A3, xs[i]? = some x ∧ A = A1 ++ (A2 ++ A3) ∧ RepC K W H c x A2 ∧
      ∀ (W' : Addr → Prop) (H' : Hp) (c' : C) (x' : V) (A2' : List Addr), Kp W H W' H' → (∀ a ∈ A1 ++ A3, ∀ o, H a = some o → H' a = some o) → RepC K W' H' c' x' A2' → RepL K W' H' (l.set i c') (xs.set i x') (A1 ++ (A2' ++ A3))
  | [], xs, A, i, c, h, e => by simp at e
  | c0 :: r, xs, A, 0, c, h, e => by
    obtain ⟨x, zs, B, B', e1, e2, h1, h2⟩ := h
    simp at e
    subst e
    refine ⟨x, [], B, B', by rw [e1]; rfl, e2, h1, fun W' H' c' x' A2' p q h' => ?_⟩
    rw [e1]
    exact ⟨x', zs, A2', B', rfl, rfl, h', RepL.kp p r zs B' (fun a ha => q a (by simp [ha])) h2⟩
  | c0 :: r, xs, A, i + 1, c, h, e => by
    obtain ⟨x, zs, B, B', e1, e2, h1, h2⟩ := h
    obtain ⟨y, A1, A2, A3, g1, g2, g3, g4⟩ := RepL.at (i := i) h2 (by simpa using e)
    refine ⟨y, B ++ A1, A2, A3, by rw [e1]; simpa using g1, by rw [e2, g2]; simp, g3, fun W' H' c' x' A2' p q h' => ?_⟩
    rw [e1]
    exact ⟨x, zs.set i x', B, A1 ++ (A2' ++ A3), rfl, by simp, RepC.kp p c0 x B (fun a ha => q a (by simp [ha])) h1, g4 W' H' c' x' A2' p (fun a ha => q a (by
      rcases List.mem_append.mp ha with z | z <;> simp [z])) h'⟩
end
end PL
namespace PL
open PySem PySem.Spec PyProof.Rows L2

abbrev Slots := List (Option C)
section
variable (K : PySem.W.Frag) (W : Addr → Prop) (H : Hp)
/-- a slot: nothing is known, or a cell -/
def RepO : Option C → Option V → List Addr → Prop
  | none, _, A => A = []
  | some c, o, A => ∃ x, o = some x ∧ RepC K W H c x A
def RepE : Slots → List (Option V) → List Addr → Prop
  | [], σ, A => σ = [] ∧ A = []
  | oc :: r, σ, A => ∃ o τ A1 A2, σ = o :: τ ∧ A = A1 ++ A2 ∧ RepO K W H oc o A1 ∧ RepE r τ A2
end
section
variable {K : PySem.W.Frag} {W W' : Addr → Prop} {H H' : Hp}
theorem RepO.kp (p : Kp W H W' H') {oc : Option C} {o : Option V} {A : List Addr} (q : ∀ a ∈ A, ∀ o, H a = some o → H' a = some o) (h : RepO K W H oc o A) : RepO K W' H' oc o A := by
  cases oc with
  | none => exact h
  | some c =>
    obtain ⟨x, e, h⟩ := h
    exact ⟨x, e, RepC.kp p c x A q h⟩
theorem RepO.trk {oc : Option C} {o : Option V} {A : List Addr} (h : RepO K W H oc o A) : ∀ a ∈ A, ∃ u, H a = some u := by
  cases oc with
  | none => rw [show A = [] from h]; simp
  | some c =>
    obtain ⟨x, e, h⟩ := h
    exact RepC.trk c x A h
theorem RepE.kp (p : Kp W H W' H') : ∀ {env : Slots} {σ : List (Option V)} {A : List Addr}, (∀ a ∈ A, ∀ o, H a = some o → H' a = some o) → RepE K W H env σ A → RepE K W' H' env σ A
  | [], σ, A, _, h => h
  | oc :: r, σ, A, q, h => by
    obtain ⟨o, τ, A1, A2, e1, e2, h1, h2⟩ := h
    subst e2
    exact ⟨o, τ, A1, A2, e1, rfl, h1.kp p (fun a ha => q a (by simp [ha])), RepE.kp p (fun a ha => q a (by simp [ha])) h2⟩
theorem RepE.trk : ∀ {env : Slots} {σ : List (Option V)} {A : List Addr}, RepE K W H env σ A → ∀ a ∈ A, ∃ u, H a = some u
  | [], σ, A, h => by rw [h.2]; simp
  | oc :: r, σ, A, h => by
    obtain ⟨o, τ, A1, A2, e1, e2, h1, h2⟩ := h
    subst e2
    intro b hb
    rcases List.mem_append.mp hb with z | z
    · exact h1.trk b z
    · exact RepE.trk h2 b z
theorem RepE.length : ∀ {env : Slots} {σ : List (Option V)} {A : List Addr}, RepE K W H env σ A → σ.length = env.length
  | [], σ, A, h => by rw [h.1]; rfl
  | oc :: r, σ, A, h => by
    obtain ⟨o, τ, A1, A2, e1, e2, h1, h2⟩ := h
    rw [e1, List.length_cons, List.length_cons, RepE.length h2]
/-- at a slot: its own objects lie in the middle; it may be put anew -/
theorem RepE.at : ∀ {env : Slots} {σ : List (Option V)} {A : List Addr} {i : Nat} {oc : Option C}, RepE K W H env σ A → env[i]? = some oc →
    ∃ o A1 A2 A3, σ[i]? = some o ∧ A = A1 ++ (A2 ++ A3) ∧ RepO K W H oc o A2 ∧
      ∀ (W' : Addr → Prop) (H' : Hp) (oc' : Option C) (o' : Option V) (A2' : List Addr), Kp W H W' H' → (∀ a ∈ A1 ++ A3, ∀ o, H a = some o → H' a = some o) → RepO K W' H' oc' o' A2' → RepE K W' H' (env.set i oc') (σ.set i o') (A1 ++ (A2' ++ A3))
  | [], σ, A, i, oc, h, e => by simp at e
  | c0 :: r, σ, A, 0, oc, h, e => by
    obtain ⟨o, τ, B, B', e1, e2, h1, h2⟩ := h
    simp at e
    subst e
    refine ⟨o, [], B, B', by rw [e1]; rfl, e2, h1, fun W' H' c' x' A2' p q h' => ?_⟩
    rw [e1]
    exact ⟨x', τ, A2', B', rfl, rfl, h', RepE.kp p (fun a ha => q a (by simp [ha])) h2⟩
  | c0 :: r, σ, A, i + 1, oc, h, e => by
    obtain ⟨o, τ, B, B', e1, e2, h1, h2⟩ := h
    obtain ⟨y, A1, A2, A3, g1, g2, g3, g4⟩ := RepE.at (i := i) h2 (by simpa using e)
    refine ⟨y, B ++ A1, A2, A3, by rw [e1]; simpa using g1, by rw [e2, g2]; simp, g3, fun W' H' c' x' A2' p q h' => ?_⟩
    rw [e1]
    exact ⟨o, τ.set i x', B, A1 ++ (A2' ++ A3), rfl, by simp, h1.kp p (fun a ha => q a (by simp [ha])), g4 W' H' c' x' A2' p (fun a ha => q a (by
      rcases List.mem_append.mp ha with z | z <;> simp [z])) h'⟩
end

/-- the slots stand for env; O: what they alone hold; B: what must be left alone -/
structure Stt (K : PySem.W.Frag) (B : Addr → Prop) (H : Hp) (σ : List (Option V)) (env : Slots) (O : List Addr) : Prop where
  rep : RepE K (fun a => B a ∨ a ∈ O) H env σ O
  nd : O.Nodup
  dj : ∀ a ∈ O, ¬ B a
  tr : ∀ a, B a → ∃ u, H a = some u
/-- what was not the slots' own stands, and is no one's own -/
abbrev Frm (O : List Addr) (H : Hp) (A O' : List Addr) (H' : Hp) : Prop := Kp (fun a => a ∈ O) H (fun a => a ∈ A ∨ a ∈ O') H'
/-- behind an expression: its value v stands for c, whose own objects are A -/
structure Res (K : PySem.W.Frag) (B : Addr → Prop) (O : List Addr) (H : Hp) (σ : List (Option V)) (c : C) (env : Slots) (v : V) (H' : Hp) (A O' : List Addr) : Prop where
  rep : RepC K (fun a => (B a ∨ a ∈ A) ∨ a ∈ O') H' c v A
  stt : Stt K (fun a => B a ∨ a ∈ A) H' σ env O'
  nd : A.Nodup
  dj : ∀ a ∈ A, ¬ B a
  frm : Frm O H A O' H'

theorem Stt.less {K : PySem.W.Frag} {B B' : Addr → Prop} {H : Hp} {σ : List (Option V)} {env : Slots} {O : List Addr} (s : Stt K B H σ env O) (h : ∀ a, B' a → B a) : Stt K B' H σ env O :=
  ⟨RepE.kp (Kp.less fun a z => z.imp (h a) id) (fun _ _ _ e => e) s.rep, s.nd, fun a ha z => s.dj a ha (h a z), fun a z => s.tr a (h a z)⟩
/-- the heap has grown; B may take new things -/
theorem Stt.grow {K : PySem.W.Frag} {B B' : Addr → Prop} {H H' : Hp} {σ : List (Option V)} {env : Slots} {O : List Addr} (s : Stt K B H σ env O) (g : ∀ a o, H a = some o → H' a = some o)
    (hb : ∀ a, B' a → B a ∨ H a = none) (ht : ∀ a, B' a → ∃ u, H' a = some u) : Stt K B' H' σ env O := by
  have tro := RepE.trk s.rep
  refine ⟨RepE.kp (fun a o hw ha => ⟨g a o ha, fun z => ?_⟩) (fun a _ o e => g a o e) s.rep, s.nd, fun a ha z => ?_, ht⟩
  · rcases z with z | z
    · rcases hb a z with q | q
      · exact hw (.inl q)
      · rw [q] at ha; cases ha
    · exact hw (.inr z)
  · rcases hb a z with q | q
    · exact s.dj a ha q
    · obtain ⟨u, e⟩ := tro a ha
      rw [q] at e; cases e

/-! ### readings -/
structure Exn where
  cls : Str
  fs : Option (List (Str × D))
inductive Out (α : Type) where
  | ok (a : α) (e : Slots) | err (x : Exn) (e : Slots) | no
def Out.bind {α β : Type} (o : Out α) (k : α → Slots → Out β) : Out β := match o with
  | .ok a e => k a e
  | .err x e => .err x e
  | .no => .no
abbrev M (α : Type) := Slots → Out α
inductive SOut where
  | nx (e : Slots) | rt (c : C) (e : Slots) | bk (e : Slots) | ct (e : Slots) | err (x : Exn) (e : Slots) | no
abbrev SS := Slots → SOut

def IsX (K : PySem.W.Frag) (W : Addr → Prop) (H : Hp) : List (Str × D) → List (Str × V) → Prop
  | [], xs => xs = []
  | (k, d) :: r, xs => ∃ x ys, xs = (k, x) :: ys ∧ Is K W H d x ∧ IsX K W H r ys
/-- an exception -/
structure XRes (K : PySem.W.Frag) (mg : Str → Option Value) (B : Addr → Prop) (O : List Addr) (H : Hp) (σ : List (Option V)) (x : Exn) (env : Slots) (cls : Value) (d : Option Addr) (H' : Hp) (O' : List Addr) : Prop where
  cls : mg x.cls = some cls
  fs : match x.fs with
    | none => d = none
    | some fs => ∃ dd vs, d = some dd ∧ H' dd = some (.xd vs) ∧ ¬ B dd ∧ dd ∉ O' ∧ IsX K (fun a => B a ∨ a ∈ O') H' fs vs
  stt : Stt K B H' σ env O'
  frm : Frm O H [] O' H'

section
variable (X : Cx) (w : WX)
def rdE (f : M C) : TE := fun σ H Q => ∃ B env O, Stt X.K B H σ env O ∧ match f env with
  | .ok c env' => ∀ v H' A O', Res X.K B O H σ c env' v H' A O' → Q v H'
  | .err x env' => ∀ cls d H' O', XRes X.K X.mg B O H σ x env' cls d H' O' → w cls d σ H'
  | .no => False
def rdT (f : M Bool) : TT := fun σ H Q => ∃ B env O, Stt X.K B H σ env O ∧ match f env with
  | .ok b env' => ∀ H' O', Stt X.K B H' σ env' O' → Frm O H [] O' H' → Q b H'
  | .err x env' => ∀ cls d H' O', XRes X.K X.mg B O H σ x env' cls d H' O' → w cls d σ H'
  | .no => False
end
abbrev EOk (X : Cx) (w : WX) (e : Expr) (f : M C) : Prop := PE X e (rdE X w f)
abbrev TOk (X : Cx) (w : WX) (e : Expr) (f : M Bool) : Prop := PT X e (rdT X w f)
theorem _root_.L2.PE.imp {X : Cx} {e : Expr} {t t' : TE} (h : PE X e t) (i : ∀ σ H Q, t' σ H Q → t σ H Q) : PE X e t' := ⟨fun pins s σ H Q I hw => h.run pins s σ H Q I (i σ H Q hw)⟩
theorem _root_.L2.PT.imp {X : Cx} {e : Expr} {t t' : TT} (h : PT X e t) (i : ∀ σ H Q, t' σ H Q → t σ H Q) : PT X e t' := ⟨fun pins s σ H Q I hw => h.run pins s σ H Q I (i σ H Q hw)⟩
theorem _root_.L2.PA.imp {X : Cx} {es : List Expr} {t t' : TA} (h : PA X es t) (i : ∀ σ H Q, t' σ H Q → t σ H Q) : PA X es t' := ⟨fun pos pins s σ H Q I hw => h.run pos pins s σ H Q I (i σ H Q hw)⟩
theorem _root_.L2.PS.imp {X : Cx} {e : Stmt} {t t' : TS} (h : PS X e t) (i : ∀ D σ H, t' D σ H → t D σ H) : PS X e t' := ⟨fun pins s σ H D I hw => h.run pins s σ H D I (i D σ H hw)⟩
theorem _root_.L2.PSs.imp {X : Cx} {e : List Stmt} {t t' : TS} (h : PSs X e t) (i : ∀ D σ H, t' D σ H → t D σ H) : PSs X e t' := ⟨fun pins s σ H D I hw => h.run pins s σ H D I (i D σ H hw)⟩

section
variable {X : Cx} {w : WX} {K : PySem.W.Frag} {mg : Str → Option Value} {B : Addr → Prop} {O O1 O2 A A1 A2 : List Addr} {H H1 H2 H3 : Hp} {σ : List (Option V)} {env e1 e2 : Slots} {c c1 c2 : C} {v v1 v2 : V}
/-- two frames in a row: A1 (told as B's) is kept, then given up -/
theorem Frm.seq (f1 : Frm O H A1 O1 H1) (f2 : Frm O1 H1 A2 O2 H2) : Kp (fun a => a ∈ O) H (fun a => a ∈ A1 ∨ a ∈ A2 ∨ a ∈ O2) H2 := fun a o w h => by
  obtain ⟨h1, n1⟩ := f1 a o w h
  obtain ⟨h2, n2⟩ := f2 a o (fun z => n1 (.inr z)) h1
  exact ⟨h2, fun z => z.elim (fun z => n1 (.inl z)) n2⟩
theorem Frm.seq' (f1 : Frm O H A1 O1 H1) (f2 : Frm O1 H1 A2 O2 H2) : Frm O H A2 O2 H2 := fun a o w h => by
  obtain ⟨h1, n1⟩ := f1.seq f2 a o w h
  exact ⟨h1, fun z => n1 (.inr z)⟩
/-- a value that was held while another thing ran -/
theorem Res.held (r : Res K B O H σ c1 e1 v1 H1 A1 O1) (s2 : Stt K (fun a => B a ∨ a ∈ A1) H2 σ e2 O2) (f2 : Frm O1 H1 A2 O2 H2) (nb : ∀ a ∈ A2, ¬ (B a ∨ a ∈ A1)) :
    RepC K (fun a => ((B a ∨ a ∈ A1) ∨ a ∈ A2) ∨ a ∈ O2) H2 c1 v1 A1 := by
  refine RepC.kp (fun a o hw ha => ?_) _ _ _ (fun a ha o e => ?_) r.rep
  · obtain ⟨q, n⟩ := f2 a o (fun z => hw (.inr z)) ha
    refine ⟨q, fun z => ?_⟩
    rcases z with (z | z) | z
    · exact hw (.inl z)
    · exact n (.inl z)
    · exact n (.inr z)
  · exact (f2 a o (fun z => r.stt.dj a z (.inr ha)) e).1
theorem Res.heldIs (r : Res K B O H σ c1 e1 v1 H1 A1 O1) (s2 : Stt K (fun a => B a ∨ a ∈ A1) H2 σ e2 O2) (f2 : Frm O1 H1 A2 O2 H2) (nb : ∀ a ∈ A2, ¬ (B a ∨ a ∈ A1)) :
    Is K (fun a => B a ∨ a ∈ O2) H2 c1.toD v1 :=
  RepC.is (fun a z => z.elim (fun z => .inl (.inl (.inl z))) .inr) _ _ _ (fun a ha z => z.elim (r.dj a ha) fun z => s2.dj a z (.inr ha)) (r.held s2 f2 nb)
theorem Res.is (r : Res K B O H σ c e1 v H1 A O1) : Is K (fun a => B a ∨ a ∈ O1) H1 c.toD v :=
  RepC.is (fun a z => z.elim (fun z => .inl (.inl z)) .inr) _ _ _ (fun a ha z => z.elim (r.dj a ha) fun z => r.stt.dj a z (.inr ha)) r.rep

/-- a new value over a heap that has grown -/
structure New (K : PySem.W.Frag) (W : Addr → Prop) (H : Hp) (c : C) (v : V) (H' : Hp) (A : List Addr) : Prop where
  grow : ∀ a o, H a = some o → H' a = some o
  rep : RepC K (fun a => W a ∨ a ∈ A) H' c v A
  nd : A.Nodup
  fresh : ∀ a ∈ A, H a = none
theorem New.of_is {W : Addr → Prop} {d : D} (h : Is K W H d v) : New K W H (.frz d) v H [] := ⟨fun _ _ e => e, ⟨rfl, Is.kp (Kp.less fun a z => z.elim id fun z => nomatch z) _ _ h⟩, .nil, fun _ z => nomatch z⟩
theorem Res.new (s : Stt K B H1 σ env O1) (f : Frm O H [] O1 H1) (n : New K (fun a => B a ∨ a ∈ O1) H1 c v H2 A) : Res K B O H σ c env v H2 A O1 := by
  have nb : ∀ a ∈ A, ¬ B a := fun a ha z => by
    obtain ⟨u, e⟩ := s.tr a z
    rw [n.fresh a ha] at e; cases e
  have no : ∀ a ∈ A, a ∉ O1 := fun a ha z => by
    obtain ⟨u, e⟩ := RepE.trk s.rep a z
    rw [n.fresh a ha] at e; cases e
  refine ⟨?_, ?_, n.nd, nb, fun a o hw ha => ?_⟩
  · refine RepC.kp (Kp.less fun a z => ?_) _ _ _ (fun _ _ _ e => e) n.rep
    rcases z with (z | z) | z
    · exact .inl (.inl z)
    · exact .inr z
    · exact .inl (.inr z)
  · refine s.grow n.grow (fun a z => z.imp id (n.fresh a)) fun a z => ?_
    rcases z with z | z
    · obtain ⟨u, e⟩ := s.tr a z
      exact ⟨u, n.grow a u e⟩
    · exact RepC.trk _ _ _ n.rep a z
  · obtain ⟨h1, n1⟩ := f a o hw ha
    refine ⟨n.grow a o h1, fun z => ?_⟩
    rcases z with z | z
    · rw [n.fresh a z] at h1; cases h1
    · exact n1 (.inr z)
/-- an exception behind a held value -/
theorem XRes.under {x : Exn} {cls : Value} {d : Option Addr} (f1 : Frm O H A1 O1 H1) (x2 : XRes K mg (fun a => B a ∨ a ∈ A1) O1 H1 σ x e2 cls d H2 O2) : XRes K mg B O H σ x e2 cls d H2 O2 := by
  refine ⟨x2.cls, ?_, x2.stt.less fun a z => .inl z, f1.seq' x2.frm⟩
  have q := x2.fs
  cases e : x.fs with
  | none => rw [e] at q; exact q
  | some fs =>
    rw [e] at q
    obtain ⟨dd, vs, h1, h2, h3, h4, h5⟩ := q
    refine ⟨dd, vs, h1, h2, fun z => h3 (.inl z), h4, ?_⟩
    have go : ∀ (l : List (Str × D)) (xs : List (Str × V)), IsX K (fun a => (B a ∨ a ∈ A1) ∨ a ∈ O2) H2 l xs → IsX K (fun a => B a ∨ a ∈ O2) H2 l xs := by
      intro l
      induction l with
      | nil => intro xs h; exact h
      | cons p r ih =>
        intro xs h
        obtain ⟨y, ys, g1, g2, g3⟩ := h
        exact ⟨y, ys, g1, Is.kp (Kp.less fun a z => z.imp .inl id) _ _ g2, ih ys g3⟩
    exact go fs vs h5
theorem Frm.refl : Frm O H [] O H := fun a o w h => ⟨h, fun z => z.elim (fun z => nomatch z) w⟩

/-! ### a name, by its value: what it alone held is given up -/
def eV (i : Nat) : M C := fun env => match env[i]? with
  | some (some (.frz d)) => .ok (.frz d) env
  | some (some c) => .ok (.frz c.toD) (env.set i (some (.frz c.toD)))
  | _ => .no
theorem set_same {α : Type} : ∀ {l : List α} {i : Nat} {x : α}, l[i]? = some x → l.set i x = l
  | [], i, x, h => rfl
  | y :: r, 0, x, h => by simp at h; simp [h]
  | y :: r, i + 1, x, h => by
    simp only [List.set_cons_succ, List.cons.injEq, true_and]
    exact set_same (by simpa using h)
/-- a slot's cell given up -/
theorem Stt.give {i : Nat} (s : Stt K B H σ env O) (e : env[i]? = some (some c)) : ∃ x O', σ[i]? = some (some x) ∧ Stt K B H σ (env.set i (some (.frz c.toD))) O' ∧ Frm O H [] O' H ∧ Is K (fun a => B a ∨ a ∈ O') H c.toD x := by
  obtain ⟨o, A1, A2, A3, h1, h2, h3, h4⟩ := RepE.at s.rep e
  obtain ⟨x, rfl, hc⟩ := h3
  have nd := s.nd
  rw [h2] at nd
  have sub : ∀ a, a ∈ A1 ++ A3 → a ∈ O := fun a ha => by rw [h2]; simp at ha ⊢; rcases ha with z | z <;> simp [z]
  have n2 : ∀ a ∈ A2, a ∉ A1 ++ A3 := fun a ha z => by
    have q1 := (List.nodup_append.mp nd).2.2
    have q2 := (List.nodup_append.mp (List.nodup_append.mp nd).2.1).2.2
    rcases List.mem_append.mp z with z | z
    · exact q1 a z a (by simp [ha]) rfl
    · exact q2 a ha a z rfl
  have his : Is K (fun a => B a ∨ a ∈ A1 ++ A3) H c.toD x := RepC.is (fun a z => z.imp id (sub a)) _ _ _ (fun a ha z => z.elim (s.dj a (by rw [h2]; simp [ha])) (n2 a ha)) hc
  refine ⟨x, A1 ++ A3, h1, ⟨?_, ?_, fun a ha => s.dj a (sub a ha), s.tr⟩, fun a o hw ha => ⟨ha, fun z => z.elim (fun z => nomatch z) fun z => hw (sub a z)⟩, his⟩
  · have q := h4 (fun a => B a ∨ a ∈ A1 ++ A3) H (some (.frz c.toD)) (some x) [] (Kp.less fun a z => z.imp id (sub a)) (fun _ _ _ e => e) ⟨x, rfl, rfl, his⟩
    rw [set_same h1] at q
    simpa using q
  · have q := List.nodup_append.mp nd
    have q2 := List.nodup_append.mp q.2.1
    exact List.nodup_append.mpr ⟨q.1, q2.2.1, fun a ha b hb => q.2.2 a ha b (by simp [hb])⟩
theorem e_V {i : Nat} {x : Str} {pos : Pos} (hN : X.N[i]? = some x) (hv : Vis X.env.scope x) (hd : (x == ("__debug__" : Str)) = false := by decide) (hcd : (x == ("__classdict__" : Str)) = false := by decide) :
    EOk X w (.Name x pos) (eV i) := by
  refine (pe_var (i := i) hN hv hd hcd).imp fun σ H Q h => ?_
  obtain ⟨B, env, O, s, h⟩ := h
  have key : ∀ c, env[i]? = some (some c) → (∀ v O', Res X.K B O H σ (.frz c.toD) (env.set i (some (.frz c.toD))) v H [] O' → Q v H) → tVar i σ H Q := fun c e k => by
    obtain ⟨x, O', h1, h2, h3, h4⟩ := s.give e
    exact ⟨x, h1, k x O' (Res.new h2 h3 (New.of_is h4))⟩
  unfold eV at h
  cases e : env[i]? with
  | none => rw [e] at h; exact h.elim
  | some oc =>
    cases oc with
    | none => rw [e] at h; exact h.elim
    | some c =>
      refine key c e fun v O' r => ?_
      rw [e] at h
      cases c with
      | frz d =>
        rw [show (C.frz d).toD = d from by simp [C.toD], set_same e] at r
        exact h v _ _ _ r
      | own l => exact h v _ _ _ r
      | ownD l => exact h v _ _ _ r
      | ownT l => exact h v _ _ _ r

/-! ### constants -/
def eK (d : D) : M C := fun env => .ok (.frz d) env
theorem e_C {e : Expr} {d : D} {v : V} (h : PE X e (tC v)) (hi : ∀ K W H, Is K W H d v) : EOk X w e (eK d) := h.imp fun σ H Q h => by
  obtain ⟨B, env, O, s, h⟩ := h
  exact h v H [] O (Res.new s Frm.refl (New.of_is (hi _ _ _)))
theorem e_int {i j pos} : EOk X w (.Constant (.int i) j pos) (eK (.int i)) := e_C pe_int fun _ _ _ => rfl
theorem e_bl {b j pos} : EOk X w (.Constant (.bool b) j pos) (eK (.bl b)) := e_C pe_bl fun _ _ _ => rfl
theorem e_non {j pos} : EOk X w (.Constant .none j pos) (eK .non) := e_C pe_non fun _ _ _ => rfl
theorem e_str {x j pos} : EOk X w (.Constant (.str x) j pos) (eK (.str x)) := e_C pe_str fun _ _ _ => rfl
theorem e_glob {x : Str} {v : V} {d : D} {u : Value} {pos : Pos} (hg : Gl X x) (hm : X.mg x = some u) (r : RelV v u) (hi : ∀ K W H, Is K W H d v) (hd : (x == ("__debug__" : Str)) = false := by decide) : EOk X w (.Name x pos) (eK d) := e_C (pe_glob hg hm r hd) hi

/-! ### operators -/
/-- a rule of the layer serves an operation on plain data -/
def OpS (K : PySem.W.Frag) (r : R2) (op : D → D → Option C) : Prop := ∀ (W : Addr → Prop) (H : Hp) (x y : V) (d1 d2 : D) (c : C) (Q : VK), (∀ a, W a → ∃ u, H a = some u) → Is K W H d1 x → Is K W H d2 y → op d1 d2 = some c →
  (∀ v H' A, New K W H c v H' A → Q v H') → r x y H Q
def eBin (op : D → D → Option C) (f g : M C) : M C := fun env => (f env).bind fun c e1 => (g e1).bind fun c' e2 => match op c.toD c'.toD with
  | some r => .ok r e2
  | none => .no
theorem Stt.trk (s : Stt K B H σ env O) : ∀ a, B a ∨ a ∈ O → ∃ u, H a = some u := fun a z => z.elim (s.tr a) (RepE.trk s.rep a)
theorem tOp_of {r : R2} {op : D → D → Option C} {f g : M C} (h : OpS X.K r op) (σ : L2.St) (H : Hp) (Q : VK) (hq : rdE X w (eBin op f g) σ H Q) : tOp r (rdE X w f) (rdE X w g) σ H Q := by
  obtain ⟨B, env, O, s, hq⟩ := hq
  refine ⟨B, env, O, s, ?_⟩
  unfold eBin at hq
  cases ef : f env with
  | no => rw [ef] at hq; exact hq.elim
  | err x e => rw [ef] at hq; exact hq
  | ok c e1 =>
    rw [ef] at hq
    intro v H1 A O1 r1
    refine ⟨fun a => B a ∨ a ∈ A, e1, O1, r1.stt, ?_⟩
    simp only [Out.bind] at hq
    cases eg : g e1 with
    | no => rw [eg] at hq; exact hq.elim
    | err x e => 
      rw [eg] at hq
      exact fun cls d H' O' x2 => hq cls d H' O' (XRes.under r1.frm x2)
    | ok c' e2 =>
      rw [eg] at hq
      intro v' H2 A' O2 r2
      simp only [] at hq
      cases eo : op c.toD c'.toD with
      | none => rw [eo] at hq; exact hq.elim
      | some cr =>
        rw [eo] at hq
        have s2 : Stt X.K (fun a => B a ∨ a ∈ A) H2 σ e2 O2 := r2.stt.less fun a z => .inl z
        have s3 : Stt X.K B H2 σ e2 O2 := s2.less fun a z => .inl z
        have i1 := r1.heldIs s2 r2.frm r2.dj
        have i2 : Is X.K (fun a => B a ∨ a ∈ O2) H2 c'.toD v' := Is.kp (Kp.less fun a z => z.imp .inl id) _ _ r2.is
        refine h _ H2 v v' _ _ cr Q s3.trk i1 i2 eo fun u H' A'' n => hq u H' A'' O2 (Res.new s3 (r1.frm.seq' ?_) n)
        exact fun a o hw ha => let ⟨q1, q2⟩ := r2.frm a o hw ha; ⟨q1, fun z => z.elim (fun z => nomatch z) fun z => q2 (.inr z)⟩
theorem e_bin {a b : Expr} {o : Operator} {f g : M C} {r : R2} {op : D → D → Option C} {pos : Pos} (ho : OpR X (binaryOp o) r) (h : OpS X.K r op) (ha : EOk X w a f) (hb : EOk X w b g) : EOk X w (.BinOp a o b pos) (eBin op f g) :=
  (pe_op ho ha hb).imp (tOp_of h)
end
end PL
namespace PL
open PySem PySem.Spec PyProof.Rows L2

/-! ### pure expressions: the slots stay, the heap stays -/
abbrev P := Slots → Option D
abbrev PB := Slots → Option Bool
def NoW : Addr → Prop := fun _ => False
abbrev Grw (H H' : Hp) : Prop := ∀ a o, H a = some o → H' a = some o
section
variable (X : Cx)
/-- a pure expression: the slots stay, the heap may grow -/
def rdP (p : P) : TE := fun σ H Q => ∃ B env O, Stt X.K B H σ env O ∧ ∃ d, p env = some d ∧ ∀ v H', Grw H H' → Is X.K (fun a => B a ∨ a ∈ O) H' d v → Q v H'
/-- the same of a value that may be a slot's own -/
def rdB (p : P) : TE := fun σ H Q => ∃ B env O, Stt X.K B H σ env O ∧ ∃ d, p env = some d ∧ ∀ v H', Grw H H' → Is X.K NoW H' d v → Q v H'
def rdQ (p : PB) : TT := fun σ H Q => ∃ B env O, Stt X.K B H σ env O ∧ ∃ b, p env = some b ∧ ∀ H', Grw H H' → Q b H'
end
abbrev POk (X : Cx) (e : Expr) (p : P) : Prop := PE X e (rdP X p)
abbrev BOk (X : Cx) (e : Expr) (p : P) : Prop := PE X e (rdB X p)
abbrev QOk (X : Cx) (e : Expr) (p : PB) : Prop := PT X e (rdQ X p)
theorem Is.noW {K : PySem.W.Frag} {W : Addr → Prop} {H : Hp} {d : D} {v : V} (h : Is K W H d v) : Is K NoW H d v := Is.kp (Kp.less fun _ z => z.elim) _ _ h
theorem IsL.noW {K : PySem.W.Frag} {W : Addr → Prop} {H : Hp} {d : List D} {v : List V} (h : IsL K W H d v) : IsL K NoW H d v := IsL.kp (Kp.less fun _ z => z.elim) _ _ h
theorem Grw.refl {H : Hp} : Grw H H := fun _ _ e => e
theorem Grw.trans {H H1 H2 : Hp} (g : Grw H H1) (g' : Grw H1 H2) : Grw H H2 := fun a o e => g' a o (g a o e)
theorem Grw.kp {W : Addr → Prop} {H H' : Hp} (g : Grw H H') : Kp W H W H' := fun a o w e => ⟨g a o e, w⟩
theorem Is.grw {K : PySem.W.Frag} {W : Addr → Prop} {H H' : Hp} {d : D} {v : V} (g : Grw H H') (h : Is K W H d v) : Is K W H' d v := Is.kp g.kp _ _ h
theorem IsL.grw {K : PySem.W.Frag} {W : Addr → Prop} {H H' : Hp} {d : List D} {v : List V} (g : Grw H H') (h : IsL K W H d v) : IsL K W H' d v := IsL.kp g.kp _ _ h
theorem Stt.grw {K : PySem.W.Frag} {B : Addr → Prop} {H H' : Hp} {σ : List (Option V)} {env : Slots} {O : List Addr} (s : Stt K B H σ env O) (g : Grw H H') : Stt K B H' σ env O :=
  s.grow g (fun _ z => .inl z) fun a z => let ⟨u, e⟩ := s.tr a z; ⟨u, g a u e⟩

/-- scalars -/
def ofV : V → D
  | .non => .non
  | .bl b => .bl b
  | .int i => .int i
  | .str s => .str s
  | v => .opq v
theorem is_ofV {K : PySem.W.Frag} {W : Addr → Prop} {H : Hp} : ∀ {x v : V}, Is K W H (ofV x) v → v = x
  | .non, v, h => h | .bl b, v, h => h | .int i, v, h => h | .str s, v, h => h
  | .byt b, v, h => h | .flt b, v, h => h | .ref a, v, h => h | .ty n, v, h => h
theorem ofV_is (K : PySem.W.Frag) (W : Addr → Prop) (H : Hp) : ∀ (x : V), Is K W H (ofV x) x
  | .non => rfl | .bl b => rfl | .int i => rfl | .str s => rfl
  | .byt b => rfl | .flt b => rfl | .ref a => rfl | .ty n => rfl
@[simp] theorem ofV_non : ofV .non = .non := rfl
@[simp] theorem ofV_bl (b) : ofV (.bl b) = .bl b := rfl
@[simp] theorem ofV_int (i) : ofV (.int i) = .int i := rfl
@[simp] theorem ofV_str (i) : ofV (.str i) = .str i := rfl

section
variable {X : Cx} {w : WX} {H : Hp} {σ : L2.St} {e : Expr} {p q r : P} {pos : Pos}
theorem b_P (h : POk X e p) : BOk X e p := h.imp fun σ H Q h => by
  obtain ⟨B, env, O, s, d, hp, h⟩ := h
  exact ⟨B, env, O, s, d, hp, fun v H' g hv => h v H' g hv.noW⟩
/-- a pure expression among the others -/
def eP (p : P) : M C := fun env => match p env with | some d => .ok (.frz d) env | none => .no
theorem e_P (h : POk X e p) : EOk X w e (eP p) := h.imp fun σ H Q h => by
  obtain ⟨B, env, O, s, h⟩ := h
  unfold eP at h
  cases hp : p env with
  | none => rw [hp] at h; exact h.elim
  | some d =>
    rw [hp] at h
    exact ⟨B, env, O, s, d, hp, fun v H' g hv => h v H' [] O (Res.new s Frm.refl ⟨g, ⟨rfl, Is.kp (Kp.less fun a z => z.elim id fun z => nomatch z) _ _ hv⟩, .nil, fun _ z => nomatch z⟩)⟩
def tP (p : PB) : M Bool := fun env => match p env with | some b => .ok b env | none => .no
theorem t_P {p : PB} (h : QOk X e p) : TOk X w e (tP p) := h.imp fun σ H Q h => by
  obtain ⟨B, env, O, s, h⟩ := h
  unfold tP at h
  cases hp : p env with
  | none => rw [hp] at h; exact h.elim
  | some b =>
    rw [hp] at h
    exact ⟨B, env, O, s, b, hp, fun H' g => h H' O (s.grw g) fun a o hw ha => ⟨g a o ha, fun z => z.elim (fun z => nomatch z) hw⟩⟩

/-! ### names, constants -/
def pV (i : Nat) : P := fun env => match env[i]? with
  | some (some (.frz d)) => some d
  | _ => none
def bV (i : Nat) : P := fun env => match env[i]? with
  | some (some c) => some c.toD
  | _ => none
theorem p_V {i : Nat} {x : Str} (hN : X.N[i]? = some x) (hv : Vis X.env.scope x) (hd : (x == ("__debug__" : Str)) = false := by decide) (hcd : (x == ("__classdict__" : Str)) = false := by decide) :
    POk X (.Name x pos) (pV i) := (pe_var (i := i) hN hv hd hcd).imp fun σ H Q h => by
  obtain ⟨B, env, O, s, d, hp, h⟩ := h
  unfold pV at hp
  split at hp
  · rename_i d' e
    cases hp
    obtain ⟨x, O', h1, h2, h3, h4⟩ := s.give e
    obtain ⟨o, A1, A2, A3, g1, g2, ⟨y, g3, g4, g5⟩, _⟩ := RepE.at s.rep e
    exact ⟨y, by rw [g1, g3], h y H Grw.refl g5⟩
  · cases hp
theorem b_V {i : Nat} {x : Str} (hN : X.N[i]? = some x) (hv : Vis X.env.scope x) (hd : (x == ("__debug__" : Str)) = false := by decide) (hcd : (x == ("__classdict__" : Str)) = false := by decide) :
    BOk X (.Name x pos) (bV i) := (pe_var (i := i) hN hv hd hcd).imp fun σ H Q h => by
  obtain ⟨B, env, O, s, d, hp, h⟩ := h
  unfold bV at hp
  split at hp
  · rename_i c e
    cases hp
    obtain ⟨x, O', h1, h2, h3, h4⟩ := s.give e
    exact ⟨x, h1, h x H Grw.refl h4.noW⟩
  · cases hp
def pK (d : D) : P := fun _ => some d
theorem p_C {d : D} {v : V} (h : PE X e (tC v)) (hi : ∀ K W H, Is K W H d v) : POk X e (pK d) := h.imp fun σ H Q h => by
  obtain ⟨B, env, O, s, d', hp, h⟩ := h
  cases hp
  exact h v H Grw.refl (hi _ _ _)
theorem p_int {i j} : POk X (.Constant (.int i) j pos) (pK (.int i)) := p_C pe_int fun _ _ _ => rfl
theorem p_bl {b j} : POk X (.Constant (.bool b) j pos) (pK (.bl b)) := p_C pe_bl fun _ _ _ => rfl
theorem p_non {j} : POk X (.Constant .none j pos) (pK .non) := p_C pe_non fun _ _ _ => rfl
theorem p_str {x j} : POk X (.Constant (.str x) j pos) (pK (.str x)) := p_C pe_str fun _ _ _ => rfl
theorem p_glob {x : Str} {v : V} {u : Value} (hg : Gl X x) (hm : X.mg x = some u) (r : RelV v u) (hd : (x == ("__debug__" : Str)) = false := by decide) : POk X (.Name x pos) (pK (ofV v)) := p_C (pe_glob hg hm r hd) fun _ _ _ => ofV_is _ _ _ v

/-! ### operators on scalars -/
def PureS (K : PySem.W.Frag) (r : R2) (op : D → D → Option V) : Prop := ∀ (H : Hp) (x y : V) (d1 d2 : D) (v : V) (Q : VK), Is K NoW H d1 x → Is K NoW H d2 y → op d1 d2 = some v → Q v H → r x y H Q
def pOp (op : D → D → Option V) (p q : P) : P := fun env => match p env, q env with
  | some a, some b => (op a b).map ofV
  | _, _ => none
theorem pOp_of {r : R2} {op : D → D → Option V} {pp qq : P} (h : PureS X.K r op) (σ : L2.St) (H : Hp) (Q : VK) (hq : rdP X (pOp op pp qq) σ H Q) : tOp r (rdB X pp) (rdB X qq) σ H Q := by
  obtain ⟨B, env, O, s, d, hp, hq⟩ := hq
  unfold pOp at hp
  cases e1 : pp env with
  | none => rw [e1] at hp; simp at hp
  | some d1 =>
    cases e2 : qq env with
    | none => rw [e1, e2] at hp; simp at hp
    | some d2 =>
      rw [e1, e2] at hp
      simp only [Option.map_eq_some_iff] at hp
      obtain ⟨v, hv, rfl⟩ := hp
      exact ⟨B, env, O, s, d1, e1, fun x H1 g1 hx => ⟨B, env, O, s.grw g1, d2, e2, fun y H2 g2 hy => h H2 x y d1 d2 v Q (hx.grw g2) hy hv (hq v H2 (g1.trans g2) (ofV_is _ _ _ v))⟩⟩
theorem p_op {a b : Expr} {o : Operator} {op : D → D → Option V} {r : R2} (ho : OpR X (binaryOp o) r) (h : PureS X.K r op) (ha : BOk X a p) (hb : BOk X b q) : POk X (.BinOp a o b pos) (pOp op p q) :=
  (pe_op ho ha hb).imp (pOp_of h)
theorem p_cmp {a b : Expr} {o : CmpOp} {op : D → D → Option V} {r : R2} (ho : OpR X (compareOp o) r) (h : PureS X.K r op) (hm : behindInMarks o b = false) (ha : BOk X a p) (hb : BOk X b q) : POk X (.Compare a [o] [b] pos) (pOp op p q) :=
  (pe_cmpR ho ha hb hm).imp (pOp_of h)
/-- as a test -/
def qOf (p : P) : PB := fun env => match p env with | some (.bl b) => some b | _ => none
theorem qOf_of {t : TE} (ht : ∀ σ H Q, rdP X p σ H Q → t σ H Q) (σ : L2.St) (H : Hp) (Q : Bool → Hp → Prop) (h : rdQ X (qOf p) σ H Q) : tTest t σ H Q := by
  obtain ⟨B, env, O, s, b, hp, h⟩ := h
  unfold qOf at hp
  split at hp
  · rename_i c e
    cases hp
    exact ht σ H _ ⟨B, env, O, s, _, e, fun v H' g hv => ⟨b, hv, h H' g⟩⟩
  · cases hp
theorem q_cmp {a b : Expr} {o : CmpOp} {op : D → D → Option V} {r : R2} (ho : OpR X (compareOp o) r) (h : PureS X.K r op) (hm : behindInMarks o b = false) (ha : BOk X a p) (hb : BOk X b q) : QOk X (.Compare a [o] [b] pos) (qOf (pOp op p q)) :=
  (pt_cmpR ho ha hb hm).imp (qOf_of (pOp_of h))
theorem q_val (h : POk X e p) (he : ∀ whole, isTrue e X.env whole = (do let v ← whole; standAt e.pos; holding [v] (truthy v)) := by intro _; rfl) : QOk X e (qOf p) :=
  (pt_val h he).imp (qOf_of fun _ _ _ h => h)

/-- (a op b op' c) -/
def pChain (op op' : D → D → Option V) (p q r : P) : P := fun env => match p env, q env with
  | some a, some b => match op a b with
    | some (.bl true) => match r env with
      | some c => (op' b c).map ofV
      | none => none
    | some (.bl false) => some (.bl false)
    | _ => none
  | _, _ => none
theorem pChain_of {r r' : R2} {op op' : D → D → Option V} {pp qq rr : P} (h : PureS X.K r op) (h' : PureS X.K r' op') (σ : L2.St) (H : Hp) (Q : VK) (hq : rdP X (pChain op op' pp qq rr) σ H Q) : tChain r r' (rdB X pp) (rdB X qq) (rdB X rr) σ H Q := by
  obtain ⟨B, env, O, s, d, hp, hq⟩ := hq
  unfold pChain at hp
  cases e1 : pp env with
  | none => rw [e1] at hp; simp at hp
  | some d1 =>
    cases e2 : qq env with
    | none => rw [e1, e2] at hp; simp at hp
    | some d2 =>
      rw [e1, e2] at hp
      refine ⟨B, env, O, s, d1, e1, fun x H1 g1 hx => ⟨B, env, O, s.grw g1, d2, e2, fun y H2 g2 hy => ?_⟩⟩
      cases eo : op d1 d2 with
      | none => simp [eo] at hp
      | some k =>
        refine h H2 x y d1 d2 k _ (hx.grw g2) hy eo ?_
        cases k with
        | bl k =>
          refine ⟨k, rfl, ?_⟩
          cases k with
          | true =>
            simp only [eo] at hp
            cases e3 : rr env with
            | none => simp [e3] at hp
            | some d3 =>
              simp only [e3, Option.map_eq_some_iff] at hp
              obtain ⟨v, hv, rfl⟩ := hp
              rw [if_pos rfl]
              exact ⟨B, env, O, (s.grw g1).grw g2, d3, e3, fun z H3 g3 hz => h' H3 y z d2 d3 v Q (hy.grw g3) hz hv (hq v H3 ((g1.trans g2).trans g3) (ofV_is _ _ _ v))⟩
          | false =>
            simp only [eo, Option.some.injEq] at hp
            subst hp
            rw [if_neg Bool.false_ne_true]
            exact hq _ H2 (g1.trans g2) rfl
        | non => simp [eo] at hp
        | int _ => simp [eo] at hp
        | str _ => simp [eo] at hp
        | byt _ => simp [eo] at hp
        | flt _ => simp [eo] at hp
        | ref _ => simp [eo] at hp
        | ty _ => simp [eo] at hp
theorem p_chain {a b c : Expr} {o o' : CmpOp} {op op' : D → D → Option V} {r1 r2 : R2} (ho : OpR X (compareOp o) r1) (ho' : OpR X (compareOp o') r2) (h : PureS X.K r1 op) (h' : PureS X.K r2 op') (hm : lastMarks [o, o'] [b, c] = false) (ha : BOk X a p) (hb : BOk X b q) (hc : BOk X c r) :
    POk X (.Compare a [o, o'] [b, c] pos) (pChain op op' p q r) := (pe_chain ho ho' ha hb hc hm).imp (pChain_of h h')
theorem q_chain {a b c : Expr} {o o' : CmpOp} {op op' : D → D → Option V} {r1 r2 : R2} (ho : OpR X (compareOp o) r1) (ho' : OpR X (compareOp o') r2) (h : PureS X.K r1 op) (h' : PureS X.K r2 op') (hm : lastMarks [o, o'] [b, c] = false) (ha : BOk X a p) (hb : BOk X b q) (hc : BOk X c r) :
    QOk X (.Compare a [o, o'] [b, c] pos) (qOf (pChain op op' p q r)) := (pt_chain ho ho' ha hb hc hm).imp (qOf_of (pChain_of h h'))

/-! #### the operations -/
def addI : D → D → Option V
  | .int a, .int b => some (.int (a + b))
  | .str a, .str b => if a.length + b.length ≤ sizeLine then some (.str (a ++ b)) else none
  | _, _ => none
def subI : D → D → Option V
  | .int a, .int b => some (.int (a - b))
  | _, _ => none
def mulOk (a b : Int) : Bool := a.natAbs.log2 + b.natAbs.log2 < 134217000 || (decide (-(2 ^ 64) < a) && decide (a < 2 ^ 64)) || (decide (-(2 ^ 64) < b) && decide (b < 2 ^ 64))
def mulI : D → D → Option V
  | .int a, .int b => if mulOk a b then some (.int (a * b)) else none
  | _, _ => none
def divOk (a b : Int) : Bool := b != 0 && !(Builtin.divisionGoesByPylong a b)
def fdivI : D → D → Option V
  | .int a, .int b => if divOk a b then some (.int (a.fdiv b)) else none
  | _, _ => none
def modI : D → D → Option V
  | .int a, .int b => if b ≠ 0 then some (.int (a.fmod b)) else none
  | _, _ => none
def powI : D → D → Option V
  | .int a, .int b => if 0 ≤ b ∧ b ≤ 1000000 ∧ a.natAbs < 2 ^ 64 then some (.int (a ^ b.toNat)) else none
  | _, _ => none
def cmpI (f : Int → Int → Bool) : D → D → Option V
  | .int a, .int b => some (.bl (f a b))
  | _, _ => none
def CMulY (i j : Int) : Prop := mulOk i j = true
theorem CMulY.ok {i j : Int} (h : CMulY i j) : IntMulOk i j := by
  unfold CMulY mulOk at h
  simp only [Bool.or_eq_true, Bool.and_eq_true, decide_eq_true_eq] at h
  rcases h with (h | h) | h
  · have b : ∀ z : Int, Builtin.Int.intBits z ≤ z.natAbs.log2 + 1 := fun z => by
      unfold Builtin.Int.intBits
      split <;> omega
    have h1 := b i
    have h2 := b j
    have e : bitsLine = 134217728 := by decide
    unfold IntMulOk
    intro z
    rw [Bool.and_eq_true] at z
    have z2 := z.2
    unfold Builtin.Int.intTooBig at z2
    have z3 := of_decide_eq_true z2
    rw [e] at z3
    omega
  · exact .of_left (intBits_le_64 h.1 h.2)
  · exact .of_right (intBits_le_64 h.1 h.2)
theorem op_mulY : OpR X (binaryOp .Mult) (rI CMulY fun i j => .int (i * j)) := opI fun _ _ _ _ _ _ _ hc q => mul_int q hc.ok
def CDivY (i j : Int) : Prop := divOk i j = true
theorem op_fdivY : OpR X (binaryOp .FloorDiv) (rI CDivY fun i j => .int (i.fdiv j)) := opI fun i j _ _ _ _ _ hc q => by
  have hc : divOk i j = true := hc
  unfold divOk at hc
  simp only [Bool.and_eq_true, bne_iff_ne, Bool.not_eq_true'] at hc
  exact floordiv_int hc.1 q (.inl hc.2)
theorem pure_rI {K : PySem.W.Frag} {C : Int → Int → Prop} {g : Int → Int → V} {op : D → D → Option V} (h : ∀ d1 d2 v, op d1 d2 = some v → ∃ i j, d1 = .int i ∧ d2 = .int j ∧ C i j ∧ v = g i j) : PureS K (rI C g) op := fun H x y d1 d2 v Q h1 h2 e q => by
  obtain ⟨i, j, rfl, rfl, hc, rfl⟩ := h d1 d2 v e
  exact ⟨i, j, h1, h2, hc, q⟩
theorem pure_rI0 {K : PySem.W.Frag} {g : Int → Int → V} {op : D → D → Option V} (h : ∀ d1 d2 v, op d1 d2 = some v → ∃ i j, d1 = .int i ∧ d2 = .int j ∧ v = g i j) : PureS K (rI0 g) op := fun H x y d1 d2 v Q h1 h2 e q => by
  obtain ⟨i, j, rfl, rfl, rfl⟩ := h d1 d2 v e
  exact ⟨i, j, h1, h2, q⟩
theorem pure_sub {K} : PureS K (rI0 fun i j => .int (i - j)) subI := pure_rI0 fun d1 d2 v h => by
  unfold subI at h; split at h <;> simp at h; exact ⟨_, _, rfl, rfl, h.symm⟩
theorem pure_mul {K} : PureS K (rI CMulY fun i j => .int (i * j)) mulI := pure_rI fun d1 d2 v h => by
  unfold mulI at h; split at h <;> simp at h; exact ⟨_, _, rfl, rfl, h.1, h.2.symm⟩
theorem pure_fdiv {K} : PureS K (rI CDivY fun i j => .int (i.fdiv j)) fdivI := pure_rI fun d1 d2 v h => by
  unfold fdivI at h; split at h <;> simp at h; exact ⟨_, _, rfl, rfl, h.1, h.2.symm⟩
theorem pure_mod {K} : PureS K (rI (fun _ j => j ≠ 0) fun i j => .int (i.fmod j)) modI := pure_rI fun d1 d2 v h => by
  unfold modI at h; split at h <;> simp at h; exact ⟨_, _, rfl, rfl, h.1, h.2.symm⟩
theorem pure_pow {K} : PureS K (rI CPow fun i j => .int (i ^ j.toNat)) powI := pure_rI fun d1 d2 v h => by
  unfold powI at h; split at h <;> simp only [Option.ite_none_right_eq_some, Option.some.injEq, reduceCtorEq] at h; exact ⟨_, _, rfl, rfl, h.1, h.2.symm⟩
theorem pure_cmp {K} (f : Int → Int → Bool) : PureS K (rI0 fun i j => .bl (f i j)) (cmpI f) := pure_rI0 fun d1 d2 v h => by
  unfold cmpI at h; split at h <;> simp at h; exact ⟨_, _, rfl, rfl, h.symm⟩
theorem pure_add {K} : PureS K (fun x y H Q => rI0 (fun i j => .int (i + j)) x y H Q ∨ ∃ i j, x = .str i ∧ y = .str j ∧ i.length + j.length ≤ sizeLine ∧ Q (.str (i ++ j)) H) addI := fun H x y d1 d2 v Q h1 h2 e q => by
  unfold addI at e
  split at e
  · simp at e; subst e; exact .inl ⟨_, _, h1, h2, q⟩
  · simp at e
    obtain ⟨e1, rfl⟩ := e
    exact .inr ⟨_, _, h1, h2, e1, q⟩
  · cases e
abbrev iLt (i j : Int) : Bool := decide (i < j)
abbrev iLe (i j : Int) : Bool := decide (i ≤ j)
abbrev iGt (i j : Int) : Bool := decide (j < i)
abbrev iGe (i j : Int) : Bool := decide (j ≤ i)
section
variable {a b : Expr}
theorem p_add (ha : BOk X a p) (hb : BOk X b q) : POk X (.BinOp a .Add b pos) (pOp addI p q) := p_op (op_add.or op_add_str) pure_add ha hb
theorem p_sub (ha : BOk X a p) (hb : BOk X b q) : POk X (.BinOp a .Sub b pos) (pOp subI p q) := p_op op_sub pure_sub ha hb
theorem p_mul (ha : BOk X a p) (hb : BOk X b q) : POk X (.BinOp a .Mult b pos) (pOp mulI p q) := p_op op_mulY pure_mul ha hb
theorem p_fdiv (ha : BOk X a p) (hb : BOk X b q) : POk X (.BinOp a .FloorDiv b pos) (pOp fdivI p q) := p_op op_fdivY pure_fdiv ha hb
theorem p_mod (ha : BOk X a p) (hb : BOk X b q) : POk X (.BinOp a .Mod b pos) (pOp modI p q) := p_op op_modN pure_mod ha hb
theorem p_pow (ha : BOk X a p) (hb : BOk X b q) : POk X (.BinOp a .Pow b pos) (pOp powI p q) := p_op op_pow pure_pow ha hb
theorem p_lt (ha : BOk X a p) (hb : BOk X b q) : POk X (.Compare a [.Lt] [b] pos) (pOp (cmpI iLt) p q) := p_cmp op_lt (pure_cmp _) (nomark _) ha hb
theorem p_le (ha : BOk X a p) (hb : BOk X b q) : POk X (.Compare a [.LtE] [b] pos) (pOp (cmpI iLe) p q) := p_cmp op_le (pure_cmp _) (nomark _) ha hb
theorem p_gt (ha : BOk X a p) (hb : BOk X b q) : POk X (.Compare a [.Gt] [b] pos) (pOp (cmpI iGt) p q) := p_cmp op_gt (pure_cmp _) (nomark _) ha hb
theorem p_ge (ha : BOk X a p) (hb : BOk X b q) : POk X (.Compare a [.GtE] [b] pos) (pOp (cmpI iGe) p q) := p_cmp op_ge (pure_cmp _) (nomark _) ha hb
theorem q_lt (ha : BOk X a p) (hb : BOk X b q) : QOk X (.Compare a [.Lt] [b] pos) (qOf (pOp (cmpI iLt) p q)) := q_cmp op_lt (pure_cmp _) (nomark _) ha hb
theorem q_le (ha : BOk X a p) (hb : BOk X b q) : QOk X (.Compare a [.LtE] [b] pos) (qOf (pOp (cmpI iLe) p q)) := q_cmp op_le (pure_cmp _) (nomark _) ha hb
theorem q_gt (ha : BOk X a p) (hb : BOk X b q) : QOk X (.Compare a [.Gt] [b] pos) (qOf (pOp (cmpI iGt) p q)) := q_cmp op_gt (pure_cmp _) (nomark _) ha hb
theorem q_ge (ha : BOk X a p) (hb : BOk X b q) : QOk X (.Compare a [.GtE] [b] pos) (qOf (pOp (cmpI iGe) p q)) := q_cmp op_ge (pure_cmp _) (nomark _) ha hb
end
/-! #### == and != of plain data -/
mutual
def toPy : D → Option PyData
  | .non => some .none
  | .bl b => some (.bool b)
  | .int i => some (.int i)
  | .str s => some (.str s)
  | .tup l => (toPys l).map .tuple
  | .lst l => (toPys l).map .list
  | _ => none
def toPys : List D → Option (List PyData)
  | [] => some []
  | d :: r => match toPy d, toPys r with
    | some x, some xs => some (x :: xs)
    | _, _ => none
end
mutual
theorem toPy_dp {K : PySem.W.Frag} {W : Addr → Prop} {H : Hp} : ∀ (d : D) (v : V) (y : PyData), Is K W H d v → toPy d = some y → Dp K H v y
  | .non, v, y, h, e => by cases e; rw [show v = .non from h]; exact .non
  | .bl b, v, y, h, e => by cases e; rw [show v = .bl b from h]; exact .bl b
  | .int i, v, y, h, e => by cases e; rw [show v = .int i from h]; exact .int i
  | .str x, v, y, h, e => by cases e; rw [show v = .str x from h]; exact .str x
  | .tup l, v, y, h, e => by
    obtain ⟨a, xs, rfl, ha, _, r⟩ := h
    simp only [toPy, Option.map_eq_some_iff] at e
    obtain ⟨ys, e, rfl⟩ := e
    exact .tup (.inl (.inl ha)) (toPys_dp l xs ys r e)
  | .lst l, v, y, h, e => by
    obtain ⟨a, xs, rfl, ha, _, r⟩ := h
    simp only [toPy, Option.map_eq_some_iff] at e
    obtain ⟨ys, e, rfl⟩ := e
    exact .lst (.inl (.inl ha)) (toPys_dp l xs ys r e)
  | .dct l, v, y, h, e => by cases e
  | .dcT l, v, y, h, e => by cases e
  | .ro l, v, y, h, e => by cases e
  | .opq l, v, y, h, e => by cases e
theorem toPys_dp {K : PySem.W.Frag} {W : Addr → Prop} {H : Hp} : ∀ (l : List D) (xs : List V) (ys : List PyData), IsL K W H l xs → toPys l = some ys → DpAll K H xs ys
  | [], xs, ys, h, e => by cases e; rw [show xs = [] from h]; exact .nil
  | d :: r, xs, ys, h, e => by
    obtain ⟨x, zs, rfl, h1, h2⟩ := h
    simp only [toPys] at e
    cases e1 : toPy d with
    | none => rw [e1] at e; cases e
    | some y1 =>
      cases e2 : toPys r with
      | none => rw [e1, e2] at e; cases e
      | some y2 =>
        rw [e1, e2] at e
        cases e
        exact .cons (toPy_dp d x y1 h1 e1) (toPys_dp r zs y2 h2 e2)
end
def eqD (a b : D) : Option Bool := match toPy a, toPy b with
  | some x, some y => if SeqAt.shaped x && SeqAt.shaped y then some (PyData.eqv x y) else none
  | _, _ => none
def eqV' (a b : D) : Option V := (eqD a b).map V.bl
def neV' (a b : D) : Option V := (eqD a b).map fun c => V.bl !c
theorem eqD_of {a b : D} {c : Bool} (h : eqD a b = some c) : ∃ x y, toPy a = some x ∧ toPy b = some y ∧ SeqAt.shaped x = true ∧ SeqAt.shaped y = true ∧ c = PyData.eqv x y := by
  unfold eqD at h
  split at h
  · rename_i x y e1 e2
    simp at h
    exact ⟨x, y, e1, e2, h.1.1, h.1.2, h.2.symm⟩
  · cases h
theorem pure_eq {K} : PureS K (rEqD K) eqV' := fun H x y d1 d2 v Q h1 h2 e q => by
  unfold eqV' at e
  simp only [Option.map_eq_some_iff] at e
  obtain ⟨c, e, rfl⟩ := e
  obtain ⟨y1, y2, e1, e2, s1, s2, rfl⟩ := eqD_of e
  exact ⟨y1, y2, toPy_dp _ _ _ h1 e1, toPy_dp _ _ _ h2 e2, s1, s2, q⟩
theorem pure_ne {K} : PureS K (rNeD K) neV' := fun H x y d1 d2 v Q h1 h2 e q => by
  unfold neV' at e
  simp only [Option.map_eq_some_iff] at e
  obtain ⟨c, e, rfl⟩ := e
  obtain ⟨y1, y2, e1, e2, s1, s2, rfl⟩ := eqD_of e
  exact ⟨y1, y2, toPy_dp _ _ _ h1 e1, toPy_dp _ _ _ h2 e2, s1, s2, q⟩
section
variable {a b : Expr} {k : Nat}
theorem p_eq (hr : Room k X.A) (ha : BOk X a p) (hb : BOk X b q) : POk X (.Compare a [.Eq] [b] pos) (pOp eqV' p q) := p_cmp (op_eqD hr.units) pure_eq (nomark _) ha hb
theorem p_ne (hr : Room k X.A) (ha : BOk X a p) (hb : BOk X b q) : POk X (.Compare a [.NotEq] [b] pos) (pOp neV' p q) := p_cmp (op_neD hr.units) pure_ne (nomark _) ha hb
theorem q_eq (hr : Room k X.A) (ha : BOk X a p) (hb : BOk X b q) : QOk X (.Compare a [.Eq] [b] pos) (qOf (pOp eqV' p q)) := q_cmp (op_eqD hr.units) pure_eq (nomark _) ha hb
theorem q_ne (hr : Room k X.A) (ha : BOk X a p) (hb : BOk X b q) : QOk X (.Compare a [.NotEq] [b] pos) (qOf (pOp neV' p q)) := q_cmp (op_neD hr.units) pure_ne (nomark _) ha hb
end
/-! #### is None -/
def isNonD : D → Bool
  | .non => true
  | _ => false
theorem isNonD_iff {K W H} {d : D} {v : V} (h : Is K W H d v) (hq : ∀ u, d ≠ .opq u) : decide (v = .non) = isNonD d := by
  cases d with
  | non => rw [show v = .non from h]; rfl
  | bl b => rw [show v = .bl b from h]; rfl
  | int b => rw [show v = .int b from h]; rfl
  | str b => rw [show v = .str b from h]; rfl
  | opq u => exact absurd rfl (hq u)
  | tup l => obtain ⟨a, _, rfl, _⟩ := h; rfl
  | lst l => obtain ⟨a, _, rfl, _⟩ := h; rfl
  | dct l => obtain ⟨a, _, rfl, _⟩ := h; rfl
  | dcT l => obtain ⟨a, _, rfl, _⟩ := h; rfl
  | ro l => obtain ⟨a, rfl, _⟩ := h; rfl
def isN : D → D → Option V
  | .opq _, _ => none
  | d, .non => some (.bl (isNonD d))
  | _, _ => none
def notN : D → D → Option V
  | .opq _, _ => none
  | d, .non => some (.bl (!isNonD d))
  | _, _ => none
theorem pure_isN {K} : PureS K (fun x y H Q => y = .non ∧ Q (.bl (decide (x = .non))) H) isN := fun H x y d1 d2 v Q h1 h2 e q => by
  unfold isN at e
  split at e
  · cases e
  · rename_i hq
    simp at e
    subst e
    refine ⟨h2, ?_⟩
    rw [isNonD_iff h1 hq]
    exact q
  · cases e
theorem pure_notN {K} : PureS K (fun x y H Q => y = .non ∧ Q (.bl (!decide (x = .non))) H) notN := fun H x y d1 d2 v Q h1 h2 e q => by
  unfold notN at e
  split at e
  · cases e
  · rename_i hq
    simp at e
    subst e
    refine ⟨h2, ?_⟩
    rw [isNonD_iff h1 hq]
    exact q
  · cases e
section
variable {a b : Expr}
theorem p_isN (ha : BOk X a p) (hb : BOk X b q) : POk X (.Compare a [.Is] [b] pos) (pOp isN p q) := p_cmp op_isN pure_isN (nomark _) ha hb
theorem p_notN (ha : BOk X a p) (hb : BOk X b q) : POk X (.Compare a [.IsNot] [b] pos) (pOp notN p q) := p_cmp op_notN pure_notN (nomark _) ha hb
theorem q_isN (ha : BOk X a p) (hb : BOk X b q) : QOk X (.Compare a [.Is] [b] pos) (qOf (pOp isN p q)) := q_cmp op_isN pure_isN (nomark _) ha hb
theorem q_notN (ha : BOk X a p) (hb : BOk X b q) : QOk X (.Compare a [.IsNot] [b] pos) (qOf (pOp notN p q)) := q_cmp op_notN pure_notN (nomark _) ha hb
end
/-! ### and, or, not, if -/
section
variable {a b c : Expr} {rest : List Expr} {s t u : PB}
def qAnd (s t : PB) : PB := fun env => match s env with
  | some true => t env
  | some false => some false
  | none => none
def qOr (s t : PB) : PB := fun env => match s env with
  | some true => some true
  | some false => t env
  | none => none
def qNot (s : PB) : PB := fun env => (s env).map (!·)
abbrev WOk (X : Cx) (e : Expr) (p : PB) : Prop := PW X e (rdQ X p)
theorem _root_.L2.PW.imp {X : Cx} {e : Expr} {t t' : TT} (h : PW X e t) (i : ∀ σ H Q, t' σ H Q → t σ H Q) : PW X e t' := ⟨fun wh pins s σ H Q I hw => h.run wh pins s σ H Q I (i σ H Q hw)⟩
theorem w_and1 (ha : QOk X a s) : WOk X (.BoolOp .And [a] pos) s := pw_and1 ha
theorem w_or1 (ha : QOk X a s) : WOk X (.BoolOp .Or [a] pos) s := pw_or1 ha
theorem w_and (ha : QOk X a s) (hb : WOk X (.BoolOp .And (b :: rest) pos) t) : WOk X (.BoolOp .And (a :: b :: rest) pos) (qAnd s t) := (pw_and ha hb).imp fun σ H Q h => by
  obtain ⟨B, env, O, st, k, hp, h⟩ := h
  unfold qAnd at hp
  cases e1 : s env with
  | none => rw [e1] at hp; cases hp
  | some c =>
    rw [e1] at hp
    refine ⟨B, env, O, st, c, e1, fun H1 g1 => ?_⟩
    cases c with
    | true => rw [if_pos rfl]; exact ⟨B, env, O, st.grw g1, k, hp, fun H2 g2 => h H2 (g1.trans g2)⟩
    | false => rw [if_neg Bool.false_ne_true]; cases hp; exact h H1 g1
theorem w_or (ha : QOk X a s) (hb : WOk X (.BoolOp .Or (b :: rest) pos) t) : WOk X (.BoolOp .Or (a :: b :: rest) pos) (qOr s t) := (pw_or ha hb).imp fun σ H Q h => by
  obtain ⟨B, env, O, st, k, hp, h⟩ := h
  unfold qOr at hp
  cases e1 : s env with
  | none => rw [e1] at hp; cases hp
  | some c =>
    rw [e1] at hp
    refine ⟨B, env, O, st, c, e1, fun H1 g1 => ?_⟩
    cases c with
    | true => rw [if_pos rfl]; cases hp; exact h H1 g1
    | false => rw [if_neg Bool.false_ne_true]; exact ⟨B, env, O, st.grw g1, k, hp, fun H2 g2 => h H2 (g1.trans g2)⟩
theorem q_W (h : WOk X e s) : QOk X e s := h.pt
theorem q_not (ha : QOk X a s) : QOk X (.UnaryOp .Not a pos) (qNot s) := (pt_not ha).imp fun σ H Q h => by
  obtain ⟨B, env, O, st, k, hp, h⟩ := h
  unfold qNot at hp
  simp only [Option.map_eq_some_iff] at hp
  obtain ⟨c, e1, rfl⟩ := hp
  exact ⟨B, env, O, st, c, e1, h⟩
/-- as values -/
def pAnd (p q : P) : P := fun env => match p env with
  | some (.bl true) => q env
  | some (.bl false) => some (.bl false)
  | _ => none
def pOr (p q : P) : P := fun env => match p env with
  | some (.bl true) => some (.bl true)
  | some (.bl false) => q env
  | _ => none
def pNot (p : P) : P := fun env => match p env with
  | some (.bl c) => some (.bl (!c))
  | _ => none
theorem p_one {op} (h : POk X a p) : POk X (.BoolOp op [a] pos) p := pe_one h
theorem p_and (ha : POk X a p) (hb : POk X (.BoolOp .And (b :: rest) pos) q) : POk X (.BoolOp .And (a :: b :: rest) pos) (pAnd p q) := (pe_and ha hb).imp fun σ H Q h => by
  obtain ⟨B, env, O, st, d, hp, h⟩ := h
  unfold pAnd at hp
  split at hp
  · rename_i e1
    refine ⟨B, env, O, st, _, e1, fun v H1 g1 hv => ⟨true, hv, ?_⟩⟩
    rw [if_pos rfl]
    exact ⟨B, env, O, st.grw g1, d, hp, fun v H2 g2 hv => h v H2 (g1.trans g2) hv⟩
  · rename_i e1
    cases hp
    refine ⟨B, env, O, st, _, e1, fun v H1 g1 hv => ⟨false, hv, ?_⟩⟩
    rw [if_neg Bool.false_ne_true]
    exact h _ H1 g1 rfl
  · cases hp
theorem p_or (ha : POk X a p) (hb : POk X (.BoolOp .Or (b :: rest) pos) q) : POk X (.BoolOp .Or (a :: b :: rest) pos) (pOr p q) := (pe_or ha hb).imp fun σ H Q h => by
  obtain ⟨B, env, O, st, d, hp, h⟩ := h
  unfold pOr at hp
  split at hp
  · rename_i e1
    cases hp
    refine ⟨B, env, O, st, _, e1, fun v H1 g1 hv => ⟨true, hv, ?_⟩⟩
    rw [if_pos rfl]
    exact h _ H1 g1 rfl
  · rename_i e1
    refine ⟨B, env, O, st, _, e1, fun v H1 g1 hv => ⟨false, hv, ?_⟩⟩
    rw [if_neg Bool.false_ne_true]
    exact ⟨B, env, O, st.grw g1, d, hp, fun v H2 g2 hv => h v H2 (g1.trans g2) hv⟩
  · cases hp
theorem p_not (ha : POk X a p) : POk X (.UnaryOp .Not a pos) (pNot p) := (pe_not ha).imp fun σ H Q h => by
  obtain ⟨B, env, O, st, d, hp, h⟩ := h
  unfold pNot at hp
  split at hp
  · rename_i c e1
    cases hp
    exact ⟨B, env, O, st, _, e1, fun v H1 g1 hv => ⟨c, hv, h _ H1 g1 rfl⟩⟩
  · cases hp
def pIf (s : PB) (p q : P) : P := fun env => match s env with
  | some true => p env
  | some false => q env
  | none => none
theorem p_if (hc : QOk X c s) (ha : POk X a p) (hb : POk X b q) : POk X (.IfExp c a b pos) (pIf s p q) := (pe_ifExp hc ha hb).imp fun σ H Q h => by
  obtain ⟨B, env, O, st, d, hp, h⟩ := h
  unfold pIf at hp
  cases e1 : s env with
  | none => rw [e1] at hp; cases hp
  | some k =>
    rw [e1] at hp
    refine ⟨B, env, O, st, k, e1, fun H1 g1 => ?_⟩
    have k2 : ∀ v H2, Grw H1 H2 → Is X.K (fun a => B a ∨ a ∈ O) H2 d v → Q v H2 := fun v H2 g2 hv => h v H2 (g1.trans g2) hv
    cases k with
    | true => exact iteT (show rdP X p σ H1 Q from ⟨B, env, O, st.grw g1, d, hp, k2⟩)
    | false => exact iteF (show rdP X q σ H1 Q from ⟨B, env, O, st.grw g1, d, hp, k2⟩)
def pNeg (p : P) : P := fun env => match p env with
  | some (.int i) => some (.int (-i))
  | _ => none
theorem p_neg (ha : BOk X a p) : POk X (.UnaryOp .USub a pos) (pNeg p) := (pe_un un_neg ha).imp fun σ H Q h => by
  obtain ⟨B, env, O, st, d, hp, h⟩ := h
  unfold pNeg at hp
  split at hp
  · rename_i i e1
    cases hp
    exact ⟨B, env, O, st, _, e1, fun v H1 g1 hv => ⟨i, hv, h _ H1 g1 rfl⟩⟩
  · cases hp
end
end
end PL
namespace PL
open PySem PySem.Spec PyProof.Rows L2

/-! ### argument lists -/
def evPs : List P → Slots → Option (List D)
  | [], _ => some []
  | p :: r, env => match p env, evPs r env with
    | some d, some ds => some (d :: ds)
    | _, _ => none
section
variable (X : Cx)
def rdD (ps : List P) : TA := fun σ H Q => ∃ B env O, Stt X.K B H σ env O ∧ ∃ ds, evPs ps env = some ds ∧ ∀ vs H', Grw H H' → IsL X.K (fun a => B a ∨ a ∈ O) H' ds vs → Q vs H'
def rdDB (ps : List P) : TA := fun σ H Q => ∃ B env O, Stt X.K B H σ env O ∧ ∃ ds, evPs ps env = some ds ∧ ∀ vs H', Grw H H' → IsL X.K NoW H' ds vs → Q vs H'
/-- a new list of frozen things -/
def rdF (p : Slots → Option (List D)) : TE := fun σ H Q => ∃ B env O, Stt X.K B H σ env O ∧ ∃ l, p env = some l ∧ ∀ a xs H1, Grw H H1 → H1 a = none → IsL X.K (fun a => B a ∨ a ∈ O) H1 l xs → Q (.ref a) (upd H1 a (.lst xs))
/-- a list whose things are frozen -/
def rdL (p : Slots → Option (List D)) : TE := fun σ H Q => ∃ B env O, Stt X.K B H σ env O ∧ ∃ l, p env = some l ∧ ∀ a xs H', Grw H H' → H' a = some (.lst xs) → IsL X.K (fun a => B a ∨ a ∈ O) H' l xs → Q (.ref a) H'
/-- a part of a slot's cell -/
def rdK (f : Slots → Option C) : TE := fun σ H Q => ∃ B env O, Stt X.K B H σ env O ∧ ∃ c, f env = some c ∧ ∀ v H', Grw H H' → (∃ A, (∀ a ∈ A, a ∈ O) ∧ RepC X.K (fun a => B a ∨ a ∈ O) H' c v A) → Q v H'
end
abbrev PLs := Slots → Option (List D)
abbrev ADk (X : Cx) (es : List Expr) (ps : List P) : Prop := PA X es (rdD X ps)
abbrev ABk (X : Cx) (es : List Expr) (ps : List P) : Prop := PA X es (rdDB X ps)
abbrev FOk (X : Cx) (e : Expr) (p : PLs) : Prop := PE X e (rdF X p)
abbrev LOk (X : Cx) (e : Expr) (p : PLs) : Prop := PE X e (rdL X p)
abbrev KOk (X : Cx) (e : Expr) (f : Slots → Option C) : Prop := PE X e (rdK X f)
section
variable {X : Cx} {w : WX} {H : Hp} {σ : L2.St} {e : Expr} {es : List Expr} {p q r : P} {ps : List P} {pos : Pos}
theorem ad_nil : ADk X [] [] := pa_nil.imp fun σ H Q h => by
  obtain ⟨B, env, O, s, ds, hp, h⟩ := h
  cases hp
  exact h [] H Grw.refl rfl
theorem ab_nil : ABk X [] [] := pa_nil.imp fun σ H Q h => by
  obtain ⟨B, env, O, s, ds, hp, h⟩ := h
  cases hp
  exact h [] H Grw.refl rfl
theorem evPs_cons {env : Slots} {ds : List D} (h : evPs (p :: ps) env = some ds) : ∃ d r, p env = some d ∧ evPs ps env = some r ∧ ds = d :: r := by
  unfold evPs at h
  split at h
  · rename_i d r e1 e2
    exact ⟨d, r, e1, e2, (Option.some.inj h).symm⟩
  · cases h
theorem ad_cons (ha : POk X e p) (hr : ADk X es ps) (hs : starEach (e :: es) X.env = (false, eval e X.env) :: starEach es X.env := by rfl) : ADk X (e :: es) (p :: ps) := (pa_cons ha hr hs).imp fun σ H Q h => by
  obtain ⟨B, env, O, s, ds, hp, h⟩ := h
  obtain ⟨d, r, e1, e2, rfl⟩ := evPs_cons hp
  exact ⟨B, env, O, s, d, e1, fun v H1 g1 hv => ⟨B, env, O, s.grw g1, r, e2, fun vs H2 g2 hvs => h (v :: vs) H2 (g1.trans g2) ⟨v, vs, rfl, hv.grw g2, hvs⟩⟩⟩
theorem ab_cons (ha : BOk X e p) (hr : ABk X es ps) (hs : starEach (e :: es) X.env = (false, eval e X.env) :: starEach es X.env := by rfl) : ABk X (e :: es) (p :: ps) := (pa_cons ha hr hs).imp fun σ H Q h => by
  obtain ⟨B, env, O, s, ds, hp, h⟩ := h
  obtain ⟨d, r, e1, e2, rfl⟩ := evPs_cons hp
  exact ⟨B, env, O, s, d, e1, fun v H1 g1 hv => ⟨B, env, O, s.grw g1, r, e2, fun vs H2 g2 hvs => h (v :: vs) H2 (g1.trans g2) ⟨v, vs, rfl, hv.grw g2, hvs⟩⟩⟩
theorem evPs_len {env : Slots} : ∀ {ps : List P} {ds : List D}, evPs ps env = some ds → ds.length = ps.length
  | [], ds, h => by cases h; rfl
  | p :: r, ds, h => by
    obtain ⟨d, r', e1, e2, rfl⟩ := evPs_cons h
    rw [List.length_cons, List.length_cons, evPs_len e2]

/-! ### new lists -/
def pF (p : PLs) : P := fun env => (p env).map .lst
theorem rdF_new {K : PySem.W.Frag} {B : Addr → Prop} {O : List Addr} {H H1 : Hp} {env : Slots} {l : List D} {xs : List V} {a : Addr} (s : Stt K B H σ env O) (g : Grw H H1) (ha : H1 a = none) (hl : IsL K (fun a => B a ∨ a ∈ O) H1 l xs) :
    Grw H (upd H1 a (.lst xs)) ∧ Grw H1 (upd H1 a (.lst xs)) ∧ ¬ (B a ∨ a ∈ O) := by
  have g1 : Grw H1 (upd H1 a (.lst xs)) := fun b o e => by rw [upd_ne (ne_of_none e ha)]; exact e
  refine ⟨g.trans g1, g1, fun z => ?_⟩
  obtain ⟨u, e⟩ := (s.grw g).trk a z
  rw [ha] at e; cases e
theorem p_F {p : PLs} (h : FOk X e p) : POk X e (pF p) := h.imp fun σ H Q h => by
  obtain ⟨B, env, O, s, d, hp, h⟩ := h
  unfold pF at hp
  simp only [Option.map_eq_some_iff] at hp
  obtain ⟨l, hp, rfl⟩ := hp
  refine ⟨B, env, O, s, l, hp, fun a xs H1 g ha hl => ?_⟩
  obtain ⟨g2, g1, nw⟩ := rdF_new s g ha hl
  exact h _ _ g2 ⟨a, xs, rfl, upd_same, nw, hl.grw g1⟩
def eF (p : PLs) : M C := fun env => match p env with | some l => .ok (.own (l.map .frz)) env | none => .no
theorem eF_of {p : PLs} (σ : L2.St) (H : Hp) (Q : VK) (h : rdE X w (eF p) σ H Q) : rdF X p σ H Q := by
  obtain ⟨B, env, O, s, h⟩ := h
  unfold eF at h
  cases hp : p env with
  | none => rw [hp] at h; exact h.elim
  | some l =>
    rw [hp] at h
    refine ⟨B, env, O, s, l, hp, fun a xs H1 g ha hl => ?_⟩
    obtain ⟨g2, g1, nw⟩ := rdF_new s g ha hl
    refine h (.ref a) (upd H1 a (.lst xs)) [a] O (Res.new (s.grw g) (fun b o hw e => ⟨g b o e, fun z => z.elim (fun z => nomatch z) hw⟩) ⟨g1, ⟨a, xs, [], rfl, rfl, upd_same, ?_⟩, by simp, fun b hb => by rw [List.mem_singleton.mp hb]; exact ha⟩)
    have q : IsL X.K (fun b => (B b ∨ b ∈ O) ∨ b ∈ [a]) (upd H1 a (.lst xs)) l xs := IsL.kp (fun b o hw e => ⟨g1 b o e, fun z => z.elim hw fun z => by rw [List.mem_singleton.mp z, ha] at e; cases e⟩) _ _ hl
    exact RepL.frz q
theorem e_F {p : PLs} (h : FOk X e p) : EOk X w e (eF p) := h.imp eF_of
theorem l_F {p : PLs} (h : FOk X e p) : LOk X e p := h.imp fun σ H Q h => by
  obtain ⟨B, env, O, s, l, hp, h⟩ := h
  refine ⟨B, env, O, s, l, hp, fun a xs H1 g ha hl => ?_⟩
  obtain ⟨g2, g1, nw⟩ := rdF_new s g ha hl
  exact h a xs _ g2 upd_same (hl.grw g1)
/-- a frozen list -/
def lP (p : P) : PLs := fun env => match p env with | some (.lst l) => some l | _ => none
theorem l_P (h : POk X e p) : LOk X e (lP p) := h.imp fun σ H Q h => by
  obtain ⟨B, env, O, s, l, hp, h⟩ := h
  unfold lP at hp
  split at hp
  · rename_i l' e1
    cases hp
    refine ⟨B, env, O, s, _, e1, fun v H' g hv => ?_⟩
    obtain ⟨a, xs, rfl, ha, nw, hl⟩ := hv
    exact h a xs H' g ha hl
  · cases hp
/-- display -/
theorem f_lst (h : ADk X es ps) (hz : ps.length ≤ 100000 := by decide) : FOk X (.List es pos) (evPs ps) := (pe_lst h).imp fun σ H Q h => by
  obtain ⟨B, env, O, s, l, hp, h⟩ := h
  refine ⟨B, env, O, s, l, hp, fun vs H' g hv => ⟨?_, fun a ha => h a vs H' g ha hv⟩⟩
  rw [hv.length, evPs_len hp, sizeLine_eq]; omega
def pTup (ps : List P) : P := fun env => (evPs ps env).map .tup
theorem p_tup {k} (h : ADk X es ps) (hz : ps.length ≤ 100000 := by decide) : POk X (.Tuple es k pos) (pTup ps) := (pe_tup h).imp fun σ H Q h => by
  obtain ⟨B, env, O, s, d, hp, h⟩ := h
  unfold pTup at hp
  simp only [Option.map_eq_some_iff] at hp
  obtain ⟨l, hp, rfl⟩ := hp
  refine ⟨B, env, O, s, l, hp, fun vs H1 g hv => ⟨by rw [hv.length, evPs_len hp, sizeLine_eq]; omega, fun a ha => ?_⟩⟩
  have g1 : Grw H1 (upd H1 a (.tup vs)) := fun b o e => by rw [upd_ne (ne_of_none e ha)]; exact e
  refine h _ _ (g.trans g1) ⟨a, vs, rfl, upd_same, fun z => ?_, hv.grw g1⟩
  obtain ⟨u, e⟩ := (s.grw g).trk a z
  rw [ha] at e; cases e

/-! ### + and * of lists -/
def fCat (p q : PLs) : PLs := fun env => match p env, q env with
  | some a, some b => if a.length + b.length ≤ 16777216 then some (a ++ b) else none
  | _, _ => none
theorem f_cat {a b : Expr} {p q : PLs} (ha : LOk X a p) (hb : LOk X b q) : FOk X (.BinOp a .Add b pos) (fCat p q) := (pe_op op_cat ha hb).imp fun σ H Q h => by
  obtain ⟨B, env, O, s, l, hp, h⟩ := h
  unfold fCat at hp
  split at hp
  · rename_i l1 l2 e1 e2
    split at hp
    · rename_i hz
      cases hp
      refine ⟨B, env, O, s, l1, e1, fun a1 xs H1 g1 h1 i1 => ⟨B, env, O, s.grw g1, l2, e2, fun a2 ys H2 g2 h2 i2 => ?_⟩⟩
      exact ⟨a1, a2, xs, ys, rfl, rfl, g2 _ _ h1, h2, by rw [i1.length, i2.length, sizeLine_eq]; exact hz, fun z hz => h z _ H2 (g1.trans g2) hz ((i1.grw g2).append i2)⟩
    · cases hp
  · cases hp
def fRep (p : PLs) (q : P) : PLs := fun env => match p env, q env with
  | some a, some (.int k) => if -(2 ^ 63) ≤ k ∧ k < 2 ^ 63 ∧ a.length * k.toNat ≤ 16777216 then some (List.replicate k.toNat a).flatten else none
  | _, _ => none
theorem f_rep {a b : Expr} {p : PLs} (ha : LOk X a p) (hb : BOk X b q) : FOk X (.BinOp a .Mult b pos) (fRep p q) := (pe_op op_rep ha hb).imp fun σ H Q h => by
  obtain ⟨B, env, O, s, l, hp, h⟩ := h
  unfold fRep at hp
  split at hp
  · rename_i l1 k e1 e2
    split at hp
    · rename_i hz
      cases hp
      refine ⟨B, env, O, s, l1, e1, fun a1 xs H1 g1 h1 i1 => ⟨B, env, O, s.grw g1, _, e2, fun v H2 g2 h2 => ?_⟩⟩
      exact ⟨a1, k, xs, rfl, h2, g2 _ _ h1, hz.1, hz.2.1, by rw [i1.length, sizeLine_eq]; exact hz.2.2, fun z hz => h z _ H2 (g1.trans g2) hz ((i1.grw g2).rep _)⟩
    · cases hp
  · cases hp
/-! ### slices -/
def evO : Option P → Slots → Option (Option Int)
  | none, _ => some none
  | some p, env => match p env with
    | some (.int i) => some (some i)
    | _ => none
def rdO (X : Cx) (o : Option P) : L2.TO := fun σ H Q => ∃ B env O, Stt X.K B H σ env O ∧ ∃ k, evO o env = some k ∧ ∀ H', Grw H H' → Q k H'
theorem _root_.L2.PO.imp {X : Cx} {e : Option Expr} {t t' : L2.TO} (h : PO X e t) (i : ∀ σ H Q, t' σ H Q → t σ H Q) : PO X e t' := ⟨fun pins s σ H Q I hw => h.run pins s σ H Q I (i σ H Q hw)⟩
theorem o_none : PO X none (rdO X none) := po_none.imp fun σ H Q h => by
  obtain ⟨B, env, O, s, k, hp, h⟩ := h
  cases hp
  exact h H Grw.refl
theorem o_some (h : BOk X e p) : PO X (some e) (rdO X (some p)) := (po_some h).imp fun σ H Q h => by
  obtain ⟨B, env, O, s, k, hp, h⟩ := h
  simp only [evO] at hp
  split at hp
  · rename_i i e1
    cases hp
    exact ⟨B, env, O, s, _, e1, fun v H' g hv => ⟨i, hv, h H' g⟩⟩
  · cases hp
/-- a list cut as a slice cuts it -/
def cutD {α : Type} (l : List α) (lo hi : Option Int) : List α := (l.drop (HT.sIx l.length 0 lo)).take (HT.sIx l.length l.length hi - HT.sIx l.length 0 lo)
theorem IsL.cut {K : PySem.W.Frag} {W : Addr → Prop} {l : List D} {xs : List V} (h : IsL K W H l xs) (lo hi : Option Int) : IsL K W H (cutD l lo hi) (cutV xs lo hi) := by
  unfold cutD cutV
  rw [h.length]
  exact (h.drop _).take _
def fSl (p : PLs) (lo hi : Option P) : PLs := fun env => match p env, evO lo env, evO hi env with
  | some l, some a, some b => some (cutD l a b)
  | _, _, _ => none
theorem f_slice {lo hi : Option Expr} {a b : Option P} {p : PLs} {p2 : Pos} (he : LOk X e p) (hl : PO X lo (rdO X a)) (hu : PO X hi (rdO X b)) : FOk X (.Subscript e (.Slice lo hi none p2) pos) (fSl p a b) := (pe_slice sl_list he hl hu).imp fun σ H Q h => by
  obtain ⟨B, env, O, s, l, hp, h⟩ := h
  unfold fSl at hp
  split at hp
  · rename_i l1 k1 k2 e1 e2 e3
    cases hp
    exact ⟨B, env, O, s, l1, e1, fun a1 xs H1 g1 h1 i1 => ⟨B, env, O, s.grw g1, k1, e2, fun H2 g2 => ⟨B, env, O, (s.grw g1).grw g2, k2, e3, fun H3 g3 =>
      ⟨a1, xs, rfl, SqL.of (g3 _ _ (g2 _ _ h1)), fun z hz => h z _ H3 ((g1.trans g2).trans g3) hz (((i1.grw g2).grw g3).cut k1 k2)⟩⟩⟩⟩
  · cases hp
/-- tuples, texts -/
def slD (d : D) (lo hi : Option Int) : Option D := match d with
  | .tup l => some (.tup (cutD l lo hi))
  | .str z => if z.length ≤ 16777216 then some (.str (cutS z lo hi)) else none
  | _ => none
def pSl (p : P) (lo hi : Option P) : P := fun env => match p env, evO lo env, evO hi env with
  | some d, some a, some b => slD d a b
  | _, _, _ => none
theorem p_slice {lo hi : Option Expr} {a b : Option P} {p2 : Pos} (he : POk X e p) (hl : PO X lo (rdO X a)) (hu : PO X hi (rdO X b)) : POk X (.Subscript e (.Slice lo hi none p2) pos) (pSl p a b) := (pe_slice (sl_tupA.or sl_str) he hl hu).imp fun σ H Q h => by
  obtain ⟨B, env, O, s, l, hp, h⟩ := h
  unfold pSl at hp
  split at hp
  · rename_i d k1 k2 e1 e2 e3
    refine ⟨B, env, O, s, d, e1, fun v H1 g1 i1 => ⟨B, env, O, s.grw g1, k1, e2, fun H2 g2 => ⟨B, env, O, (s.grw g1).grw g2, k2, e3, fun H3 g3 => ?_⟩⟩⟩
    have g := (g1.trans g2).trans g3
    have i3 := (i1.grw g2).grw g3
    unfold slD at hp
    split at hp
    · rename_i l1
      cases hp
      obtain ⟨a1, xs, rfl, h1, nw, il⟩ := i3
      refine .inl ⟨a1, xs, rfl, SqT.of h1, fun q => ?_, fun q z hz => ?_⟩
      · refine h _ H3 g ⟨a1, xs, rfl, h1, nw, ?_⟩
        have e4 := il.cut k1 k2
        have e5 : cutV xs k1 k2 = xs := by
          unfold cutV
          rw [q.1, q.2]; simp
        rw [e5] at e4
        exact e4
      · have g4 : Grw H3 (upd H3 z (.tup (cutV xs k1 k2))) := fun b o e => by rw [upd_ne (ne_of_none e hz)]; exact e
        refine h _ _ (g.trans g4) ⟨z, _, rfl, upd_same, fun y => ?_, (il.cut k1 k2).grw g4⟩
        obtain ⟨u, e⟩ := (s.grw g).trk z y
        rw [hz] at e; cases e
    · split at hp
      · rename_i z hz
        cases hp
        exact .inr ⟨_, i3, by rw [sizeLine_eq]; exact hz, h _ H3 g rfl⟩
      · cases hp
    · cases hp
  · cases hp
def fRev (p : PLs) : PLs := fun env => (p env).map List.reverse
theorem IsL.rev {K : PySem.W.Frag} {W : Addr → Prop} : ∀ {l : List D} {xs : List V}, IsL K W H l xs → IsL K W H l.reverse xs.reverse
  | [], xs, h => by rw [show xs = [] from h]; exact rfl
  | d :: r, xs, h => by
    obtain ⟨x, ys, rfl, h1, h2⟩ := h
    rw [List.reverse_cons, List.reverse_cons]
    exact (IsL.rev h2).append ⟨x, [], rfl, h1, rfl⟩
theorem f_rev {k : Nat} {p1 p2 p3 : Pos} {p : PLs} (he : LOk X e p) : FOk X (.Subscript e (.Slice none none (some (.UnaryOp .USub (.Constant (.int 1) k p1) p2)) p3) pos) (fRev p) := (pe_revL he).imp fun σ H Q h => by
  obtain ⟨B, env, O, s, l, hp, h⟩ := h
  unfold fRev at hp
  simp only [Option.map_eq_some_iff] at hp
  obtain ⟨l, hp, rfl⟩ := hp
  exact ⟨B, env, O, s, l, hp, fun a1 xs H1 g1 h1 i1 => ⟨a1, xs, rfl, SqL.of h1, fun z hz => h z _ H1 g1 hz i1.rev⟩⟩

/-! ### an item -/
def ixD : D → D → Option D
  | .lst l, .int i => atI l i
  | .tup l, .int i => atI l i
  | .str z, .int i => if z.length ≤ 16777216 then (atI z.cps.toList i).map fun c => .str ⟨#[c]⟩ else none
  | .ro l, .int i => (atI l i).map D.int
  | _, _ => none
def pIx (p q : P) : P := fun env => match p env, q env with
  | some d, some k => ixD d k
  | _, _ => none
theorem atI_is {K : PySem.W.Frag} {W : Addr → Prop} {l : List D} {xs : List V} {i : Int} {d : D} (h : IsL K W H l xs) (e : atI l i = some d) : ∃ x, atI xs i = some x ∧ Is K W H d x := by
  unfold atI at e ⊢
  rw [h.length]
  cases eN : ixN l.length i with
  | none => rw [eN] at e; cases e
  | some j =>
    rw [eN] at e
    exact h.get e
theorem ixD_of {K : PySem.W.Frag} {W : Addr → Prop} {d k r : D} {x y : V} {Q : VK} (h1 : Is K W H d x) (h2 : Is K NoW H k y) (e : ixD d k = some r) (h : ∀ v, Is K W H r v → Q v H) : rIx K x y H Q := by
  unfold ixD at e
  split at e
  · obtain ⟨a1, xs, rfl, h3, nw, il⟩ := h1
    obtain ⟨v, e2, hv⟩ := atI_is il e
    exact .inl ⟨a1, xs, _, v, rfl, h2, SqL.of h3, e2, h v hv⟩
  · obtain ⟨a1, xs, rfl, h3, nw, il⟩ := h1
    obtain ⟨v, e2, hv⟩ := atI_is il e
    exact .inr (.inl ⟨a1, xs, _, v, rfl, h2, SqT.of h3, e2, h v hv⟩)
  · split at e
    · rename_i hz
      simp only [Option.map_eq_some_iff] at e
      obtain ⟨c, e, rfl⟩ := e
      exact .inr (.inr ⟨_, _, c, h1, h2, by rw [sizeLine_eq]; exact hz, e, h _ rfl⟩)
    · cases e
  · simp only [Option.map_eq_some_iff] at e
    obtain ⟨c, e, rfl⟩ := e
    obtain ⟨a1, rfl, h3⟩ := h1
    rename_i l i
    have e2 : atI (l.map V.int) i = some (.int c) := by
      unfold atI at e ⊢
      rw [List.length_map]
      cases eN : ixN l.length i with
      | none => rw [eN] at e; cases e
      | some j =>
        rw [eN] at e
        have e' : l[j]? = some c := e
        show (l.map V.int)[j]? = some (.int c)
        rw [List.getElem?_map, e']; rfl
    refine .inl ⟨a1, _, _, _, rfl, h2, ?_, e2, h _ rfl⟩
    rcases h3 with ⟨h3, _⟩ | h3
    · exact .inl h3
    · exact .inr h3
  · cases e
theorem p_ix {a b : Expr} (ha : POk X a p) (hb : BOk X b q) (hs : PlainIx b) : POk X (.Subscript a b pos) (pIx p q) := (pe_ix ix_seq ha hb hs).imp fun σ H Q h => by
  obtain ⟨B, env, O, s, l, hp, h⟩ := h
  unfold pIx at hp
  split at hp
  · rename_i d k e1 e2
    exact ⟨B, env, O, s, d, e1, fun v H1 g1 i1 => ⟨B, env, O, s.grw g1, k, e2, fun u H2 g2 i2 => ixD_of (i1.grw g2) i2 hp fun z hz => h z H2 (g1.trans g2) hz⟩⟩
  · cases hp
/-! #### parts of a slot's own cell -/
def kV (i : Nat) : Slots → Option C := fun env => match env[i]? with
  | some (some c) => some c
  | _ => none
theorem k_V {i : Nat} {x : Str} (hN : X.N[i]? = some x) (hv : Vis X.env.scope x) (hd : (x == ("__debug__" : Str)) = false := by decide) (hcd : (x == ("__classdict__" : Str)) = false := by decide) :
    KOk X (.Name x pos) (kV i) := (pe_var (i := i) hN hv hd hcd).imp fun σ H Q h => by
  obtain ⟨B, env, O, s, d, hp, h⟩ := h
  unfold kV at hp
  split at hp
  · rename_i c e1
    cases hp
    obtain ⟨o, A1, A2, A3, g1, g2, ⟨y, g3, g4⟩, _⟩ := RepE.at s.rep e1
    exact ⟨y, by rw [g1, g3], h y H Grw.refl ⟨A2, fun a ha => by rw [g2]; simp [ha], g4⟩⟩
  · cases hp
def ixC : C → D → Option C
  | .frz d, k => (ixD d k).map .frz
  | .own l, .int i => atI l i
  | _, _ => none
def kIx (f : Slots → Option C) (q : P) : Slots → Option C := fun env => match f env, q env with
  | some c, some k => ixC c k
  | _, _ => none
theorem k_ix {a b : Expr} {f : Slots → Option C} (ha : KOk X a f) (hb : BOk X b q) (hs : PlainIx b) : KOk X (.Subscript a b pos) (kIx f q) := (pe_ix ix_seq ha hb hs).imp fun σ H Q h => by
  obtain ⟨B, env, O, s, l, hp, h⟩ := h
  unfold kIx at hp
  split at hp
  · rename_i c k e1 e2
    refine ⟨B, env, O, s, c, e1, fun v H1 g1 i1 => ⟨B, env, O, s.grw g1, k, e2, fun u H2 g2 i2 => ?_⟩⟩
    obtain ⟨A, hA, i1⟩ := i1
    have i3 : RepC X.K (fun a => B a ∨ a ∈ O) H2 c v A := RepC.kp g2.kp _ _ _ (fun a _ o e => g2 a o e) i1
    unfold ixC at hp
    split at hp
    · rename_i d
      simp only [Option.map_eq_some_iff] at hp
      obtain ⟨r, hp, rfl⟩ := hp
      exact ixD_of i3.2 i2 hp fun z hz => h z H2 (g1.trans g2) ⟨[], by simp, rfl, hz⟩
    · rename_i cs i
      obtain ⟨a1, xs, B1, rfl, rfl, h3, hr⟩ := i3
      unfold atI at hp
      cases eN : ixN cs.length i with
      | none => rw [eN] at hp; cases hp
      | some j =>
        rw [eN] at hp
        obtain ⟨x, A1, A2, A3, q1, q2, q3, _⟩ := RepL.at hr hp
        refine .inl ⟨a1, xs, i, x, rfl, i2, SqL.of h3, ?_, h x H2 (g1.trans g2) ⟨A2, fun b hb => hA b (by simp [q2, hb]), q3⟩⟩
        unfold atI
        rw [hr.length, eN]
        exact q1
    · cases hp
  · cases hp
/-- its plain data, where it is frozen -/
def pKf (f : Slots → Option C) : P := fun env => match f env with
  | some (.frz d) => some d
  | _ => none
theorem p_Kf {f : Slots → Option C} (h : KOk X e f) : POk X e (pKf f) := h.imp fun σ H Q h => by
  obtain ⟨B, env, O, s, l, hp, h⟩ := h
  unfold pKf at hp
  split at hp
  · rename_i d e1
    cases hp
    exact ⟨B, env, O, s, _, e1, fun v H' g ⟨A, hA, i⟩ => h v H' g i.2⟩
  · cases hp
def bKf (f : Slots → Option C) : P := fun env => (f env).map C.toD
theorem b_Kf {f : Slots → Option C} (h : KOk X e f) : BOk X e (bKf f) := h.imp fun σ H Q h => by
  obtain ⟨B, env, O, s, l, hp, h⟩ := h
  unfold bKf at hp
  simp only [Option.map_eq_some_iff] at hp
  obtain ⟨c, hp, rfl⟩ := hp
  exact ⟨B, env, O, s, _, hp, fun v H' g ⟨A, hA, i⟩ => h v H' g (RepC.is (fun _ z => z.elim) _ _ _ (fun _ _ z => z) i)⟩
/-- a slot's own list whose things are frozen -/
def frzs : List C → Option (List D)
  | [] => some []
  | .frz d :: r => (frzs r).map (d :: ·)
  | _ => none
theorem frzs_is {K : PySem.W.Frag} {W : Addr → Prop} : ∀ {cs : List C} {xs : List V} {A : List Addr} {l : List D}, RepL K W H cs xs A → frzs cs = some l → IsL K W H l xs
  | [], xs, A, l, h, e => by cases e; exact h.1
  | .frz d :: r, xs, A, l, h, e => by
    simp only [frzs, Option.map_eq_some_iff] at e
    obtain ⟨l, e, rfl⟩ := e
    obtain ⟨x, ys, A1, A2, rfl, rfl, h1, h2⟩ := h
    exact ⟨x, ys, rfl, h1.2, frzs_is h2 e⟩
  | .own _ :: r, xs, A, l, h, e => by simp [frzs] at e
  | .ownD _ :: r, xs, A, l, h, e => by simp [frzs] at e
  | .ownT _ :: r, xs, A, l, h, e => by simp [frzs] at e
@[simp] theorem frzs_map (l : List D) : frzs (l.map .frz) = some l := by
  induction l with
  | nil => rfl
  | cons d r ih => simp [frzs, ih]
def lKf (f : Slots → Option C) : PLs := fun env => match f env with
  | some (.own cs) => frzs cs
  | some (.frz (.lst l)) => some l
  | _ => none
theorem l_Kf {f : Slots → Option C} (h : KOk X e f) : LOk X e (lKf f) := h.imp fun σ H Q h => by
  obtain ⟨B, env, O, s, l, hp, h⟩ := h
  unfold lKf at hp
  split at hp
  · rename_i cs e1
    refine ⟨B, env, O, s, _, e1, fun v H' g ⟨A, hA, i⟩ => ?_⟩
    obtain ⟨a1, xs, B1, rfl, rfl, h3, hr⟩ := i
    exact h a1 xs H' g h3 (frzs_is hr hp)
  · rename_i l' e1
    cases hp
    refine ⟨B, env, O, s, _, e1, fun v H' g ⟨A, hA, i⟩ => ?_⟩
    obtain ⟨_, a1, xs, rfl, h3, nw, hl⟩ := i
    exact h a1 xs H' g h3 hl
  · cases hp

/-! ### built-in functions whose answer is a scalar -/
def CalS (K : PySem.W.Frag) (r : List V → Hp → VK → Prop) (fn : List D → Option V) : Prop := ∀ (H : Hp) (xs : List V) (ds : List D) (v : V) (Q : VK), IsL K NoW H ds xs → fn ds = some v → Q v H → r xs H Q
def pCall (fn : List D → Option V) (ps : List P) : P := fun env => match evPs ps env with
  | some ds => (fn ds).map ofV
  | none => none
theorem pCall_of {rr : List V → Hp → VK → Prop} {fn : List D → Option V} (h : CalS X.K rr fn) (σ : L2.St) (H : Hp) (Q : VK) (hq : rdP X (pCall fn ps) σ H Q) : tCB rr (rdDB X ps) σ H Q := by
  obtain ⟨B, env, O, s, d, hp, hq⟩ := hq
  unfold pCall at hp
  split at hp
  · rename_i ds e1
    simp only [Option.map_eq_some_iff] at hp
    obtain ⟨v, hv, rfl⟩ := hp
    exact ⟨B, env, O, s, ds, e1, fun vs H1 g1 i1 => h H1 vs ds v Q i1 hv (hq v H1 g1 (ofV_is _ _ _ v))⟩
  · cases hp
theorem IsL.one {K : PySem.W.Frag} {W : Addr → Prop} {d : D} {xs : List V} (h : IsL K W H [d] xs) : ∃ x, xs = [x] ∧ Is K W H d x := by
  obtain ⟨x, ys, rfl, h1, h2⟩ := h
  rw [show ys = [] from h2]
  exact ⟨x, rfl, h1⟩
theorem IsL.two {K : PySem.W.Frag} {W : Addr → Prop} {d e : D} {xs : List V} (h : IsL K W H [d, e] xs) : ∃ x y, xs = [x, y] ∧ Is K W H d x ∧ Is K W H e y := by
  obtain ⟨x, ys, rfl, h1, h2⟩ := h
  obtain ⟨y, rfl, h3⟩ := h2.one
  exact ⟨x, y, rfl, h1, h3⟩
def lenF : List D → Option V
  | [.lst l] => some (.int l.length)
  | [.tup l] => some (.int l.length)
  | [.ro l] => some (.int l.length)
  | [.str z] => if z.length ≤ 16777216 then some (.int z.length) else none
  | [.dct l] => some (.int l.length)
  | [.dcT l] => some (.int l.length)
  | _ => none
theorem IsP.length {K : PySem.W.Frag} {W : Addr → Prop} : ∀ {l : List (Key × D)} {xs : List (Key × V)}, IsP K W H l xs → xs.length = l.length
  | [], xs, h => by rw [show xs = [] from h]; rfl
  | (k, d) :: r, xs, h => by
    obtain ⟨x, ys, rfl, h1, h2⟩ := h
    rw [List.length_cons, List.length_cons, IsP.length h2]
theorem IsQ.length {K : PySem.W.Frag} {W : Addr → Prop} : ∀ {l : List (List Key × D)} {xs : List (List Key × V)}, IsQ K W H l xs → xs.length = l.length
  | [], xs, h => by rw [show xs = [] from h]; rfl
  | (k, d) :: r, xs, h => by
    obtain ⟨x, ys, rfl, h1, h2⟩ := h
    rw [List.length_cons, List.length_cons, IsQ.length h2]
theorem cal_len : CalS X.K (fun xs H Q => (∃ x n, xs = [x] ∧ LenV X.K x H n ∧ Q (.int n) H) ∨ (∃ a kvs, xs = [V.ref a] ∧ H a = some (.dK kvs) ∧ Q (.int kvs.length) H) ∨ rLenT xs H Q) lenF := fun H xs ds v Q h e q => by
  unfold lenF at e
  split at e
  · cases e
    obtain ⟨x, rfl, a, ys, rfl, ha, _, il⟩ := h.one
    exact .inl ⟨_, _, rfl, .inl ⟨ys, SqL.of ha, rfl⟩, by rw [il.length]; exact q⟩
  · cases e
    obtain ⟨x, rfl, a, ys, rfl, ha, _, il⟩ := h.one
    exact .inl ⟨_, _, rfl, .inr ⟨ys, SqT.of ha, rfl⟩, by rw [il.length]; exact q⟩
  · rename_i l
    cases e
    obtain ⟨x, rfl, a, rfl, ha⟩ := h.one
    refine .inl ⟨_, l.length, rfl, .inl ⟨l.map V.int, ?_, by simp⟩, q⟩
    rcases ha with ⟨h3, _⟩ | h3
    · exact .inl h3
    · exact .inr h3
  · split at e
    · rename_i z hz
      cases e
      obtain ⟨x, rfl, hx⟩ := h.one
      rw [show x = _ from hx]
      exact .inl ⟨_, _, rfl, ⟨by rw [sizeLine_eq]; exact hz, rfl⟩, q⟩
    · cases e
  · cases e
    obtain ⟨x, rfl, a, ys, rfl, ha, _, il⟩ := h.one
    exact .inr (.inl ⟨_, _, rfl, ha, by rw [il.length]; exact q⟩)
  · cases e
    obtain ⟨x, rfl, a, ys, rfl, ha, _, il⟩ := h.one
    exact .inr (.inr ⟨_, _, rfl, ha, by rw [il.length]; exact q⟩)
  · cases e
def absF : List D → Option V
  | [.int i] => some (.int (if i < 0 then -i else i))
  | _ => none
theorem cal_abs : CalS X.K (fun xs H Q => ∃ i, xs = [.int i] ∧ Q (.int (if i < 0 then -i else i)) H) absF := fun H xs ds v Q h e q => by
  unfold absF at e
  split at e
  · cases e
    obtain ⟨x, rfl, hx⟩ := h.one
    rw [show x = _ from hx]
    exact ⟨_, rfl, q⟩
  · cases e
def intF : List D → Option V
  | [.int i] => some (.int i)
  | [.bl k] => some (.int (if k then 1 else 0))
  | _ => none
theorem cal_int : CalS X.K (fun xs H Q => (∃ i, xs = [.int i] ∧ Q (.int i) H) ∨ ∃ k, xs = [.bl k] ∧ Q (.int (if k then 1 else 0)) H) intF := fun H xs ds v Q h e q => by
  unfold intF at e
  split at e
  · cases e
    obtain ⟨x, rfl, hx⟩ := h.one
    rw [show x = _ from hx]
    exact .inl ⟨_, rfl, q⟩
  · cases e
    obtain ⟨x, rfl, hx⟩ := h.one
    rw [show x = _ from hx]
    exact .inr ⟨_, rfl, q⟩
  · cases e
def strF : List D → Option V
  | [.int i] => if i.natAbs.log2 < 1920 then some (.str (toString i)) else none
  | _ => none
theorem cal_str : CalS X.K (fun xs H Q => ∃ i, xs = [.int i] ∧ i.natAbs.log2 < 1920 ∧ Q (.str (toString i)) H) strF := fun H xs ds v Q h e q => by
  unfold strF at e
  split at e
  · split at e
    · rename_i hz
      cases e
      obtain ⟨x, rfl, hx⟩ := h.one
      rw [show x = _ from hx]
      exact ⟨_, rfl, hz, q⟩
    · cases e
  · cases e
def intsOf : List D → Option (List Int)
  | [] => some []
  | .int i :: r => (intsOf r).map (i :: ·)
  | _ => none
@[simp] theorem intsOf_map (l : List Int) : intsOf (l.map .int) = some l := by
  induction l with
  | nil => rfl
  | cons d r ih => simp [intsOf, ih]
theorem intsOf_is : ∀ {l : List D} {ns : List Int}, intsOf l = some ns → l = ns.map .int
  | [], ns, h => by cases h; rfl
  | .int i :: r, ns, h => by
    simp only [intsOf, Option.map_eq_some_iff] at h
    obtain ⟨m, h, rfl⟩ := h
    rw [intsOf_is h]; rfl
  | .non :: _, ns, h | .bl _ :: _, ns, h | .str _ :: _, ns, h | .tup _ :: _, ns, h | .lst _ :: _, ns, h | .dct _ :: _, ns, h | .dcT _ :: _, ns, h | .ro _ :: _, ns, h | .opq _ :: _, ns, h => by simp [intsOf] at h
def blsOf : List D → Option (List Bool)
  | [] => some []
  | .bl i :: r => (blsOf r).map (i :: ·)
  | _ => none
@[simp] theorem blsOf_map (l : List Bool) : blsOf (l.map .bl) = some l := by
  induction l with
  | nil => rfl
  | cons d r ih => simp [blsOf, ih]
theorem blsOf_is : ∀ {l : List D} {ns : List Bool}, blsOf l = some ns → l = ns.map .bl
  | [], ns, h => by cases h; rfl
  | .bl i :: r, ns, h => by
    simp only [blsOf, Option.map_eq_some_iff] at h
    obtain ⟨m, h, rfl⟩ := h
    rw [blsOf_is h]; rfl
  | .non :: _, ns, h | .int _ :: _, ns, h | .str _ :: _, ns, h | .tup _ :: _, ns, h | .lst _ :: _, ns, h | .dct _ :: _, ns, h | .dcT _ :: _, ns, h | .ro _ :: _, ns, h | .opq _ :: _, ns, h => by simp [blsOf] at h
theorem IsL.of_bls {K : PySem.W.Frag} {W : Addr → Prop} : ∀ {l : List Bool} {xs : List V}, IsL K W H (l.map D.bl) xs → xs = l.map V.bl
  | [], xs, h => h
  | i :: r, xs, h => by
    obtain ⟨x, ys, e, h1, h2⟩ := h
    rw [e, show x = V.bl i from h1, IsL.of_bls h2]; rfl
/-- the greatest of a list -/
def maxL : List Int → Option Int
  | [] => none
  | x :: r => some (r.foldl max x)
theorem foldl_max_mem : ∀ (r : List Int) (x : Int), r.foldl max x ∈ x :: r ∧ ∀ y ∈ x :: r, y ≤ r.foldl max x
  | [], x => by simp
  | z :: r, x => by
    obtain ⟨h1, h2⟩ := foldl_max_mem r (max x z)
    refine ⟨?_, fun y hy => ?_⟩
    · rw [List.foldl_cons]
      rcases List.mem_cons.mp h1 with h1 | h1
      · rw [h1]
        rcases Int.le_total x z with h | h
        · rw [Int.max_eq_right h]; simp
        · rw [Int.max_eq_left h]; simp
      · simp [h1]
    · rw [List.foldl_cons]
      have h3 := h2 (max x z) (by simp)
      rcases List.mem_cons.mp hy with rfl | hy
      · omega
      · rcases List.mem_cons.mp hy with rfl | hy
        · omega
        · exact h2 y (by simp [hy])
theorem maxL_eq {l : List Int} {m k : Int} (h : maxL l = some m) (h1 : k ∈ l) (h2 : ∀ y ∈ l, y ≤ k) : k = m := by
  cases l with
  | nil => cases h
  | cons x r =>
    obtain ⟨g1, g2⟩ := foldl_max_mem r x
    simp only [maxL, Option.some.injEq] at h
    subst h
    have a1 := h2 _ g1
    have a2 := g2 _ h1
    omega
def maxF : List D → Option V
  | [.lst l] => (intsOf l).bind fun ns => (maxL ns).map .int
  | [.int i, .int j] => some (.int (if j > i then j else i))
  | _ => none
theorem cal_max : CalS X.K (fun xs H Q => rMax X.K xs H Q ∨ ∃ i j, xs = [.int i, .int j] ∧ Q (.int (if j > i then j else i)) H) maxF := fun H xs ds v Q h e q => by
  unfold maxF at e
  split at e
  · simp only [Option.bind_eq_some_iff, Option.map_eq_some_iff] at e
    obtain ⟨ns, e1, m, e2, rfl⟩ := e
    rw [intsOf_is e1] at h
    obtain ⟨x, rfl, a, ys, rfl, ha, _, il⟩ := h.one
    rw [il.of_ints] at ha
    refine .inl ⟨a, ns, rfl, SqL.of ha, ?_, fun k h1 h2 => ?_⟩
    · cases ns with
      | nil => cases e2
      | cons _ _ => simp
    · rw [maxL_eq e2 h1 h2]; exact q
  · cases e
    obtain ⟨x, y, rfl, hx, hy⟩ := h.two
    rw [show x = _ from hx, show y = _ from hy]
    exact .inr ⟨_, _, rfl, q⟩
  · cases e
def minF : List D → Option V
  | [.int i, .int j] => some (.int (if j < i then j else i))
  | _ => none
theorem cal_min : CalS X.K (fun xs H Q => ∃ i j, xs = [.int i, .int j] ∧ Q (.int (if j < i then j else i)) H) minF := fun H xs ds v Q h e q => by
  unfold minF at e
  split at e
  · cases e
    obtain ⟨x, y, rfl, hx, hy⟩ := h.two
    rw [show x = _ from hx, show y = _ from hy]
    exact ⟨_, _, rfl, q⟩
  · cases e
def sumF : List D → Option V
  | [.lst l] => (intsOf l).map fun ns => .int ns.sum
  | _ => none
theorem cal_sum : CalS X.K (rSum X.K) sumF := fun H xs ds v Q h e q => by
  unfold sumF at e
  split at e
  · simp only [Option.map_eq_some_iff] at e
    obtain ⟨ns, e1, rfl⟩ := e
    rw [intsOf_is e1] at h
    obtain ⟨x, rfl, a, ys, rfl, ha, _, il⟩ := h.one
    rw [il.of_ints] at ha
    exact ⟨a, ns, rfl, SqL.of ha, q⟩
  · cases e
def allF : List D → Option V
  | [.lst l] => (blsOf l).map fun ns => .bl (ns.all id)
  | _ => none
theorem cal_all : CalS X.K (rAll X.K) allF := fun H xs ds v Q h e q => by
  unfold allF at e
  split at e
  · simp only [Option.map_eq_some_iff] at e
    obtain ⟨ns, e1, rfl⟩ := e
    rw [blsOf_is e1] at h
    obtain ⟨x, rfl, a, ys, rfl, ha, _, il⟩ := h.one
    rw [il.of_bls] at ha
    exact ⟨a, ns, rfl, SqL.of ha, q⟩
  · cases e
def anyF : List D → Option V
  | [.lst l] => (blsOf l).map fun ns => .bl (ns.any id)
  | _ => none
theorem cal_any : CalS X.K (rAny X.K) anyF := fun H xs ds v Q h e q => by
  unfold anyF at e
  split at e
  · simp only [Option.map_eq_some_iff] at e
    obtain ⟨ns, e1, rfl⟩ := e
    rw [blsOf_is e1] at h
    obtain ⟨x, rfl, a, ys, rfl, ha, _, il⟩ := h.one
    rw [il.of_bls] at ha
    exact ⟨a, ns, rfl, SqL.of ha, q⟩
  · cases e
section
variable {id T : String} {x : Str} {pp : Pos} {fn : List D → Option V} {rr : List V → Hp → VK → Prop}
theorem p_callB (hc : CallR X (.builtin id) rr) (h : CalS X.K rr fn) (hg : Gl X x) (hm : X.mg x = none) (hv : bootBuiltins x = some (.builtin id)) (ha : ABk X (e :: es) ps) (hn : x ≠ "__name__" := by decide) (hdb : (x == ("__debug__" : Str)) = false := by decide)
    (he : starEach (e :: es) X.env = (false, eval e X.env) :: starEach es X.env := by rfl) (hpl : (backTo pos (starEach es X.env)).any (·.1) = false := by rfl) : POk X (.Call (.Name x pp) (e :: es) [] pos) (pCall fn ps) :=
  (pe_callB hc hg hm hv ha hn hdb he hpl).imp (pCall_of h)
theorem p_callT (hc : CallR X (.type T) rr) (h : CalS X.K rr fn) (hg : Gl X x) (hm : X.mg x = none) (hv : bootBuiltins x = some (.type T)) (ha : ABk X (e :: es) ps) (hn : x ≠ "__name__" := by decide) (hdb : (x == ("__debug__" : Str)) = false := by decide)
    (he : starEach (e :: es) X.env = (false, eval e X.env) :: starEach es X.env := by rfl) (hpl : (backTo pos (starEach es X.env)).any (·.1) = false := by rfl) : POk X (.Call (.Name x pp) (e :: es) [] pos) (pCall fn ps) :=
  (pe_callTy hc hg hm hv ha hn hdb he hpl).imp (pCall_of h)
end
end
end PL
namespace PL
open PySem PySem.Spec PyProof.Rows L2
section
variable {X : Cx} {w : WX} {H : Hp} {σ : L2.St} {e : Expr} {es : List Expr} {p q r : P} {ps : List P} {pos : Pos}
/-! ### isinstance -/
def tyN : D → Option String
  | .non => some "NoneType"
  | .bl _ => some "bool"
  | .int _ => some "int"
  | .str _ => some "str"
  | .tup _ => some "tuple"
  | .lst _ => some "list"
  | .ro _ => some "list"
  | .dct _ => some "dict"
  | .dcT _ => some "dict"
  | .opq _ => none
def isSubN (a b : String) : Bool := a == b || (a == "bool" && b == "int")
abbrev clsNs : List String := ["int", "bool", "str", "list", "tuple", "dict"]
theorem kits : ((["NoneType", "bool", "int", "str", "tuple", "list", "dict"] : List String).all fun a => clsNs.all fun b => kitB a b == some (isSubN a b)) = true := by decide +kernel
theorem kit_D {K : PySem.W.Frag} {W : Addr → Prop} {d : D} {v : V} {t c : String} (h : Is K W H d v) (e : tyN d = some t) (hc : clsNs.contains c = true) : TyX K H v (.type t) ∧ PySem.W.kitOne K (.type t) (.type c) = some (isSubN t c) := by
  have k2 : ∀ a, a ∈ (["NoneType", "bool", "int", "str", "tuple", "list", "dict"] : List String) → PySem.W.kitOne K (.type a) (.type c) = some (isSubN a c) := fun a ha => by
    have q := List.all_eq_true.mp kits a ha
    have q2 := List.all_eq_true.mp q c (List.contains_iff_mem.mp hc)
    exact kit_ty (eq_of_beq q2)
  cases d with
  | non => cases e; rw [show v = _ from h]; exact ⟨.base .non, k2 _ (by simp)⟩
  | bl b => cases e; rw [show v = _ from h]; exact ⟨.base (.bl b), k2 _ (by simp)⟩
  | int b => cases e; rw [show v = _ from h]; exact ⟨.base (.int b), k2 _ (by simp)⟩
  | str b => cases e; rw [show v = _ from h]; exact ⟨.base (.str b), k2 _ (by simp)⟩
  | tup l => cases e; obtain ⟨a, xs, rfl, ha, _⟩ := h; exact ⟨.base (.tup ha), k2 _ (by simp)⟩
  | lst l => cases e; obtain ⟨a, xs, rfl, ha, _⟩ := h; exact ⟨.base (.lst ha), k2 _ (by simp)⟩
  | dct l => cases e; obtain ⟨a, xs, rfl, ha, _⟩ := h; exact ⟨.base (.dK ha), k2 _ (by simp)⟩
  | dcT l => cases e; obtain ⟨a, xs, rfl, ha, _⟩ := h; exact ⟨.base (.dT ha), k2 _ (by simp)⟩
  | opq l => cases e
  | ro l =>
    cases e
    obtain ⟨a, rfl, h⟩ := h
    refine ⟨?_, k2 _ (by simp)⟩
    rcases h with ⟨h | ⟨o, h⟩, _⟩ | ⟨o, its, n, h1, h2, _⟩
    · exact .base (.lst h)
    · exact .base (.frz h)
    · exact .kList h1 h2
def clsD : List D → Option (List String)
  | [] => some []
  | .opq (.ty c) :: r => if clsNs.contains c then (clsD r).map (c :: ·) else none
  | _ => none
def isiF : List D → Option V
  | [d, .opq (.ty c)] => match tyN d with
    | some t => if clsNs.contains c then some (.bl (isSubN t c)) else none
    | none => none
  | [d, .tup cs] => match tyN d, clsD cs with
    | some t, some ns => some (.bl (ns.any (isSubN t)))
    | _, _ => none
  | _ => none
theorem clsD_is {K : PySem.W.Frag} {W : Addr → Prop} {t : String} (ht : ∀ c, clsNs.contains c = true → PySem.W.kitOne K (.type t) (.type c) = some (isSubN t c)) : ∀ {cs : List D} {ns : List String} {xs : List V}, clsD cs = some ns → IsL K W H cs xs →
    Paired ClsV xs (ns.map fun c => Value.type c) ∧ PySem.W.kitAny K (.type t) (ns.map fun c => Value.type c) = some (ns.any (isSubN t))
  | [], ns, xs, e, h => by
    cases e
    rw [show xs = [] from h]
    exact ⟨.nil, kitAny_nil⟩
  | .opq (.ty c) :: r, ns, xs, e, h => by
    simp only [clsD] at e
    split at e
    · rename_i hc
      simp only [Option.map_eq_some_iff] at e
      obtain ⟨ms, e, rfl⟩ := e
      obtain ⟨x, ys, rfl, h1, h2⟩ := h
      obtain ⟨g1, g2⟩ := clsD_is ht e h2
      rw [show x = V.ty c from h1]
      refine ⟨.cons (.ty c) g1, kitAny_cons (ht c hc) (fun hb => ?_) fun hb => ?_⟩
      · rw [g2, List.any_cons, hb, Bool.false_or]
      · rw [List.any_cons, hb, Bool.true_or]
    · cases e
  | .opq .non :: _, ns, xs, e, h | .opq (.bl _) :: _, ns, xs, e, h | .opq (.int _) :: _, ns, xs, e, h | .opq (.str _) :: _, ns, xs, e, h | .opq (.byt _) :: _, ns, xs, e, h | .opq (.flt _) :: _, ns, xs, e, h | .opq (.ref _) :: _, ns, xs, e, h => by simp [clsD] at e
  | .non :: _, ns, xs, e, h | .bl _ :: _, ns, xs, e, h | .int _ :: _, ns, xs, e, h | .str _ :: _, ns, xs, e, h | .tup _ :: _, ns, xs, e, h | .lst _ :: _, ns, xs, e, h | .dct _ :: _, ns, xs, e, h | .dcT _ :: _, ns, xs, e, h | .ro _ :: _, ns, xs, e, h => by simp [clsD] at e
theorem cal_isi : CalS X.K (fun xs H Q => rIsi X.K xs H Q ∨ rIsiT X.K xs H Q) isiF := fun H xs ds v Q h e q => by
  unfold isiF at e
  split at e
  · rename_i d c
    split at e
    · rename_i t et
      split at e
      · rename_i hc
        cases e
        obtain ⟨x, y, rfl, hx, hy⟩ := h.two
        obtain ⟨k1, k2⟩ := kit_D hx et hc
        rw [show y = V.ty c from hy]
        exact .inl ⟨x, .ty c, _, _, _, rfl, .ty c, k1, k2, q⟩
      · cases e
    · cases e
  · rename_i d cs
    split at e
    · rename_i t ns et ens
      cases e
      obtain ⟨x, y, rfl, hx, hy⟩ := h.two
      obtain ⟨a, ys, rfl, ha, _, il⟩ := hy
      obtain ⟨k1, _⟩ := kit_D (c := "int") hx et rfl
      obtain ⟨g1, g2⟩ := clsD_is (t := t) (fun c hc => (kit_D hx et hc).2) ens il
      exact .inr ⟨x, a, ys, _, _, _, rfl, ha, g1, k1, g2, q⟩
    · cases e
  · cases e
theorem p_ty {x : Str} {n : String} (hg : Gl X x) (hm : X.mg x = none) (hv : bootBuiltins x = some (.type n)) (hn : x ≠ "__name__" := by decide) (hd : (x == ("__debug__" : Str)) = false := by decide) : POk X (.Name x pos) (pK (.opq (.ty n))) :=
  p_C (pe_bltn hg hm hv (v := .ty n) rfl hn hd) fun _ _ _ => rfl

/-! ### repr -/
def rRepr (K : PySem.W.Frag) : List V → Hp → VK → Prop := fun xs H Q => ∃ x y, xs = [x] ∧ Dp K H x y ∧ y.showable = true ∧ y.hasDict = false ∧ y.depth ≤ 60 ∧ y.shown.length ≤ sizeLine ∧ Q (.str y.shown) H
theorem call_repr {k : Nat} (hr : Room k X.A) (hg : X.A.guards = some []) : CallR X (.builtin "repr") (rRepr X.K) := by
  intro pins s σ H xs us Q I r h
  obtain ⟨x, y, rfl, hd, h1, h2, h3, h4, q⟩ := h
  obtain ⟨u, rfl, ru⟩ : ∃ u, us = [u] ∧ RelV x u := by
    cases r with
    | cons p t => cases t; exact ⟨_, rfl, p⟩
  have fin : ∀ t tk, EP X pins σ Q (.str y.shown t) { s with toks := tk } := fun t tk => ⟨.str y.shown, H, I.tok tk, ⟨t, rfl⟩, q⟩
  cases hd with
  | non => cases ru; exact PySem.P.repr_of_none (fin _ _)
  | bl b => cases ru; exact PySem.P.repr_of_bool (fin _ _)
  | int i =>
    obtain ⟨t, rfl⟩ := ru
    refine PySem.P.repr_of_int (by simpa [PyData.showable] using h1) (fin _ _)
  | str z =>
    obtain ⟨t, rfl⟩ := ru
    exact PySem.P.repr_of_str (fin _ _) h4
  | lst hs ha =>
    cases ru
    obtain ⟨as, rr⟩ := Dp.reads I _ _ _ (.lst hs ha) rfl
    exact repr_of_reads' rr h1 (fun z => by rw [h2] at z; cases z) hg (by have := hr.units; omega) (fun _ _ e => e) (fun h' u tk hk => ⟨.str _, H, I.kept (t' := tk) hk, ⟨u, rfl⟩, q⟩) h4
  | tup hs ha =>
    cases ru
    obtain ⟨as, rr⟩ := Dp.reads I _ _ _ (.tup hs ha) rfl
    exact repr_of_reads' rr h1 (fun z => by rw [h2] at z; cases z) hg (by have := hr.units; omega) (fun _ _ e => e) (fun h' u tk hk => ⟨.str _, H, I.kept (t' := tk) hk, ⟨u, rfl⟩, q⟩) h4
mutual
theorem toPy_noDict : ∀ (d : D) (y : PyData), toPy d = some y → y.hasDict = false
  | .non, y, e => by cases e; simp [PyData.hasDict]
  | .bl b, y, e => by cases e; simp [PyData.hasDict]
  | .int i, y, e => by cases e; simp [PyData.hasDict]
  | .str x, y, e => by cases e; simp [PyData.hasDict]
  | .tup l, y, e => by
    simp only [toPy, Option.map_eq_some_iff] at e
    obtain ⟨ys, e, rfl⟩ := e
    simpa [PyData.hasDict] using toPys_noDict l ys e
  | .lst l, y, e => by
    simp only [toPy, Option.map_eq_some_iff] at e
    obtain ⟨ys, e, rfl⟩ := e
    simpa [PyData.hasDict] using toPys_noDict l ys e
  | .dct l, y, e => by cases e
  | .dcT l, y, e => by cases e
  | .ro l, y, e => by cases e
  | .opq l, y, e => by cases e
theorem toPys_noDict : ∀ (l : List D) (ys : List PyData), toPys l = some ys → PyData.hasDictAll ys = false
  | [], ys, e => by cases e; simp [PyData.hasDictAll]
  | d :: r, ys, e => by
    simp only [toPys] at e
    cases e1 : toPy d with
    | none => rw [e1] at e; cases e
    | some y1 =>
      cases e2 : toPys r with
      | none => rw [e1, e2] at e; cases e
      | some y2 =>
        rw [e1, e2] at e
        cases e
        simp [PyData.hasDictAll, toPy_noDict d y1 e1, toPys_noDict r y2 e2]
end
def reprF : List D → Option V
  | [d] => match toPy d with
    | some y => if y.showable && decide (y.depth ≤ 60) && decide (y.shown.length ≤ 16777216) then some (.str y.shown) else none
    | none => none
  | _ => none
theorem cal_repr : CalS X.K (rRepr X.K) reprF := fun H xs ds v Q h e q => by
  unfold reprF at e
  split at e
  · rename_i d
    split at e
    · rename_i y ey
      split at e
      · rename_i hz
        cases e
        simp only [Bool.and_eq_true, decide_eq_true_eq] at hz
        obtain ⟨x, rfl, hx⟩ := h.one
        exact ⟨x, y, rfl, toPy_dp _ _ _ hx ey, hz.1.1, toPy_noDict _ _ ey, hz.1.2, by rw [sizeLine_eq]; exact hz.2, q⟩
      · cases e
    · cases e
  · cases e

/-! ### list(x), tuple(x) -/
def fList (p : PLs) : PLs := p
theorem f_list {x : Str} {pp : Pos} {p : PLs} (hg : Gl X x) (hm : X.mg x = none) (hv : bootBuiltins x = some (.type "list")) (ha : LOk X e p) (hn : x ≠ "__name__" := by decide) (hdb : (x == ("__debug__" : Str)) = false := by decide)
    (he : starEach [e] X.env = (false, eval e X.env) :: starEach [] X.env := by rfl) (hpl : (backTo pos (starEach [] X.env)).any (·.1) = false := by rfl) : FOk X (.Call (.Name x pp) [e] [] pos) p :=
  (pe_callTy call_list_of hg hm hv (pa_cons ha pa_nil he) hn hdb he hpl).imp fun σ H Q h => by
    obtain ⟨B, env, O, s, l, hp, h⟩ := h
    exact ⟨B, env, O, s, l, hp, fun a xs H1 g1 h1 i1 => ⟨a, xs, rfl, .inl (SqL.of h1), fun z hz => h z xs H1 g1 hz i1⟩⟩
/-- any sequence: a list or a tuple -/
def sqD : D → Option (List D)
  | .lst l => some l
  | .tup l => some l
  | _ => none
def fSq (p : P) : PLs := fun env => (p env).bind sqD
theorem f_listS {x : Str} {pp : Pos} (hg : Gl X x) (hm : X.mg x = none) (hv : bootBuiltins x = some (.type "list")) (ha : POk X e p) (hn : x ≠ "__name__" := by decide) (hdb : (x == ("__debug__" : Str)) = false := by decide)
    (he : starEach [e] X.env = (false, eval e X.env) :: starEach [] X.env := by rfl) (hpl : (backTo pos (starEach [] X.env)).any (·.1) = false := by rfl) : FOk X (.Call (.Name x pp) [e] [] pos) (fSq p) :=
  (pe_callTy call_list_of hg hm hv (pa_cons ha pa_nil he) hn hdb he hpl).imp fun σ H Q h => by
    obtain ⟨B, env, O, s, l, hp, h⟩ := h
    unfold fSq at hp
    simp only [Option.bind_eq_some_iff] at hp
    obtain ⟨d, e1, e2⟩ := hp
    refine ⟨B, env, O, s, d, e1, fun v H1 g1 hv => ?_⟩
    unfold sqD at e2
    split at e2
    · cases e2
      obtain ⟨a, xs, rfl, ha, nw, il⟩ := hv
      exact ⟨a, xs, rfl, .inl (SqL.of ha), fun z hz => h z xs H1 g1 hz il⟩
    · cases e2
      obtain ⟨a, xs, rfl, ha, nw, il⟩ := hv
      exact ⟨a, xs, rfl, .inr (SqT.of ha), fun z hz => h z xs H1 g1 hz il⟩
    · cases e2
def pTupL (p : PLs) : P := fun env => (p env).map .tup
theorem p_tupL {x : Str} {pp : Pos} {p : PLs} (hg : Gl X x) (hm : X.mg x = none) (hv : bootBuiltins x = some (.type "tuple")) (ha : LOk X e p) (hn : x ≠ "__name__" := by decide) (hdb : (x == ("__debug__" : Str)) = false := by decide)
    (he : starEach [e] X.env = (false, eval e X.env) :: starEach [] X.env := by rfl) (hpl : (backTo pos (starEach [] X.env)).any (·.1) = false := by rfl) : POk X (.Call (.Name x pp) [e] [] pos) (pTupL p) :=
  (pe_callTy call_tuple_of hg hm hv (pa_cons ha pa_nil he) hn hdb he hpl).imp fun σ H Q h => by
    obtain ⟨B, env, O, s, d, hp, h⟩ := h
    unfold pTupL at hp
    simp only [Option.map_eq_some_iff] at hp
    obtain ⟨l, hp, rfl⟩ := hp
    refine ⟨B, env, O, s, l, hp, fun a xs H1 g1 h1 i1 => ⟨a, xs, rfl, .inl ⟨SqL.of h1, fun z hz => ?_⟩⟩⟩
    have g2 : Grw H1 (upd H1 z (.tup xs)) := fun b o e => by rw [upd_ne (ne_of_none e hz)]; exact e
    refine h _ _ (g1.trans g2) ⟨z, xs, rfl, upd_same, fun y => ?_, i1.grw g2⟩
    obtain ⟨u, e⟩ := (s.grw g1).trk z y
    rw [hz] at e; cases e
end
end PL
namespace PL
open PySem PySem.Spec PyProof.Rows L2
/-! ### a def's promise, where no repr is under way (guards) -/
abbrev CY (Pr : Program) (w : World) : CXT := L2.CX Pr w
structure FnG (Pr : Program) (w : World) (K : PySem.W.Frag) (mg : Str → Option Value) (base : Heap) (k : Nat) (f : Addr) (fd : FuncData) (ps : List Str) (sp : Sp) : Prop where
  len : ∀ vs H Q E, sp vs H Q E → vs.length = ps.length
  run : ∀ (A : Around) (outer : List Env) (s : Shared) (H : Hp) (args : Args) (us : List Value) (vs : List V) (Q : VK) (E : XK), A.guards = some [] → Room k A → Env0 Pr w K mg base A outer s H → BindsTo s fd args (ps.zip us) → Vals vs us → sp vs H Q E →
    codeAny (model Pr w) A (.call (.ref f) args) (CR (CY Pr w) outer Pr w H s Q E) s
theorem fn_ofG {Pr : Program} {w : World} {K : PySem.W.Frag} {mg : Str → Option Value} {base : Heap} {k : Nat} {f : Addr} {nm qu : Str} {pa : Arguments} {body : List Stmt} {sc : Scope} {dV kV doc pm cdv ct oc : Value} {an od : Option Addr}
    {osl : Array (Option Value)} {N ps : List Str} {sp : Sp} (lk : K.lookup f = some ⟨oc, od, .func (PySem.W.fnOf nm qu pa body sc dV kV doc pm an cdv ct), osl⟩) (hcd : PySem.W.codeIn K cdv qu = true) (S : FnScope N ps sc)
    (len : ∀ vs H Q E, sp vs H Q E → vs.length = ps.length)
    (hb : ∀ (A : Around) (outer : List Env) (s : Shared) (H : Hp) (vs : List V) (Q : VK) (E : XK), A.guards = some [] → Room k (A.deeper (envOfC qu sc s.heap.objs.size f cdv)) → sp vs H Q E →
      ∃ t, PSs (cxOf (CY Pr w) Pr w K mg base N qu sc f cdv A outer s H E) body t ∧ t { nx := fun _ H' => Q .non H', rt := Q } (start N vs) H) :
    FnG Pr w K mg base (k + 1) f (PySem.W.fnOf nm qu pa body sc dV kV doc pm an cdv ct) ps sp :=
  ⟨len, fun A outer s H args us vs Q E hg room e0 bd rel want => by
    have stay := fun b o e => (e0.bs b o e).1
    have kin : K.In s.heap := e0.mod.kin.keeps stay
    refine codeAny_call_function room.depth (kin _ _ lk) rfl S.co S.gen rfl (PySem.W.codeRec_of kin hcd) (bd _ _ _ _ ?_)
    have kinds : ∀ y ∈ ps.zip us, sc.names.lookup y.1 = some .local ∨ (sc.names.lookup y.1 = some .cell ∧ ((cellsFrom (s.heap.objs.size + 1) sc.names []).lookup y.1).isSome = true) := by
      rintro ⟨n, v⟩ hy
      exact (S.par n (List.of_mem_zip hy).1).imp id fun q => ⟨q, PySem.W.cellsFrom_some _ _ _ (.inl q)⟩
    refine wpAny_newFunctionEnv_cells S.kind kinds fun ev he s1 ic => ?_
    subst he
    obtain ⟨t, ht, hq⟩ := hb A outer s H vs Q E hg (room.deeper _) want
    refine ⟨(e0.mod.nolimit.keeps stay).keeps ic.toInCall.keep, codeAny_func (wpAny_mono (ht.run [] s1 (start N vs) H _ (inv_start S room.hd e0 (len _ _ _ _ want) rel ic) hq) ?_ fun _ _ z => z)⟩
    intro fl s2 hs
    cases fl with
    | ret u => obtain ⟨v, τ, H2, J, rv, q⟩ := hs; exact ⟨v, H2, J.os, J.bare, J.base, J.hok, rv, q⟩
    | next => obtain ⟨τ, H2, J, q⟩ := hs; exact ⟨.non, H2, J.os, J.bare, J.base, J.hok, rfl, q⟩
    | brk => obtain ⟨_, _, _, z⟩ := hs; exact z.elim
    | cont => obtain ⟨_, _, _, z⟩ := hs; exact z.elim⟩
section
variable {X : Cx} {k : Nat} {f : Addr} {fd : FuncData} {ps ks : List Str} {sp : Sp} {E : XK}
/-- what a callee lets out is taken, at this state -/
abbrev PassI (X : Cx) (H : Hp) (s : Shared) (E : XK) : Prop := ∀ e s', CY X.prog X.w X.stack H s E e s' → X.xe e s'
theorem end_of {pins : List (Addr × Obj)} {σ : L2.St} {H : Hp} {s s' : Shared} {Q : VK} {r : Result} (I : Inv X pins σ H s) (hx : PassI X H s E) (hq : CR (CY X.prog X.w) X.stack X.prog X.w H s Q E r s') :
    match r with | .ok (.ret u) => EP X pins σ Q u s' | .ok _ => False | .error e => X.xe e s' := by
  cases r with
  | error e => exact hx e s' hq
  | ok fl => cases fl <;> first | exact I.after hq | exact hq
theorem run_G {pins : List (Addr × Obj)} {σ : L2.St} {H : Hp} {s : Shared} {Q : VK} {us zs : List Value} {kw : List (Str × Value)} {vs : List V} (F : FnG X.prog X.w X.K X.mg X.base k f fd ps sp) (hg : X.A.guards = some []) (hr : Room k X.A) (hx : PassI X H s E)
    (bd : BindsTo s fd ⟨us, kw⟩ (ps.zip zs)) (I : Inv X pins σ H s) (r : Vals vs zs) (h : sp vs H Q E) : wpAny (model X.prog X.w) X.A (call (.ref f) us kw) (EP X pins σ Q) X.xe s :=
  wpAny_call (codeAny_mono (F.run X.A X.stack s H _ zs vs Q E hg hr I.env0 bd r h) fun r s' hq => by
    have z := end_of I hx hq
    cases r with
    | error e => exact z
    | ok fl => cases fl <;> first | exact z | exact z.elim)
end

/-! ### a def of the text, by what it makes of plain data -/
/-- the promise: m of the arguments' cells; m hands back what becomes of those that it may change -/
def spM (K : PySem.W.Frag) (mg : Str → Option Value) (n : Nat) (m : List C → Out C) : Sp := fun vs H Q E => vs.length = n ∧ ∃ B cs O, Stt K B H (vs.map some) (cs.map some) O ∧ match m cs with
  | .ok c outs => ∀ u H' A O', Res K B O H (vs.map some) c outs u H' A O' → Q u H'
  | .err x outs => ∀ cls d H' O', XRes K mg B O H (vs.map some) x outs cls d H' O' → E cls d H'
  | .no => False
structure FnM (Pr : Program) (w : World) (K : PySem.W.Frag) (mg : Str → Option Value) (base : Heap) (k : Nat) (x : Str) (st : Stmt) (ps : List Str) (m : List C → Out C) : Prop where
  ex : ∃ (f : Addr) (kV doc pm : Value) (an : Option Addr) (cdv ct : Value), mg x = some (.ref f) ∧ PySem.W.keepIn K (.ref f) = true ∧
    FnG Pr w K mg base k f (PySem.W.fnOf x x (defArgs st) (defBody st) (defScope st) .none kV doc pm an cdv ct) ps (spM K mg ps.length m)
/-- the i-th parameter is the (g i)-th written value -/
def pick {α : Type} (js : List Nat) (l : List α) : List α := js.filterMap fun j => l[j]?
/-- how the written arguments bind -/
def BindP (x : Str) (st : Stmt) (ps : List Str) : Prop := ∀ (kV doc pm : Value) (an : Option Addr) (cdv ct : Value) (us : List Value), us.length = ps.length → bindArgs (PySem.W.fnOf x x (defArgs st) (defBody st) (defScope st) .none kV doc pm an cdv ct) ⟨us, []⟩ = pure (ps.zip us)
def BindK (x : Str) (st : Stmt) (ps ks : List Str) (js : List Nat) : Prop := ∀ (kV doc pm : Value) (an : Option Addr) (cdv ct : Value) (ws : List Value), ws.length = ks.length →
  bindArgs (PySem.W.fnOf x x (defArgs st) (defBody st) (defScope st) .none kV doc pm an cdv ct) ⟨[], ks.zip ws⟩ = pure (ps.zip (pick js ws))
theorem passX0 {X : Cx} {H : Hp} {s : Shared} : PassI X H s E0 := fun _ _ h => by
  obtain ⟨_, _, _, _, _, _, _, _, _, _, _, _, z⟩ := h
  exact z.elim
section
variable {X : Cx} {w : WX} {H : Hp} {σ : L2.St} {e : Expr} {es : List Expr} {p q r : P} {ps : List P} {pos pp : Pos} {K : PySem.W.Frag} {B : Addr → Prop} {O : List Addr} {env : Slots}
theorem IsL.repE {W : Addr → Prop} : ∀ {ds : List D} {vs : List V}, IsL K W H ds vs → RepE K W H ((ds.map C.frz).map some) (vs.map some) []
  | [], vs, h => by rw [show vs = [] from h]; exact ⟨rfl, rfl⟩
  | d :: r, vs, h => by
    obtain ⟨x, ys, rfl, h1, h2⟩ := h
    exact ⟨some x, ys.map some, [], [], rfl, rfl, ⟨x, rfl, rfl, h1⟩, IsL.repE h2⟩
theorem IsL.stt (s : Stt K B H σ env O) {ds : List D} {vs : List V} (h : IsL K (fun a => B a ∨ a ∈ O) H ds vs) : Stt K (fun a => B a ∨ a ∈ O) H (vs.map some) ((ds.map C.frz).map some) [] :=
  ⟨RepE.kp (Kp.less fun a z => z.elim id fun z => nomatch z) (fun _ _ _ e => e) h.repE, .nil, fun _ z => (nomatch z), s.trk⟩
def pFn (m : List C → Out C) (ps : List P) : P := fun env => match evPs ps env with
  | some ds => match m (ds.map .frz) with
    | .ok c _ => some c.toD
    | _ => none
  | none => none
/-- the reading of a call on plain data -/
theorem spM_pure {m : List C → Out C} {ds : List D} {vs : List V} {c : C} {outs : Slots} {n : Nat} {Q : VK} {mg : Str → Option Value} (s : Stt K B H σ env O) (hv : IsL K (fun a => B a ∨ a ∈ O) H ds vs) (hm : m (ds.map .frz) = .ok c outs) (hn : ds.length = n)
    (h : ∀ v H', Grw H H' → Is K (fun a => B a ∨ a ∈ O) H' c.toD v → Q v H') : spM K mg n m vs H Q E0 := by
  refine ⟨hv.length.trans hn, fun a => B a ∨ a ∈ O, ds.map .frz, [], hv.stt s, ?_⟩
  rw [hm]
  intro u H' A O' r
  exact h u H' (fun a o e => (r.frm a o (fun z => nomatch z) e).1) (Is.kp (Kp.less fun a z => .inl z) _ _ r.is)
theorem p_fn {k : Nat} {x : Str} {st : Stmt} {qs : List Str} {m : List C → Out C} (F : FnM X.prog X.w X.K X.mg X.base k x st qs m) (bd : BindP x st qs) (hg : X.A.guards = some []) (hr : Room k X.A) (gl : Gl X x) (ha : ADk X (e :: es) ps) (hl : ps.length = qs.length := by rfl)
    (hdb : (x == ("__debug__" : Str)) = false := by decide) (he : starEach (e :: es) X.env = (false, eval e X.env) :: starEach es X.env := by rfl) (hpl : (backTo pos (starEach es X.env)).any (·.1) = false := by rfl) :
    POk X (.Call (.Name x pp) (e :: es) [] pos) (pFn m ps) := by
  obtain ⟨f, kV, doc, pm, an, cdv, ct, hm, kp, G⟩ := F.ex
  refine ⟨fun pins s σ H Q I h => ?_⟩
  obtain ⟨B, env, O, st, d, hp, h⟩ := h
  unfold pFn at hp
  split at hp
  · rename_i ds e1
    split at hp
    · rename_i c outs e2
      cases hp
      have want : rdD X ps σ H fun vs H1 => spM X.K X.mg qs.length m vs H1 Q E0 := ⟨B, env, O, st, ds, e1, fun vs H1 g1 hv => spM_pure (st.grw g1) hv e2 (by rw [evPs_len e1]; exact hl) fun v H' g2 hv => h v H' (g1.trans g2) hv⟩
      refine wpAny_Call_Name_kw (ld_glob I gl hm ?_ hdb)
      refine PySem.W.callWith_K (h₀ := X.base) I.ok.mod.kin kp (thn (ha.run pos pins s σ H _ I want) ?_) he hpl
      rintro us s1 ⟨vs, H1, I1, r1, q1⟩
      exact ⟨I1.kIn, run_G G hg hr passX0 (.of_eq (bd kV doc pm an cdv ct us (r1.length.symm.trans q1.1))) I1 r1 q1⟩
    · cases hp
  · cases hp
/-! #### by keywords alone -/
def rdKw (X : Cx) (ps : List P) : TA := rdD X ps
abbrev KDk (X : Cx) (kws : List Keyword) (ps : List P) : Prop := PK X kws (rdD X ps)
theorem _root_.L2.PK.imp {X : Cx} {es : List Keyword} {t t' : TA} (h : PK X es t) (i : ∀ σ H Q, t' σ H Q → t σ H Q) : PK X es t' := ⟨fun pos pins s σ H Q I hw => h.run pos pins s σ H Q I (i σ H Q hw)⟩
theorem kd_nil : KDk X [] [] := pk_nil.imp fun σ H Q h => by
  obtain ⟨B, env, O, s, ds, hp, h⟩ := h
  cases hp
  exact h [] H Grw.refl rfl
theorem kd_cons {nm : Option Str} {kpos : Pos} {kws : List Keyword} (ha : POk X e p) (hr : KDk X kws ps) : KDk X (⟨nm, e, kpos⟩ :: kws) (p :: ps) := (pk_cons ha hr).imp fun σ H Q h => by
  obtain ⟨B, env, O, s, ds, hp, h⟩ := h
  obtain ⟨d, r, e1, e2, rfl⟩ := evPs_cons hp
  exact ⟨B, env, O, s, d, e1, fun v H1 g1 hv => ⟨B, env, O, s.grw g1, r, e2, fun vs H2 g2 hvs => h (v :: vs) H2 (g1.trans g2) ⟨v, vs, rfl, hv.grw g2, hvs⟩⟩⟩
theorem pick_len {α β : Type} {l : List α} {l' : List β} (h : l.length = l'.length) : ∀ js : List Nat, (pick js l).length = (pick js l').length
  | [] => rfl
  | j :: js => by
    have ih := pick_len h js
    unfold pick at ih ⊢
    rw [List.filterMap_cons, List.filterMap_cons]
    by_cases hj : j < l.length
    · rw [List.getElem?_eq_getElem hj, List.getElem?_eq_getElem (by omega : j < l'.length)]
      simp only [List.length_cons, ih]
    · rw [List.getElem?_eq_none (by omega), List.getElem?_eq_none (by omega : l'.length ≤ j)]
      exact ih
theorem pick_vals {vs : List V} {us : List Value} (h : Vals vs us) : ∀ js : List Nat, Vals (pick js vs) (pick js us)
  | [] => .nil
  | j :: js => by
    have ih := pick_vals h js
    unfold pick at ih ⊢
    rw [List.filterMap_cons, List.filterMap_cons]
    cases e : vs[j]? with
    | none => rw [h.none_of e]; exact ih
    | some x =>
      obtain ⟨u, hu, ru⟩ := h.get e
      rw [hu]
      exact .cons ru ih
theorem pick_is {W : Addr → Prop} {ds : List D} {vs : List V} (h : IsL K W H ds vs) : ∀ js : List Nat, IsL K W H (pick js ds) (pick js vs)
  | [] => rfl
  | j :: js => by
    have ih := pick_is h js
    unfold pick at ih ⊢
    rw [List.filterMap_cons, List.filterMap_cons]
    cases e : ds[j]? with
    | none =>
      have e2 : vs[j]? = none := List.getElem?_eq_none (by rw [h.length]; exact List.getElem?_eq_none_iff.mp e)
      rw [e2]; exact ih
    | some x =>
      obtain ⟨u, hu, ru⟩ := h.get e
      rw [hu]
      exact ⟨u, _, rfl, ru, ih⟩
def pFnK (m : List C → Out C) (js : List Nat) (ps : List P) : P := fun env => match evPs ps env with
  | some ds => match m ((pick js ds).map .frz) with
    | .ok c _ => some c.toD
    | _ => none
  | none => none
theorem p_fnK0 {k : Nat} {x : Str} {st : Stmt} {qs ks : List Str} {js : List Nat} {m : List C → Out C} {kws : List Keyword} (F : FnM X.prog X.w X.K X.mg X.base k x st qs m) (bd : BindK x st qs ks js) (hg : X.A.guards = some []) (hr : Room k X.A) (gl : Gl X x)
    (ha : KDk X kws ps) (hl : ps.length = ks.length := by rfl) (hall : (backToKw pos (keywordEach kws X.env)).all (·.1.isSome) = true := by rfl) (hks : (backToKw pos (keywordEach kws X.env)).filterMap (·.1) = ks := by rfl) (hdb : (x == ("__debug__" : Str)) = false := by decide)
    (hpl : ((backTo pos (starEach [] X.env)).any (·.1) || (backToKw pos (keywordEach kws X.env)).any (·.1.isNone)) = false := by rfl) (hj : ∀ ds : List D, ds.length = ks.length → (pick js ds).length = qs.length := by intro ds h; match ds, h with | [_], _ => rfl | [_, _], _ => rfl | [_, _, _], _ => rfl) :
    POk X (.Call (.Name x pp) [] kws pos) (pFnK m js ps) := by
  obtain ⟨f, kV, doc, pm, an, cdv, ct, hm, kp, G⟩ := F.ex
  refine ⟨fun pins s σ H Q I h => ?_⟩
  obtain ⟨B, env, O, st, d, hp, h⟩ := h
  unfold pFnK at hp
  split at hp
  · rename_i ds e1
    split at hp
    · rename_i c outs e2
      cases hp
      have want : rdD X ps σ H fun vs H1 => vs.length = ks.length ∧ spM X.K X.mg qs.length m (pick js vs) H1 Q E0 := ⟨B, env, O, st, ds, e1, fun vs H1 g1 hv => ⟨by rw [hv.length, evPs_len e1]; exact hl, spM_pure (st.grw g1) (pick_is hv js) e2 (hj ds (by rw [evPs_len e1]; exact hl)) fun v H' g2 hv => h v H' (g1.trans g2) hv⟩⟩
      refine wpAny_Call_Name_kw (ld_glob I gl hm ?_ hdb)
      refine PySem.W.callWith_KW0 (h₀ := X.base) I.ok.mod.kin kp hall (thn (ha.run pos pins s σ H _ I want) ?_) hpl
      rintro us s1 ⟨vs, H1, I1, r1, q0, q1⟩
      rw [hks]
      exact ⟨I1.kIn, run_G G hg hr passX0 (.of_eq (bd kV doc pm an cdv ct us (r1.length.symm.trans q0))) I1 (pick_vals r1 js) q1⟩
    · cases hp
  · cases hp
end
end PL
namespace PL
open PySem PySem.Spec PyProof.Rows L2
section
variable {X : Cx} {w : WX} {H : Hp} {σ : L2.St} {e : Expr} {es : List Expr} {p q r : P} {ps : List P} {pos pp : Pos} {K : PySem.W.Frag} {B : Addr → Prop} {O : List Addr} {env : Slots}
/-! ### the others: operators -/
theorem opS_of_pure {r : R2} {op : D → D → Option V} (h : PureS K r op) : OpS K r (fun a b => (op a b).map fun v => .frz (ofV v)) := fun W H x y d1 d2 c Q tr h1 h2 e k => by
  simp only [Option.map_eq_some_iff] at e
  obtain ⟨v, e, rfl⟩ := e
  exact h H x y d1 d2 v Q h1.noW h2.noW e (k v H [] (New.of_is (ofV_is _ _ _ v)))
/-- a pure operation among the others -/
def eOp (op : D → D → Option V) (f g : M C) : M C := eBin (fun a b => (op a b).map fun v => .frz (ofV v)) f g
theorem e_op {a b : Expr} {o : Operator} {f g : M C} {r : R2} {op : D → D → Option V} (ho : OpR X (binaryOp o) r) (h : PureS X.K r op) (ha : EOk X w a f) (hb : EOk X w b g) : EOk X w (.BinOp a o b pos) (eOp op f g) := e_bin ho (opS_of_pure h) ha hb
theorem e_cmp {a b : Expr} {o : CmpOp} {f g : M C} {r : R2} {op : D → D → Option V} (ho : OpR X (compareOp o) r) (h : PureS X.K r op) (hm : behindInMarks o b = false) (ha : EOk X w a f) (hb : EOk X w b g) : EOk X w (.Compare a [o] [b] pos) (eOp op f g) :=
  (pe_cmpR ho ha hb hm).imp (tOp_of (opS_of_pure h))
def eIx (f g : M C) : M C := eBin (fun a b => (ixD a b).map .frz) f g
theorem e_ix {a b : Expr} {f g : M C} (ha : EOk X w a f) (hb : EOk X w b g) (hs : PlainIx b) : EOk X w (.Subscript a b pos) (eIx f g) := (pe_ix ix_seq ha hb hs).imp (tOp_of fun W H x y d1 d2 c Q tr h1 h2 e k => by
  simp only [Option.map_eq_some_iff] at e
  obtain ⟨d, e, rfl⟩ := e
  exact ixD_of h1 h2.noW e fun v hv => k v H [] (New.of_is hv))
/-- as a test -/
def tOfE (f : M C) : M Bool := fun env => (f env).bind fun c e1 => match c with
  | .frz (.bl b) => .ok b e1
  | _ => .no
theorem tOfE_of {f : M C} {t : TE} (ht : ∀ σ H Q, rdE X w f σ H Q → t σ H Q) (σ : L2.St) (H : Hp) (Q : Bool → Hp → Prop) (h : rdT X w (tOfE f) σ H Q) : tTest t σ H Q := by
  obtain ⟨B, env, O, s, h⟩ := h
  refine ht σ H _ ⟨B, env, O, s, ?_⟩
  unfold tOfE at h
  cases ef : f env with
  | no => rw [ef] at h; exact h.elim
  | err x e => rw [ef] at h; exact h
  | ok c e1 =>
    rw [ef] at h
    simp only [Out.bind] at h
    intro v H' A O' r
    cases c with
    | frz d =>
      cases d with
      | bl b =>
        obtain ⟨eA, hv⟩ := r.rep
        subst eA
        exact ⟨b, hv, h H' O' (r.stt.less fun a z => .inl z) r.frm⟩
      | non => exact h.elim
      | int _ => exact h.elim
      | str _ => exact h.elim
      | tup _ => exact h.elim
      | lst _ => exact h.elim
      | dct _ => exact h.elim
      | dcT _ => exact h.elim
      | ro _ => exact h.elim
      | opq _ => exact h.elim
    | own _ => exact h.elim
    | ownD _ => exact h.elim
    | ownT _ => exact h.elim
theorem t_cmp {a b : Expr} {o : CmpOp} {f g : M C} {r : R2} {op : D → D → Option V} (ho : OpR X (compareOp o) r) (h : PureS X.K r op) (hm : behindInMarks o b = false) (ha : EOk X w a f) (hb : EOk X w b g) : TOk X w (.Compare a [o] [b] pos) (tOfE (eOp op f g)) :=
  (pt_cmpR ho ha hb hm).imp (tOfE_of (tOp_of (opS_of_pure h)))
theorem t_val {f : M C} (h : EOk X w e f) (he : ∀ whole, isTrue e X.env whole = (do let v ← whole; standAt e.pos; holding [v] (truthy v)) := by intro _; rfl) : TOk X w e (tOfE f) := (pt_val h he).imp (tOfE_of fun _ _ _ h => h)

/-! ### tests -/
section
variable {a b c : Expr} {rest : List Expr} {s t u : M Bool} {f g : M C}
def tAnd (s t : M Bool) : M Bool := fun env => (s env).bind fun b e1 => if b then t e1 else .ok false e1
def tOr (s t : M Bool) : M Bool := fun env => (s env).bind fun b e1 => if b then .ok true e1 else t e1
def tNot (s : M Bool) : M Bool := fun env => (s env).bind fun b e1 => .ok (!b) e1
abbrev VOk (X : Cx) (w : WX) (e : Expr) (f : M Bool) : Prop := PW X e (rdT X w f)
/-- a test, then what follows it -/
theorem rdT_then {k : Bool → M Bool} {Q : Bool → Hp → Prop} (h : rdT X w (fun env => (s env).bind fun b e1 => k b e1) σ H Q) : rdT X w s σ H fun c H1 => rdT X w (k c) σ H1 Q := by
  obtain ⟨B, env, O, st, h⟩ := h
  refine ⟨B, env, O, st, ?_⟩
  cases es : s env with
  | no => simp only [es, Out.bind] at h
  | err x e => simp only [es, Out.bind] at h; exact h
  | ok c e1 =>
    simp only [es, Out.bind] at h
    intro H1 O1 s1 f1
    refine ⟨B, e1, O1, s1, ?_⟩
    cases ek : k c e1 with
    | no => rw [ek] at h; exact h.elim
    | err x e => 
      rw [ek] at h
      intro cls d H' O' x2
      exact h cls d H' O' ⟨x2.cls, x2.fs, x2.stt, f1.seq' x2.frm⟩
    | ok c2 e2 =>
      rw [ek] at h
      intro H2 O2 s2 f2
      exact h H2 O2 s2 (f1.seq' f2)
theorem rdT_ok {b : Bool} {Q : Bool → Hp → Prop} (h : rdT X w (fun env => .ok b env) σ H Q) : Q b H := by
  obtain ⟨B, env, O, st, h⟩ := h
  exact h H O st Frm.refl
theorem v_and1 (ha : TOk X w a s) : VOk X w (.BoolOp .And [a] pos) s := pw_and1 ha
theorem v_or1 (ha : TOk X w a s) : VOk X w (.BoolOp .Or [a] pos) s := pw_or1 ha
theorem v_and (ha : TOk X w a s) (hb : VOk X w (.BoolOp .And (b :: rest) pos) t) : VOk X w (.BoolOp .And (a :: b :: rest) pos) (tAnd s t) := (pw_and ha hb).imp fun σ H Q h => by
  have h2 := rdT_then (k := fun b e1 => if b then t e1 else .ok false e1) h
  obtain ⟨B, env, O, st, h2⟩ := h2
  refine ⟨B, env, O, st, ?_⟩
  cases es : s env with
  | no => rw [es] at h2; exact h2
  | err x e => rw [es] at h2; exact h2
  | ok c e1 =>
    rw [es] at h2
    intro H' O' s1 f1
    have h3 := h2 H' O' s1 f1
    cases c with
    | true => exact iteT (by simpa using h3)
    | false => exact iteF (rdT_ok (by simpa using h3))
theorem v_or (ha : TOk X w a s) (hb : VOk X w (.BoolOp .Or (b :: rest) pos) t) : VOk X w (.BoolOp .Or (a :: b :: rest) pos) (tOr s t) := (pw_or ha hb).imp fun σ H Q h => by
  have h2 := rdT_then (k := fun b e1 => if b then .ok true e1 else t e1) h
  obtain ⟨B, env, O, st, h2⟩ := h2
  refine ⟨B, env, O, st, ?_⟩
  cases es : s env with
  | no => rw [es] at h2; exact h2
  | err x e => rw [es] at h2; exact h2
  | ok c e1 =>
    rw [es] at h2
    intro H' O' s1 f1
    have h3 := h2 H' O' s1 f1
    cases c with
    | true => exact iteT (rdT_ok (by simpa using h3))
    | false => exact iteF (by simpa using h3)
theorem t_V (h : VOk X w e s) : TOk X w e s := h.pt
theorem t_not (ha : TOk X w a s) : TOk X w (.UnaryOp .Not a pos) (tNot s) := (pt_not ha).imp fun σ H Q h => by
  have h2 := rdT_then (k := fun b e1 => .ok (!b) e1) h
  obtain ⟨B, env, O, st, h2⟩ := h2
  refine ⟨B, env, O, st, ?_⟩
  cases es : s env with
  | no => rw [es] at h2; exact h2
  | err x e => rw [es] at h2; exact h2
  | ok c e1 =>
    rw [es] at h2
    intro H' O' s1 f1
    exact rdT_ok (h2 H' O' s1 f1)
/-- values behind a test -/
theorem rdE_then {k : Bool → M C} {Q : VK} (h : rdE X w (fun env => (s env).bind fun b e1 => k b e1) σ H Q) : rdT X w s σ H fun c H1 => rdE X w (k c) σ H1 Q := by
  obtain ⟨B, env, O, st, h⟩ := h
  refine ⟨B, env, O, st, ?_⟩
  cases es : s env with
  | no => simp only [es, Out.bind] at h
  | err x e => simp only [es, Out.bind] at h; exact h
  | ok c e1 =>
    simp only [es, Out.bind] at h
    intro H1 O1 s1 f1
    refine ⟨B, e1, O1, s1, ?_⟩
    cases ek : k c e1 with
    | no => rw [ek] at h; exact h.elim
    | err x e => 
      rw [ek] at h
      intro cls d H' O' x2
      exact h cls d H' O' ⟨x2.cls, x2.fs, x2.stt, f1.seq' x2.frm⟩
    | ok c2 e2 =>
      rw [ek] at h
      intro v H2 A O2 r
      exact h v H2 A O2 ⟨r.rep, r.stt, r.nd, r.dj, f1.seq' r.frm⟩
def eIf (s : M Bool) (f g : M C) : M C := fun env => (s env).bind fun b e1 => if b then f e1 else g e1
theorem rdT_imp {s : M Bool} {Q Q' : Bool → Hp → Prop} (h : rdT X w s σ H Q) (i : ∀ b H, Q b H → Q' b H) : rdT X w s σ H Q' := by
  obtain ⟨B, env, O, st, h⟩ := h
  refine ⟨B, env, O, st, ?_⟩
  cases es : s env with
  | no => rw [es] at h; exact h
  | err x e => rw [es] at h; exact h
  | ok c e1 =>
    rw [es] at h
    intro H' O' s1 f1
    exact i _ _ (h H' O' s1 f1)
theorem e_if (hc : TOk X w c s) (ha : EOk X w a f) (hb : EOk X w b g) : EOk X w (.IfExp c a b pos) (eIf s f g) := (pe_ifExp hc ha hb).imp fun σ H Q h =>
  rdT_imp (rdE_then (k := fun b e1 => if b then f e1 else g e1) h) fun c H1 h3 => by
    cases c with
    | true => exact iteT (by simpa using h3)
    | false => exact iteF (by simpa using h3)
/-- and, or as values -/
def eAnd (f g : M C) : M C := fun env => (f env).bind fun c e1 => match c with
  | .frz (.bl true) => g e1
  | .frz (.bl false) => .ok (.frz (.bl false)) e1
  | _ => .no
def eOr (f g : M C) : M C := fun env => (f env).bind fun c e1 => match c with
  | .frz (.bl false) => g e1
  | .frz (.bl true) => .ok (.frz (.bl true)) e1
  | _ => .no
theorem rdE_res {m : M C} {A1 O1 : List Addr} {H1 : Hp} {e1 : Slots} {Q : VK} (s1 : Stt X.K B H1 σ e1 O1) (f1 : Frm O H A1 O1 H1) (h : match m e1 with
    | .ok c env' => ∀ v H' A O', Res X.K B O H σ c env' v H' A O' → Q v H'
    | .err x env' => ∀ cls d H' O', XRes X.K X.mg B O H σ x env' cls d H' O' → w cls d σ H'
    | .no => False) : rdE X w m σ H1 Q := by
  refine ⟨B, e1, O1, s1, ?_⟩
  cases em : m e1 with
  | no => rw [em] at h; exact h
  | err x e =>
    rw [em] at h
    intro cls d H' O' x2
    exact h cls d H' O' ⟨x2.cls, x2.fs, x2.stt, f1.seq' x2.frm⟩
  | ok c e2 =>
    rw [em] at h
    intro v H' A O' r
    exact h v H' A O' ⟨r.rep, r.stt, r.nd, r.dj, f1.seq' r.frm⟩
theorem e_one {op} (h : EOk X w a f) : EOk X w (.BoolOp op [a] pos) f := pe_one h
theorem e_and (ha : EOk X w a f) (hb : EOk X w (.BoolOp .And (b :: rest) pos) g) : EOk X w (.BoolOp .And (a :: b :: rest) pos) (eAnd f g) := (pe_and ha hb).imp fun σ H Q h => by
  obtain ⟨B, env, O, st, h⟩ := h
  refine ⟨B, env, O, st, ?_⟩
  unfold eAnd at h
  cases ef : f env with
  | no => rw [ef] at h; exact h
  | err x e => rw [ef] at h; exact h
  | ok c e1 =>
    rw [ef] at h
    simp only [Out.bind] at h
    intro v H1 A O1 r1
    have go : ∃ b, c = .frz (.bl b) := by
      cases c with
      | frz d => cases d <;> first | exact ⟨_, rfl⟩ | exact h.elim
      | own _ => exact h.elim
      | ownD _ => exact h.elim
      | ownT _ => exact h.elim
    obtain ⟨b, rfl⟩ := go
    obtain ⟨e, ev⟩ := r1.rep
    subst e
    cases b with
    | true => exact ⟨true, ev, iteT (rdE_res (r1.stt.less fun a z => .inl z) r1.frm h)⟩
    | false => exact ⟨false, ev, iteF (h _ H1 [] O1 ⟨⟨rfl, rfl⟩, r1.stt, r1.nd, r1.dj, r1.frm⟩)⟩
theorem e_or (ha : EOk X w a f) (hb : EOk X w (.BoolOp .Or (b :: rest) pos) g) : EOk X w (.BoolOp .Or (a :: b :: rest) pos) (eOr f g) := (pe_or ha hb).imp fun σ H Q h => by
  obtain ⟨B, env, O, st, h⟩ := h
  refine ⟨B, env, O, st, ?_⟩
  unfold eOr at h
  cases ef : f env with
  | no => rw [ef] at h; exact h
  | err x e => rw [ef] at h; exact h
  | ok c e1 =>
    rw [ef] at h
    simp only [Out.bind] at h
    intro v H1 A O1 r1
    have go : ∃ b, c = .frz (.bl b) := by
      cases c with
      | frz d => cases d <;> first | exact ⟨_, rfl⟩ | exact h.elim
      | own _ => exact h.elim
      | ownD _ => exact h.elim
      | ownT _ => exact h.elim
    obtain ⟨b, rfl⟩ := go
    obtain ⟨e, ev⟩ := r1.rep
    subst e
    cases b with
    | false => exact ⟨false, ev, iteF (rdE_res (r1.stt.less fun a z => .inl z) r1.frm h)⟩
    | true => exact ⟨true, ev, iteT (h _ H1 [] O1 ⟨⟨rfl, rfl⟩, r1.stt, r1.nd, r1.dj, r1.frm⟩)⟩
end

/-! ### argument lists of the others -/
/-- behind a list of expressions -/
structure ResL (K : PySem.W.Frag) (B : Addr → Prop) (O : List Addr) (H : Hp) (σ : List (Option V)) (cs : List C) (env : Slots) (vs : List V) (H' : Hp) (A O' : List Addr) : Prop where
  rep : RepL K (fun a => (B a ∨ a ∈ A) ∨ a ∈ O') H' cs vs A
  stt : Stt K (fun a => B a ∨ a ∈ A) H' σ env O'
  nd : A.Nodup
  dj : ∀ a ∈ A, ¬ B a
  frm : Frm O H A O' H'
def evMs : List (M C) → M (List C)
  | [], env => .ok [] env
  | f :: r, env => (f env).bind fun c e1 => (evMs r e1).bind fun cs e2 => .ok (c :: cs) e2
def rdM (X : Cx) (w : WX) (fs : List (M C)) : TA := fun σ H Q => ∃ B env O, Stt X.K B H σ env O ∧ match evMs fs env with
  | .ok cs env' => ∀ vs H' A O', ResL X.K B O H σ cs env' vs H' A O' → Q vs H'
  | .err x env' => ∀ cls d H' O', XRes X.K X.mg B O H σ x env' cls d H' O' → w cls d σ H'
  | .no => False
abbrev AMk (X : Cx) (w : WX) (es : List Expr) (fs : List (M C)) : Prop := PA X es (rdM X w fs)
theorem am_nil : AMk X w [] [] := pa_nil.imp fun σ H Q h => by
  obtain ⟨B, env, O, s, h⟩ := h
  exact h [] H [] O ⟨⟨rfl, rfl⟩, s.less fun a z => z.elim id fun z => (nomatch z), .nil, fun _ z => (nomatch z), Frm.refl⟩
theorem am_cons {f : M C} {fs : List (M C)} (ha : EOk X w e f) (hr : AMk X w es fs) (hs : starEach (e :: es) X.env = (false, eval e X.env) :: starEach es X.env := by rfl) : AMk X w (e :: es) (f :: fs) := (pa_cons ha hr hs).imp fun σ H Q h => by
  obtain ⟨B, env, O, s, h⟩ := h
  refine ⟨B, env, O, s, ?_⟩
  unfold evMs at h
  cases ef : f env with
  | no => rw [ef] at h; exact h
  | err x e => rw [ef] at h; exact h
  | ok c e1 =>
    rw [ef] at h
    simp only [Out.bind] at h
    intro v H1 A O1 r1
    refine ⟨fun a => B a ∨ a ∈ A, e1, O1, r1.stt, ?_⟩
    cases er : evMs fs e1 with
    | no => rw [er] at h; exact h
    | err x e => rw [er] at h; exact fun cls d H' O' x2 => h cls d H' O' (XRes.under r1.frm x2)
    | ok cs e2 =>
      rw [er] at h
      simp only [] at h
      intro vs H2 A2 O2 r2
      refine h (v :: vs) H2 (A ++ A2) O2 ⟨⟨v, vs, A, A2, rfl, rfl, ?_, ?_⟩, ?_, ?_, ?_, ?_⟩
      · refine RepC.kp (fun a o hw ha => ?_) _ _ _ (fun a ha o e => (r2.frm a o (fun z => r1.stt.dj a z (.inr ha)) e).1) r1.rep
        obtain ⟨q, n⟩ := r2.frm a o (fun z => hw (.inr z)) ha
        refine ⟨q, fun z => ?_⟩
        rcases z with (z | z) | z
        · exact hw (.inl (.inl z))
        · rcases List.mem_append.mp z with z | z
          · exact hw (.inl (.inr z))
          · exact n (.inl z)
        · exact n (.inr z)
      · refine RepL.kp (Kp.less fun a z => ?_) _ _ _ (fun _ _ _ e => e) r2.rep
        rcases z with (z | z) | z
        · exact .inl (.inl (.inl z))
        · rcases List.mem_append.mp z with z | z
          · exact .inl (.inl (.inr z))
          · exact .inl (.inr z)
        · exact .inr z
      · exact r2.stt.less fun a z => z.elim (fun z => .inl (.inl z)) fun z => (List.mem_append.mp z).elim (fun z => .inl (.inr z)) .inr
      · exact List.nodup_append.mpr ⟨r1.nd, r2.nd, fun a ha b hb e => r2.dj b hb (.inr (e ▸ ha))⟩
      · exact fun a ha => (List.mem_append.mp ha).elim (r1.dj a) fun z y => r2.dj a z (.inl y)
      · intro a o hw ha
        obtain ⟨q1, n1⟩ := r1.frm a o hw ha
        obtain ⟨q2, n2⟩ := r2.frm a o (fun z => n1 (.inr z)) q1
        exact ⟨q2, fun z => z.elim (fun z => (List.mem_append.mp z).elim (fun z => n1 (.inl z)) fun z => n2 (.inl z)) fun z => n2 (.inr z)⟩
theorem ResL.isL {cs : List C} {vs : List V} {H' : Hp} {A O' : List Addr} {e1 : Slots} (r : ResL K B O H σ cs e1 vs H' A O') : IsL K (fun a => B a ∨ a ∈ O') H' (C.toDs cs) vs :=
  RepL.is (fun a z => z.elim (fun z => .inl (.inl z)) .inr) _ _ _ (fun a ha z => z.elim (r.dj a ha) fun z => r.stt.dj a z (.inr ha)) r.rep
theorem ResL.frm0 {cs : List C} {vs : List V} {H' : Hp} {A O' : List Addr} {e1 : Slots} (r : ResL K B O H σ cs e1 vs H' A O') : Frm O H [] O' H' := fun a o hw ha => ⟨(r.frm a o hw ha).1, fun z => (r.frm a o hw ha).2 (z.elim (fun z => nomatch z) .inr)⟩
/-- an argument list, then a value by what the arguments stand for -/
theorem rdM_do {fs : List (M C)} {k : List C → M C} {Q : VK} {Q' : List V → Hp → Prop} (h : rdE X w (fun env => (evMs fs env).bind fun cs e1 => k cs e1) σ H Q)
    (i : ∀ (B : Addr → Prop) (O : List Addr) (cs : List C) (e1 : Slots) (vs : List V) (H' : Hp) (A O' : List Addr), ResL X.K B O H σ cs e1 vs H' A O' → (match k cs e1 with
      | .ok c env' => ∀ v H' A O', Res X.K B O H σ c env' v H' A O' → Q v H'
      | .err x env' => ∀ cls d H' O', XRes X.K X.mg B O H σ x env' cls d H' O' → w cls d σ H'
      | .no => False) → Q' vs H') : rdM X w fs σ H Q' := by
  obtain ⟨B, env, O, s, h⟩ := h
  refine ⟨B, env, O, s, ?_⟩
  cases er : evMs fs env with
  | no => simp only [er, Out.bind] at h
  | err x e => simp only [er, Out.bind] at h; exact h
  | ok cs e1 =>
    simp only [er, Out.bind] at h
    intro vs H' A O' r
    exact i B O cs e1 vs H' A O' r h
/-- displays -/
def eLst (fs : List (M C)) : M C := fun env => (evMs fs env).bind fun cs e1 => if cs.length ≤ 100000 then .ok (.own cs) e1 else .no
theorem ResL.own {cs : List C} {vs : List V} {H' : Hp} {A O' : List Addr} {e1 : Slots} (r : ResL K B O H σ cs e1 vs H' A O') {a : Addr} (ha : H' a = none) : Res K B O H σ (.own cs) e1 (.ref a) (upd H' a (.lst vs)) (a :: A) O' := by
  have g : Grw H' (upd H' a (.lst vs)) := fun b o e => by rw [upd_ne (ne_of_none e ha)]; exact e
  have nA : a ∉ A := fun z => by
    obtain ⟨u, e⟩ := RepL.trk _ _ _ r.rep a z
    rw [ha] at e; cases e
  have nB : ¬ B a := fun z => by
    obtain ⟨u, e⟩ := r.stt.tr a (.inl z)
    rw [ha] at e; cases e
  have nO : a ∉ O' := fun z => by
    obtain ⟨u, e⟩ := RepE.trk r.stt.rep a z
    rw [ha] at e; cases e
  refine ⟨⟨a, vs, A, rfl, rfl, upd_same, ?_⟩, ?_, List.nodup_cons.mpr ⟨nA, r.nd⟩, fun b hb => ?_, fun b o hw hb => ?_⟩
  · refine RepL.kp (fun b o hw hb => ⟨g b o hb, fun z => ?_⟩) _ _ _ (fun b _ o e => g b o e) r.rep
    rcases z with (z | z) | z
    · exact hw (.inl (.inl z))
    · rcases List.mem_cons.mp z with z | z
      · subst z; rw [ha] at hb; cases hb
      · exact hw (.inl (.inr z))
    · exact hw (.inr z)
  · refine r.stt.grow g (fun b z => ?_) fun b z => ?_
    · rcases z with z | z
      · exact .inl (.inl z)
      · rcases List.mem_cons.mp z with z | z
        · exact .inr (z ▸ ha)
        · exact .inl (.inr z)
    · rcases z with z | z
      · obtain ⟨u, e⟩ := r.stt.tr b (.inl z); exact ⟨u, g b u e⟩
      · rcases List.mem_cons.mp z with z | z
        · subst z; exact ⟨_, upd_same⟩
        · obtain ⟨u, e⟩ := r.stt.tr b (.inr z); exact ⟨u, g b u e⟩
  · rcases List.mem_cons.mp hb with z | z
    · exact z ▸ nB
    · exact r.dj b z
  · obtain ⟨q, n⟩ := r.frm b o hw hb
    refine ⟨g b o q, fun z => ?_⟩
    rcases z with z | z
    · rcases List.mem_cons.mp z with z | z
      · subst z; rw [ha] at q; cases q
      · exact n (.inl z)
    · exact n (.inr z)
theorem e_lst {fs : List (M C)} (h : AMk X w es fs) : EOk X w (.List es pos) (eLst fs) := (pe_lst h).imp fun σ H Q h =>
  rdM_do (k := fun cs e1 => if cs.length ≤ 100000 then .ok (.own cs) e1 else .no) h fun B O cs e1 vs H' A O' r hk => by
    split at hk
    · rename_i e2 hc
      split at hc
      · rename_i hz
        cases hc
        exact ⟨by rw [r.rep.length, sizeLine_eq]; omega, fun a ha => hk _ _ _ _ (r.own ha)⟩
      · cases hc
    · rename_i hc; split at hc <;> cases hc
    · exact hk.elim
def eTup (fs : List (M C)) : M C := fun env => (evMs fs env).bind fun cs e1 => if cs.length ≤ 100000 then .ok (.frz (.tup (C.toDs cs))) e1 else .no
theorem e_tup {k} {fs : List (M C)} (h : AMk X w es fs) : EOk X w (.Tuple es k pos) (eTup fs) := (pe_tup h).imp fun σ H Q h =>
  rdM_do (k := fun cs e1 => if cs.length ≤ 100000 then .ok (.frz (.tup (C.toDs cs))) e1 else .no) h fun B O cs e1 vs H' A O' r hk => by
    split at hk
    · rename_i e2 hc
      split at hc
      · rename_i hz
        cases hc
        refine ⟨by rw [r.rep.length, sizeLine_eq]; omega, fun a ha => hk _ _ _ _ (Res.new (r.stt.less fun a z => .inl z) r.frm0 ⟨fun b o e => by rw [upd_ne (ne_of_none e ha)]; exact e, ⟨rfl, a, vs, rfl, upd_same, fun z => ?_, ?_⟩, .nil, fun _ z => nomatch z⟩)⟩
        · rcases z with z | z
          · obtain ⟨u, e⟩ := (r.stt.less (B' := B) fun a z => .inl z).trk a z
            rw [ha] at e; cases e
          · cases z
        · exact IsL.kp (fun b o hw hb => ⟨by rw [upd_ne (ne_of_none hb ha)]; exact hb, fun z => z.elim hw fun z => nomatch z⟩) _ _ r.isL
      · cases hc
    · rename_i hc; split at hc <;> cases hc
    · exact hk.elim
/-- built-in functions -/
def eCall (fn : List D → Option V) (fs : List (M C)) : M C := fun env => (evMs fs env).bind fun cs e1 => match fn (C.toDs cs) with
  | some v => .ok (.frz (ofV v)) e1
  | none => .no
theorem eCall_of {rr : List V → Hp → VK → Prop} {fn : List D → Option V} {fs : List (M C)} (h : CalS X.K rr fn) (σ : L2.St) (H : Hp) (Q : VK) (hq : rdE X w (eCall fn fs) σ H Q) : tCB rr (rdM X w fs) σ H Q :=
  rdM_do (k := fun cs e1 => match fn (C.toDs cs) with | some v => .ok (.frz (ofV v)) e1 | none => .no) hq fun B O cs e1 vs H' A O' r hk => by
    cases ev : fn (C.toDs cs) with
    | none => rw [ev] at hk; exact hk.elim
    | some v =>
      rw [ev] at hk
      exact h H' vs _ v Q r.isL.noW ev (hk v H' [] O' (Res.new (r.stt.less fun a z => .inl z) r.frm0 (New.of_is (ofV_is _ _ _ v))))
section
variable {id T : String} {x : Str} {fn : List D → Option V} {rr : List V → Hp → VK → Prop} {fs : List (M C)}
theorem e_callB (hc : CallR X (.builtin id) rr) (h : CalS X.K rr fn) (hg : Gl X x) (hm : X.mg x = none) (hv : bootBuiltins x = some (.builtin id)) (ha : AMk X w (e :: es) fs) (hn : x ≠ "__name__" := by decide) (hdb : (x == ("__debug__" : Str)) = false := by decide)
    (he : starEach (e :: es) X.env = (false, eval e X.env) :: starEach es X.env := by rfl) (hpl : (backTo pos (starEach es X.env)).any (·.1) = false := by rfl) : EOk X w (.Call (.Name x pp) (e :: es) [] pos) (eCall fn fs) :=
  (pe_callB hc hg hm hv ha hn hdb he hpl).imp (eCall_of h)
theorem e_callT (hc : CallR X (.type T) rr) (h : CalS X.K rr fn) (hg : Gl X x) (hm : X.mg x = none) (hv : bootBuiltins x = some (.type T)) (ha : AMk X w (e :: es) fs) (hn : x ≠ "__name__" := by decide) (hdb : (x == ("__debug__" : Str)) = false := by decide)
    (he : starEach (e :: es) X.env = (false, eval e X.env) :: starEach es X.env := by rfl) (hpl : (backTo pos (starEach es X.env)).any (·.1) = false := by rfl) : EOk X w (.Call (.Name x pp) (e :: es) [] pos) (eCall fn fs) :=
  (pe_callTy hc hg hm hv ha hn hdb he hpl).imp (eCall_of h)
end

/-! ### calls of the text's own defs -/
/-- what an exception is wished for, by the slots as they stand -/
def EofW (w : WX) (σ : L2.St) : XK := fun cls d H => w cls d σ H
def eFn (m : List C → Out C) (fs : List (M C)) : M C := fun env => (evMs fs env).bind fun cs e1 => match m cs with
  | .ok c _ => .ok (.frz c.toD) e1
  | .err x _ => .err x e1
  | .no => .no
/-- .. the first argument, a slot's own thing, lent -/
def lentTo (m : List C → Out C) (i : Nat) (cs : List C) (e1 : Slots) : Out C := match e1[i]? with
  | some (some c0) => match m (c0 :: cs) with
    | .ok c outs => match outs with
      | some c1 :: _ => .ok (.frz c.toD) (e1.set i (some c1))
      | _ => .no
    | .err x outs => match outs with
      | some c1 :: _ => .err x (e1.set i (some c1))
      | _ => .no
    | .no => .no
  | _ => .no
def eFnL (m : List C → Out C) (i : Nat) (fs : List (M C)) : M C := fun env => match env[i]? with
  | some (some _) => (evMs fs env).bind (lentTo m i)
  | _ => .no
end
end PL
namespace PL
open PySem PySem.Spec PyProof.Rows L2
section
variable {X : Cx} {w : WX} {H : Hp} {σ : L2.St} {e : Expr} {es : List Expr} {p q r : P} {ps : List P} {pos pp : Pos} {K : PySem.W.Frag} {mg : Str → Option Value} {B : Addr → Prop} {O : List Addr} {env : Slots}
theorem RepL.repE {W : Addr → Prop} : ∀ {cs : List C} {vs : List V} {A : List Addr}, RepL K W H cs vs A → RepE K W H (cs.map some) (vs.map some) A
  | [], vs, A, h => by rw [h.1, h.2]; exact ⟨rfl, rfl⟩
  | c :: r, vs, A, h => by
    obtain ⟨x, ys, A1, A2, rfl, rfl, h1, h2⟩ := h
    exact ⟨some x, ys.map some, A1, A2, rfl, rfl, ⟨x, rfl, h1⟩, RepL.repE h2⟩
/-- the slots behind a call that was handed A -/
theorem ResL.stay {cs : List C} {vs : List V} {H1 H' : Hp} {A O1 O2 A2 : List Addr} {e1 : Slots} (r : ResL K B O H σ cs e1 vs H1 A O1) (f : Frm A H1 A2 O2 H') : Stt K B H' σ e1 O1 ∧ Frm O H [] O1 H' := by
  have nA : ∀ a ∈ O1, a ∉ A := fun a ha z => r.stt.dj a ha (.inr z)
  refine ⟨⟨RepE.kp (fun a o hw ha => ?_) (fun a ha o e => (f a o (nA a ha) e).1) r.stt.rep, r.stt.nd, fun a ha z => r.stt.dj a ha (.inl z), fun a z => ?_⟩, fun a o hw ha => ?_⟩
  · exact ⟨(f a o (fun z => hw (.inl (.inr z))) ha).1, fun z => hw (z.imp .inl id)⟩
  · obtain ⟨u, e⟩ := r.stt.tr a (.inl z)
    exact ⟨u, (f a u (fun y => r.dj a y z) e).1⟩
  · obtain ⟨q, n⟩ := r.frm a o hw ha
    exact ⟨(f a o (fun z => n (.inl z)) q).1, fun z => n (z.elim (fun z => nomatch z) .inr)⟩
theorem ResL.args {cs : List C} {vs : List V} {H1 : Hp} {A O1 : List Addr} {e1 : Slots} (r : ResL K B O H σ cs e1 vs H1 A O1) : Stt K (fun a => B a ∨ a ∈ O1) H1 (vs.map some) (cs.map some) A :=
  ⟨RepE.kp (Kp.less fun a z => z.elim (fun z => z.elim (fun z => .inl (.inl z)) .inr) fun z => .inl (.inr z)) (fun _ _ _ e => e) (RepL.repE r.rep), r.nd, fun a ha z => z.elim (r.dj a ha) fun z => r.stt.dj a z (.inr ha), fun a z => z.elim (fun z => r.stt.tr a (.inl z)) fun z => RepE.trk r.stt.rep a z⟩
theorem IsX.kp {W W' : Addr → Prop} {H H' : Hp} (p : Kp W H W' H') : ∀ {l : List (Str × D)} {xs : List (Str × V)}, IsX K W H l xs → IsX K W' H' l xs
  | [], xs, h => h
  | (k, d) :: r, xs, h => by
    obtain ⟨x, ys, e, h1, h2⟩ := h
    exact ⟨x, ys, e, Is.kp p _ _ h1, IsX.kp p h2⟩
/-- the exception's own part -/
def XFs (K : PySem.W.Frag) (W : Addr → Prop) (H' : Hp) (x : Exn) (d : Option Addr) : Prop := match x.fs with
  | none => d = none
  | some fs => ∃ dd vs, d = some dd ∧ H' dd = some (.xd vs) ∧ ¬ W dd ∧ IsX K W H' fs vs
theorem XFs.less {W W' : Addr → Prop} {x : Exn} {d : Option Addr} (h : XFs K W H x d) (i : ∀ a, W' a → W a) : XFs K W' H x d := by
  unfold XFs at h ⊢
  cases e : x.fs with
  | none => rw [e] at h; exact h
  | some fs =>
    rw [e] at h
    obtain ⟨dd, vs, h1, h2, h3, h4⟩ := h
    exact ⟨dd, vs, h1, h2, fun z => h3 (i _ z), h4.kp (Kp.less i)⟩
theorem XRes.xfs {x : Exn} {cls : Value} {d : Option Addr} {H' : Hp} {O' : List Addr} {e1 : Slots} (r : XRes K mg B O H σ x e1 cls d H' O') : XFs K (fun a => B a ∨ a ∈ O') H' x d := by
  have q := r.fs
  unfold XFs
  cases e : x.fs with
  | none => rw [e] at q; exact q
  | some fs =>
    rw [e] at q
    obtain ⟨dd, vs, h1, h2, h3, h4, h5⟩ := q
    exact ⟨dd, vs, h1, h2, fun z => z.elim h3 h4, h5⟩
theorem XRes.mk' {x : Exn} {cls : Value} {d : Option Addr} {H' : Hp} {O' : List Addr} {e1 : Slots} (h1 : mg x.cls = some cls) (h2 : XFs K (fun a => B a ∨ a ∈ O') H' x d) (h3 : Stt K B H' σ e1 O') (h4 : Frm O H [] O' H') : XRes K mg B O H σ x e1 cls d H' O' := by
  refine ⟨h1, ?_, h3, h4⟩
  unfold XFs at h2
  cases e : x.fs with
  | none => rw [e] at h2; exact h2
  | some fs =>
    rw [e] at h2
    obtain ⟨dd, vs, g1, g2, g3, g4⟩ := h2
    exact ⟨dd, vs, g1, g2, fun z => g3 (.inl z), fun z => g3 (.inr z), g4⟩
theorem e_fn {k : Nat} {x : Str} {st : Stmt} {qs : List Str} {m : List C → Out C} {fs : List (M C)} (F : FnM X.prog X.w X.K X.mg X.base k x st qs m) (bd : BindP x st qs) (hg : X.A.guards = some []) (hr : Room k X.A) (tk : Takes X w) (gl : Gl X x) (ha : AMk X w (e :: es) fs) (hl : fs.length = qs.length := by rfl)
    (hdb : (x == ("__debug__" : Str)) = false := by decide) (he : starEach (e :: es) X.env = (false, eval e X.env) :: starEach es X.env := by rfl) (hpl : (backTo pos (starEach es X.env)).any (·.1) = false := by rfl) :
    EOk X w (.Call (.Name x pp) (e :: es) [] pos) (eFn m fs) := by
  obtain ⟨f, kV, doc, pm, an, cdv, ct, hm, kp, G⟩ := F.ex
  refine ⟨fun pins s σ H Q I h => ?_⟩
  have want : rdM X w fs σ H fun vs H1 => spM X.K X.mg qs.length m vs H1 Q (EofW w σ) := by
    obtain ⟨B, env, O, st, h⟩ := h
    refine ⟨B, env, O, st, ?_⟩
    unfold eFn at h
    have hlen : ∀ (gs : List (M C)) (e0 : Slots) (cs : List C) (e1 : Slots), evMs gs e0 = .ok cs e1 → cs.length = gs.length := by
      intro gs
      induction gs with
      | nil => intro e0 cs e1 z; cases z; rfl
      | cons g gs ih =>
        intro e0 cs e1 z
        unfold evMs at z
        cases eg : g e0 with
        | no => rw [eg] at z; cases z
        | err _ _ => rw [eg] at z; cases z
        | ok c e2 =>
          rw [eg] at z
          simp only [Out.bind] at z
          cases er : evMs gs e2 with
          | no => rw [er] at z; cases z
          | err _ _ => rw [er] at z; cases z
          | ok cs2 e3 =>
            rw [er] at z
            cases z
            rw [List.length_cons, List.length_cons, ih _ _ _ er]
    cases er : evMs fs env with
    | no => simp only [er, Out.bind] at h
    | err y e => simp only [er, Out.bind] at h; exact h
    | ok cs e1 =>
      simp only [er, Out.bind] at h
      intro vs H1 A O1 r
      refine ⟨by rw [r.rep.length, hlen _ _ _ _ er]; exact hl, fun a => B a ∨ a ∈ O1, cs, A, r.args, ?_⟩
      cases em : m cs with
      | no => rw [em] at h; exact h
      | err y outs =>
        rw [em] at h
        intro cls d H' O' x2
        obtain ⟨s2, f2⟩ := r.stay (A2 := []) x2.frm
        exact h cls d H' O1 (XRes.mk' x2.cls (x2.xfs.less fun a z => .inl z) s2 f2)
      | ok c outs =>
        rw [em] at h
        intro u H' A2 O2 r2
        obtain ⟨s2, f2⟩ := r.stay r2.frm
        exact h u H' [] O1 (Res.new s2 f2 (New.of_is (Is.kp (Kp.less fun a z => .inl z) _ _ r2.is)))
  refine wpAny_Call_Name_kw (ld_glob I gl hm ?_ hdb)
  refine PySem.W.callWith_K (h₀ := X.base) I.ok.mod.kin kp (thn (ha.run pos pins s σ H _ I want) ?_) he hpl
  rintro us s1 ⟨vs, H1, I1, r1, q1⟩
  exact ⟨I1.kIn, run_G G hg hr (fun e s' c => tk e s' (XE.of_call I1 (fun _ _ _ z => z) c)) (.of_eq (bd kV doc pm an cdv ct us (r1.length.symm.trans q1.1))) I1 r1 q1⟩
theorem evMs_len : ∀ {gs : List (M C)} {e0 : Slots} {cs : List C} {e1 : Slots}, evMs gs e0 = .ok cs e1 → cs.length = gs.length
  | [], e0, cs, e1, z => by cases z; rfl
  | g :: gs, e0, cs, e1, z => by
    unfold evMs at z
    cases eg : g e0 with
    | no => rw [eg] at z; cases z
    | err _ _ => rw [eg] at z; cases z
    | ok c e2 =>
      rw [eg] at z
      simp only [Out.bind] at z
      cases er : evMs gs e2 with
      | no => rw [er] at z; cases z
      | err _ _ => rw [er] at z; cases z
      | ok cs2 e3 =>
        rw [er] at z
        cases z
        rw [List.length_cons, List.length_cons, evMs_len er]
/-- the slots behind a call that was lent slot i's thing -/
theorem ResL.lend {i : Nat} {cs : List C} {vs : List V} {H1 : Hp} {A O1 : List Addr} {e1 : Slots} {c0 : C} (r : ResL K B O H σ cs e1 vs H1 A O1) (h0 : e1[i]? = some (some c0)) :
    ∃ x0 Bc O0, σ[i]? = some (some x0) ∧ Stt K Bc H1 ((x0 :: vs).map some) ((c0 :: cs).map some) O0 ∧ (∀ a, B a → Bc a) ∧
      ∀ (H' : Hp) (A2 O2 B1 B2 : List Addr) (c1 : C), Frm O0 H1 A2 O2 H' → (∀ a ∈ O2, ¬ (Bc a ∨ a ∈ A2)) → O2 = B1 ++ B2 → B1.Nodup → RepC K (fun a => (Bc a ∨ a ∈ A2) ∨ a ∈ O2) H' c1 x0 B1 →
        ∃ O3, Stt K B H' σ (e1.set i (some c1)) O3 ∧ Frm O H [] O3 H' ∧ ∀ a, (B a ∨ a ∈ O3) → (Bc a ∨ a ∈ O2) := by
  obtain ⟨o, A1, A2', A3, g1, g2, ⟨x0, rfl, hc0⟩, put⟩ := RepE.at r.stt.rep h0
  have nd := r.stt.nd
  rw [g2] at nd
  have sub : ∀ a, a ∈ A1 ++ A3 → a ∈ O1 := fun a ha => by rw [g2]; simp at ha ⊢; rcases ha with z | z <;> simp [z]
  have sub2 : ∀ a, a ∈ A2' → a ∈ O1 := fun a ha => by rw [g2]; simp [ha]
  have nd1 := List.nodup_append.mp nd
  have nd2 := List.nodup_append.mp nd1.2.1
  have n13 : ∀ a ∈ A2', a ∉ A1 ++ A3 := fun a ha z => by
    rcases List.mem_append.mp z with z | z
    · exact nd1.2.2 a z a (by simp [ha]) rfl
    · exact nd2.2.2 a ha a z rfl
  have nA : ∀ a ∈ O1, a ∉ A := fun a ha z => r.stt.dj a ha (.inr z)
  have ar := r.args
  have mem2 : ∀ a, a ∈ O1 ↔ a ∈ A2' ∨ a ∈ A1 ++ A3 := fun a => by rw [g2]; simp; constructor <;> intro h <;> rcases h with h | h | h <;> simp [h]
  refine ⟨x0, fun a => B a ∨ a ∈ A1 ++ A3, A2' ++ A, g1, ⟨?_, ?_, ?_, ?_⟩, fun a z => .inl z, fun H' Ar O2 B1 B2 c1 fr dj2 eO nB1 hc1 => ?_⟩
  · refine ⟨some x0, vs.map some, A2', A, rfl, rfl, ⟨x0, rfl, RepC.kp (Kp.less fun a z => ?_) _ _ _ (fun _ _ _ e => e) hc0⟩, RepE.kp (Kp.less fun a z => ?_) (fun _ _ _ e => e) (RepL.repE r.rep)⟩
    · rcases z with (z | z) | z
      · exact .inl (.inl z)
      · exact .inr (sub a z)
      · rcases List.mem_append.mp z with z | z
        · exact .inr (sub2 a z)
        · exact .inl (.inr z)
    · rcases z with (z | z) | z
      · exact .inl (.inl z)
      · exact .inr (sub a z)
      · rcases List.mem_append.mp z with z | z
        · exact .inr (sub2 a z)
        · exact .inl (.inr z)
  · exact List.nodup_append.mpr ⟨nd2.1, r.nd, fun a ha b hb e => nA a (sub2 a ha) (e ▸ hb)⟩
  · intro a ha z
    rcases List.mem_append.mp ha with ha | ha
    · exact z.elim (fun z => r.stt.dj a (sub2 a ha) (.inl z)) (n13 a ha)
    · exact z.elim (r.dj a ha) fun z => nA a (sub a z) ha
  · exact fun a z => z.elim (fun z => r.stt.tr a (.inl z)) fun z => RepE.trk r.stt.rep a (sub a z)
  · have keep13 : ∀ a ∈ A1 ++ A3, ∀ o, H1 a = some o → H' a = some o ∧ ¬ (a ∈ Ar ∨ a ∈ O2) := fun a ha o e => fr a o (fun z => (List.mem_append.mp z).elim (fun z => n13 a z ha) fun z => nA a (sub a ha) z) e
    have t13 : ∀ a ∈ A1 ++ A3, ∃ u, H1 a = some u := fun a ha => RepE.trk r.stt.rep a (sub a ha)
    have b1 : ∀ a, a ∈ B1 → a ∈ O2 := fun a ha => by rw [eO]; simp [ha]
    have m3 : ∀ a, a ∈ A1 ++ (B1 ++ A3) → a ∈ A1 ++ A3 ∨ a ∈ B1 := fun a ha => by simp at ha ⊢; rcases ha with z | z | z <;> simp [z]
    refine ⟨A1 ++ (B1 ++ A3), ⟨?_, ?_, ?_, ?_⟩, ?_, fun a z => ?_⟩
    · have q := put (fun a => B a ∨ a ∈ A1 ++ (B1 ++ A3)) H' (some c1) (some x0) B1 ?_ (fun a ha o e => (keep13 a ha o e).1) ⟨x0, rfl, RepC.kp (Kp.less fun a z => ?_) _ _ _ (fun _ _ _ e => e) hc1⟩
      · rw [set_same g1] at q; exact q
      · intro a o hw ha
        obtain ⟨q1, q2⟩ := fr a o (fun z => (List.mem_append.mp z).elim (fun z => hw (.inr (sub2 a z))) fun z => hw (.inl (.inr z))) ha
        refine ⟨q1, fun z => ?_⟩
        rcases z with z | z
        · exact hw (.inl (.inl z))
        · rcases m3 a z with z | z
          · exact hw (.inr (sub a z))
          · exact q2 (.inr (b1 a z))
      · rcases z with z | z
        · exact .inl (.inl (.inl z))
        · rcases m3 a z with z | z
          · exact .inl (.inl (.inr z))
          · exact .inr (b1 a z)
    · have d13 : ∀ a ∈ B1, a ∉ A1 ++ A3 := fun a ha z => by
        obtain ⟨u, e⟩ := t13 a z
        exact (keep13 a z u e).2 (.inr (b1 a ha))
      refine List.nodup_append.mpr ⟨nd1.1, List.nodup_append.mpr ⟨nB1, nd2.2.1, fun a ha b hb e => d13 a ha (by subst e; simp [hb])⟩, fun a ha b hb e => ?_⟩
      subst e
      rcases List.mem_append.mp hb with z | z
      · exact d13 a z (by simp [ha])
      · exact nd1.2.2 a ha a (by simp [z]) rfl
    · intro a ha z
      rcases m3 a ha with ha | ha
      · exact r.stt.dj a (sub a ha) (.inl z)
      · exact dj2 a (b1 a ha) (.inl (.inl z))
    · intro a z
      obtain ⟨u, e⟩ := r.stt.tr a (.inl z)
      exact ⟨u, (fr a u (fun y => (List.mem_append.mp y).elim (fun y => r.stt.dj a (sub2 a y) (.inl z)) fun y => r.dj a y z) e).1⟩
    · intro a o hw ha
      obtain ⟨q, n⟩ := r.frm a o hw ha
      obtain ⟨q1, q2⟩ := fr a o (fun z => (List.mem_append.mp z).elim (fun z => n (.inr (sub2 a z))) fun z => n (.inl z)) q
      refine ⟨q1, fun z => z.elim (fun z => nomatch z) fun z => ?_⟩
      rcases m3 a z with z | z
      · exact n (.inr (sub a z))
      · exact q2 (.inr (b1 a z))
    · rcases z with z | z
      · exact .inl (.inl z)
      · rcases m3 a z with z | z
        · exact .inl (.inr z)
        · exact .inr (b1 a z)
/-- a call that is lent slot i's thing -/
theorem e_fnL {k i : Nat} {x y : Str} {py : Pos} {st : Stmt} {qs : List Str} {m : List C → Out C} {fs : List (M C)} (F : FnM X.prog X.w X.K X.mg X.base k x st qs m) (bd : BindP x st qs) (hg : X.A.guards = some []) (hr : Room k X.A) (tk : Takes X w) (gl : Gl X x)
    (hN : X.N[i]? = some y) (hv : Vis X.env.scope y) (ha : AMk X w es fs) (hl : fs.length + 1 = qs.length := by rfl) (hd : (y == ("__debug__" : Str)) = false := by decide) (hcd : (y == ("__classdict__" : Str)) = false := by decide)
    (hdb : (x == ("__debug__" : Str)) = false := by decide) (he : starEach (.Name y py :: es) X.env = (false, eval (.Name y py) X.env) :: starEach es X.env := by rfl) (hpl : (backTo pos (starEach es X.env)).any (·.1) = false := by rfl) :
    EOk X w (.Call (.Name x pp) (.Name y py :: es) [] pos) (eFnL m i fs) := by
  obtain ⟨f, kV, doc, pm, an, cdv, ct, hm, kp, G⟩ := F.ex
  refine ⟨fun pins s σ H Q I h => ?_⟩
  have want : tCons (tVar i) (rdM X w fs) σ H fun vs H1 => spM X.K X.mg qs.length m vs H1 Q (EofW w σ) := by
    obtain ⟨B, env, O, st, h⟩ := h
    unfold eFnL at h
    split at h
    · rename_i ent hent
      split at hent
      · rename_i c00 h00
        obtain ⟨o, A1, A2, A3, g1, g2, ⟨x0, rfl, hc0⟩, _⟩ := RepE.at st.rep h00
        refine ⟨x0, g1, B, env, O, st, ?_⟩
        cases er : evMs fs env with
        | no => rw [er] at hent; cases hent
        | err y e => rw [er] at hent; cases hent
        | ok cs e1 =>
          rw [er] at hent
          intro vs H1 A O1 r
          have hent : lentTo m i cs e1 = _ := hent
          unfold lentTo at hent
          split at hent
          · rename_i c0 h0
            obtain ⟨x0', Bc, O0, k1, k2, k3, k4⟩ := r.lend h0
            rw [g1] at k1
            cases k1
            refine ⟨by rw [List.length_cons, r.rep.length, evMs_len er]; exact hl, Bc, c0 :: cs, O0, k2, ?_⟩
            split at hent
            · rename_i c outs em
              split at hent
              · rename_i c1 rest
                cases hent
                try rw [em]
                intro u H' A2 O2 r2
                obtain ⟨o, τ, B1, B2, e1', e2', ⟨x1, e3', hc1⟩, _⟩ := r2.stt.rep
                rw [List.map_cons] at e1'
                cases e1'
                cases e3'
                have ndO2 := r2.stt.nd
                rw [e2'] at ndO2
                obtain ⟨O3, s3, f3, sb⟩ := k4 H' A2 O2 B1 B2 c1 r2.frm (fun a ha z => r2.stt.dj a ha z) e2' (List.nodup_append.mp ndO2).1 hc1
                exact h u H' [] O3 (Res.new s3 f3 (New.of_is (Is.kp (Kp.less sb) _ _ r2.is)))
              · cases hent
            · split at hent <;> cases hent
            · cases hent
          · cases hent
      · cases hent
    · rename_i x' ent hent
      split at hent
      · rename_i c00 h00
        obtain ⟨o, A1, A2, A3, g1, g2, ⟨x0, rfl, hc0⟩, _⟩ := RepE.at st.rep h00
        refine ⟨x0, g1, B, env, O, st, ?_⟩
        cases er : evMs fs env with
        | no => rw [er] at hent; cases hent
        | err y e =>
          rw [er] at hent
          cases hent
          exact h
        | ok cs e1 =>
          rw [er] at hent
          intro vs H1 A O1 r
          have hent : lentTo m i cs e1 = _ := hent
          unfold lentTo at hent
          split at hent
          · rename_i c0 h0
            obtain ⟨x0', Bc, O0, k1, k2, k3, k4⟩ := r.lend h0
            rw [g1] at k1
            cases k1
            refine ⟨by rw [List.length_cons, r.rep.length, evMs_len er]; exact hl, Bc, c0 :: cs, O0, k2, ?_⟩
            split at hent
            · split at hent <;> cases hent
            · rename_i y outs em
              split at hent
              · rename_i c1 rest
                cases hent
                try rw [em]
                intro cls d H' O2 r2
                obtain ⟨o, τ, B1, B2, e1', e2', ⟨x1, e3', hc1⟩, _⟩ := r2.stt.rep
                rw [List.map_cons] at e1'
                cases e1'
                cases e3'
                have ndO2 := r2.stt.nd
                rw [e2'] at ndO2
                obtain ⟨O3, s3, f3, sb⟩ := k4 H' [] O2 B1 B2 c1 r2.frm (fun a ha z => r2.stt.dj a ha (z.elim id fun z => nomatch z)) e2' (List.nodup_append.mp ndO2).1 (RepC.kp (Kp.less fun a z => z.imp (fun z => z.elim id fun z => nomatch z) id) _ _ _ (fun _ _ _ e => e) hc1)
                exact h cls d H' O3 (XRes.mk' r2.cls (r2.xfs.less sb) s3 f3)
              · cases hent
            · cases hent
          · cases hent
      · cases hent
    · exact h.elim
  refine wpAny_Call_Name_kw (ld_glob I gl hm ?_ hdb)
  refine PySem.W.callWith_K (h₀ := X.base) I.ok.mod.kin kp (thn ((pa_cons (pe_var (i := i) hN hv hd hcd) ha he).run pos pins s σ H _ I want) ?_) he hpl
  rintro us s1 ⟨vs, H1, I1, r1, q1⟩
  exact ⟨I1.kIn, run_G G hg hr (fun e s' c => tk e s' (XE.of_call I1 (fun _ _ _ z => z) c)) (.of_eq (bd kV doc pm an cdv ct us (r1.length.symm.trans q1.1))) I1 r1 q1⟩
end
end PL
namespace PL
open PySem PySem.Spec PyProof.Rows L2
section
variable {X : Cx} {w : WX} {H : Hp} {σ : L2.St} {e : Expr} {es : List Expr} {p q r : P} {ps : List P} {pos pp : Pos} {K : PySem.W.Frag} {mg : Str → Option Value} {B : Addr → Prop} {O : List Addr} {env : Slots}
/-! ### slots put, forgotten -/
theorem RepE.ext {W : Addr → Prop} : ∀ {env : Slots} {σ τ : List (Option V)} {A : List Addr}, RepE K W H env σ A → (∀ (i : Nat) (c : C), env[i]? = some (some c) → τ[i]? = σ[i]?) → τ.length = σ.length → RepE K W H env τ A
  | [], σ, τ, A, h, _, l => by
    obtain ⟨rfl, rfl⟩ := h
    exact ⟨List.eq_nil_of_length_eq_zero (by simpa using l), rfl⟩
  | oc :: r, σ, τ, A, h, q, l => by
    obtain ⟨o, ρ, A1, A2, rfl, rfl, h1, h2⟩ := h
    cases τ with
    | nil => simp at l
    | cons t τ =>
      refine ⟨t, τ, A1, A2, rfl, rfl, ?_, RepE.ext h2 (fun i c e => by simpa using q (i + 1) c (by simpa using e)) (by simpa using l)⟩
      cases oc with
      | none => exact h1
      | some c =>
        have z := q 0 c rfl
        simp at z
        subst z
        exact h1
theorem RepE.unset {W : Addr → Prop} {env : Slots} {σ : List (Option V)} {A : List Addr} (h : RepE K W H env σ A) (i : Nat) : ∃ A', A'.Sublist A ∧ RepE K W H (env.set i none) σ A' := by
  by_cases hi : i < env.length
  · obtain ⟨o, A1, A2, A3, g1, rfl, g3, g4⟩ := RepE.at h (List.getElem?_eq_getElem hi)
    have q := g4 W H none o [] Kp.refl (fun _ _ _ e => e) rfl
    rw [set_same g1] at q
    exact ⟨_, by simp, q⟩
  · rw [List.set_eq_of_length_le (by omega)]
    exact ⟨A, List.Sublist.refl _, h⟩
def wipeE (env : Slots) : List Nat → Slots
  | [] => env
  | v :: vs => (wipeE env vs).set v none
theorem RepE.wipe {W : Addr → Prop} {env : Slots} {σ : List (Option V)} {A : List Addr} (h : RepE K W H env σ A) : ∀ vs : List Nat, ∃ A', A'.Sublist A ∧ RepE K W H (wipeE env vs) σ A'
  | [] => ⟨A, List.Sublist.refl _, h⟩
  | v :: vs => by
    obtain ⟨A1, s1, h1⟩ := RepE.wipe h vs
    obtain ⟨A2, s2, h2⟩ := h1.unset v
    exact ⟨A2, s2.trans s1, h2⟩
theorem wipeE_length (env : Slots) : ∀ vs : List Nat, (wipeE env vs).length = env.length
  | [] => rfl
  | v :: vs => by unfold wipeE; rw [List.length_set, wipeE_length env vs]
theorem wipeE_none {env : Slots} {i : Nat} {c : C} : ∀ {vs : List Nat}, (wipeE env vs)[i]? = some (some c) → i ∉ vs
  | [], h => by simp
  | v :: vs, h => by
    unfold wipeE at h
    by_cases hv : v = i
    · subst hv
      rw [List.getElem?_set] at h
      split at h
      · split at h <;> cases h
      · rename_i z; exact absurd rfl z
    · rw [List.getElem?_set_ne hv] at h
      simp only [List.mem_cons, not_or]
      exact ⟨fun z => hv z.symm, wipeE_none h⟩
/-- only the slots at js may have changed -/
structure SetIn (js : List Nat) (σ τ : List (Option V)) : Prop where
  len : τ.length = σ.length
  out : ∀ i, i ∉ js → τ[i]? = σ[i]?
theorem SetIn.refl {js : List Nat} {σ : List (Option V)} : SetIn js σ σ := ⟨rfl, fun _ _ => rfl⟩
theorem SetIn.trans {js js' : List Nat} {σ τ ρ : List (Option V)} (h : SetIn js σ τ) (h' : SetIn js' τ ρ) : SetIn (js ++ js') σ ρ :=
  ⟨h'.len.trans h.len, fun i hi => (h'.out i fun z => hi (by simp [z])).trans (h.out i fun z => hi (by simp [z]))⟩
theorem SetIn.set {σ : List (Option V)} (i : Nat) (o : Option V) : SetIn [i] σ (σ.set i o) := ⟨by simp, fun j hj => List.getElem?_set_ne (fun z => hj (by simp [z]))⟩
theorem wipe_get (σ : List (Option V)) (i : Nat) : ∀ vs : List Nat, (L2.wipe σ vs)[i]? = if i ∈ vs then (σ[i]?).map fun _ => none else σ[i]?
  | [] => by simp [L2.wipe]
  | v :: vs => by
    unfold L2.wipe
    by_cases hv : v = i
    · subst hv
      have ih := wipe_get σ v vs
      rw [List.getElem?_set_self']
      rw [ih]
      simp only [List.mem_cons, true_or, if_true]
      split <;> cases σ[v]? <;> rfl
    · rw [List.getElem?_set_ne hv, wipe_get σ i vs]
      have : i ∈ v :: vs ↔ i ∈ vs := by
        rw [List.mem_cons]
        exact ⟨fun z => z.elim (fun z => absurd z.symm hv) id, .inr⟩
      simp only [this]
theorem SetIn.wipe {js vs : List Nat} {σ τ : List (Option V)} (h : SetIn js σ τ) (hs : ∀ j ∈ js, j ∈ vs) : L2.wipe τ vs = L2.wipe σ vs := by
  refine List.ext_getElem? fun i => ?_
  rw [wipe_get, wipe_get]
  by_cases hi : i ∈ vs
  · rw [if_pos hi, if_pos hi]
    by_cases hl : i < σ.length
    · rw [List.getElem?_eq_getElem hl, List.getElem?_eq_getElem (by rw [h.len]; exact hl)]; rfl
    · have hl' := h.len
      rw [List.getElem?_eq_none (show τ.length ≤ i by omega), List.getElem?_eq_none (show σ.length ≤ i by omega)]
  · rw [if_neg hi, if_neg hi]
    exact h.out i fun z => hi (hs i z)
theorem Stt.wiped {vs : List Nat} {τ : List (Option V)} (s : Stt K B H σ env O) (h : ∀ i, i ∉ vs → τ[i]? = σ[i]?) (hl : τ.length = σ.length) : ∃ O', O'.Sublist O ∧ Stt K B H τ (wipeE env vs) O' := by
  obtain ⟨A', sub, r⟩ := s.rep.wipe vs
  have r2 := RepE.ext r (τ := τ) (fun i c e => h i (wipeE_none e)) hl
  exact ⟨A', sub, RepE.kp (Kp.less fun a z => z.imp id (sub.subset ·)) (fun _ _ _ e => e) r2, s.nd.sublist sub, fun a ha => s.dj a (sub.subset ha), s.tr⟩
/-- .. what the slots let go is told as another's -/
theorem Stt.wipedB {vs : List Nat} {τ : List (Option V)} (s : Stt K B H σ env O) (h : ∀ i, i ∉ vs → τ[i]? = σ[i]?) (hl : τ.length = σ.length) : ∃ O', O'.Sublist O ∧ Stt K (fun a => B a ∨ (a ∈ O ∧ a ∉ O')) H τ (wipeE env vs) O' := by
  obtain ⟨A', sub, r⟩ := s.rep.wipe vs
  have r2 := RepE.ext r (τ := τ) (fun i c e => h i (wipeE_none e)) hl
  refine ⟨A', sub, RepE.kp (Kp.less fun a z => ?_) (fun _ _ _ e => e) r2, s.nd.sublist sub, fun a ha z => ?_, fun a z => z.elim (s.tr a) fun z => RepE.trk s.rep a z.1⟩
  · rcases z with (z | z) | z
    · exact .inl z
    · exact .inr z.1
    · exact .inr (sub.subset z)
  · exact z.elim (s.dj a (sub.subset ha)) fun z => z.2 ha
theorem Frm.sub {O O1 O2 A : List Addr} {H H' : Hp} (f : Frm O H A O1 H') (s : ∀ a ∈ O2, a ∈ O1) : Frm O H A O2 H' := fun a o w h => ⟨(f a o w h).1, fun z => (f a o w h).2 (z.imp id (s a))⟩
/-- a value put into a slot -/
theorem Res.put {c : C} {e1 : Slots} {v : V} {H' : Hp} {A O' : List Addr} {i : Nat} (r : Res K B O H σ c e1 v H' A O') (hi : i < e1.length) :
    ∃ O2, Stt K B H' (σ.set i (some v)) (e1.set i (some c)) O2 ∧ Frm O H [] O2 H' := by
  obtain ⟨o, A1, A2, A3, g1, g2, g3, g4⟩ := RepE.at r.stt.rep (List.getElem?_eq_getElem hi)
  have nd := r.stt.nd
  rw [g2] at nd
  have nd1 := List.nodup_append.mp nd
  have nd2 := List.nodup_append.mp nd1.2.1
  have sub : ∀ a, a ∈ A1 ++ A3 → a ∈ O' := fun a ha => by rw [g2]; simp at ha ⊢; rcases ha with z | z <;> simp [z]
  have m3 : ∀ a, a ∈ A1 ++ (A ++ A3) → a ∈ A ∨ a ∈ A1 ++ A3 := fun a ha => by simp at ha ⊢; rcases ha with z | z | z <;> simp [z]
  refine ⟨A1 ++ (A ++ A3), ⟨?_, ?_, ?_, ?_⟩, fun a o hw ha => ⟨(r.frm a o hw ha).1, fun z => (r.frm a o hw ha).2 (z.elim (fun z => nomatch z) fun z => (m3 a z).imp id (sub a))⟩⟩
  · refine g4 _ H' (some c) (some v) A (Kp.less fun a z => ?_) (fun _ _ _ e => e) ⟨v, rfl, RepC.kp (Kp.less fun a z => ?_) _ _ _ (fun _ _ _ e => e) r.rep⟩
    · rcases z with z | z
      · exact .inl (.inl z)
      · exact (m3 a z).imp .inr (sub a)
    · rcases z with z | z
      · exact .inl (.inl z)
      · exact (m3 a z).imp .inr (sub a)
  · refine List.nodup_append.mpr ⟨nd1.1, List.nodup_append.mpr ⟨r.nd, nd2.2.1, fun a ha b hb e => ?_⟩, fun a ha b hb e => ?_⟩
    · subst e; exact r.stt.dj a (sub a (by simp [hb])) (.inr ha)
    · subst e
      rcases List.mem_append.mp hb with z | z
      · exact r.stt.dj a (sub a (by simp [ha])) (.inr z)
      · exact nd1.2.2 a ha a (by simp [z]) rfl
  · exact fun a ha z => (m3 a ha).elim (fun y => r.dj a y z) fun y => r.stt.dj a (sub a y) (.inl z)
  · exact fun a z => r.stt.tr a (.inl z)
theorem Stt.put {d : D} {v : V} {i : Nat} (s : Stt K B H σ env O) (h : Is K (fun a => B a ∨ a ∈ O) H d v) (hi : i < env.length) : ∃ O2, Stt K B H (σ.set i (some v)) (env.set i (some (.frz d))) O2 ∧ Frm O H [] O2 H :=
  (Res.new s Frm.refl (New.of_is h)).put hi

/-! ### targets (n: of a comprehension: the slots are free ahead) -/
abbrev Tg := D → Slots → Option Slots
def rdG (X : Cx) (n : Bool) (js : List Nat) (t : Tg) : TG := fun v σ H Q => ∃ B env O d env', Stt X.K B H σ env O ∧ Is X.K (fun a => B a ∨ a ∈ O) H d v ∧ t d env = some env' ∧ ∀ σ' H' O', Stt X.K B H' σ' env' O' → Frm O H [] O' H' → SetIn js σ σ' → (n = true → H' = H ∧ O' = O) → Q σ' H'
def rdGs (X : Cx) (n : Bool) (js : List Nat) (t : List D → Slots → Option Slots) : TGs := fun vs σ H Q => ∃ B env O ds env', Stt X.K B H σ env O ∧ IsL X.K (fun a => B a ∨ a ∈ O) H ds vs ∧ t ds env = some env' ∧ ∀ σ' H' O', Stt X.K B H' σ' env' O' → Frm O H [] O' H' → SetIn js σ σ' → (n = true → H' = H ∧ O' = O) → Q σ' H'
abbrev GOk (X : Cx) (n : Bool) (tg : Expr) (js : List Nat) (t : Tg) : Prop := PG X tg (rdG X n js t)
abbrev GsOk (X : Cx) (n : Bool) (tg : List Expr) (js : List Nat) (t : List D → Slots → Option Slots) : Prop := PGs X tg (rdGs X n js t)
theorem _root_.L2.PG.imp {X : Cx} {e : Expr} {t t' : TG} (h : PG X e t) (i : ∀ v σ H Q, t' v σ H Q → t v σ H Q) : PG X e t' := ⟨fun pins s σ H v u Q I r hw => h.run pins s σ H v u Q I r (i v σ H Q hw)⟩
theorem _root_.L2.PGs.imp {X : Cx} {e : List Expr} {t t' : TGs} (h : PGs X e t) (i : ∀ v σ H Q, t' v σ H Q → t v σ H Q) : PGs X e t' := ⟨fun pins s σ H v u Q I r hw => h.run pins s σ H v u Q I r (i v σ H Q hw)⟩
def isFree : Option (Option C) → Bool
  | some none => true
  | _ => false
def gV (n : Bool) (i : Nat) : Tg := fun d env => if (!n || isFree env[i]?) then some (env.set i (some (.frz d))) else none
theorem Stt.putF {d : D} {v : V} {i : Nat} (s : Stt K B H σ env O) (h : Is K (fun a => B a ∨ a ∈ O) H d v) (hi : isFree env[i]? = true) : Stt K B H (σ.set i (some v)) (env.set i (some (.frz d))) O := by
  have hi' : env[i]? = some none := by
    cases e : env[i]? with
    | none => rw [e] at hi; cases hi
    | some o =>
      cases o with
      | none => rfl
      | some c => rw [e] at hi; cases hi
  obtain ⟨o, A1, A2, A3, g1, g2, g3, g4⟩ := RepE.at s.rep hi'
  have e2 : A2 = [] := g3
  subst e2
  have q := g4 (fun a => B a ∨ a ∈ O) H (some (.frz d)) (some v) [] Kp.refl (fun _ _ _ e => e) ⟨v, rfl, rfl, h⟩
  rw [← g2] at q
  exact ⟨q, s.nd, s.dj, s.tr⟩
theorem Stt.len (s : Stt K B H σ env O) : σ.length = env.length := RepE.length s.rep
theorem g_V {n : Bool} {i : Nat} {x : Str} (hN : X.N.Nodup) (hi : X.N[i]? = some x) (hx : Loc X.env.scope x) (hf : X.fn x = true ∨ X.env.scope.names.lookup x = some .local := by first | exact .inl rfl | exact .inr rfl | assumption) : GOk X n (.Name x pos) [i] (gV n i) := ⟨fun pins s σ H v u Q I r h => (pg_name hN hi hx hf).run pins s σ H v u Q I r (by
  obtain ⟨B, env, O, d, env', st, hd, ht, h⟩ := h
  have hl : i < env.length := by
    rw [← st.len, I.len]
    by_cases q : i < X.N.length
    · exact q
    · rw [List.getElem?_eq_none (by omega)] at hi; cases hi
  cases n with
  | true =>
    simp only [gV, Bool.not_true, Bool.false_or] at ht
    split at ht
    · rename_i hl
      cases ht
      exact h _ H O (st.putF hd hl) Frm.refl (SetIn.set i _) fun _ => ⟨rfl, rfl⟩
    · cases ht
  | false =>
    cases ht
    obtain ⟨O2, s2, f2⟩ := st.put hd hl
    exact h _ H O2 s2 f2 (SetIn.set i _) fun z => nomatch z)⟩
def gsNil : List D → Slots → Option Slots
  | [], env => some env
  | _, _ => none
def gsCons (t : Tg) (u : List D → Slots → Option Slots) : List D → Slots → Option Slots
  | d :: r, env => (t d env).bind (u r)
  | _, _ => none
theorem gs_nil {n : Bool} : GsOk X n [] [] gsNil := pgs_nil.imp fun vs σ H Q h => by
  obtain ⟨B, env, O, ds, env', s, hd, ht, h⟩ := h
  unfold gsNil at ht
  split at ht
  · cases ht
    exact ⟨hd, h σ H O s Frm.refl SetIn.refl fun _ => ⟨rfl, rfl⟩⟩
  · cases ht
theorem gs_cons {n : Bool} {js js' : List Nat} {t : Tg} {u : List D → Slots → Option Slots} (h1 : GOk X n e js t) (h2 : GsOk X n es js' u)
    (hs : (assignEach (e :: es) X.env).map (·.2) = assign e X.env :: (assignEach es X.env).map (·.2) := by rfl) : GsOk X n (e :: es) (js ++ js') (gsCons t u) := (pgs_cons h1 h2 hs).imp fun vs σ H Q h => by
  obtain ⟨B, env, O, ds, env', s, hd, ht, h⟩ := h
  unfold gsCons at ht
  split at ht
  · simp only [Option.bind_eq_some_iff] at ht
    obtain ⟨e1, ht1, ht2⟩ := ht
    obtain ⟨x, ys, rfl, i1, i2⟩ := hd
    refine ⟨x, ys, rfl, B, _, O, _, e1, s, i1, ht1, fun σ1 H1 O1 s1 f1 z1 q1 => ⟨B, e1, O1, _, env', s1, IsL.kp (fun a o hw ha => ?_) _ _ i2, ht2, fun σ2 H2 O2 s2 f2 z2 q2 => h σ2 H2 O2 s2 (f1.seq' f2) (z1.trans z2) fun z => ⟨(q2 z).1.trans (q1 z).1, (q2 z).2.trans (q1 z).2⟩⟩⟩
    obtain ⟨q, n⟩ := f1 a o (fun z => hw (.inr z)) ha
    exact ⟨q, fun z => z.elim (fun z => hw (.inl z)) fun z => n (.inr z)⟩
  · cases ht
def gTupD (n : Nat) (u : List D → Slots → Option Slots) : Tg := fun d env => match d with
  | .tup l => if l.length = n then u l env else none
  | _ => none
theorem g_tup {nn : Bool} {k n : Nat} {js : List Nat} {u : List D → Slots → Option Slots} (hc : X.calm = true) (h : GsOk X nn es js u) (hn : (assignEach es X.env).length = n := by rfl) (hst : (assignEach es X.env).findIdx? (·.1) = none := by rfl) : GOk X nn (.Tuple es k pos) js (gTupD n u) :=
  (pg_tup hc h hn hst).imp fun v σ H Q h => by
    obtain ⟨B, env, O, d, env', s, hd, ht, h⟩ := h
    unfold gTupD at ht
    split at ht
    · rename_i l
      split at ht
      · rename_i hl
        obtain ⟨a, xs, rfl, ha, nw, il⟩ := hd
        exact ⟨a, xs, rfl, SqT.of ha, il.length.trans hl, B, env, O, l, env', s, il, ht, h⟩
      · cases ht
    · cases ht

/-! ### what is walked -/
/-- a walk of l, whatever happens outside W -/
def WalkD (K : PySem.W.Frag) (W : Addr → Prop) (H : Hp) (J : It) (l : List D) : Prop := ∀ (W2 : Addr → Prop) (H2 : Hp), Kp W H W2 H2 → (∀ a, W2 a → ∃ u, H2 a = some u) →
  (∀ i, i < l.length → J.go i H2) ∧ J.stop l.length H2 ∧ ∀ i x H3, i < l.length → J.yld i H2 x H3 → Grw H2 H3 ∧ ∃ d, l[i]? = some d ∧ Is K W2 H3 d x
/-- .. while the heap but grows (the object at D aside) -/
def WalkG (K : PySem.W.Frag) (W : Addr → Prop) (H : Hp) (J : It) (l : List D) : Prop := ∀ (D : Addr) (H2 : Hp), H D = none → (∃ u, H2 D = some u) → (∀ a o, H a = some o → H2 a = some o) → (∀ a, W a → ∃ u, H2 a = some u) →
  (∀ i, i < l.length → J.go i H2) ∧ J.stop l.length H2 ∧ ∀ i x H3, i < l.length → J.yld i H2 x H3 → Grw H2 H3 ∧ ∃ d, l[i]? = some d ∧ Is K (fun a => W a ∨ a = D) H3 d x
theorem WalkD.g {W : Addr → Prop} {J : It} {l : List D} (h : WalkD K W H J l) : WalkG K W H J l := fun D H2 hD hD2 g tr =>
  h (fun a => W a ∨ a = D) H2 (fun a o w ha => ⟨g a o ha, fun z => z.elim w fun z => by subst z; rw [hD] at ha; cases ha⟩) fun a z => z.elim (tr a) fun z => z ▸ hD2
def rdIG (X : Cx) (src : PLs) : TI := fun σ H R => ∃ B env O, Stt X.K B H σ env O ∧ ∃ l, src env = some l ∧ ∀ J H', Grw H H' → WalkG X.K (fun a => B a ∨ a ∈ O) H' J l → R J H'
def rdID (X : Cx) (w : WX) (src : M (List D)) : TI := fun σ H R => ∃ B env O, Stt X.K B H σ env O ∧ match src env with
  | .ok l env' => ∀ J H' O', Stt X.K B H' σ env' O' → Frm O H [] O' H' → WalkD X.K (fun a => B a ∨ a ∈ O') H' J l → R J H'
  | .err x env' => ∀ cls d H' O', XRes X.K X.mg B O H σ x env' cls d H' O' → w cls d σ H'
  | .no => False
abbrev IGk (X : Cx) (tg e : Expr) (src : PLs) : Prop := PI X tg e (rdIG X src)
abbrev IDk (X : Cx) (w : WX) (tg e : Expr) (src : M (List D)) : Prop := PI X tg e (rdID X w src)
theorem _root_.L2.PI.imp {X : Cx} {tg e : Expr} {t t' : TI} (h : PI X tg e t) (i : ∀ σ H Q, t' σ H Q → t σ H Q) : PI X tg e t' := ⟨fun pins s σ H R I hw => h.run pins s σ H R I (i σ H R hw)⟩
theorem _root_.L2.PI.or {X : Cx} {tg e : Expr} {t t' : TI} (h : PI X tg e t) (h' : PI X tg e t') : PI X tg e (fun σ H R => t σ H R ∨ t' σ H R) := ⟨fun pins s σ H R I hw => hw.elim (h.run pins s σ H R I) (h'.run pins s σ H R I)⟩
theorem walkD_list {W : Addr → Prop} {a : Addr} {xs : List V} {l : List D} (ha : H a = some (.lst xs)) (nw : ¬ W a) (il : IsL K W H l xs) : WalkD K W H (Itl K a) l := fun W2 H2 kp tr => by
  have h2 := (kp a _ nw ha).1
  have i2 := IsL.kp kp _ _ il
  have hl := il.length
  refine ⟨fun i hi => ⟨xs, xs[i]'(by omega), SqL.of h2, by simp [hl, hi]⟩, ⟨xs, SqL.of h2, by omega⟩, fun i x H3 hi y => ?_⟩
  obtain ⟨rfl, y⟩ := y
  refine ⟨Grw.refl, l[i], by simp [hi], ?_⟩
  obtain ⟨x', e, h⟩ := i2.get (List.getElem?_eq_getElem hi)
  rw [y xs (SqL.of h2)] at e
  cases e
  exact h
theorem walkD_tup {W : Addr → Prop} {a : Addr} {xs : List V} {l : List D} (ha : H a = some (.tup xs)) (nw : ¬ W a) (il : IsL K W H l xs) : WalkD K W H (Itt K a) l := fun W2 H2 kp tr => by
  have h2 := (kp a _ nw ha).1
  have i2 := IsL.kp kp _ _ il
  have hl := il.length
  refine ⟨fun i hi => ⟨xs, xs[i]'(by omega), SqT.of h2, by simp [hl, hi]⟩, ⟨xs, SqT.of h2, by omega⟩, fun i x H3 hi y => ?_⟩
  obtain ⟨rfl, y⟩ := y
  refine ⟨Grw.refl, l[i], by simp [hi], ?_⟩
  obtain ⟨x', e, h⟩ := i2.get (List.getElem?_eq_getElem hi)
  rw [y xs (SqT.of h2)] at e
  cases e
  exact h
theorem walkG_list {W : Addr → Prop} {a : Addr} {xs : List V} {l : List D} (ha : H a = some (.lst xs)) (il : IsL K W H l xs) : WalkG K W H (Itl K a) l := fun D H2 hD hD2 g tr => by
  have h2 := g _ _ ha
  have i2 : IsL K (fun b => W b ∨ b = D) H2 l xs := IsL.kp (fun b o w hb => ⟨g b o hb, fun z => z.elim w fun z => by subst z; rw [hD] at hb; cases hb⟩) _ _ il
  have hl := il.length
  refine ⟨fun i hi => ⟨xs, xs[i]'(by omega), SqL.of h2, by simp [hl, hi]⟩, ⟨xs, SqL.of h2, by omega⟩, fun i x H3 hi y => ?_⟩
  obtain ⟨rfl, y⟩ := y
  refine ⟨Grw.refl, l[i], by simp [hi], ?_⟩
  obtain ⟨x', e, h⟩ := i2.get (List.getElem?_eq_getElem hi)
  rw [y xs (SqL.of h2)] at e
  cases e
  exact h
theorem walkD_range {W : Addr → Prop} (lo : Int) (n : Nat) : WalkD K W H (Itr lo n) ((List.range n).map fun (i : Nat) => D.int (lo + (i : Int))) := fun W2 H2 kp tr => by
  refine ⟨fun i hi => (by simpa using hi : i < n), by simp [Itr], fun i x H3 hi y => ?_⟩
  obtain ⟨rfl, rfl⟩ := y
  have hi : i < n := by simpa using hi
  exact ⟨Grw.refl, .int (lo + i), by simp [List.getElem?_range hi], rfl⟩
theorem walkD_rangeC {W : Addr → Prop} (lo c : Int) (n : Nat) : WalkD K W H (Itc lo c n) ((List.range n).map fun (i : Nat) => D.int (lo + (i : Int) * c)) := fun W2 H2 kp tr => by
  refine ⟨fun i hi => (by simpa using hi : i < n), by simp [Itc], fun i x H3 hi y => ?_⟩
  obtain ⟨rfl, rfl⟩ := y
  have hi : i < n := by simpa using hi
  exact ⟨Grw.refl, .int (lo + i * c), by simp [List.getElem?_range hi], rfl⟩
def enumD (l : List D) : List D := l.zipIdx.map fun p => .tup [.int (p.2 : Int), p.1]
theorem enumD_get {l : List D} {i : Nat} (hi : i < l.length) : (enumD l)[i]? = some (.tup [.int (i : Int), l[i]]) := by
  unfold enumD
  rw [List.getElem?_map, List.getElem?_zipIdx, List.getElem?_eq_getElem hi]
  simp
theorem enumD_length (l : List D) : (enumD l).length = l.length := by simp [enumD]
theorem walkG_enum {W : Addr → Prop} {a : Addr} {xs : List V} {l : List D} (ha : H a = some (.lst xs)) (il : IsL K W H l xs) : WalkG K W H (Ite K a) (enumD l) := fun D H2 hD hD2 g tr => by
  have h2 := g _ _ ha
  have i2 : IsL K (fun b => W b ∨ b = D) H2 l xs := IsL.kp (fun b o w hb => ⟨g b o hb, fun z => z.elim w fun z => by subst z; rw [hD] at hb; cases hb⟩) _ _ il
  have hl := il.length
  rw [enumD_length]
  refine ⟨fun i hi => ⟨xs, xs[i]'(by omega), SqL.of h2, by simp [hl, hi]⟩, ⟨xs, SqL.of h2, by omega⟩, fun i x H3 hi y => ?_⟩
  obtain ⟨T, z, rfl, hT, rfl, y⟩ := y
  have g1 : Grw H2 (upd H2 T (.tup [.int (i : Nat), z])) := fun b o e => by rw [upd_ne (ne_of_none e hT)]; exact e
  refine ⟨g1, _, enumD_get hi, T, _, rfl, upd_same, fun q => ?_, ?_⟩
  · rcases q with q | q
    · obtain ⟨u, e⟩ := tr T q; rw [hT] at e; cases e
    · subst q; obtain ⟨u, e⟩ := hD2; rw [hT] at e; cases e
  · obtain ⟨x', e, h⟩ := i2.get (List.getElem?_eq_getElem hi)
    rw [y xs (SqL.of h2)] at e
    cases e
    exact ⟨_, _, rfl, rfl, _, _, rfl, h.grw g1, rfl⟩
theorem walkD_enum {W : Addr → Prop} {a : Addr} {xs : List V} {l : List D} (ha : H a = some (.lst xs)) (nw : ¬ W a) (il : IsL K W H l xs) : WalkD K W H (Ite K a) (enumD l) := fun W2 H2 kp tr => by
  have h2 := (kp a _ nw ha).1
  have i2 := IsL.kp kp _ _ il
  have hl := il.length
  rw [enumD_length]
  refine ⟨fun i hi => ⟨xs, xs[i]'(by omega), SqL.of h2, by simp [hl, hi]⟩, ⟨xs, SqL.of h2, by omega⟩, fun i x H3 hi y => ?_⟩
  obtain ⟨T, z, rfl, hT, rfl, y⟩ := y
  have g1 : Grw H2 (upd H2 T (.tup [.int (i : Nat), z])) := fun b o e => by rw [upd_ne (ne_of_none e hT)]; exact e
  refine ⟨g1, _, enumD_get hi, T, _, rfl, upd_same, fun q => ?_, ?_⟩
  · obtain ⟨u, e⟩ := tr T q; rw [hT] at e; cases e
  · obtain ⟨x', e, h⟩ := i2.get (List.getElem?_eq_getElem hi)
    rw [y xs (SqL.of h2)] at e
    cases e
    exact ⟨_, _, rfl, rfl, _, _, rfl, h.grw g1, rfl⟩
def zipD (l m : List D) : List D := List.zipWith (fun a b => D.tup [a, b]) l m
theorem zipD_length (l m : List D) : (zipD l m).length = min l.length m.length := by simp [zipD]
theorem zipD_get {l m : List D} {i : Nat} {a b : D} (h1 : l[i]? = some a) (h2 : m[i]? = some b) : (zipD l m)[i]? = some (.tup [a, b]) := by
  unfold zipD
  rw [List.getElem?_zipWith, h1, h2]
theorem walkG_zip {W : Addr → Prop} {a b : Addr} {xs ys : List V} {l m : List D} (ha : H a = some (.lst xs)) (hb : H b = some (.lst ys)) (il : IsL K W H l xs) (im : IsL K W H m ys) : WalkG K W H (Itz K a b) (zipD l m) := fun D H2 hD hD2 g tr => by
  have h2 := g _ _ ha
  have h3 := g _ _ hb
  have kp : ∀ {l : List PL.D} {xs : List V}, IsL K W H l xs → IsL K (fun b => W b ∨ b = D) H2 l xs := fun il => IsL.kp (fun b o w hb => ⟨g b o hb, fun z => z.elim w fun z => by subst z; rw [hD] at hb; cases hb⟩) _ _ il
  have i2 := kp il
  have i3 := kp im
  have hl := il.length
  have hm := im.length
  rw [zipD_length]
  refine ⟨fun i hi => ⟨xs, ys, xs[i]'(by omega), ys[i]'(by omega), SqL.of h2, SqL.of h3, by simp, by simp⟩, ⟨xs, ys, SqL.of h2, SqL.of h3, by omega⟩, fun i x H3 hi y => ?_⟩
  obtain ⟨T, z, u, rfl, hT, rfl, y1, y2⟩ := y
  have g1 : Grw H2 (upd H2 T (.tup [z, u])) := fun b o e => by rw [upd_ne (ne_of_none e hT)]; exact e
  refine ⟨g1, _, zipD_get (List.getElem?_eq_getElem (by omega : i < l.length)) (List.getElem?_eq_getElem (by omega : i < m.length)), T, _, rfl, upd_same, fun q => ?_, ?_⟩
  · rcases q with q | q
    · obtain ⟨u, e⟩ := tr T q; rw [hT] at e; cases e
    · subst q; obtain ⟨u, e⟩ := hD2; rw [hT] at e; cases e
  · obtain ⟨x', e, h⟩ := i2.get (List.getElem?_eq_getElem (by omega : i < l.length))
    obtain ⟨y', e', h'⟩ := i3.get (List.getElem?_eq_getElem (by omega : i < m.length))
    rw [y1 xs (SqL.of h2)] at e
    rw [y2 ys (SqL.of h3)] at e'
    cases e
    cases e'
    exact ⟨_, _, rfl, h.grw g1, _, _, rfl, h'.grw g1, rfl⟩
theorem walkD_zip {W : Addr → Prop} {a b : Addr} {xs ys : List V} {l m : List D} (ha : H a = some (.lst xs)) (hb : H b = some (.lst ys)) (na : ¬ W a) (nb : ¬ W b) (il : IsL K W H l xs) (im : IsL K W H m ys) : WalkD K W H (Itz K a b) (zipD l m) := fun W2 H2 kp tr => by
  have h2 := (kp a _ na ha).1
  have h3 := (kp b _ nb hb).1
  have i2 := IsL.kp kp _ _ il
  have i3 := IsL.kp kp _ _ im
  have hl := il.length
  have hm := im.length
  rw [zipD_length]
  refine ⟨fun i hi => ⟨xs, ys, xs[i]'(by omega), ys[i]'(by omega), SqL.of h2, SqL.of h3, by simp, by simp⟩, ⟨xs, ys, SqL.of h2, SqL.of h3, by omega⟩, fun i x H3 hi y => ?_⟩
  obtain ⟨T, z, u, rfl, hT, rfl, y1, y2⟩ := y
  have g1 : Grw H2 (upd H2 T (.tup [z, u])) := fun b o e => by rw [upd_ne (ne_of_none e hT)]; exact e
  refine ⟨g1, _, zipD_get (List.getElem?_eq_getElem (by omega : i < l.length)) (List.getElem?_eq_getElem (by omega : i < m.length)), T, _, rfl, upd_same, fun q => ?_, ?_⟩
  · obtain ⟨u, e⟩ := tr T q; rw [hT] at e; cases e
  · obtain ⟨x', e, h⟩ := i2.get (List.getElem?_eq_getElem (by omega : i < l.length))
    obtain ⟨y', e', h'⟩ := i3.get (List.getElem?_eq_getElem (by omega : i < m.length))
    rw [y1 xs (SqL.of h2)] at e
    rw [y2 ys (SqL.of h3)] at e'
    cases e
    cases e'
    exact ⟨_, _, rfl, h.grw g1, _, _, rfl, h'.grw g1, rfl⟩
/-! #### sources -/
section
variable {tg : Expr} {k1 k2 : Nat} {tpos : Pos} {elts : List Expr}
theorem iG_list {p : PLs} (h : LOk X e p) : IGk X tg e p := (pi_list h).imp fun σ H R hr => by
  obtain ⟨B, env, O, s, l, hp, hr⟩ := hr
  exact ⟨B, env, O, s, l, hp, fun a xs H1 g ha il => ⟨a, rfl, ⟨xs, SqL.of ha⟩, hr _ H1 g (walkG_list ha il)⟩⟩
/-- a frozen list or tuple -/
theorem iG_seq (h : POk X e p) : IGk X tg e (fSq p) := ((pi_list h).or (pi_tup h)).imp fun σ H R hr => by
  obtain ⟨B, env, O, s, l, hp, hr⟩ := hr
  unfold fSq at hp
  simp only [Option.bind_eq_some_iff] at hp
  obtain ⟨d, e1, e2⟩ := hp
  cases d with
  | lst l' =>
    cases e2
    exact .inl ⟨B, env, O, s, _, e1, fun v H1 g hv => let ⟨a, xs, ev, ha, nw, il⟩ := hv; ⟨a, ev, ⟨xs, SqL.of ha⟩, hr _ H1 g (walkD_list ha nw il).g⟩⟩
  | tup l' =>
    cases e2
    exact .inr ⟨B, env, O, s, _, e1, fun v H1 g hv => let ⟨a, xs, ev, ha, nw, il⟩ := hv; ⟨a, ev, ⟨xs, SqT.of ha⟩, hr _ H1 g (walkD_tup ha nw il).g⟩⟩
  | non => cases e2
  | bl _ => cases e2
  | int _ => cases e2
  | str _ => cases e2
  | dct _ => cases e2
  | dcT _ => cases e2
  | ro _ => cases e2
  | opq _ => cases e2
def mSq (f : M C) : M (List D) := fun env => (f env).bind fun c e1 => match sqD c.toD with
  | some l => .ok l e1
  | none => .no
theorem iD_seq {f : M C} (h : EOk X w e f) : IDk X w tg e (mSq f) := ((pi_list h).or (pi_tup h)).imp fun σ H R hr => by
  obtain ⟨B, env, O, s, hr⟩ := hr
  unfold mSq at hr
  cases ef : f env with
  | no => simp only [ef, Out.bind] at hr
  | err x e1 =>
    simp only [ef, Out.bind] at hr
    exact .inl ⟨B, env, O, s, by rw [ef]; exact hr⟩
  | ok c e1 =>
    simp only [ef, Out.bind] at hr
    cases hd : c.toD with
    | lst l' =>
      rw [hd] at hr
      refine .inl ⟨B, env, O, s, ?_⟩
      rw [ef]
      intro v H1 A O1 r
      have hv := r.is
      rw [hd] at hv
      obtain ⟨a, xs, ev, ha, nw, il⟩ := hv
      exact ⟨a, ev, ⟨xs, SqL.of ha⟩, hr _ H1 O1 (r.stt.less fun a z => .inl z) (fun a o hw ha => ⟨(r.frm a o hw ha).1, fun z => (r.frm a o hw ha).2 (z.elim (fun z => nomatch z) .inr)⟩) (walkD_list ha nw il)⟩
    | tup l' =>
      rw [hd] at hr
      refine .inr ⟨B, env, O, s, ?_⟩
      rw [ef]
      intro v H1 A O1 r
      have hv := r.is
      rw [hd] at hv
      obtain ⟨a, xs, ev, ha, nw, il⟩ := hv
      exact ⟨a, ev, ⟨xs, SqT.of ha⟩, hr _ H1 O1 (r.stt.less fun a z => .inl z) (fun a o hw ha => ⟨(r.frm a o hw ha).1, fun z => (r.frm a o hw ha).2 (z.elim (fun z => nomatch z) .inr)⟩) (walkD_tup ha nw il)⟩
    | non => rw [hd] at hr; exact hr.elim
    | bl _ => rw [hd] at hr; exact hr.elim
    | int _ => rw [hd] at hr; exact hr.elim
    | str _ => rw [hd] at hr; exact hr.elim
    | dct _ => rw [hd] at hr; exact hr.elim
    | dcT _ => rw [hd] at hr; exact hr.elim
    | ro _ => rw [hd] at hr; exact hr.elim
    | opq _ => rw [hd] at hr; exact hr.elim
def rngL : List D → Option (List D)
  | [.int j] => if -(2 ^ 62) ≤ j ∧ j < 2 ^ 62 then some ((List.range j.toNat).map fun (i : Nat) => .int (0 + (i : Int))) else none
  | [.int i, .int j] => if (-(2 ^ 62) ≤ i ∧ i < 2 ^ 62) ∧ -(2 ^ 62) ≤ j ∧ j < 2 ^ 62 then some ((List.range (j - i).toNat).map fun (k : Nat) => .int (i + (k : Int))) else none
  | _ => none
def rngP (ps : List P) : PLs := fun env => (evPs ps env).bind rngL
def rngM (fs : List (M C)) : M (List D) := fun env => (evMs fs env).bind fun cs e1 => match rngL (C.toDs cs) with
  | some l => .ok l e1
  | none => .no
theorem iG_rng1 {a : Expr} {pa pb : Pos} (hg : Gl X "range") (hm : X.mg "range" = none) (ha : ABk X [a] [p]) (hs : starEach [a] X.env = [(false, eval a X.env)] := by rfl) : IGk X tg (.Call (.Name "range" pa) [a] [] pb) (rngP [p]) := (pi_range1 hg hm ha hs).imp fun σ H R hr => by
  obtain ⟨B, env, O, s, l, hp, hr⟩ := hr
  unfold rngP at hp
  simp only [Option.bind_eq_some_iff] at hp
  obtain ⟨ds, e1, e2⟩ := hp
  refine ⟨B, env, O, s, ds, e1, fun vs H1 g hv => ?_⟩
  have hl := evPs_len e1
  unfold rngL at e2
  split at e2
  · rename_i j
    split at e2
    · rename_i hj
      cases e2
      obtain ⟨x, rfl, hx⟩ := hv.one
      rw [show x = _ from hx]
      exact ⟨j, rfl, hj.1, hj.2, hr _ H1 g (walkD_range 0 _).g⟩
    · cases e2
  · simp at hl
  · cases e2
theorem iG_rng2 {a b : Expr} {pa pb : Pos} (hg : Gl X "range") (hm : X.mg "range" = none) (ha : ABk X [a, b] [p, q]) (hs : starEach [a, b] X.env = [(false, eval a X.env), (false, eval b X.env)] := by rfl) (hs2 : starEach [b] X.env = [(false, eval b X.env)] := by rfl) : IGk X tg (.Call (.Name "range" pa) [a, b] [] pb) (rngP [p, q]) := (pi_range2 hg hm ha hs hs2).imp fun σ H R hr => by
  obtain ⟨B, env, O, s, l, hp, hr⟩ := hr
  unfold rngP at hp
  simp only [Option.bind_eq_some_iff] at hp
  obtain ⟨ds, e1, e2⟩ := hp
  refine ⟨B, env, O, s, ds, e1, fun vs H1 g hv => ?_⟩
  have hl := evPs_len e1
  unfold rngL at e2
  split at e2
  · simp at hl
  · rename_i i j
    split at e2
    · rename_i hj
      cases e2
      obtain ⟨x, y, rfl, hx, hy⟩ := hv.two
      rw [show x = _ from hx, show y = _ from hy]
      exact ⟨i, j, rfl, ⟨hj.1.1, hj.1.2, hj.2.1, hj.2.2⟩, hr _ H1 g (walkD_range i _).g⟩
    · cases e2
  · cases e2
end
end
end PL
namespace PL
open PySem PySem.Spec PyProof.Rows L2
section
variable {X : Cx} {w : WX} {H : Hp} {σ : L2.St} {e : Expr} {es : List Expr} {p q r : P} {ps : List P} {pos pp : Pos} {K : PySem.W.Frag} {mg : Str → Option Value} {B : Addr → Prop} {O : List Addr} {env : Slots}
theorem toDs_length (l : List C) : (C.toDs l).length = l.length := by rw [toDs_map, List.length_map]
section
variable {tg : Expr} {kk : Nat} {tpos : Pos} {elts : List Expr}
/-- a source whose parts are pure -/
def mP (src : PLs) : M (List D) := fun env => match src env with | some l => .ok l env | none => .no
theorem rdID_args {fs : List (M C)} {k : List D → Option (List D)} {R : It → Hp → Prop} {Q : List V → Hp → Prop} (h : rdID X w (fun env => (evMs fs env).bind fun cs e1 => match k (C.toDs cs) with | some l => .ok l e1 | none => .no) σ H R)
    (i : ∀ (B : Addr → Prop) (O : List Addr) (l : List D) (ds : List D) (vs : List V) (H' : Hp), ds.length = fs.length → k ds = some l → IsL X.K (fun a => B a ∨ a ∈ O) H' ds vs → (∀ J, WalkD X.K (fun a => B a ∨ a ∈ O) H' J l → R J H') → Q vs H') : rdM X w fs σ H Q := by
  obtain ⟨B, env, O, s, h⟩ := h
  refine ⟨B, env, O, s, ?_⟩
  cases er : evMs fs env with
  | no => simp only [er, Out.bind] at h
  | err x e => simp only [er, Out.bind] at h; exact h
  | ok cs e1 =>
    simp only [er, Out.bind] at h
    intro vs H' A O' r
    cases el : k (C.toDs cs) with
    | none => rw [el] at h; exact h.elim
    | some l =>
      rw [el] at h
      exact i B O' l _ vs H' (by rw [toDs_length, evMs_len er]) el r.isL fun J wk => h J H' O' (r.stt.less fun a z => .inl z) r.frm0 wk
theorem iD_rng1 {a : Expr} {f : M C} {pa pb : Pos} (hg : Gl X "range") (hm : X.mg "range" = none) (ha : AMk X w [a] [f]) (hs : starEach [a] X.env = [(false, eval a X.env)] := by rfl) : IDk X w tg (.Call (.Name "range" pa) [a] [] pb) (rngM [f]) := (pi_range1 hg hm ha hs).imp fun σ H R hr =>
  rdID_args (k := rngL) hr fun B O l ds vs H' hl e2 hv k => by
    unfold rngL at e2
    split at e2
    · rename_i j
      split at e2
      · rename_i hj
        cases e2
        obtain ⟨x, rfl, hx⟩ := hv.one
        rw [show x = _ from hx]
        exact ⟨j, rfl, hj.1, hj.2, k _ (walkD_range 0 _)⟩
      · cases e2
    · simp at hl
    · cases e2
theorem iD_rng2 {a b : Expr} {f g : M C} {pa pb : Pos} (hg : Gl X "range") (hm : X.mg "range" = none) (ha : AMk X w [a, b] [f, g]) (hs : starEach [a, b] X.env = [(false, eval a X.env), (false, eval b X.env)] := by rfl) (hs2 : starEach [b] X.env = [(false, eval b X.env)] := by rfl) : IDk X w tg (.Call (.Name "range" pa) [a, b] [] pb) (rngM [f, g]) := (pi_range2 hg hm ha hs hs2).imp fun σ H R hr =>
  rdID_args (k := rngL) hr fun B O l ds vs H' hl e2 hv k => by
    unfold rngL at e2
    split at e2
    · simp at hl
    · rename_i i j
      split at e2
      · rename_i hj
        cases e2
        obtain ⟨x, y, rfl, hx, hy⟩ := hv.two
        rw [show x = _ from hx, show y = _ from hy]
        exact ⟨i, j, rfl, ⟨hj.1.1, hj.1.2, hj.2.1, hj.2.2⟩, k _ (walkD_range i _)⟩
      · cases e2
    · cases e2
def enumL : List D → Option (List D)
  | [.lst l] => some (enumD l)
  | _ => none
def enumP (p : PLs) : PLs := fun env => (p env).map enumD
def enumM (f : M C) : M (List D) := fun env => (evMs [f] env).bind fun cs e1 => match enumL (C.toDs cs) with
  | some l => .ok l e1
  | none => .no
theorem a_L1 {a : Expr} {src : PLs} (ha : LOk X a src) (hs : starEach [a] X.env = [(false, eval a X.env)] := by rfl) : PA X [a] (tCons (rdL X src) tNil) := pa_cons ha pa_nil (by simpa [starEach] using hs)
theorem iG_enum {a : Expr} {src : PLs} {pa pb : Pos} (hg : Gl X "enumerate") (hm : X.mg "enumerate" = none) (ha : LOk X a src) (hs : starEach [a] X.env = [(false, eval a X.env)] := by rfl) :
    IGk X (.Tuple elts kk tpos) (.Call (.Name "enumerate" pa) [a] [] pb) (enumP src) := (pi_enum hg hm (pa_cons ha pa_nil (by rw [hs]; rfl)) hs).imp fun σ H R hr => by
  obtain ⟨B, env, O, s, l, hp, hr⟩ := hr
  unfold enumP at hp
  simp only [Option.map_eq_some_iff] at hp
  obtain ⟨l, hp, rfl⟩ := hp
  exact ⟨B, env, O, s, l, hp, fun a xs H1 g ha il => ⟨a, xs, rfl, SqL.of ha, hr _ H1 g (walkG_enum ha il)⟩⟩
theorem iD_enum {a : Expr} {f : M C} {pa pb : Pos} (hg : Gl X "enumerate") (hm : X.mg "enumerate" = none) (ha : AMk X w [a] [f]) (hs : starEach [a] X.env = [(false, eval a X.env)] := by rfl) :
    IDk X w (.Tuple elts kk tpos) (.Call (.Name "enumerate" pa) [a] [] pb) (enumM f) := (pi_enum hg hm ha hs).imp fun σ H R hr =>
  rdID_args (k := enumL) hr fun B O l ds vs H' hl e2 hv k => by
    unfold enumL at e2
    split at e2
    · cases e2
      obtain ⟨x, rfl, a, xs, rfl, ha, nw, il⟩ := hv.one
      exact ⟨a, xs, rfl, SqL.of ha, k _ (walkD_enum ha nw il)⟩
    · cases e2
def zipL : List D → Option (List D)
  | [.lst l, .lst m] => some (zipD l m)
  | _ => none
def zipP (p q : PLs) : PLs := fun env => match p env, q env with
  | some l, some m => some (zipD l m)
  | _, _ => none
def zipM (f g : M C) : M (List D) := fun env => (evMs [f, g] env).bind fun cs e1 => match zipL (C.toDs cs) with
  | some l => .ok l e1
  | none => .no
theorem iG_zip {a b : Expr} {p q : PLs} {pa pb : Pos} (hg : Gl X "zip") (hm : X.mg "zip" = none) (ha : LOk X a p) (hb : LOk X b q) (hs : starEach [a, b] X.env = (false, eval a X.env) :: starEach [b] X.env := by rfl) (hs2 : starEach [b] X.env = (false, eval b X.env) :: starEach [] X.env := by rfl) (hpl : (backTo pb (starEach [b] X.env)).any (·.1) = false := by rfl) :
    IGk X (.Tuple elts kk tpos) (.Call (.Name "zip" pa) [a, b] [] pb) (zipP p q) := (pi_zip hg hm (pa_cons ha (pa_cons hb pa_nil hs2) hs) hs hpl).imp fun σ H R hr => by
  obtain ⟨B, env, O, s, l, hp, hr⟩ := hr
  unfold zipP at hp
  split at hp
  · rename_i l1 l2 e1 e2
    cases hp
    exact ⟨B, env, O, s, l1, e1, fun a xs H1 g ha il => ⟨B, env, O, s.grw g, l2, e2, fun b ys H2 g2 hb im => ⟨a, b, xs, ys, rfl, SqL.of (g2 _ _ ha), SqL.of hb, hr _ H2 (g.trans g2) (walkG_zip (g2 _ _ ha) hb (il.grw g2) im)⟩⟩⟩
  · cases hp
theorem iD_zip {a b : Expr} {f g : M C} {pa pb : Pos} (hg : Gl X "zip") (hm : X.mg "zip" = none) (ha : AMk X w [a, b] [f, g]) (hs : starEach [a, b] X.env = (false, eval a X.env) :: starEach [b] X.env := by rfl) (hpl : (backTo pb (starEach [b] X.env)).any (·.1) = false := by rfl) :
    IDk X w (.Tuple elts kk tpos) (.Call (.Name "zip" pa) [a, b] [] pb) (zipM f g) := (pi_zip hg hm ha hs hpl).imp fun σ H R hr =>
  rdID_args (k := zipL) hr fun B O l ds vs H' hl e2 hv k => by
    unfold zipL at e2
    split at e2
    · cases e2
      obtain ⟨x, y, rfl, ⟨a, xs, rfl, ha, nw, il⟩, ⟨b, ys, rfl, hb, nw2, im⟩⟩ := hv.two
      exact ⟨a, b, xs, ys, rfl, SqL.of ha, SqL.of hb, k _ (walkD_zip ha hb nw nw2 il im)⟩
    · cases e2
end

/-! ### comprehensions of pure parts -/
def compF (t : Tg) (q : PB) (p : P) (env : Slots) : List D → Option (List D)
  | [] => some []
  | x :: r => match t x env with
    | none => none
    | some e1 => match q e1 with
      | none => none
      | some false => compF t q p env r
      | some true => match p e1, compF t q p env r with
        | some d, some ds => some (d :: ds)
        | _, _ => none
def fComp (vs : List Nat) (t : Tg) (q : PB) (p : P) (src : PLs) : PLs := fun env => (src env).bind fun l => if l.length ≤ 100000 then compF t q p (wipeE env vs) l else none
abbrev TsOk (X : Cx) (es : List Expr) (q : PB) : Prop := PTs X es (rdQ X q)
theorem ts_nil : TsOk X [] (fun _ => some true) := ⟨fun pins s σ H Q I h => pts_nil.run pins s σ H Q I (by
  obtain ⟨B, env, O, st, b, hp, h⟩ := h
  cases hp
  exact h H Grw.refl)⟩
theorem ts_one {q : PB} (h : QOk X e q) : TsOk X [e] q := pts_one h
/-- the new list of a comprehension, seen without it -/
theorem without {D : Addr} {xs : List V} {H : Hp} (h : H D = some (.lst xs)) : upd (fun b => if b = D then none else H b) D (.lst xs) = H := by
  funext b
  by_cases hb : b = D
  · subst hb; rw [upd_same, h]
  · rw [upd_ne hb, if_neg hb]
theorem lc_of {js : List Nat} {t : Tg} {q : PB} {p : P} {src : PLs} {vs : List Nat} (hj : ∀ j ∈ js, j ∈ vs) (σ : L2.St) (H : Hp) (Q : VK) (h : rdF X (fComp vs t q p src) σ H Q) : tLc (rdIG X src) (rdG X true js t) (rdQ X q) (rdP X p) vs σ H Q := by
  obtain ⟨B, env, O, s, l, hp, h⟩ := h
  unfold fComp at hp
  simp only [Option.bind_eq_some_iff] at hp
  obtain ⟨its, hsrc, hp⟩ := hp
  split at hp
  case isFalse => cases hp
  rename_i hlen
  refine ⟨B, env, O, s, its, hsrc, fun J H1 g1 wk D hD => ?_⟩
  have s1 := s.grw g1
  have gD : ∀ a o, H1 a = some o → upd H1 D (.lst []) a = some o := fun a o e => by rw [upd_ne (ne_of_none e hD)]; exact e
  -- the state between two turns
  let Iv : Nat → Hp → Prop := fun i H2 => ∃ acc xs rest, H2 D = some (.lst xs) ∧ (∀ a o, H1 a = some o → H2 a = some o) ∧ IsL X.K (fun a => (B a ∨ a ∈ O) ∨ a = D) H2 acc xs ∧
    compF t q p (wipeE env vs) (its.drop i) = some rest ∧ acc ++ rest = l ∧ acc.length ≤ i
  refine ⟨fun i m H2 => m = its.length - i ∧ i ≤ its.length ∧ Iv i H2, ⟨its.length, by simp, Nat.zero_le _, [], [], l, upd_same, gD, rfl, by simpa using hp, rfl, Nat.le_refl _⟩, ?_⟩
  rintro i m H2 ⟨rfl, hi2, acc, xs, rest, k1, k2, k3, k4, k5, k6⟩
  have tr2 : ∀ a, B a ∨ a ∈ O → ∃ u, H2 a = some u := fun a z => let ⟨u, e⟩ := s1.trk a z; ⟨u, k2 a u e⟩
  obtain ⟨w1, w2, w3⟩ := wk D H2 hD ⟨_, k1⟩ k2 tr2
  have nWD : ¬ (B D ∨ D ∈ O) := fun z => by
    obtain ⟨u, e⟩ := s1.trk D z
    rw [hD] at e; cases e
  by_cases hlt : i < its.length
  · refine .inr ⟨w1 i hlt, fun H' => Iv (i + 1) H', fun H' z => ⟨its.length - (i + 1), by omega, rfl, hlt, z⟩, fun x H3 y => ?_⟩
    obtain ⟨g3, d, hd, hx⟩ := w3 i x H3 hlt y
    have edrop : its.drop i = d :: its.drop (i + 1) := by
      rw [List.drop_eq_getElem_cons hlt]
      rw [List.getElem?_eq_getElem hlt] at hd
      cases hd; rfl
    rw [edrop] at k4
    unfold compF at k4
    cases et : t d (wipeE env vs) with
    | none => rw [et] at k4; cases k4
    | some e1 =>
      rw [et] at k4
      simp only [] at k4
      -- the wiped slots
      have sB : Stt X.K (fun a => B a ∨ a = D) H3 σ env O := by
        refine s1.grow (B' := fun a => B a ∨ a = D) (H' := H3) (fun a o e => g3 a o (k2 a o e)) (fun a z => z.imp id fun z => by rw [show a = D from z]; exact hD) fun a z => ?_
        rcases z with z | z
        · obtain ⟨u, e⟩ := tr2 a (.inl z); exact ⟨u, g3 a u e⟩
        · exact ⟨_, by rw [z]; exact g3 _ _ k1⟩
      obtain ⟨Ow, subw, sw⟩ := sB.wipedB (vs := vs) (τ := L2.wipe σ vs) (fun i hi => by rw [wipe_get, if_neg hi]) (L2.wipe_length σ vs)
      have wIff : ∀ a, ((B a ∨ a ∈ O) ∨ a = D) → ((B a ∨ a = D) ∨ (a ∈ O ∧ a ∉ Ow)) ∨ a ∈ Ow := fun a z => by
        rcases z with (z | z) | z
        · exact .inl (.inl (.inl z))
        · by_cases ho : a ∈ Ow
          · exact .inr ho
          · exact .inl (.inr ⟨z, ho⟩)
        · exact .inl (.inl (.inr z))
      refine ⟨_, wipeE env vs, Ow, d, e1, sw, Is.kp (Kp.less fun a z => ?_) _ _ hx, et, fun σ2 H3' O2 s2 f2 z2 q2 => ⟨?_, ?_⟩⟩
      · rcases z with ((z | z) | z) | z
        · exact .inl (.inl z)
        · exact .inr z
        · exact .inl (.inr z.1)
        · exact .inl (.inr (subw.subset z))
      · rw [z2.wipe hj, show L2.wipe (L2.wipe σ vs) vs = L2.wipe σ vs from ?_]
        refine List.ext_getElem? fun i => ?_
        rw [wipe_get, wipe_get]
        by_cases hi : i ∈ vs
        · simp only [hi, if_true]; cases σ[i]? <;> rfl
        · simp only [hi, if_false]
      · obtain ⟨rfl, rfl⟩ := q2 rfl
        cases eq : q e1 with
        | none => rw [eq] at k4; cases k4
        | some b =>
          rw [eq] at k4
          refine ⟨_, e1, O2, s2, b, eq, fun H4 g4 => ?_⟩
          have k24 : ∀ a o, H1 a = some o → H4 a = some o := fun a o e => g4 a o (g3 a o (k2 a o e))
          cases b with
          | false => exact iteF ⟨acc, xs, rest, g4 _ _ (g3 _ _ k1), k24, (k3.grw g3).grw g4, k4, k5, by omega⟩
          | true =>
            simp only [] at k4
            cases ep : p e1 with
            | none => rw [ep] at k4; cases k4
            | some dd =>
              cases er : compF t q p (wipeE env vs) (its.drop (i + 1)) with
              | none => rw [ep, er] at k4; cases k4
              | some ds =>
                rw [ep, er] at k4
                cases k4
                refine iteT ⟨_, e1, O2, s2.grw g4, dd, ep, fun v H5 g5 hv => ?_⟩
                have h5D : H5 D = some (.lst xs) := g5 _ _ (g4 _ _ (g3 _ _ k1))
                have kU : Kp (fun a => (B a ∨ a ∈ O) ∨ a = D) H5 (fun a => (B a ∨ a ∈ O) ∨ a = D) (upd H5 D (.lst (xs ++ [v]))) := fun a o hw ha => ⟨by rw [upd_ne fun z => hw (.inr z)]; exact ha, hw⟩
                have k35 : IsL X.K (fun a => (B a ∨ a ∈ O) ∨ a = D) H5 acc xs := ((k3.grw g3).grw g4).grw g5
                have hv5 : Is X.K (fun a => (B a ∨ a ∈ O) ∨ a = D) H5 dd v := Is.kp (Kp.less wIff) _ _ hv
                refine ⟨xs, h5D, by rw [k35.length, sizeLine_eq]; omega, acc ++ [dd], xs ++ [v], ds, upd_same, fun a o e => ?_, (IsL.kp kU _ _ k35).append ⟨v, [], rfl, Is.kp kU _ _ hv5, rfl⟩, er, by rw [List.append_assoc]; exact k5, by rw [List.length_append]; simp; omega⟩
                rw [upd_ne (ne_of_none e hD)]
                exact g5 a o (k24 a o e)
  · have e : i = its.length := by omega
    subst e
    refine .inl ⟨w2, ?_⟩
    rw [List.drop_length] at k4
    cases k4
    rw [List.append_nil] at k5
    subst k5
    have q2 := h D xs (fun b => if b = D then none else H2 b) (fun a o e => ?_) (if_pos rfl) (IsL.kp (fun a o w ha => ⟨?_, fun z => w (.inl z)⟩) _ _ k3)
    · rw [without k1] at q2; exact q2
    · exact (if_neg (ne_of_none (g1 a o e) hD)).trans (k2 a o (g1 a o e))
    · exact (if_neg fun z => w (.inr z)).trans ha
theorem f_comp {elt tg iter : Expr} {ifs : List Expr} {scope : Scope} {own : List (Str × Nat)} {js : List Nat} {t : Tg} {q : PB} {p : P} {src : PLs} (hc : X.calm = true) (hN : X.N.Nodup) (hi : IGk X tg iter src) (ok : BlkOk X.N X.env.scope scope own)
    (hg : ∀ (s : Shared) (H : Hp) (C : Addr) (cl : List (Str × Addr)) (fp : List Addr), GOk (X.blk s H scope (compEnvC scope cl C X.env) fp) true tg js t) (ht : ∀ (s : Shared) (H : Hp) (C : Addr) (cl : List (Str × Addr)) (fp : List Addr), TsOk (X.blk s H scope (compEnvC scope cl C X.env) fp) ifs q)
    (he : ∀ (s : Shared) (H : Hp) (C : Addr) (cl : List (Str × Addr)) (fp : List Addr), POk (X.blk s H scope (compEnvC scope cl C X.env) fp) elt p) (hj : ∀ j ∈ js, j ∈ own.map (·.2)) (hs : ∀ x, foldedSetIterable iter X.env x = pure x := by intro _; rfl) :
    FOk X (.ListComp elt [⟨tg, iter, ifs, 0⟩] scope pos) (fComp (own.map (·.2)) t q p src) :=
  (pe_lc (g := rdG X true js t) (tt := rdQ X q) (te := rdP X p) hc hN hi ok hg ht he hs).imp (lc_of hj)
theorem s_setLc {i : Nat} {y : Str} {py spos : Pos} {w : WX} {pn : List Nat} {elt tg iter : Expr} {ifs : List Expr} {scope : Scope} {own : List (Str × Nat)} {js : List Nat} {t : Tg} {q : PB} {p : P} {src : PLs} (hc : X.calm = true) (hN : X.N.Nodup) (hy : X.N[i]? = some y) (hyl : X.env.scope.names.lookup y = some .local)
    (hsw : swapsWith (.ListComp elt [⟨tg, iter, ifs, 0⟩] scope pos) (some (.Name y py)) spos.line X.env = pure true) (hi : IGk X tg iter src) (ok : BlkOk X.N X.env.scope scope own)
    (hg : ∀ (s : Shared) (H : Hp) (C : Addr) (cl : List (Str × Addr)) (fp : List Addr), GOk (X.blk s H scope (compEnvC scope cl C X.env) fp) true tg js t) (ht : ∀ (s : Shared) (H : Hp) (C : Addr) (cl : List (Str × Addr)) (fp : List Addr), TsOk (X.blk s H scope (compEnvC scope cl C X.env) fp) ifs q)
    (he : ∀ (s : Shared) (H : Hp) (C : Addr) (cl : List (Str × Addr)) (fp : List Addr), POk (X.blk s H scope (compEnvC scope cl C X.env) fp) elt p) (hj : ∀ j ∈ js, j ∈ own.map (·.2)) (hs : ∀ x, foldedSetIterable iter X.env x = pure x := by intro _; rfl) :
    PS X (.Assign [.Name y py] (.ListComp elt [⟨tg, iter, ifs, 0⟩] scope pos) spos) (tAsg (rdF X (fComp (own.map (·.2)) t q p src)) (gName i)) :=
  (ps_setLc hc hN hy hyl hsw hi ok hg ht he hs).imp fun D σ H h => lc_of hj σ H _ h
end
end PL
namespace PL
open PySem PySem.Spec PyProof.Rows L2
section
variable {X : Cx} {w : WX} {H : Hp} {σ : L2.St} {e : Expr} {es : List Expr} {p q r : P} {ps : List P} {pos pp : Pos} {K : PySem.W.Frag} {mg : Str → Option Value} {B : Addr → Prop} {O : List Addr} {env : Slots} {st : Stmt} {rest : List Stmt} {pn : List Nat}
/-! ### statements -/
/-- the slots at pn keep their values -/
def Pin (pn : List Nat) (σ τ : List (Option V)) : Prop := τ.length = σ.length ∧ ∀ i ∈ pn, τ[i]? = σ[i]?
theorem Pin.refl {σ : List (Option V)} : Pin pn σ σ := ⟨rfl, fun _ _ => rfl⟩
theorem Pin.trans {σ τ ρ : List (Option V)} (h : Pin pn σ τ) (h' : Pin pn τ ρ) : Pin pn σ ρ := ⟨h'.1.trans h.1, fun i hi => (h'.2 i hi).trans (h.2 i hi)⟩
theorem Pin.set {σ : List (Option V)} {i : Nat} {o : Option V} (hi : i ∉ pn) : Pin pn σ (σ.set i o) := ⟨List.length_set, fun j hj => List.getElem?_set_ne fun z => hi (by rw [show i = j from z]; exact hj)⟩
theorem SetIn.pin {js : List Nat} {σ τ : List (Option V)} (h : SetIn js σ τ) (hj : ∀ j ∈ js, j ∉ pn) : Pin pn σ τ := ⟨h.len, fun i hi => h.out i fun z => hj i z hi⟩
/-- what a statement is to do, by the outcome that the reading has -/
def SPost (X : Cx) (w : WX) (pn : List Nat) (D : Ends) (B : Addr → Prop) (O : List Addr) (σ : L2.St) (H : Hp) : SOut → Prop
  | .nx e => ∀ σ' H' O', Stt X.K B H' σ' e O' → Frm O H [] O' H' → Pin pn σ σ' → D.nx σ' H'
  | .bk e => ∀ σ' H' O', Stt X.K B H' σ' e O' → Frm O H [] O' H' → Pin pn σ σ' → D.bk σ' H'
  | .ct e => ∀ σ' H' O', Stt X.K B H' σ' e O' → Frm O H [] O' H' → Pin pn σ σ' → D.ct σ' H'
  | .rt c e => ∀ σ' v H' A O', Res X.K B O H σ' c e v H' A O' → Pin pn σ σ' → D.rt v H'
  | .err x e => ∀ σ' cls d H' O', XRes X.K X.mg B O H σ' x e cls d H' O' → Pin pn σ σ' → w cls d σ' H'
  | .no => False
def rdS (X : Cx) (w : WX) (pn : List Nat) (f : SS) : TS := fun D σ H => ∃ B env O, Stt X.K B H σ env O ∧ SPost X w pn D B O σ H (f env)
abbrev SOk (X : Cx) (w : WX) (pn : List Nat) (st : Stmt) (f : SS) : Prop := PS X st (rdS X w pn f)
abbrev SsOk (X : Cx) (w : WX) (pn : List Nat) (st : List Stmt) (f : SS) : Prop := PSs X st (rdS X w pn f)
/-- .. from a later state -/
theorem SPost.later {D : Ends} {O1 : List Addr} {H1 : Hp} {σ1 : L2.St} (f1 : Frm O H [] O1 H1) (p1 : Pin pn σ σ1) : ∀ {o : SOut}, SPost X w pn D B O σ H o → SPost X w pn D B O1 σ1 H1 o
  | .nx e, h => fun σ' H' O' s f p => h σ' H' O' s (f1.seq' f) (p1.trans p)
  | .bk e, h => fun σ' H' O' s f p => h σ' H' O' s (f1.seq' f) (p1.trans p)
  | .ct e, h => fun σ' H' O' s f p => h σ' H' O' s (f1.seq' f) (p1.trans p)
  | .rt c e, h => fun σ' v H' A O' r p => h σ' v H' A O' ⟨r.rep, r.stt, r.nd, r.dj, f1.seq' r.frm⟩ (p1.trans p)
  | .err x e, h => fun σ' cls d H' O' r p => h σ' cls d H' O' ⟨r.cls, r.fs, r.stt, f1.seq' r.frm⟩ (p1.trans p)
  | .no, h => h
def sSeq (f g : SS) : SS := fun env => match f env with
  | .nx e => g e
  | o => o
def sNx : SS := .nx
theorem s_nil : SsOk X w pn [] sNx := ⟨fun pins s σ H D I h => pss_nil.run pins s σ H D I (let ⟨_, _, _, st, h⟩ := h; h σ H _ st Frm.refl Pin.refl)⟩
theorem SPost.seq {f g : SS} {D : Ends} (h : SPost X w pn D B O σ H (sSeq f g env)) : SPost X w pn { D with nx := rdS X w pn g D } B O σ H (f env) := by
  unfold sSeq at h
  cases ef : f env with
  | nx e =>
    rw [ef] at h
    exact fun σ' H' O' s fr p => ⟨B, e, O', s, h.later fr p⟩
  | bk e => rw [ef] at h; exact h
  | ct e => rw [ef] at h; exact h
  | rt c e => rw [ef] at h; exact h
  | err x e => rw [ef] at h; exact h
  | no => rw [ef] at h; exact h
theorem s_cons {f g : SS} (h1 : SOk X w pn st f) (h2 : SsOk X w pn rest g) : SsOk X w pn (st :: rest) (sSeq f g) := (pss_cons h1 h2).imp fun D σ H h => by
  obtain ⟨B, env, O, s, h⟩ := h
  exact ⟨B, env, O, s, h.seq⟩
theorem s_one {f : SS} (h1 : SOk X w pn st f) : SsOk X w pn [st] f := pss_one h1
theorem s_pass : SOk X w pn (.Pass pos) sNx := ps_pass.imp fun D σ H h => let ⟨_, _, _, st, h⟩ := h; h σ H _ st Frm.refl Pin.refl
def sBk : SS := .bk
def sCt : SS := .ct
theorem s_break : SOk X w pn (.Break pos) sBk := ps_break.imp fun D σ H h => let ⟨_, _, _, st, h⟩ := h; h σ H _ st Frm.refl Pin.refl
theorem s_cont : SOk X w pn (.Continue pos) sCt := ps_continue.imp fun D σ H h => let ⟨_, _, _, st, h⟩ := h; h σ H _ st Frm.refl Pin.refl
/-- code that is not come to -/
def sNo : SS := fun _ => .no
theorem s_never : SOk X w pn st sNo := ps_never.imp fun D σ H h => let ⟨_, _, _, _, h⟩ := h; h
theorem ss_never : SsOk X w pn rest sNo := pss_never.imp fun D σ H h => let ⟨_, _, _, _, h⟩ := h; h

/-- behind an expression -/
def sOf {α : Type} (o : Out α) (k : α → Slots → SOut) : SOut := match o with
  | .ok a e => k a e
  | .err x e => .err x e
  | .no => .no
/-- an expression's reading from a statement's -/
theorem rdE_s {f : M C} {k : C → Slots → SOut} {D : Ends} {Q : VK} (s : Stt X.K B H σ env O) (h : SPost X w pn D B O σ H (sOf (f env) k))
    (i : ∀ c e v H' A O', Res X.K B O H σ c e v H' A O' → SPost X w pn D B O σ H (k c e) → Q v H') : rdE X w f σ H Q := by
  refine ⟨B, env, O, s, ?_⟩
  unfold sOf at h
  cases ef : f env with
  | no => rw [ef] at h; exact h
  | err x e => rw [ef] at h; exact fun cls d H' O' x => h σ cls d H' O' x Pin.refl
  | ok c e => rw [ef] at h; exact fun v H' A O' r => i c e v H' A O' r h
theorem rdT_s {f : M Bool} {k : Bool → Slots → SOut} {D : Ends} {Q : Bool → Hp → Prop} (s : Stt X.K B H σ env O) (h : SPost X w pn D B O σ H (sOf (f env) k))
    (i : ∀ c e H' O', f env = .ok c e → Stt X.K B H' σ e O' → Frm O H [] O' H' → SPost X w pn D B O σ H (k c e) → Q c H') : rdT X w f σ H Q := by
  refine ⟨B, env, O, s, ?_⟩
  unfold sOf at h
  cases ef : f env with
  | no => rw [ef] at h; exact h
  | err x e => rw [ef] at h; exact fun cls d H' O' x => h σ cls d H' O' x Pin.refl
  | ok c e => rw [ef] at h; exact fun H' O' s' f' => i c e H' O' ef s' f' h
/-- the value given up for good -/
def eFrz (f : M C) : M C := fun env => (f env).bind fun c e => .ok (.frz c.toD) e
theorem Res.frz {c : C} {e1 : Slots} {v : V} {H' : Hp} {A O' : List Addr} (r : Res K B O H σ c e1 v H' A O') : Res K B O H σ (.frz c.toD) e1 v H' [] O' :=
  Res.new (r.stt.less fun a z => .inl z) (fun a o hw ha => ⟨(r.frm a o hw ha).1, fun z => (r.frm a o hw ha).2 (z.elim (fun z => nomatch z) .inr)⟩) (New.of_is r.is)
theorem e_frz {f : M C} (h : EOk X w e f) : EOk X w e (eFrz f) := h.imp fun σ H Q h => by
  obtain ⟨B, env, O, s, h⟩ := h
  refine ⟨B, env, O, s, ?_⟩
  unfold eFrz at h
  cases ef : f env with
  | no => rw [ef] at h; exact h
  | err x e => rw [ef] at h; exact h
  | ok c e => rw [ef] at h; exact fun v H' A O' r => h v H' [] O' r.frz
def sSet (i : Nat) (f : M C) : SS := fun env => sOf (f env) fun c e => .nx (e.set i (some c))
theorem Res.len {c : C} {e1 : Slots} {v : V} {H' : Hp} {A O' : List Addr} (r : Res K B O H σ c e1 v H' A O') : e1.length = σ.length := r.stt.len.symm
theorem lt_of_N {N : List Str} {i : Nat} {x : Str} (h : N[i]? = some x) : i < N.length := by
  by_cases q : i < N.length
  · exact q
  · rw [List.getElem?_eq_none (by omega)] at h; cases h
theorem s_set {i : Nat} {x : Str} {f : M C} {pos' : Pos} (hN : X.N.Nodup) (hi : X.N[i]? = some x) (hx : Loc X.env.scope x) (he : EOk X w e f) (hp : i ∉ pn := by decide) (hs : swapsWith e (some (.Name x pos')) pos.line X.env = pure false := by rfl) (hf : X.fn x = true ∨ X.env.scope.names.lookup x = some .local := by first | exact .inl rfl | exact .inr rfl | assumption) :
    SOk X w pn (.Assign [.Name x pos'] e pos) (sSet i f) := ⟨fun pins s σ H D I h => (ps_set hN hi hx he hs hf).run pins s σ H D I (by
  obtain ⟨B, env, O, st, h⟩ := h
  refine rdE_s st h fun c e v H' A O' r h => ?_
  obtain ⟨O2, s2, f2⟩ := r.put (i := i) (by rw [r.len, I.len]; exact lt_of_N hi)
  exact h _ H' O2 s2 f2 (Pin.set hp))⟩
def sRet (f : M C) : SS := fun env => sOf (f env) fun c e => .rt c e
theorem s_ret {f : M C} (he : EOk X w e f) : SOk X w pn (.Return (some e) pos) (sRet f) := (ps_ret he).imp fun D σ H h => by
  obtain ⟨B, env, O, st, h⟩ := h
  exact rdE_s st h fun c e v H' A O' r h => h σ v H' A O' r Pin.refl
def sRetN : SS := fun env => .rt (.frz .non) env
theorem s_retN : SOk X w pn (.Return none pos) sRetN := ps_retN.imp fun D σ H h => by
  obtain ⟨B, env, O, st, h⟩ := h
  exact h σ .non H [] O (Res.new st Frm.refl (New.of_is rfl)) Pin.refl
/-- a value dropped -/
def sDrop (f : M C) : SS := fun env => sOf (f env) fun _ e => .nx e
theorem s_expr {f : M C} (he : EOk X w e f) (hs : swapsWith e none pos.line X.env = pure false := by rfl) : SOk X w pn (.Expr e pos) (sDrop f) := (ps_expr he hs).imp fun D σ H h => by
  obtain ⟨B, env, O, st, h⟩ := h
  exact rdE_s st h fun c e v H' A O' r h => h σ H' O' (r.stt.less fun a z => .inl z) r.frz.frm Pin.refl
theorem s_doc {x : Str} {j : Nat} {pos'} : SOk X w pn (.Expr (.Constant (.str x) j pos) pos') sNx := ps_doc.imp fun D σ H h => let ⟨_, _, _, st, h⟩ := h; h σ H _ st Frm.refl Pin.refl
def sIf (c : M Bool) (f g : SS) : SS := fun env => sOf (c env) fun b e => if b then f e else g e
theorem s_if {c : Expr} {a b : List Stmt} {q : M Bool} {f g : SS} (hc : TOk X w c q) (ha : SsOk X w pn a f) (hb : SsOk X w pn b g) : SOk X w pn (.If c a b pos) (sIf q f g) := (ps_if hc ha hb).imp fun D σ H h => by
  obtain ⟨B, env, O, st, h⟩ := h
  refine rdT_s st h fun c e H' O' _ s' f' h => ?_
  cases c with
  | true => exact iteT ⟨B, e, O', s', SPost.later f' Pin.refl h⟩
  | false => exact iteF ⟨B, e, O', s', SPost.later f' Pin.refl h⟩
/-! #### while -/
def whileN (c : M Bool) (b : SS) : Nat → SS
  | 0 => fun _ => .no
  | n + 1 => fun env => sOf (c env) fun t e => if t then (match b e with
      | .nx e1 => whileN c b n e1
      | .ct e1 => whileN c b n e1
      | .bk e1 => .nx e1
      | o => o) else .nx e
open Classical in
noncomputable def sWhile (c : M Bool) (b : SS) : SS := fun env => if h : ∃ n, whileN c b n env ≠ .no then whileN c b h.choose env else .no
theorem whileN_mono {c : M Bool} {b : SS} : ∀ {n m : Nat} {env : Slots}, n ≤ m → whileN c b n env ≠ .no → whileN c b m env = whileN c b n env
  | 0, m, env, _, h => absurd rfl h
  | n + 1, 0, env, hl, _ => by omega
  | n + 1, m + 1, env, hl, h => by
    unfold whileN at h ⊢
    cases ec : c env with
    | no => rfl
    | err x e => rfl
    | ok t e =>
      rw [ec] at h
      simp only [sOf] at h ⊢
      cases t with
      | false => rfl
      | true =>
        simp only [if_true] at h ⊢
        cases eb : b e with
        | nx e1 => rw [eb] at h; exact whileN_mono (by omega) h
        | ct e1 => rw [eb] at h; exact whileN_mono (by omega) h
        | bk e1 => rfl
        | rt c e1 => rfl
        | err x e1 => rfl
        | no => rfl
theorem sWhile_of {c : M Bool} {b : SS} {n : Nat} {env : Slots} (h : whileN c b n env ≠ .no) : sWhile c b env = whileN c b n env := by
  unfold sWhile
  have h' : ∃ n, whileN c b n env ≠ .no := ⟨n, h⟩
  rw [dif_pos h']
  rcases Nat.le_total h'.choose n with q | q
  · exact (whileN_mono q h'.choose_spec).symm
  · exact whileN_mono q h
theorem sWhile_ex {c : M Bool} {b : SS} {env : Slots} (h : sWhile c b env ≠ .no) : ∃ n, whileN c b n env = sWhile c b env := by
  by_cases h' : ∃ n, whileN c b n env ≠ .no
  · obtain ⟨n, hn⟩ := h'
    exact ⟨n, (sWhile_of hn).symm⟩
  · unfold sWhile at h
    rw [dif_neg h'] at h
    exact absurd rfl h
/-- one turn -/
theorem sWhile_eq (c : M Bool) (b : SS) (env : Slots) : sWhile c b env = sOf (c env) fun t e => if t then (match b e with
      | .nx e1 => sWhile c b e1
      | .ct e1 => sWhile c b e1
      | .bk e1 => .nx e1
      | o => o) else .nx e := by
  by_cases hl : sWhile c b env = .no
  · by_cases hr : (sOf (c env) fun t e => if t then (match b e with
      | .nx e1 => sWhile c b e1
      | .ct e1 => sWhile c b e1
      | .bk e1 => .nx e1
      | o => o) else .nx e) = .no
    · rw [hl, hr]
    · exfalso
      -- the right side has an outcome: so has the left
      have go : ∀ e1, sWhile c b e1 ≠ .no → ∃ n, whileN c b n e1 = sWhile c b e1 := fun e1 h => sWhile_ex h
      have : ∃ n, whileN c b n env ≠ .no := by
        cases ec : c env with
        | no => rw [ec] at hr; exact absurd rfl hr
        | err x e => exact ⟨1, by unfold whileN; rw [ec]; exact fun z => nomatch z⟩
        | ok t e =>
          rw [ec] at hr
          simp only [sOf] at hr
          cases t with
          | false => exact ⟨1, by unfold whileN; rw [ec]; exact fun z => nomatch z⟩
          | true =>
            simp only [if_true] at hr
            cases eb : b e with
            | nx e1 =>
              rw [eb] at hr
              obtain ⟨n, hn⟩ := go e1 hr
              exact ⟨n + 1, by unfold whileN; rw [ec]; simp only [sOf, if_true, eb]; rw [hn]; exact hr⟩
            | ct e1 =>
              rw [eb] at hr
              obtain ⟨n, hn⟩ := go e1 hr
              exact ⟨n + 1, by unfold whileN; rw [ec]; simp only [sOf, if_true, eb]; rw [hn]; exact hr⟩
            | bk e1 => exact ⟨1, by unfold whileN; rw [ec]; simp only [sOf, if_true, eb]; exact fun z => nomatch z⟩
            | rt c' e1 => exact ⟨1, by unfold whileN; rw [ec]; simp only [sOf, if_true, eb]; exact fun z => nomatch z⟩
            | err x e1 => exact ⟨1, by unfold whileN; rw [ec]; simp only [sOf, if_true, eb]; exact fun z => nomatch z⟩
            | no => rw [eb] at hr; exact absurd rfl hr
      obtain ⟨n, hn⟩ := this
      rw [sWhile_of hn] at hl
      exact hn hl
  · obtain ⟨n, hn⟩ := sWhile_ex hl
    cases n with
    | zero => exact absurd hn.symm hl
    | succ n =>
      have hn' := hn
      unfold whileN at hn'
      rw [← hn']
      cases ec : c env with
      | no => rfl
      | err x e => rfl
      | ok t e =>
        simp only [sOf]
        cases t with
        | false => rfl
        | true =>
          simp only [if_true]
          rw [ec] at hn'
          simp only [sOf, if_true] at hn'
          cases eb : b e with
          | nx e1 =>
            rw [eb] at hn'
            simp only [] at hn'
            exact (sWhile_of (by rw [hn']; exact hl)).symm
          | ct e1 =>
            rw [eb] at hn'
            simp only [] at hn'
            exact (sWhile_of (by rw [hn']; exact hl)).symm
          | bk e1 => rfl
          | rt c' e1 => rfl
          | err x e1 => rfl
          | no => rfl
theorem s_while {c : Expr} {body : List Stmt} {q : M Bool} {b : SS} (hpa : PassesOwn (model X.prog X.w) X.A X.env X.xe) (hc : TOk X w c q) (hb : SsOk X w pn body b) : SOk X w pn (.While c body [] pos) (sWhile q b) := (ps_while hpa hc hb).imp fun D σ H h => by
  obtain ⟨B, env, O, st, h⟩ := h
  generalize eo : sWhile q b env = out at h
  have ne : out ≠ .no := fun z => by rw [z] at h; exact h
  obtain ⟨n, hn⟩ := sWhile_ex (by rw [eo]; exact ne)
  rw [eo] at hn
  refine ⟨fun m σ1 H1 => ∃ e1 O1, Stt X.K B H1 σ1 e1 O1 ∧ Frm O H [] O1 H1 ∧ Pin pn σ σ1 ∧ whileN q b m e1 = out, ⟨n, env, O, st, Frm.refl, Pin.refl, hn⟩, ?_⟩
  rintro m σ1 H1 ⟨e1, O1, s1, f1, p1, hm⟩
  have h1 := h.later f1 p1
  cases m with
  | zero => exact absurd hm.symm ne
  | succ m =>
    unfold whileN at hm
    rw [← hm] at h1
    refine rdT_s s1 h1 fun t e2 H2 O2 ec s2 f2 h2 => ?_
    rw [ec] at hm
    simp only [sOf] at hm
    cases t with
    | false => exact iteF (h2 σ1 H2 O2 s2 f2 Pin.refl)
    | true =>
      refine iteT ⟨fun σ3 H3 => ∃ e3 O3, Stt X.K B H3 σ3 e3 O3 ∧ Frm O H [] O3 H3 ∧ Pin pn σ σ3 ∧ whileN q b m e3 = out, fun σ3 H3 z => ⟨m, Nat.lt_succ_self _, z⟩, B, e2, O2, s2, ?_⟩
      simp only [if_true] at h2 hm
      cases eb : b e2 with
      | nx e3 => rw [eb] at hm; exact fun σ3 H3 O3 s3 f3 p3 => ⟨e3, O3, s3, (f1.seq' f2).seq' f3, p1.trans p3, hm⟩
      | ct e3 => rw [eb] at hm; exact fun σ3 H3 O3 s3 f3 p3 => ⟨e3, O3, s3, (f1.seq' f2).seq' f3, p1.trans p3, hm⟩
      | bk e3 => rw [eb] at h2; exact h2.later f2 Pin.refl
      | rt c e3 => rw [eb] at h2; exact h2.later f2 Pin.refl
      | err x e3 => rw [eb] at h2; exact h2.later f2 Pin.refl
      | no => rw [eb] at h2; exact h2
/-! #### for -/
def forL (t : Tg) (b : SS) : List D → SS
  | [], env => .nx env
  | d :: r, env => match t d env with
    | none => .no
    | some e => match b e with
      | .nx e1 => forL t b r e1
      | .ct e1 => forL t b r e1
      | .bk e1 => .nx e1
      | o => o
def sFor (src : M (List D)) (t : Tg) (b : SS) : SS := fun env => sOf (src env) (forL t b)
theorem s_for {tg iter : Expr} {body : List Stmt} {src : M (List D)} {js : List Nat} {t : Tg} {b : SS} (hpa : PassesOwn (model X.prog X.w) X.A X.env X.xe) (hc : X.calm = true) (hi : IDk X w tg iter src) (hg : GOk X false tg js t) (hb : SsOk X w pn body b) (hj : ∀ j ∈ js, j ∉ pn := by decide)
    (hs : ∀ x, foldedSetIterable iter X.env x = pure x := by intro _; rfl) : SOk X w pn (.For tg iter body [] pos) (sFor src t b) := (ps_for hpa hc hi hg hb hs).imp fun D σ H h => by
  obtain ⟨B, env, O, st, h⟩ := h
  refine ⟨B, env, O, st, ?_⟩
  unfold sFor sOf at h
  cases es : src env with
  | no => rw [es] at h; exact h
  | err x e => rw [es] at h; exact fun cls d H' O' x => h σ cls d H' O' x Pin.refl
  | ok l e0 =>
    rw [es] at h
    simp only [] at h ⊢
    intro J H0 O0 s0 f0 wk
    generalize eo : forL t b l e0 = out at h
    have ne : out ≠ .no := fun z => by rw [z] at h; exact h
    refine ⟨fun i m σ1 H1 => m = l.length - i ∧ i ≤ l.length ∧ ∃ e1 O1, Stt X.K B H1 σ1 e1 O1 ∧ Frm O0 H0 [] O1 H1 ∧ Pin pn σ σ1 ∧ forL t b (l.drop i) e1 = out, ⟨l.length, by simp, Nat.zero_le _, e0, O0, s0, Frm.refl, Pin.refl, by simpa using eo⟩, ?_⟩
    rintro i m σ1 H1 ⟨rfl, hi2, e1, O1, s1, f1, p1, hm⟩
    obtain ⟨w1, w2, w3⟩ := wk (fun a => B a ∨ a ∈ O1) H1 (fun a o hw ha => ⟨(f1 a o (fun z => hw (.inr z)) ha).1, fun z => z.elim (fun z => hw (.inl z)) fun z => (f1 a o (fun z => hw (.inr z)) ha).2 (.inr z)⟩) s1.trk
    have h1 := (h.later f0 Pin.refl).later f1 p1
    by_cases hlt : i < l.length
    · refine .inr ⟨w1 i hlt, fun σ3 H3 => ∃ e3 O3, Stt X.K B H3 σ3 e3 O3 ∧ Frm O0 H0 [] O3 H3 ∧ Pin pn σ σ3 ∧ forL t b (l.drop (i + 1)) e3 = out, fun σ' H' z => ⟨l.length - (i + 1), by omega, rfl, hlt, z⟩, fun x H2 y => ?_⟩
      obtain ⟨g2, d, hd, hx⟩ := w3 i x H2 hlt y
      have edrop : l.drop i = d :: l.drop (i + 1) := by
        rw [List.drop_eq_getElem_cons hlt]
        rw [List.getElem?_eq_getElem hlt] at hd
        cases hd; rfl
      rw [edrop] at hm
      unfold forL at hm
      cases et : t d e1 with
      | none => rw [et] at hm; exact absurd hm.symm ne
      | some e2 =>
        rw [et] at hm
        simp only [] at hm
        have f2 : Frm O0 H0 [] O1 H2 := fun a o hw ha => ⟨g2 a o (f1 a o hw ha).1, (f1 a o hw ha).2⟩
        have f2' : Frm O1 H1 [] O1 H2 := fun a o hw ha => ⟨g2 a o ha, fun z => z.elim (fun z => nomatch z) hw⟩
        refine ⟨B, e1, O1, d, e2, s1.grw g2, hx, et, fun σ3 H3 O3 s3 f3 z3 _ => ⟨B, e2, O3, s3, ?_⟩⟩
        have p3 := z3.pin hj
        cases eb : b e2 with
        | nx e4 => rw [eb] at hm; exact fun σ4 H4 O4 s4 f4 p4 => ⟨e4, O4, s4, (f2.seq' f3).seq' f4, (p1.trans p3).trans p4, hm⟩
        | ct e4 => rw [eb] at hm; exact fun σ4 H4 O4 s4 f4 p4 => ⟨e4, O4, s4, (f2.seq' f3).seq' f4, (p1.trans p3).trans p4, hm⟩
        | bk e4 => rw [eb] at hm; subst hm; exact (h1.later f2' Pin.refl).later f3 p3
        | rt c e4 => rw [eb] at hm; subst hm; exact (h1.later f2' Pin.refl).later f3 p3
        | err x e4 => rw [eb] at hm; subst hm; exact (h1.later f2' Pin.refl).later f3 p3
        | no => rw [eb] at hm; exact absurd hm.symm ne
    · have e : i = l.length := by omega
      subst e
      refine .inl ⟨w2, ?_⟩
      rw [List.drop_length] at hm
      subst hm
      exact h1 σ1 H1 O1 s1 Frm.refl Pin.refl
end
end PL
namespace PL
open PySem PySem.Spec PyProof.Rows L2
section
variable {X : Cx} {w : WX} {H : Hp} {σ : L2.St} {e : Expr} {es : List Expr} {p q r : P} {ps : List P} {pos pp : Pos} {K : PySem.W.Frag} {mg : Str → Option Value} {B : Addr → Prop} {O : List Addr} {env : Slots} {st : Stmt} {rest : List Stmt} {pn : List Nat}
/-! ### places inside a slot's own thing -/
def getP : C → List Nat → Option C
  | c, [] => some c
  | .own l, j :: js => (l[j]?).bind fun c => getP c js
  | _, _ :: _ => none
def setP : C → List Nat → C → C
  | _, [], c' => c'
  | .own l, j :: js, c' => match l[j]? with
    | some c => .own (l.set j (setP c js c'))
    | none => .own l
  | c, _ :: _, _ => c
def VAt (H : Hp) : V → List Nat → V → Prop
  | v, [], x => v = x
  | v, j :: js, x => ∃ a xs y, v = .ref a ∧ H a = some (.lst xs) ∧ xs[j]? = some y ∧ VAt H y js x
theorem VAt.grw {H H' : Hp} (g : Grw H H') : ∀ {js : List Nat} {v x : V}, VAt H v js x → VAt H' v js x
  | [], v, x, h => h
  | j :: js, v, x, h => by
    obtain ⟨a, xs, y, h1, h2, h3, h4⟩ := h
    exact ⟨a, xs, y, h1, g _ _ h2, h3, VAt.grw g h4⟩
theorem VAt.inj {H : Hp} : ∀ {js : List Nat} {v x y : V}, VAt H v js x → VAt H v js y → x = y
  | [], v, x, y, h, h' => h.symm.trans h'
  | j :: js, v, x, y, h, h' => by
    obtain ⟨a, xs, z, rfl, h2, h3, h4⟩ := h
    obtain ⟨a', xs', z', h1', h2', h3', h4'⟩ := h'
    cases h1'
    rw [h2] at h2'
    cases h2'
    rw [h3] at h3'
    cases h3'
    exact VAt.inj h4 h4'
theorem RepC.foc {W : Addr → Prop} : ∀ {js : List Nat} {c c1 : C} {v : V} {A : List Addr}, RepC K W H c v A → getP c js = some c1 → ∃ x A1 A2 A3, A = A1 ++ (A2 ++ A3) ∧ VAt H v js x ∧ RepC K W H c1 x A2 ∧
    ∀ (W' : Addr → Prop) (H' : Hp) (c' : C) (A2' : List Addr), Kp W H W' H' → (∀ a ∈ A1 ++ A3, ∀ o, H a = some o → H' a = some o) → RepC K W' H' c' x A2' → RepC K W' H' (setP c js c') v (A1 ++ (A2' ++ A3))
  | [], c, c1, v, A, h, e => by
    cases e
    refine ⟨v, [], A, [], by simp, rfl, h, fun W' H' c' A2' _ _ h' => ?_⟩
    simpa [setP] using h'
  | j :: js, c, c1, v, A, h, e => by
    cases c with
    | own l =>
      simp only [getP, Option.bind_eq_some_iff] at e
      obtain ⟨c2, e1, e2⟩ := e
      obtain ⟨a, xs, B1, rfl, rfl, ha, hl⟩ := h
      obtain ⟨y, D1, D2, D3, g1, g2, g3, g4⟩ := RepL.at hl e1
      obtain ⟨x, A1, A2, A3, k1, k2, k3, k4⟩ := RepC.foc g3 e2
      refine ⟨x, a :: (D1 ++ A1), A2, A3 ++ D3, ?_, ⟨a, xs, y, rfl, ha, g1, k2⟩, k3, fun W' H' c' A2' kp q h' => ?_⟩
      · rw [g2, k1]; simp
      · have z := g4 W' H' (setP c2 js c') y (A1 ++ (A2' ++ A3)) kp (fun b hb o eb => q b (by
          rcases List.mem_append.mp hb with z | z <;> simp [z]) o eb) (k4 W' H' c' A2' kp (fun b hb o eb => q b (by
          rcases List.mem_append.mp hb with z | z <;> simp [z]) o eb) h')
        rw [set_same g1] at z
        simp only [setP, e1]
        refine ⟨a, xs, D1 ++ (A1 ++ (A2' ++ A3) ++ D3), rfl, by simp, q a (by simp) _ ha, z⟩
    | frz d => cases e
    | ownD l => cases e
    | ownT l => cases e
theorem mem3 {α : Type} {L1 A2 L3 : List α} {a b : α} : b ∈ L1 ++ ((a :: A2) ++ L3) ↔ b ∈ L1 ∨ (b = a ∨ b ∈ A2) ∨ b ∈ L3 := by
  simp only [List.mem_append, List.mem_cons]
theorem Stt.mut {A O1 : List Addr} {H1 : Hp} {e1 : Slots} {i : Nat} {js : List Nat} {c0 : C} {l : List C} (s1 : Stt K (fun a => B a ∨ a ∈ A) H1 σ e1 O1) (nA : A.Nodup) (dA : ∀ a ∈ A, ¬ B a) (f : Frm O H A O1 H1) (he : e1[i]? = some (some c0)) (hg : getP c0 js = some (.own l)) :
    ∃ v0 a xs A2, σ[i]? = some (some v0) ∧ VAt H1 v0 js (.ref a) ∧ H1 a = some (.lst xs) ∧ RepL K (fun a => (B a ∨ a ∈ A) ∨ a ∈ O1) H1 l xs A2 ∧ A2.Nodup ∧ (a ∉ A2 ∧ a ∈ O1 ∧ ∀ b ∈ A2, b ∈ O1) ∧
      ∀ (l' : List C) (xs' : List V) (A2' : List Addr), RepL K (fun a => (B a ∨ a ∈ A) ∨ a ∈ O1) H1 l' xs' A2' → A2'.Nodup → (∀ b ∈ A2', b ∈ A2 ∨ b ∈ A) →
        ∃ O2, Stt K B (upd H1 a (.lst xs')) σ (e1.set i (some (setP c0 js (.own l')))) O2 ∧ Frm O H [] O2 (upd H1 a (.lst xs')) ∧ ∀ b ∈ O2, (b ∈ O1 ∨ b ∈ A) ∧ (b ∈ A2 → b ∈ A2') ∧ (b ∈ A → b ∈ A2') := by
  obtain ⟨o, D1, D2, D3, g1, g2, ⟨v0, rfl, hc0⟩, g4⟩ := RepE.at s1.rep he
  obtain ⟨x, A1, A2, A3, k1, k2, ⟨a, xs, A2t, rfl, rfl, ha, hl⟩, k4⟩ := RepC.foc hc0 hg
  have nd := s1.nd
  rw [g2, k1] at nd
  have perm : O1 = (D1 ++ A1) ++ ((a :: A2t) ++ (A3 ++ D3)) := by rw [g2, k1]; simp
  have nd' : ((D1 ++ A1) ++ ((a :: A2t) ++ (A3 ++ D3))).Nodup := by rw [← perm]; exact s1.nd
  have n1 := List.nodup_append.mp nd'
  have n2 := List.nodup_append.mp n1.2.1
  have n3 := List.nodup_cons.mp n2.1
  have mO : ∀ b, b ∈ O1 ↔ b ∈ D1 ++ A1 ∨ (b = a ∨ b ∈ A2t) ∨ b ∈ A3 ++ D3 := fun b => by rw [perm]; exact mem3
  have aO : a ∈ O1 := (mO a).mpr (.inr (.inl (.inl rfl)))
  have tO : ∀ b ∈ A2t, b ∈ O1 := fun b hb => (mO b).mpr (.inr (.inl (.inr hb)))
  have nAO : ∀ b ∈ A, b ∉ O1 := fun b hb z => s1.dj b z (.inr hb)
  refine ⟨v0, a, xs, A2t, g1, k2, ha, hl, n3.2, ⟨n3.1, aO, tO⟩, fun l' xs' A2' hl' nd2 sub => ?_⟩
  have sO : ∀ b, b ∈ (D1 ++ A1) ++ ((a :: A2') ++ (A3 ++ D3)) → b ∈ O1 ∨ b ∈ A := fun b hb => by
    rcases mem3.mp hb with z | (z | z) | z
    · exact .inl ((mO b).mpr (.inl z))
    · exact .inl (z ▸ aO)
    · exact (sub b z).imp (tO b) id
    · exact .inl ((mO b).mpr (.inr (.inr z)))
  have kp : Kp (fun a => (B a ∨ a ∈ A) ∨ a ∈ O1) H1 (fun b => B b ∨ b ∈ (D1 ++ A1) ++ ((a :: A2') ++ (A3 ++ D3))) (upd H1 a (.lst xs')) := fun b o hw hb => by
    refine ⟨(upd_ne fun z : b = a => hw (.inr (by rw [z]; exact aO))).trans hb, fun z => ?_⟩
    rcases z with z | z
    · exact hw (.inl (.inl z))
    · exact (sO b z).elim (fun z => hw (.inr z)) fun z => hw (.inl (.inr z))
  have na : ∀ b, b ∈ D1 ++ A1 ∨ b ∈ A3 ++ D3 → b ≠ a := fun b hb z => by
    rcases hb with hb | hb
    · exact n1.2.2 b hb a (by simp) z
    · exact n2.2.2 a (by simp) b hb z.symm
  have na2 : ∀ b ∈ A2', b ≠ a := fun b hb z => by
    rcases sub b hb with y | y
    · exact n3.1 (z ▸ y)
    · exact nAO b y (z ▸ aO)
  have z1 : RepC K (fun b => B b ∨ b ∈ (D1 ++ A1) ++ ((a :: A2') ++ (A3 ++ D3))) (upd H1 a (.lst xs')) (.own l') (.ref a) (a :: A2') :=
    ⟨a, xs', A2', rfl, rfl, upd_same, RepL.kp kp _ _ _ (fun b hb o eb => by rw [upd_ne (na2 b hb)]; exact eb) hl'⟩
  have z2 := k4 _ _ _ _ kp (fun b hb o eb => by rw [upd_ne (na b ((List.mem_append.mp hb).imp (fun z => by simp [z]) fun z => by simp [z]))]; exact eb) z1
  have z3 := g4 _ _ (some (setP c0 js (.own l'))) (some v0) _ kp (fun b hb o eb => by rw [upd_ne (na b ((List.mem_append.mp hb).imp (fun z => by simp [z]) fun z => by simp [z]))]; exact eb) ⟨v0, rfl, z2⟩
  rw [set_same g1] at z3
  refine ⟨(D1 ++ A1) ++ ((a :: A2') ++ (A3 ++ D3)), ⟨?_, ?_, ?_, ?_⟩, fun b o hw hb => ?_, fun b hb => ⟨sO b hb, fun z => ?_, fun z => ?_⟩⟩
  · have eq : (D1 ++ A1) ++ ((a :: A2') ++ (A3 ++ D3)) = D1 ++ (A1 ++ (a :: A2' ++ A3) ++ D3) := by simp
    have z4 := z3
    rw [← eq] at z4
    exact z4
  · refine List.nodup_append.mpr ⟨n1.1, List.nodup_append.mpr ⟨List.nodup_cons.mpr ⟨fun z => na2 a z rfl, nd2⟩, n2.2.1, fun b hb d hd eq => ?_⟩, fun b hb d hd eq => ?_⟩
    · subst eq
      rcases List.mem_cons.mp hb with z | z
      · exact na b (.inr hd) z
      · rcases sub b z with y | y
        · exact n2.2.2 b (by simp [y]) b hd rfl
        · exact nAO b y ((mO b).mpr (.inr (.inr hd)))
    · subst eq
      rw [List.mem_append, List.mem_cons] at hd
      rcases hd with (z | z) | z
      · exact na b (.inl hb) z
      · rcases sub b z with y | y
        · exact n1.2.2 b hb b (by simp [y]) rfl
        · exact nAO b y ((mO b).mpr (.inl hb))
      · exact n1.2.2 b hb b (by rw [List.mem_append]; exact .inr z) rfl
  · exact fun b hb z => (sO b hb).elim (fun y => s1.dj b y (.inl z)) fun y => dA b y z
  · intro b z
    by_cases hba : b = a
    · exact ⟨_, by rw [hba]; exact upd_same⟩
    · obtain ⟨u, eu⟩ := s1.tr b (.inl z)
      exact ⟨u, by rw [upd_ne hba]; exact eu⟩
  · obtain ⟨q1, q2⟩ := f b o hw hb
    refine ⟨(upd_ne fun z : b = a => q2 (.inr (by rw [z]; exact aO))).trans q1, fun z => ?_⟩
    rcases z with z | z
    · cases z
    · exact (sO b z).elim (fun z => q2 (.inr z)) fun z => q2 (.inl z)
  · rcases mem3.mp hb with y | (y | y) | y
    · exact absurd rfl (n1.2.2 b y b (by simp [z]))
    · exact absurd (y ▸ z) n3.1
    · exact y
    · exact absurd rfl (n2.2.2 b (by simp [z]) b y)
  · rcases mem3.mp hb with y | (y | y) | y
    · exact absurd ((mO b).mpr (.inl y)) (nAO b z)
    · exact absurd (y ▸ aO) (nAO b z)
    · exact y
    · exact absurd ((mO b).mpr (.inr (.inr y))) (nAO b z)
end
end PL
namespace PL
open PySem PySem.Spec PyProof.Rows L2
section
variable {X : Cx} {w : WX} {H : Hp} {σ : L2.St} {e : Expr} {es : List Expr} {p q r : P} {ps : List P} {pos pp : Pos} {K : PySem.W.Frag} {mg : Str → Option Value} {B : Addr → Prop} {O : List Addr} {env : Slots} {st : Stmt} {rest : List Stmt} {pn : List Nat}
/-! ### paths -/
abbrev Pa := Slots → Option (List Nat)
def rdPa (X : Cx) (i : Nat) (pa : Pa) : TE := fun σ H Q => ∃ B env O, Stt X.K B H σ env O ∧ ∃ js, pa env = some js ∧ ∀ v0 x H', σ[i]? = some (some v0) → VAt H' v0 js x → Grw H H' → Q x H'
abbrev PaOk (X : Cx) (e : Expr) (i : Nat) (pa : Pa) : Prop := PE X e (rdPa X i pa)
def paV (i : Nat) : Pa := fun env => match env[i]? with
  | some (some _) => some []
  | _ => none
theorem pa_V {i : Nat} {x : Str} (hN : X.N[i]? = some x) (hv : Vis X.env.scope x) (hd : (x == ("__debug__" : Str)) = false := by decide) (hcd : (x == ("__classdict__" : Str)) = false := by decide) : PaOk X (.Name x pos) i (paV i) :=
  (pe_var (i := i) hN hv hd hcd).imp fun σ H Q h => by
    obtain ⟨B, env, O, s, js, hp, h⟩ := h
    unfold paV at hp
    split at hp
    · rename_i c e1
      cases hp
      obtain ⟨o, A1, A2, A3, g1, g2, ⟨y, rfl, g4⟩, _⟩ := RepE.at s.rep e1
      exact ⟨y, g1, h y y H g1 rfl Grw.refl⟩
    · cases hp
/-- the own list at a path -/
def ownAt (i : Nat) (js : List Nat) (env : Slots) : Option (List C) := match env[i]? with
  | some (some c0) => match getP c0 js with
    | some (.own l) => some l
    | _ => none
  | _ => none
def setAt (i : Nat) (js : List Nat) (l : List C) (env : Slots) : Slots := match env[i]? with
  | some (some c0) => env.set i (some (setP c0 js (.own l)))
  | _ => env
theorem ownAt_some {i : Nat} {js : List Nat} {env : Slots} {l : List C} (h : ownAt i js env = some l) : ∃ c0, env[i]? = some (some c0) ∧ getP c0 js = some (.own l) ∧ ∀ l', setAt i js l' env = env.set i (some (setP c0 js (.own l'))) := by
  unfold ownAt at h
  split at h
  · rename_i c0 e0
    split at h
    · rename_i l0 e1
      cases h
      exact ⟨c0, e0, e1, fun l' => by unfold setAt; rw [e0]⟩
    · cases h
  · cases h
theorem VAt.snoc {H : Hp} : ∀ {js : List Nat} {v : V} {a : Addr} {xs : List V} {j : Nat} {y : V}, VAt H v js (.ref a) → H a = some (.lst xs) → xs[j]? = some y → VAt H v (js ++ [j]) y
  | [], v, a, xs, j, y, h, h1, h2 => ⟨a, xs, y, h, h1, h2, rfl⟩
  | k :: js, v, a, xs, j, y, h, h1, h2 => by
    obtain ⟨b, zs, z, e1, e2, e3, e4⟩ := h
    exact ⟨b, zs, z, e1, e2, e3, VAt.snoc e4 h1 h2⟩
def intOf : Option D → Option Int
  | some (.int k) => some k
  | _ => none
theorem intOf_some {o : Option D} {k : Int} (h : intOf o = some k) : o = some (.int k) := by
  unfold intOf at h
  split at h
  · cases h; rfl
  · cases h
def paIx (i : Nat) (pa : Pa) (q : P) : Pa := fun env => (pa env).bind fun js => (ownAt i js env).bind fun l => (intOf (q env)).bind fun k => (ixN l.length k).map fun j => js ++ [j]
/-- the list that is found at a path -/
theorem Stt.look {i : Nat} {js : List Nat} {l : List C} {v0 x : V} {H' : Hp} (s : Stt K B H σ env O) (g : Grw H H') (ho : ownAt i js env = some l) (h0 : σ[i]? = some (some v0)) (hx : VAt H' v0 js x) : ∃ a xs A2, x = .ref a ∧ H' a = some (.lst xs) ∧ RepL K (fun a => B a ∨ a ∈ O) H' l xs A2 := by
  obtain ⟨c0, e0, e1, _⟩ := ownAt_some ho
  have s' := s.grw g
  obtain ⟨o, A1, A2, A3, g1, g2, ⟨y, rfl, g4⟩, _⟩ := RepE.at s'.rep e0
  rw [h0] at g1
  cases g1
  obtain ⟨x', B1, B2, B3, k1, k2, ⟨a, xs, A2t, rfl, rfl, ha, hl⟩, _⟩ := RepC.foc g4 e1
  exact ⟨a, xs, A2t, VAt.inj hx k2, ha, hl⟩
theorem pa_ix {a b : Expr} {i : Nat} {pa : Pa} (ha : PaOk X a i pa) (hb : BOk X b q) (hs : PlainIx b) : PaOk X (.Subscript a b pos) i (paIx i pa q) := (pe_ix ix_seq ha hb hs).imp fun σ H Q h => by
  obtain ⟨B, env, O, s, js2, hp, h⟩ := h
  unfold paIx at hp
  simp only [Option.bind_eq_some_iff, Option.map_eq_some_iff] at hp
  obtain ⟨js, e1, l, e2, k, e3, j, e4, rfl⟩ := hp
  refine ⟨B, env, O, s, js, e1, fun v0 x H1 h0 hx g1 => ⟨B, env, O, s.grw g1, _, intOf_some e3, fun v H2 g2 hv => ?_⟩⟩
  obtain ⟨a1, xs, A2, rfl, ha1, hl⟩ := s.look (g1.trans g2) e2 h0 (hx.grw g2)
  have hj := (ixN_seq e4).2.1
  have hjx : j < xs.length := by rw [hl.length]; exact hj
  refine .inl ⟨a1, xs, k, xs[j], rfl, hv, SqL.of ha1, ?_, h v0 _ H2 h0 (VAt.snoc (hx.grw g2) ha1 (List.getElem?_eq_getElem hjx)) (g1.trans g2)⟩
  unfold atI
  rw [hl.length, e4]
  exact List.getElem?_eq_getElem hjx

/-! ### o[i] = a frozen value -/
def gIx (i : Nat) (pa : Pa) (q : P) : Tg := fun d env => (pa env).bind fun js => (ownAt i js env).bind fun l => (intOf (q env)).bind fun k => (ixN l.length k).map fun j => setAt i js (l.set j (.frz d)) env
theorem RepL.setF {W : Addr → Prop} {l : List C} {xs : List V} {A : List Addr} {d : D} {v : V} (h : RepL K W H l xs A) {j : Nat} (hj : j < l.length) (hv : Is K W H d v) (nd : A.Nodup) : ∃ A', RepL K W H (l.set j (.frz d)) (xs.set j v) A' ∧ A'.Nodup ∧ ∀ b ∈ A', b ∈ A := by
  obtain ⟨x, A1, A2, A3, g1, rfl, g3, g4⟩ := RepL.at h (List.getElem?_eq_getElem hj)
  have n1 := List.nodup_append.mp nd
  have n2 := List.nodup_append.mp n1.2.1
  refine ⟨A1 ++ ([] ++ A3), g4 W H (.frz d) v [] Kp.refl (fun _ _ _ e => e) ⟨rfl, hv⟩, ?_, fun b hb => ?_⟩
  · rw [List.nil_append]
    exact List.nodup_append.mpr ⟨n1.1, n2.2.1, fun a ha b hb => n1.2.2 a ha b (by simp [hb])⟩
  · simp at hb ⊢
    rcases hb with z | z <;> simp [z]
theorem Stt.grwF {H' : Hp} (s : Stt K B H σ env O) (g : Grw H H') : Frm O H [] O H' := fun a o hw ha => ⟨g a o ha, fun z => z.elim (fun z => nomatch z) hw⟩
theorem Stt.nilB (s : Stt K B H σ env O) : Stt K (fun a => B a ∨ a ∈ ([] : List Addr)) H σ env O := s.less fun a z => z.elim id fun z => nomatch z
theorem g_ix {o k : Expr} {i : Nat} {pa : Pa} {tpos : Pos} (ho : PaOk X o i pa) (hk : BOk X k q)
    (ha : ∀ v : Value, assign (.Subscript o k tpos) X.env v = (do
      let ov ← holding [v] (eval o X.env)
      let iv ← holding [v, ov] (eval k X.env)
      standAt tpos
      holding [v, ov, iv] (setItem ov iv v)
      release [v, ov, iv] []) := by intro _; rfl) : GOk X false (.Subscript o k tpos) [] (gIx i pa q) := (pg_sub ho hk set_list ha).imp fun v σ H Q h => by
  obtain ⟨B, env, O, d, env', s, hd, ht, h⟩ := h
  unfold gIx at ht
  simp only [Option.bind_eq_some_iff, Option.map_eq_some_iff] at ht
  obtain ⟨js, e1, l, e2, kk, e3, j, e4, rfl⟩ := ht
  refine ⟨B, env, O, s, js, e1, fun v0 x H1 h0 hx g1 => ⟨B, env, O, s.grw g1, _, intOf_some e3, fun iv H2 g2 hv => ?_⟩⟩
  obtain ⟨c0, k0, k1, k2⟩ := ownAt_some e2
  have g := g1.trans g2
  have s2 := s.grw g
  obtain ⟨w0, a, xs, A2, m1, m2, m3, m4, m5, m6, m7⟩ := s2.nilB.mut .nil (fun _ z => nomatch z) (s.grwF g) k0 k1
  rw [h0] at m1
  cases m1
  have ex : x = .ref a := VAt.inj (hx.grw g2) m2
  subst ex
  have hj := (ixN_seq e4).2.1
  obtain ⟨A', r1, r2, r3⟩ := m4.setF (j := j) (d := d) (v := v) hj (Is.kp (fun b o w hb => ⟨g b o hb, fun z => w (z.elim (fun z => .inl (z.elim id fun z => nomatch z)) .inr)⟩) _ _ hd) m5
  obtain ⟨O2, t1, t2, t3⟩ := m7 _ _ _ r1 r2 fun b hb => .inl (r3 b hb)
  refine ⟨a, xs, kk, j, rfl, hv, m3, by rw [m4.length]; exact e4, ?_⟩
  rw [k2] at h
  exact h σ _ O2 t1 t2 SetIn.refl fun z => nomatch z
/-- a value given to a target -/
def sAsg (f : M C) (t : Tg) : SS := fun env => sOf (f env) fun c e => match t c.toD e with
  | some e' => .nx e'
  | none => .no
theorem s_asg {tg : Expr} {f : M C} {js : List Nat} {t : Tg} (he : EOk X w e f) (hg : GOk X false tg js t) (hj : ∀ j ∈ js, j ∉ pn := by decide) (hs : swapsWithSole [tg] e pos.line X.env = pure false := by rfl) (hw : swappedStores [tg] e X.env = pure none := by rfl)
    (h1 : (assignEach [tg] X.env).map (·.2) = [assign tg X.env] := by rfl) : SOk X w pn (.Assign [tg] e pos) (sAsg f t) := (ps_asg he hg hs hw h1).imp fun D σ H h => by
  obtain ⟨B, env, O, s, h⟩ := h
  refine rdE_s s h fun c e v H' A O' r h => ?_
  have rf := r.frz
  cases et : t c.toD e with
  | none => rw [et] at h; exact h.elim
  | some e' =>
    rw [et] at h
    have s1 : Stt X.K B H' σ e O' := r.stt.less fun a z => .inl z
    exact ⟨B, e, O', c.toD, e', s1, r.is, et, fun σ' H2 O2 s2 f2 z _ => h σ' H2 O2 s2 (rf.frm.seq' f2) (z.pin hj)⟩
/-! ### o[i] op= .. -/
def sAugIx (op : D → D → Option V) (i : Nat) (pa : Pa) (q p : P) : SS := fun env => match (pa env).bind fun js => (ownAt i js env).bind fun l => (intOf (q env)).bind fun k => (ixN l.length k).bind fun j => (l[j]?).bind fun c => (p env).bind fun d => (op c.toD d).map fun v => setAt i js (l.set j (.frz (ofV v))) env with
  | some e => .nx e
  | none => .no
theorem RepL.getIs {W : Addr → Prop} {l : List C} {xs : List V} {A : List Addr} {j : Nat} {c : C} (h : RepL K W H l xs A) (e : l[j]? = some c) : ∃ x, xs[j]? = some x ∧ Is K NoW H c.toD x := by
  obtain ⟨x, A1, A2, A3, g1, g2, g3, g4⟩ := RepL.at h e
  exact ⟨x, g1, RepC.is (fun a z => z.elim) _ _ _ (fun a _ z => z.elim) g3⟩
theorem get_seqL : PGet X (rIxL X.K) := by
  intro pins s σ H x y v u Q I rx ry h
  obtain ⟨p, xs, i, z, rfl, rfl, hq, he, q⟩ := h
  cases rx
  obtain ⟨t, rfl⟩ := ry
  obtain ⟨its, r, pl, hz⟩ := I.list hq
  obtain ⟨j, h1, h2, h3, h4, h5⟩ := atI_get he
  obtain ⟨w, ew, rw'⟩ := r.get h2
  have hl := r.length
  have hn := line63
  have fin : EP X pins σ Q w s := ⟨z, H, I, rw', q⟩
  by_cases h0 : 0 ≤ i
  · have hj : i.toNat = j := by
      rw [seqIndex_of h0 h5] at h1
      exact Option.some.inj h1
    exact wpAny_getItem_list pl.isList h0 (by omega) (by rw [hj]; simpa using ew) fin
  · have hj : (i + (its.toArray.size : Int)).toNat = j := by
      rw [seqIndex_neg (by omega) h4] at h1
      rw [List.size_toArray, ← hl]
      exact Option.some.inj h1
    exact wpAny_getItem_list_neg pl.isList (by omega) (by rw [List.size_toArray] <;> omega) (by omega) (by rw [hj]; simpa using ew) fin
theorem s_augIx {o k v : Expr} {i : Nat} {pa : Pa} {tpos : Pos} {oop : Operator} {rr : R2} {op : D → D → Option V} (ho : PaOk X o i pa) (hk : BOk X k q) (he : BOk X v p) (hop : OpR X (inplaceOp oop) rr) (h : PureS X.K rr op)
    (ha : ∀ ov iv new, augStore k ov iv new = (do holding [new, ov, iv] (setItem ov iv new); release [new, ov, iv] []; pure .next) := by intros; rfl) : SOk X w pn (.AugAssign (.Subscript o k tpos) oop v pos) (sAugIx op i pa q p) :=
  (ps_augS ho hk get_seqL he hop set_list ha).imp fun D σ H hh => by
    obtain ⟨B, env, O, s, hh⟩ := hh
    unfold sAugIx at hh
    split at hh
    · rename_i e' he'
      simp only [Option.bind_eq_some_iff, Option.map_eq_some_iff] at he'
      obtain ⟨js, e1, l, e2, kk, e3, j, e4, c, e5, d, e6, z, e7, rfl⟩ := he'
      refine ⟨B, env, O, s, js, e1, fun v0 x H1 h0 hx g1 => ⟨B, env, O, s.grw g1, _, intOf_some e3, fun iv H2 g2 hv => ?_⟩⟩
      have g := g1.trans g2
      obtain ⟨a1, xs, A2, rfl, ha1, hl⟩ := s.look g e2 h0 (hx.grw g2)
      obtain ⟨y, y1, y2⟩ := hl.getIs e5
      refine ⟨a1, xs, kk, y, rfl, hv, SqL.of ha1, by unfold atI; rw [hl.length, e4]; exact y1, B, env, O, s.grw g, d, e6, fun u H3 g3 hu => ?_⟩
      have g' := g.trans g3
      refine h H3 y u c.toD d z _ (y2.grw g3) hu e7 ?_
      obtain ⟨c0, k0, k1, k2⟩ := ownAt_some e2
      have s2 := s.grw g'
      obtain ⟨w0, a, xs', A2', m1, m2, m3, m4, m5, m6, m7⟩ := s2.nilB.mut .nil (fun _ z => nomatch z) (s.grwF g') k0 k1
      rw [h0] at m1
      cases m1
      have ex : V.ref a1 = .ref a := VAt.inj ((hx.grw g2).grw g3) m2
      cases ex
      have hj := (ixN_seq e4).2.1
      obtain ⟨A', r1, r2, r3⟩ := m4.setF (j := j) (d := ofV z) (v := z) hj (ofV_is _ _ _ z) m5
      obtain ⟨O2, t1, t2, t3⟩ := m7 _ _ _ r1 r2 fun b hb => .inl (r3 b hb)
      refine ⟨a1, xs', kk, j, rfl, hv, m3, by rw [m4.length]; exact e4, ?_⟩
      rw [k2] at hh
      exact hh σ _ O2 t1 t2 Pin.refl
    · exact hh.elim
/-- x op= .. on scalars -/
def sAug (op : D → D → Option V) (i : Nat) (p : P) : SS := fun env => match env[i]? with
  | some (some c) => match (p env).bind (op c.toD) with
    | some v => .nx (env.set i (some (.frz (ofV v))))
    | none => .no
  | _ => .no
theorem s_aug {i : Nat} {x : Str} {oop : Operator} {rr : R2} {op : D → D → Option V} {pos' : Pos} (hN : X.N.Nodup) (hi : X.N[i]? = some x) (hx : Loc X.env.scope x) (he : BOk X e p) (hop : OpR X (inplaceOp oop) rr) (h : PureS X.K rr op) (hp : i ∉ pn := by decide) (hf : X.fn x = true ∨ X.env.scope.names.lookup x = some .local := by first | exact .inl rfl | exact .inr rfl | assumption) :
    SOk X w pn (.AugAssign (.Name x pos') oop e pos) (sAug op i p) := (ps_aug hN hi hx he hop hf).imp fun D σ H hh => by
  obtain ⟨B, env, O, s, hh⟩ := hh
  unfold sAug at hh
  split at hh
  · rename_i c e0
    split at hh
    · rename_i v e1
      simp only [Option.bind_eq_some_iff] at e1
      obtain ⟨d, e1, e2⟩ := e1
      obtain ⟨x0, O', g1, g2, g3, g4⟩ := s.give e0
      refine ⟨x0, g1, B, env, O, s, d, e1, fun y H1 gr hy => h H1 x0 y c.toD d v _ (Is.kp (fun a o w ha => ⟨gr a o ha, fun z => z.elim⟩) _ _ g4) hy e2 ?_⟩
      have hl : i < env.length := by
        by_cases q : i < env.length
        · exact q
        · rw [List.getElem?_eq_none (by omega)] at e0; cases e0
      obtain ⟨O2, t1, t2⟩ := (s.grw gr).put (i := i) (ofV_is X.K (fun a => B a ∨ a ∈ O) H1 v) hl
      exact hh _ H1 O2 t1 ((s.grwF gr).seq' t2) (Pin.set hp)
    · exact hh.elim
  · exact hh.elim
end
end PL
namespace PL
open PySem PySem.Spec PyProof.Rows L2
section
variable {X : Cx} {w : WX} {H : Hp} {σ : L2.St} {e : Expr} {es : List Expr} {p q r : P} {ps : List P} {pos pp : Pos} {K : PySem.W.Frag} {mg : Str → Option Value} {B : Addr → Prop} {O : List Addr} {env : Slots} {st : Stmt} {rest : List Stmt} {pn : List Nat}
/-! ### xs.append(..), xs.pop(), xs.extend(..) -/
def eApp (i : Nat) (f : M C) : M C := fun env => match ownAt i [] env with
  | some _ => (f env).bind fun c e1 => match ownAt i [] e1 with
    | some l => if l.length < 100000 then .ok (.frz .non) (setAt i [] (l ++ [c]) e1) else .no
    | none => .no
  | none => .no
theorem Stt.ref0 {i : Nat} {l : List C} (s : Stt K B H σ env O) (h : ownAt i [] env = some l) : ∃ a xs A2, σ[i]? = some (some (.ref a)) ∧ H a = some (.lst xs) ∧ RepL K (fun a => B a ∨ a ∈ O) H l xs A2 := by
  obtain ⟨c0, e0, e1, _⟩ := ownAt_some h
  cases e1
  obtain ⟨o, A1, A2, A3, g1, g2, ⟨y, rfl, ⟨a, xs, A2t, rfl, rfl, ha, hl⟩⟩, _⟩ := RepE.at s.rep e0
  exact ⟨a, xs, A2t, g1, ha, hl⟩
theorem e_app {i : Nat} {x : Str} {f : M C} {npos apos cpos : Pos} (hN : X.N[i]? = some x) (hv : Vis X.env.scope x) (he : EOk X w e f) (hd : (x == ("__debug__" : Str)) = false := by decide) (hcd : (x == ("__classdict__" : Str)) = false := by decide)
    (hbase : attributeBase (.Name x npos) "append" X.env (eval (.Name x npos) X.env) = eval (.Name x npos) X.env := by rfl)
    (hfew : ((backTo cpos (starEach [e] X.env)).all (fun x => !x.1) && (backToKw cpos (keywordEach [] X.env)).all (fun x => x.1.isSome)
      && decide ([e].length + ([] : List Keyword).length + (if ([] : List Keyword).isEmpty then 0 else 1) < 30)) = true := by rfl)
    (hline : (apos.endLine == cpos.line) = true := by rfl) (hs : starEach [e] X.env = (false, eval e X.env) :: starEach [] X.env := by rfl) (hplain : (backTo cpos (starEach [] X.env)).any (·.1) = false := by rfl) :
    EOk X w (.Call (.Attribute (.Name x npos) "append" apos) [e] [] cpos) (eApp i f) :=
  (pe_bm PySem.F.plainAttrs_list PySem.F.slot_list_append PySem.F.type_list_append mt_append (pe_var (i := i) hN hv hd hcd) (pa_cons he pa_nil hs) hbase hfew hline hs hplain).imp fun σ H Q h => by
    obtain ⟨B, env, O, s, h⟩ := h
    unfold eApp at h
    cases e0 : ownAt i [] env with
    | none => rw [e0] at h; exact h.elim
    | some l0 =>
      rw [e0] at h
      simp only [] at h
      obtain ⟨a, xs, A2, g1, g2, g3⟩ := s.ref0 e0
      refine ⟨_, g1, .inl ⟨rfl, xs, SqL.of g2⟩, B, env, O, s, ?_⟩
      cases ef : f env with
      | no => rw [ef] at h; exact h
      | err y e1 => rw [ef] at h; exact h
      | ok c e1 =>
        rw [ef] at h
        simp only [Out.bind] at h
        intro v H1 A O1 r
        cases e2 : ownAt i [] e1 with
        | none => rw [e2] at h; exact h.elim
        | some l =>
          rw [e2] at h
          simp only [] at h
          split at h
          · rename_i e3 he3
            split at he3
            · rename_i hlen
              cases he3
              obtain ⟨c0, k0, k1, k2⟩ := ownAt_some e2
              obtain ⟨w0, a', xs', A2', m1, m2, m3, m4, m5, m6, m7⟩ := r.stt.mut r.nd r.dj r.frm k0 k1
              rw [g1] at m1
              cases m1
              have ea : V.ref a = .ref a' := m2
              cases ea
              obtain ⟨O2, t1, t2, t3⟩ := m7 (l ++ [c]) (xs' ++ [v]) (A2' ++ A) (m4.append (RepL.one r.rep)) (List.nodup_append.mpr ⟨m5, r.nd, fun b hb d hd z => r.stt.dj b (m6.2.2 b hb) (.inr (z ▸ hd))⟩) fun b hb => List.mem_append.mp hb
              refine ⟨a, xs', v, rfl, rfl, m3, by rw [m4.length, sizeLine_eq]; omega, ?_⟩
              rw [k2] at h
              exact h .non _ [] O2 (Res.new t1 t2 (New.of_is rfl))
            · cases he3
          · rename_i he3; split at he3 <;> cases he3
          · exact h.elim
/-- .. deeper, of a pure value -/
def eAppP (i : Nat) (pa : Pa) (p : P) : M C := fun env => match (pa env).bind fun js => (ownAt i js env).bind fun l => if l.length < 100000 then (p env).map fun d => setAt i js (l ++ [.frz d]) env else none with
  | some e => .ok (.frz .non) e
  | none => .no
theorem e_appP {i : Nat} {o : Expr} {pa : Pa} {apos cpos : Pos} (ho : PaOk X o i pa) (he : POk X e p)
    (hbase : attributeBase o "append" X.env (eval o X.env) = eval o X.env := by rfl)
    (hfew : ((backTo cpos (starEach [e] X.env)).all (fun x => !x.1) && (backToKw cpos (keywordEach [] X.env)).all (fun x => x.1.isSome)
      && decide ([e].length + ([] : List Keyword).length + (if ([] : List Keyword).isEmpty then 0 else 1) < 30)) = true := by rfl)
    (hline : (apos.endLine == cpos.line) = true := by rfl) (hs : starEach [e] X.env = (false, eval e X.env) :: starEach [] X.env := by rfl) (hplain : (backTo cpos (starEach [] X.env)).any (·.1) = false := by rfl) :
    EOk X w (.Call (.Attribute o "append" apos) [e] [] cpos) (eAppP i pa p) :=
  (pe_bm PySem.F.plainAttrs_list PySem.F.slot_list_append PySem.F.type_list_append mt_append ho (pa_cons he pa_nil hs) hbase hfew hline hs hplain).imp fun σ H Q h => by
    obtain ⟨B, env, O, s, h⟩ := h
    unfold eAppP at h
    split at h
    · rename_i c' e' hc'
      split at hc'
      · rename_i e2 he2
        cases hc'
        simp only [Option.bind_eq_some_iff] at he2
        obtain ⟨js, e1, l, e3, he2⟩ := he2
        split at he2
        · rename_i hlen
          simp only [Option.map_eq_some_iff] at he2
          obtain ⟨d, e4, rfl⟩ := he2
          refine ⟨B, env, O, s, js, e1, fun v0 x H1 h0 hx g1 => ?_⟩
          obtain ⟨a, xs, A2, rfl, ha, hl⟩ := s.look g1 e3 h0 hx
          refine ⟨.inl ⟨rfl, xs, SqL.of ha⟩, B, env, O, s.grw g1, d, e4, fun v H2 g2 hv => ?_⟩
          have g := g1.trans g2
          have s2 := s.grw g
          obtain ⟨c0, k0, k1, k2⟩ := ownAt_some e3
          obtain ⟨w0, a', xs', A2', m1, m2, m3, m4, m5, m6, m7⟩ := s2.nilB.mut .nil (fun _ z => nomatch z) (s.grwF g) k0 k1
          rw [h0] at m1
          cases m1
          have ea : V.ref a = .ref a' := VAt.inj (hx.grw g2) m2
          cases ea
          obtain ⟨O2, t1, t2, t3⟩ := m7 (l ++ [.frz d]) (xs' ++ [v]) (A2' ++ []) (m4.append (RepL.one (c := .frz d) ⟨rfl, Is.kp (Kp.less fun b z => z.imp (fun z => z.elim id fun z => nomatch z) id) _ _ hv⟩)) (by rw [List.append_nil]; exact m5) fun b hb => .inl (by simpa using hb)
          refine ⟨a, xs', v, rfl, rfl, m3, by rw [m4.length, sizeLine_eq]; omega, ?_⟩
          rw [k2] at h
          exact h .non _ [] O2 (Res.new t1 t2 (New.of_is rfl))
        · cases he2
      · cases hc'
    · rename_i hc'; split at hc' <;> cases hc'
    · exact h.elim
def ePop (i : Nat) (pa : Pa) : M C := fun env => match (pa env).bind fun js => (ownAt i js env).bind fun l => l.getLast?.map fun c => (c, setAt i js l.dropLast env) with
  | some (c, e) => .ok (.frz c.toD) e
  | none => .no
theorem RepL.last {W : Addr → Prop} {l : List C} {xs : List V} {A : List Addr} (h : RepL K W H l xs A) {c : C} (hc : l.getLast? = some c) (nd : A.Nodup) : ∃ x A1 A2, xs[xs.length - 1]? = some x ∧ A = A1 ++ A2 ∧ RepC K W H c x A2 ∧ RepL K W H l.dropLast xs.dropLast A1 := by
  have key : ∀ {l : List C} {xs : List V} {A : List Addr}, RepL K W H (l ++ [c]) xs A → ∃ ys x A1 A2, xs = ys ++ [x] ∧ A = A1 ++ A2 ∧ RepC K W H c x A2 ∧ RepL K W H l ys A1 := by
    intro l
    induction l with
    | nil =>
      intro xs A h
      obtain ⟨x, ys, B1, B2, rfl, rfl, h1, rfl, rfl⟩ := h
      exact ⟨[], x, [], B1, rfl, by simp, h1, rfl, rfl⟩
    | cons d r ih =>
      intro xs A h
      obtain ⟨x, ys, B1, B2, rfl, rfl, h1, h2⟩ := h
      obtain ⟨zs, z, A1, A2, rfl, rfl, h3, h4⟩ := ih h2
      exact ⟨x :: zs, z, B1 ++ A1, A2, rfl, by simp, h3, x, zs, B1, A1, rfl, rfl, h1, h4⟩
  have e : l = l.dropLast ++ [c] := by
    obtain ⟨ys, rfl⟩ := List.getLast?_eq_some_iff.mp hc
    simp
  rw [e] at h
  obtain ⟨ys, x, A1, A2, rfl, rfl, h3, h4⟩ := key h
  exact ⟨x, A1, A2, by simp, rfl, h3, by simpa using h4⟩
theorem e_pop {i : Nat} {o : Expr} {pa : Pa} {apos cpos : Pos} (ho : PaOk X o i pa)
    (hbase : attributeBase o "pop" X.env (eval o X.env) = eval o X.env := by rfl) (hline : (apos.endLine == cpos.line) = true := by rfl) :
    EOk X w (.Call (.Attribute o "pop" apos) [] [] cpos) (ePop i pa) :=
  (pe_bm0 PySem.F.plainAttrs_list PySem.F.slot_list_pop PySem.F.type_list_pop mt_pop ho hbase hline).imp fun σ H Q h => by
    obtain ⟨B, env, O, s, h⟩ := h
    unfold ePop at h
    split at h
    · rename_i c' e' hc'
      split at hc'
      · rename_i c e2 he2
        cases hc'
        simp only [Option.bind_eq_some_iff, Option.map_eq_some_iff] at he2
        obtain ⟨js, e1, l, e3, c, e4, he2⟩ := he2
        cases he2
        refine ⟨B, env, O, s, js, e1, fun v0 x H1 h0 hx g1 => ?_⟩
        obtain ⟨a, xs, A2, rfl, ha, hl⟩ := s.look g1 e3 h0 hx
        refine ⟨.inl ⟨rfl, xs, SqL.of ha⟩, ?_⟩
        have s2 := s.grw g1
        obtain ⟨c0, k0, k1, k2⟩ := ownAt_some e3
        obtain ⟨w0, a', xs', A2', m1, m2, m3, m4, m5, m6, m7⟩ := s2.nilB.mut .nil (fun _ z => nomatch z) (s.grwF g1) k0 k1
        rw [h0] at m1
        cases m1
        have ea : V.ref a = .ref a' := VAt.inj hx m2
        cases ea
        obtain ⟨x, B1, B2, b1, rfl, b3, b4⟩ := m4.last e4 m5
        have nd := List.nodup_append.mp m5
        obtain ⟨O2, t1, t2, t3⟩ := m7 l.dropLast xs'.dropLast B1 b4 nd.1 fun b hb => .inl (by simp [hb])
        refine ⟨a, xs', x, rfl, rfl, m3, b1, ?_⟩
        rw [k2] at h
        refine h x _ [] O2 (Res.new t1 t2 (New.of_is ?_))
        refine RepC.is (W := fun b => B b ∨ b ∈ O2) (fun _ z => z) _ _ B2 (fun b hb z => ?_) (RepC.kp (fun b o hw hb => ⟨(upd_ne fun z : b = a => hw (.inr (by rw [z]; exact m6.2.1))).trans hb, fun z => ?_⟩) _ _ _ (fun b hb o eb => (upd_ne fun z : b = a => m6.1 (by rw [← z]; simp [hb])).trans eb) b3)
        · rcases z with z | z
          · exact s2.dj b (m6.2.2 b (by simp [hb])) z
          · exact nd.2.2 b ((t3 b z).2.1 (by simp [hb])) b hb rfl
        · rcases z with z | z
          · exact hw (.inl (.inl z))
          · exact (t3 b z).1.elim (fun z => hw (.inr z)) fun z => nomatch z
      · cases hc'
    · rename_i hc'; split at hc' <;> cases hc'
    · exact h.elim
end
end PL
/-! ### enumerate over a tuple -/
namespace PL
open PySem PySem.Spec PyProof.Rows L2
open AutoSeq1 (wpAny_loadPart')
theorem enum_newT (t0 : Addr) (its : Array Value) (n : Nat) (dc : Option Addr) (sl : Array (Option Value)) :
    Meets (Builtin.«enumerate.__new__» ⟨[.type "enumerate", .ref t0], []⟩) (fun _ R s => s.heap.get? t0 = some { cls := .type "tuple", dict := dc, data := .seq its n, slots := sl } ∧
      R (.ok (.ret (.ref (s.heap.push { cls := .type "tuple_iterator", data := .fields #[.ref t0, .int 0 0] }).objs.size)))
        { s with heap := (s.heap.push { cls := .type "tuple_iterator", data := .fields #[.ref t0, .int 0 0] }).push { cls := .type "enumerate", data := .fields #[.none, .bool false, .ref s.heap.objs.size, rawInt 0, .none, .none] } }) :=
  .of_wp fun pr wo Ar R st0 hh => by
    obtain ⟨hp, g, d, tk, os⟩ := st0; obtain ⟨ht0, hh⟩ := hh
    have hsub := sub_enumerate
    have hT0 : Heap.IsTuple (Shared.heap ⟨hp, g, d, tk, os⟩) t0 its := ⟨_, ht0, rfl, n, rfl⟩
    wp_walk using wpAny_loadPart' ht0
    refine wpAny_stack_any fun sk => wpAny_pure ?_
    split
    · rename_i cl _ _ _ _ _
      cases (cl == Value.type "enumerate") <;>
      · wp_walk using wpAny_loadPart' ht0, wpAny_pyIter_tuple hT0
        exact ⟨_, rfl, hh⟩
    · wp_walk using wpAny_loadPart' ht0, wpAny_pyIter_tuple hT0
      exact ⟨_, rfl, hh⟩
theorem enum_callT {prog : Program} {w : World} {A : Around} {E : Value → Shared → Prop} {s : Shared} {t0 : Addr} {its : Array Value} {Q : Value → Shared → Prop} (hT : s.heap.IsTuple t0 its)
    (k : ∀ h', IsEnum h' (s.heap.objs.size + 1) s.heap.objs.size 0 .none → h'.IsTupleIter s.heap.objs.size t0 0 → (∀ b o, s.heap.get? b = some o → h'.get? b = some o) → Q (.ref (s.heap.objs.size + 1)) { s with heap := h' }) :
    wpAny (model prog w) A (call (.type "enumerate") [.ref t0]) Q E s := by
  obtain ⟨⟨cl, dc, dt, sl⟩, hg, e1, n, e2⟩ := hT
  cases (show cl = .type "tuple" from e1)
  cases (show dt = .seq its n from e2)
  refine callType_new F.called_enumerate (by decide) (F.typeCall_enumerate_1 _) (F.newCall_enumerate_1 _) (fun ob => F.args_object_init_2 ob _) F.entry_enumerate_new
    (enum_newT t0 its n dc sl) ⟨hg, ?_⟩
  have z1 : (s.heap.push { cls := .type "tuple_iterator", data := .fields #[.ref t0, .int 0 0] }).objs.size = s.heap.objs.size + 1 := Heap.size_push ..
  show _ ∧ _
  rw [z1]
  have e0 : IsEnum ((s.heap.push { cls := .type "tuple_iterator", data := .fields #[.ref t0, .int 0 0] }).push
      { cls := .type "enumerate", data := .fields #[.none, .bool false, .ref s.heap.objs.size, rawInt 0, .none, .none] }) (s.heap.objs.size + 1) s.heap.objs.size 0 .none := by
    have q := Heap.get?_push_size (s.heap.push { cls := .type "tuple_iterator", data := .fields #[.ref t0, .int 0 0] })
      (o := { cls := .type "enumerate", data := .fields #[.none, .bool false, .ref s.heap.objs.size, rawInt 0, .none, .none] }) rfl
    rw [z1] at q; exact q
  exact ⟨⟨_, e0, rfl⟩, k _ e0 ⟨_, Heap.get?_push_of_some _ (Heap.get?_push_size _ rfl), rfl, rfl⟩ fun b o x => Heap.get?_push_of_some _ (Heap.get?_push_of_some _ x)⟩
/-- the tuple at a, each item in a new pair -/
def IteT (K : PySem.W.Frag) (a : Addr) : It :=
  ⟨fun i H => ∃ (xs : List V) (x : V), SqT K H a xs ∧ xs[i]? = some x, fun i H v H' => ∃ T x, v = .ref T ∧ H T = none ∧ H' = upd H T (.tup [.int (i : Nat), x]) ∧ ∀ xs, SqT K H a xs → xs[i]? = some x, fun i H => ∃ xs : List V, SqT K H a xs ∧ xs.length ≤ i⟩
theorem enum_turnT {P : Program} {w : World} {K : PySem.W.Frag} {elts : List Expr} {kk : Nat} {tpos : Pos} (a en it : Addr) (na : a ≠ it) :
    Turn P w K (.Tuple elts kk tpos) (IteT K a) [en, it] en (fun i h => (∃ old, IsEnum h en it ((i : Nat) : Int) old) ∧ h.IsTupleIter it a i ∧ en ≠ it ∧ en ≠ a) where
  mem := List.mem_cons_self
  obj := fun i h hst b hb => by
    obtain ⟨⟨old, q1⟩, ⟨o, q2, q3, q4⟩, _⟩ := hst
    rcases List.mem_cons.mp hb with z | z
    · rw [z]; exact ⟨_, q1, fun v y => by cases y⟩
    · rw [List.mem_singleton.mp z]
      exact ⟨o, q2, fun v y => by rw [q4] at y; cases y⟩
  keep := fun i h h' hst k => by
    obtain ⟨⟨old, q1⟩, q2, q3⟩ := hst
    exact ⟨⟨old, k en List.mem_cons_self _ q1⟩, q2.at fun o z => k it (List.mem_cons_of_mem _ List.mem_cons_self) o z, q3⟩
  item := by
    intro X hP hw hK hc i pins s σ H E I hf ⟨⟨old, q1⟩, q2, q3, q3'⟩ ⟨xs, x, hq, hx⟩
    subst hP hw hK
    obtain ⟨vs, rv, tp, hz⟩ := I.tuple hq
    obtain ⟨u, hu, ru⟩ := rv.get hx
    have hu' : vs.toArray[i]? = some u := by simpa using hu
    have l1 : en < s.heap.objs.size := Heap.lt_size q1
    have l2 : it < s.heap.objs.size := by obtain ⟨_, z, _⟩ := q2; exact Heap.lt_size z
    have hi : i < vs.toArray.size := by
      by_cases z : i < vs.toArray.size
      · exact z
      · rw [Array.getElem?_eq_none (by omega)] at hu'; cases hu'
    have Dr := Draws.tuple (prog := X.prog) (w := X.w) (A := X.A.in1) (I.ok.hd hc) it a na vs.toArray
    refine wpAny_pyNext_enum_itemD (fp := [it, a]) (n := vs.toArray.size) Dr q1 ⟨q2, tp⟩ hi q3 (fun z => ?_) fun y h' tk hy ho hst hT hsz hk => ?_
    · rcases List.mem_cons.mp z with z | z
      · exact q3 z
      · exact q3' (List.mem_singleton.mp z)
    · have hy' : vs.toArray[i]? = some y := hy
      rw [hu'] at hy'
      cases hy'
      refine ⟨_, rfl, wpAny_letOwnedTupleGo_enum (s := { s with heap := h', toks := tk + 1 }) ho fun h2 he2 sb => ?_⟩
      have t2 : h2.get? s.heap.objs.size = some { cls := .type "tuple", data := .seq #[.int i tk, u] } := (sb.2 _ (Nat.ne_of_gt l1)).trans hT
      have nw : ObjOk X.prog X.w (upd H s.heap.objs.size (.tup [.int (i : Nat), x])) h2 s.heap.objs.size (.tup [.int (i : Nat), x]) :=
        ⟨by show 2 ≤ sizeLine; decide, [.int i tk, u], .cons ⟨_, rfl⟩ (.cons ru .nil), ⟨_, t2, rfl, _, rfl⟩⟩
      have J : Inv X pins σ (upd H s.heap.objs.size (.tup [.int (i : Nat), x])) { s with heap := h2, toks := tk + 1 } :=
        I.turnedNew (ch := [en, it]) (fun b ob hb z => (sb.2 b (fun y => hb (by simp [y]))).trans (hk b ob (fun y => hb (by simp [y])) (fun y => hb (by simp [y])) z)) hf (Nat.le_refl _) nw
      refine ⟨.ref s.heap.objs.size, _, J, rfl, ⟨_, x, rfl, I.hok.fresh (Nat.le_refl _), rfl, fun ys hy => by rw [I.tuple_inj hy hq]; exact hx⟩, ⟨⟨u, ?_⟩, hst.1.at fun o z => (sb.2 it (Ne.symm q3)).trans z, q3, q3'⟩, fun b hb => ?_⟩
      · rw [show ((i + 1 : Nat) : Int) = (i : Int) + 1 by omega]; exact he2
      · have lb : b < s.heap.objs.size := by
          rcases List.mem_cons.mp hb with z | z
          · rw [z]; exact l1
          · rw [List.mem_singleton.mp z]; exact l2
        rw [upd_ne (Nat.ne_of_lt lb)]
        exact (hf b hb).1
  done := by
    intro X hP hw hK hc i pins s σ H E I hf ⟨⟨old, q1⟩, q2, q3, q3'⟩ ⟨xs, hq, hx⟩
    subst hP hw hK
    obtain ⟨vs, rv, tp, hz⟩ := I.tuple hq
    obtain ⟨f0, f1, f2, f3, f4, f5⟩ := hf it (List.mem_cons_of_mem _ List.mem_cons_self)
    have hl := rv.length
    have hT : s.TypeIs (.ref en) "enumerate" := ⟨_, q1, rfl⟩
    unfold pyNext
    refine wpAny_bind (wpAny_attempt (wpAny_callSpecial?_slot (name := Str.ofString "__next__") hT F.slot_enumerate_next
      (wpAny_call_entry F.slot_enumerate_next hT F.entry_enumerate_next ?_ (F.args_enumerate_next_1 _))))
    show wpAny _ _ (field (.ref en) 2 >>= _) _ _ _
    refine wpAny_bind (wpAny_field q1 rfl (x := .ref it) rfl ?_)
    refine wpAny_bind (wpAny_nextOf_tuple_end (I.ok.hd hc) q2 tp (by simp; omega) fun h' y xb hy => ?_)
    obtain ⟨o, ho, hcl⟩ := hy
    exact wpAny_bind (wpAny_isInstance (T := "StopIteration") (b := true) ⟨o, ho, hcl⟩ isSubtype_stop (wpAny_pure ⟨rfl, I.turned (t' := s.toks) (fun b ob hb z => xb b ob hb z) f0 f1 f3 f4 f5⟩))
  self := fun A i s Q E hst h => by
    obtain ⟨⟨_, q1⟩, _⟩ := hst
    exact wpAny_pyIter_enum q1 h
def iEnumT (K : PySem.W.Frag) (ta : TA) : TI := fun σ H R => ta σ H fun vs H1 => ∃ a xs, vs = [.ref a] ∧ SqT K H1 a xs ∧ R (IteT K a) H1
theorem pi_enumT {X : Cx} {e : Expr} {ta : TA} {p pos tpos : Pos} {elts : List Expr} {kk : Nat} (hg : Gl X "enumerate") (hm : X.mg "enumerate" = none) (ha : PA X [e] ta) (hs : starEach [e] X.env = [(false, eval e X.env)] := by rfl) :
    PI X (.Tuple elts kk tpos) (.Call (.Name "enumerate" p) [e] [] pos) (iEnumT X.K ta) := ⟨fun pins s σ H R I h => by
  refine Call_ (ld_blt I hg hm boot_enumerate (PyProof.Rows.callWith_type1 (thn (ha.run pos pins s σ H _ I h) fun us s1 ⟨vs, H1, I1, r1, q1⟩ => ?_) hs rfl))
  obtain ⟨a, xs, rfl, hq, q⟩ := q1
  obtain ⟨u, rfl, ru⟩ := r1.one
  cases ru
  obtain ⟨ws, rv, tp, hz⟩ := I1.tuple hq
  have la : a < s1.heap.objs.size := by obtain ⟨_, z, _⟩ := tp; exact Heap.lt_size z
  refine enum_callT tp fun h' he hit hk => wpAny_pyIter_enum he ?_
  have J : Inv X pins σ H1 { s1 with heap := h' } := I1.kept (t' := s1.toks) hk
  refine ⟨s1.heap.objs.size + 1, [s1.heap.objs.size + 1, s1.heap.objs.size], _, _, H1, rfl, J, enum_turnT a (s1.heap.objs.size + 1) s1.heap.objs.size (Nat.ne_of_lt la), ⟨⟨.none, he⟩, hit, Nat.succ_ne_self _, Nat.ne_of_gt (Nat.lt_succ_of_lt la)⟩, fun b hb => ?_, q⟩
  have hle : s1.heap.objs.size ≤ b := by
    rcases List.mem_cons.mp hb with z | z
    · rw [z]; exact Nat.le_add_right _ _
    · rw [List.mem_singleton.mp z]; exact Nat.le_refl _
  exact I1.fpOk hle (I1.hok.fresh hle)⟩
section
variable {X : Cx} {w : WX} {H : Hp} {σ : L2.St} {e : Expr} {es : List Expr} {p q r : P} {ps : List P} {pos pp : Pos} {K : PySem.W.Frag} {mg : Str → Option Value} {B : Addr → Prop} {O : List Addr} {env : Slots} {st : Stmt} {rest : List Stmt} {pn : List Nat}
variable {tg : Expr} {kk : Nat} {tpos : Pos} {elts : List Expr}
theorem walkD_enumT {W : Addr → Prop} {a : Addr} {xs : List V} {l : List D} (ha : H a = some (.tup xs)) (nw : ¬ W a) (il : IsL K W H l xs) : WalkD K W H (IteT K a) (enumD l) := fun W2 H2 kp tr => by
  have h2 := (kp a _ nw ha).1
  have i2 := IsL.kp kp _ _ il
  have hl := il.length
  rw [enumD_length]
  refine ⟨fun i hi => ⟨xs, xs[i]'(by omega), SqT.of h2, by simp [hl, hi]⟩, ⟨xs, SqT.of h2, by omega⟩, fun i x H3 hi y => ?_⟩
  obtain ⟨T, z, rfl, hT, rfl, y⟩ := y
  have g1 : Grw H2 (upd H2 T (.tup [.int (i : Nat), z])) := fun b o e => by rw [upd_ne (ne_of_none e hT)]; exact e
  refine ⟨g1, _, enumD_get hi, T, _, rfl, upd_same, fun q => ?_, ?_⟩
  · obtain ⟨u, e⟩ := tr T q; rw [hT] at e; cases e
  · obtain ⟨x', e, h⟩ := i2.get (List.getElem?_eq_getElem hi)
    rw [y xs (SqT.of h2)] at e
    cases e
    exact ⟨_, _, rfl, rfl, _, _, rfl, h.grw g1, rfl⟩
/-- enumerate over a frozen list or tuple -/
def enumS (p : P) : PLs := fun env => (fSq p env).map enumD
theorem iG_enumS {a : Expr} {pa pb : Pos} (hg : Gl X "enumerate") (hm : X.mg "enumerate" = none) (ha : POk X a p) (hs : starEach [a] X.env = [(false, eval a X.env)] := by rfl) :
    IGk X (.Tuple elts kk tpos) (.Call (.Name "enumerate" pa) [a] [] pb) (enumS p) := ((pi_enum hg hm (pa_cons ha pa_nil (by rw [hs]; rfl)) hs).or (pi_enumT hg hm (pa_cons ha pa_nil (by rw [hs]; rfl)) hs)).imp fun σ H R hr => by
  obtain ⟨B, env, O, s, l, hp, hr⟩ := hr
  unfold enumS fSq at hp
  simp only [Option.map_eq_some_iff, Option.bind_eq_some_iff] at hp
  obtain ⟨l0, ⟨d, e1, e2⟩, rfl⟩ := hp
  cases d with
  | lst l' =>
    cases e2
    exact .inl ⟨B, env, O, s, _, e1, fun v H1 g hv => let ⟨a, xs, ev, ha, nw, il⟩ := hv; ⟨a, xs, by rw [ev], SqL.of ha, hr _ H1 g (walkD_enum ha nw il).g⟩⟩
  | tup l' =>
    cases e2
    exact .inr ⟨B, env, O, s, _, e1, fun v H1 g hv => let ⟨a, xs, ev, ha, nw, il⟩ := hv; ⟨a, xs, by rw [ev], SqT.of ha, hr _ H1 g (walkD_enumT ha nw il).g⟩⟩
  | non => cases e2
  | bl _ => cases e2
  | int _ => cases e2
  | str _ => cases e2
  | dct _ => cases e2
  | dcT _ => cases e2
  | ro _ => cases e2
  | opq _ => cases e2
/-- a walk's source that is pure, for a loop -/
theorem iD_enumS {a : Expr} {pa pb : Pos} (hg : Gl X "enumerate") (hm : X.mg "enumerate" = none) (ha : POk X a p) (hs : starEach [a] X.env = [(false, eval a X.env)] := by rfl) :
    IDk X w (.Tuple elts kk tpos) (.Call (.Name "enumerate" pa) [a] [] pb) (mP (enumS p)) := ((pi_enum hg hm (pa_cons ha pa_nil (by rw [hs]; rfl)) hs).or (pi_enumT hg hm (pa_cons ha pa_nil (by rw [hs]; rfl)) hs)).imp fun σ H R hr => by
  obtain ⟨B, env, O, s, hr⟩ := hr
  unfold mP enumS fSq at hr
  cases e1 : p env with
  | none => simp [e1] at hr
  | some d =>
    have go : ∀ l, sqD d = some l → ∀ J H1, Grw H H1 → WalkD X.K (fun a => B a ∨ a ∈ O) H1 J (enumD l) → R J H1 := fun l hl J H1 g wk => by
      simp only [e1, Option.bind_some, hl, Option.map_some] at hr
      exact hr J H1 O (s.grw g) (s.grwF g) wk
    cases hd : sqD d with
    | none => simp [e1, hd] at hr
    | some l =>
      cases d with
      | lst l' =>
        cases hd
        exact .inl ⟨B, env, O, s, _, e1, fun v H1 g hv => let ⟨a, xs, ev, ha, nw, il⟩ := hv; ⟨a, xs, by rw [ev], SqL.of ha, go _ rfl _ H1 g (walkD_enum ha nw il)⟩⟩
      | tup l' =>
        cases hd
        exact .inr ⟨B, env, O, s, _, e1, fun v H1 g hv => let ⟨a, xs, ev, ha, nw, il⟩ := hv; ⟨a, xs, by rw [ev], SqT.of ha, go _ rfl _ H1 g (walkD_enumT ha nw il)⟩⟩
      | non => cases hd
      | bl _ => cases hd
      | int _ => cases hd
      | str _ => cases hd
      | dct _ => cases hd
      | dcT _ => cases hd
      | ro _ => cases hd
      | opq _ => cases hd
end
end PL
namespace PL
open PySem PySem.Spec PyProof.Rows L2
section
variable {X : Cx} {w : WX} {H : Hp} {σ : L2.St} {e : Expr} {es : List Expr} {p q r : P} {ps : List P} {pos pp : Pos} {K : PySem.W.Frag} {mg : Str → Option Value} {B : Addr → Prop} {O : List Addr} {env : Slots} {st : Stmt} {rest : List Stmt} {pn : List Nat}
/-! ### xs.extend(a list) -/
def eExt (i : Nat) (pa : Pa) (f : PLs) : M C := fun env => match (pa env).bind fun js => (ownAt i js env).bind fun l => (f env).bind fun m => if l.length + m.length < 100000 then some (setAt i js (l ++ m.map .frz) env) else none with
  | some e => .ok (.frz .non) e
  | none => .no
theorem e_ext {i : Nat} {o : Expr} {pa : Pa} {f : PLs} {apos cpos : Pos} (ho : PaOk X o i pa) (he : LOk X e f)
    (hbase : attributeBase o "extend" X.env (eval o X.env) = eval o X.env := by rfl)
    (hfew : ((backTo cpos (starEach [e] X.env)).all (fun x => !x.1) && (backToKw cpos (keywordEach [] X.env)).all (fun x => x.1.isSome)
      && decide ([e].length + ([] : List Keyword).length + (if ([] : List Keyword).isEmpty then 0 else 1) < 30)) = true := by rfl)
    (hline : (apos.endLine == cpos.line) = true := by rfl) (hs : starEach [e] X.env = (false, eval e X.env) :: starEach [] X.env := by rfl) (hplain : (backTo cpos (starEach [] X.env)).any (·.1) = false := by rfl) :
    EOk X w (.Call (.Attribute o "extend" apos) [e] [] cpos) (eExt i pa f) :=
  (pe_bm PySem.F.plainAttrs_list PySem.F.slot_list_extend PySem.F.type_list_extend mt_extend ho (pa_cons he pa_nil hs) hbase hfew hline hs hplain).imp fun σ H Q h => by
    obtain ⟨B, env, O, s, h⟩ := h
    unfold eExt at h
    split at h
    · rename_i c' e' hc'
      split at hc'
      · rename_i e2 he2
        cases hc'
        simp only [Option.bind_eq_some_iff] at he2
        obtain ⟨js, e1, l, e3, m, e4, he2⟩ := he2
        split at he2
        · rename_i hlen
          cases he2
          refine ⟨B, env, O, s, js, e1, fun v0 x H1 h0 hx g1 => ?_⟩
          obtain ⟨a, xs, A2, rfl, ha, hl⟩ := s.look g1 e3 h0 hx
          refine ⟨.inl ⟨rfl, xs, SqL.of ha⟩, B, env, O, s.grw g1, m, e4, fun b ys H2 g2 hb hm => ?_⟩
          have g := g1.trans g2
          have s2 := s.grw g
          obtain ⟨c0, k0, k1, k2⟩ := ownAt_some e3
          obtain ⟨w0, a', xs', A2', m1, m2, m3, m4, m5, m6, m7⟩ := s2.nilB.mut .nil (fun _ z => nomatch z) (s.grwF g) k0 k1
          rw [h0] at m1
          cases m1
          have ea : V.ref a = .ref a' := VAt.inj (hx.grw g2) m2
          cases ea
          obtain ⟨O2, t1, t2, t3⟩ := m7 (l ++ m.map .frz) (xs' ++ ys) (A2' ++ []) (m4.append (RepL.frz (IsL.kp (Kp.less fun b z => z.imp (fun z => z.elim id fun z => nomatch z) id) _ _ hm))) (by rw [List.append_nil]; exact m5) fun b hb => .inl (by simpa using hb)
          refine ⟨a, b, xs', ys, rfl, rfl, m3, hb, by rw [m4.length, hm.length, sizeLine_eq]; omega, ?_⟩
          rw [k2] at h
          exact h .non _ [] O2 (Res.new t1 t2 (New.of_is rfl))
        · cases he2
      · cases hc'
    · rename_i hc'; split at hc' <;> cases hc'
    · exact h.elim
/-! ### a, b = x, y -/
/-- the first of the values put into a slot -/
theorem ResL.put1 {c : C} {cs : List C} {e1 : Slots} {v : V} {vs : List V} {H' : Hp} {A O' : List Addr} {i : Nat} (r : ResL K B O H σ (c :: cs) e1 (v :: vs) H' A O') (hi : i < e1.length) :
    ∃ A2 O2, ResL K B O H (σ.set i (some v)) cs (e1.set i (some c)) vs H' A2 O2 := by
  obtain ⟨v', vs', D1, D2, e0, rfl, hc, hl⟩ := r.rep
  cases e0
  obtain ⟨o, A1, A2, A3, g1, g2, g3, g4⟩ := RepE.at r.stt.rep (List.getElem?_eq_getElem hi)
  have nd := r.stt.nd
  rw [g2] at nd
  have nd1 := List.nodup_append.mp nd
  have nd2 := List.nodup_append.mp nd1.2.1
  have nD := List.nodup_append.mp r.nd
  have sub : ∀ a, a ∈ A1 ++ A3 → a ∈ O' := fun a ha => by rw [g2]; simp at ha ⊢; rcases ha with z | z <;> simp [z]
  have m3 : ∀ a, a ∈ A1 ++ (D1 ++ A3) → a ∈ D1 ∨ a ∈ A1 ++ A3 := fun a ha => by simp at ha ⊢; rcases ha with z | z | z <;> simp [z]
  have le : ∀ a, (B a ∨ a ∈ D2) ∨ a ∈ A1 ++ (D1 ++ A3) → (B a ∨ a ∈ D1 ++ D2) ∨ a ∈ O' := fun a z => by
    rcases z with (z | z) | z
    · exact .inl (.inl z)
    · exact .inl (.inr (by simp [z]))
    · exact (m3 a z).elim (fun z => .inl (.inr (by simp [z]))) fun z => .inr (sub a z)
  refine ⟨D2, A1 ++ (D1 ++ A3), RepL.kp (Kp.less le) _ _ _ (fun _ _ _ e => e) hl, ⟨?_, ?_, ?_, ?_⟩, nD.2.1, fun a ha => r.dj a (by simp [ha]), fun a o hw ha => ⟨(r.frm a o hw ha).1, fun z => ?_⟩⟩
  · exact g4 _ H' (some c) (some v) D1 (Kp.less le) (fun _ _ _ e => e) ⟨v, rfl, RepC.kp (Kp.less le) _ _ _ (fun _ _ _ e => e) hc⟩
  · refine List.nodup_append.mpr ⟨nd1.1, List.nodup_append.mpr ⟨nD.1, nd2.2.1, fun a ha b hb e => ?_⟩, fun a ha b hb e => ?_⟩
    · subst e; exact r.stt.dj a (sub a (by simp [hb])) (.inr (by simp [ha]))
    · subst e
      rcases List.mem_append.mp hb with z | z
      · exact r.stt.dj a (sub a (by simp [ha])) (.inr (by simp [z]))
      · exact nd1.2.2 a ha a (by simp [z]) rfl
  · intro a ha z
    rcases m3 a ha with y | y
    · exact z.elim (r.dj a (by simp [y])) fun z => nD.2.2 a y a z rfl
    · exact r.stt.dj a (sub a y) (z.imp id fun z => by simp [z])
  · exact fun a z => r.stt.tr a (z.imp id fun z => by simp [z])
  · refine (r.frm a o hw ha).2 ?_
    rcases z with z | z
    · exact .inl (by simp [z])
    · exact (m3 a z).elim (fun z => .inl (by simp [z])) fun z => .inr (sub a z)
theorem ResL.done {e1 : Slots} {H' : Hp} {A O' : List Addr} (r : ResL K B O H σ [] e1 [] H' A O') : Stt K B H' σ e1 O' ∧ Frm O H [] O' H' := ⟨r.stt.less fun a z => .inl z, r.frm0⟩
def sPar (is : List Nat) (fs : List (M C)) : SS := fun env => sOf (evMs fs env) fun cs e => .nx ((is.zip cs).foldl (fun e (p : Nat × C) => e.set p.1 (some p.2)) e)
theorem rdM_s {fs : List (M C)} {k : List C → Slots → SOut} {D : Ends} {Q : List V → Hp → Prop} (s : Stt X.K B H σ env O) (h : SPost X w pn D B O σ H (sOf (evMs fs env) k))
    (i : ∀ cs e vs H' A O', evMs fs env = .ok cs e → ResL X.K B O H σ cs e vs H' A O' → SPost X w pn D B O σ H (k cs e) → Q vs H') : rdM X w fs σ H Q := by
  refine ⟨B, env, O, s, ?_⟩
  unfold sOf at h
  cases ef : evMs fs env with
  | no => rw [ef] at h; exact h
  | err x e => rw [ef] at h; exact fun cls d H' O' x => h σ cls d H' O' x Pin.refl
  | ok c e => rw [ef] at h; exact fun v H' A O' r => i c e v H' A O' ef r h
theorem ResL.len {cs : List C} {vs : List V} {H1 : Hp} {A O1 : List Addr} {e1 : Slots} (r : ResL K B O H σ cs e1 vs H1 A O1) : e1.length = σ.length := r.stt.len.symm
theorem s_par {i j : Nat} {x y : Str} {a b : Expr} {f g : M C} {px py pt : Pos} {kt k2 pt2} (hc : X.calm = true) (hN : X.N.Nodup) (hi : X.N[i]? = some x) (hj : X.N[j]? = some y) (hij : i ≠ j)
    (hx : X.env.scope.names.lookup x = some .local) (hy : X.env.scope.names.lookup y = some .local) (ha : AMk X w [a, b] [f, g]) (hpi : i ∉ pn := by decide) (hpj : j ∉ pn := by decide)
    (hw : swappedStores [.Tuple [.Name x px, .Name y py] kt pt] (.Tuple [a, b] k2 pt2) X.env = pure (some [x, y]))
    (hs : swapsWithSole [.Tuple [.Name x px, .Name y py] kt pt] (.Tuple [a, b] k2 pt2) pos.line X.env = pure false := by rfl) :
    SOk X w pn (.Assign [.Tuple [.Name x px, .Name y py] kt pt] (.Tuple [a, b] k2 pt2) pos) (sPar [i, j] [f, g]) := ⟨fun pins s σ H D I h => (ps_par hc hN hi hj hij hx hy ha hw hs).run pins s σ H D I (by
  obtain ⟨B, env, O, st, h⟩ := h
  refine rdM_s st h fun cs e vs H' A O' ec r h => ?_
  have hl := evMs_len ec
  have hv := r.rep.length
  obtain ⟨c1, c2, rfl⟩ : ∃ c1 c2, cs = [c1, c2] := by
    match cs, hl with
    | [c1, c2], _ => exact ⟨c1, c2, rfl⟩
  obtain ⟨v1, v2, rfl⟩ : ∃ v1 v2, vs = [v1, v2] := by
    match vs, hv with
    | [v1, v2], _ => exact ⟨v1, v2, rfl⟩
  have hn := I.len
  obtain ⟨A2, O2, r2⟩ := r.put1 (i := i) (by rw [r.len, hn]; exact lt_of_N hi)
  obtain ⟨A3, O3, r3⟩ := r2.put1 (i := j) (by rw [r2.len, List.length_set, hn]; exact lt_of_N hj)
  obtain ⟨s3, f3⟩ := r3.done
  exact ⟨v1, v2, rfl, h _ H' O3 s3 f3 ((Pin.set hpi).trans (Pin.set hpj))⟩)⟩
theorem s_par3 {i j l : Nat} {x y z : Str} {a b c : Expr} {f g k : M C} {px py pz pt : Pos} {kt k2 pt2} (hc : X.calm = true) (hN : X.N.Nodup) (hi : X.N[i]? = some x) (hj : X.N[j]? = some y) (hl : X.N[l]? = some z) (hij : i ≠ j) (hil : i ≠ l) (hjl : j ≠ l)
    (hx : X.env.scope.names.lookup x = some .local) (hy : X.env.scope.names.lookup y = some .local) (hz : X.env.scope.names.lookup z = some .local) (ha : AMk X w [a, b, c] [f, g, k]) (hpi : i ∉ pn := by decide) (hpj : j ∉ pn := by decide) (hpl : l ∉ pn := by decide)
    (hw : swappedStores [.Tuple [.Name x px, .Name y py, .Name z pz] kt pt] (.Tuple [a, b, c] k2 pt2) X.env = pure (some [x, y, z]))
    (hs : swapsWithSole [.Tuple [.Name x px, .Name y py, .Name z pz] kt pt] (.Tuple [a, b, c] k2 pt2) pos.line X.env = pure false := by rfl) :
    SOk X w pn (.Assign [.Tuple [.Name x px, .Name y py, .Name z pz] kt pt] (.Tuple [a, b, c] k2 pt2) pos) (sPar [i, j, l] [f, g, k]) := ⟨fun pins s σ H D I h => (ps_par3 hc hN hi hj hl hij hil hjl hx hy hz ha hw hs).run pins s σ H D I (by
  obtain ⟨B, env, O, st, h⟩ := h
  refine rdM_s st h fun cs e vs H' A O' ec r h => ?_
  have hl' := evMs_len ec
  have hv := r.rep.length
  obtain ⟨c1, c2, c3, rfl⟩ : ∃ c1 c2 c3, cs = [c1, c2, c3] := by
    match cs, hl' with
    | [c1, c2, c3], _ => exact ⟨c1, c2, c3, rfl⟩
  obtain ⟨v1, v2, v3, rfl⟩ : ∃ v1 v2 v3, vs = [v1, v2, v3] := by
    match vs, hv with
    | [v1, v2, v3], _ => exact ⟨v1, v2, v3, rfl⟩
  have hn := I.len
  obtain ⟨A2, O2, r2⟩ := r.put1 (i := i) (by rw [r.len, hn]; exact lt_of_N hi)
  obtain ⟨A3, O3, r3⟩ := r2.put1 (i := j) (by rw [r2.len, List.length_set, hn]; exact lt_of_N hj)
  obtain ⟨A4, O4, r4⟩ := r3.put1 (i := l) (by rw [r3.len, List.length_set, List.length_set, hn]; exact lt_of_N hl)
  obtain ⟨s3, f3⟩ := r4.done
  exact ⟨v1, v2, v3, rfl, h _ H' O4 s3 f3 (((Pin.set hpi).trans (Pin.set hpj)).trans (Pin.set hpl))⟩)⟩
/-! ### name = [.. for ..] -/
theorem s_setC {i : Nat} {y : Str} {py spos : Pos} {elt tg iter : Expr} {ifs : List Expr} {scope : Scope} {own : List (Str × Nat)} {js : List Nat} {t : Tg} {q : PB} {p : P} {src : PLs} (hc : X.calm = true) (hN : X.N.Nodup) (hy : X.N[i]? = some y) (hyl : X.env.scope.names.lookup y = some .local)
    (hsw : swapsWith (.ListComp elt [⟨tg, iter, ifs, 0⟩] scope pos) (some (.Name y py)) spos.line X.env = pure true) (hi : IGk X tg iter src) (ok : BlkOk X.N X.env.scope scope own)
    (hg : ∀ (s : Shared) (H : Hp) (C : Addr) (cl : List (Str × Addr)) (fp : List Addr), GOk (X.blk s H scope (compEnvC scope cl C X.env) fp) true tg js t) (ht : ∀ (s : Shared) (H : Hp) (C : Addr) (cl : List (Str × Addr)) (fp : List Addr), TsOk (X.blk s H scope (compEnvC scope cl C X.env) fp) ifs q)
    (he : ∀ (s : Shared) (H : Hp) (C : Addr) (cl : List (Str × Addr)) (fp : List Addr), POk (X.blk s H scope (compEnvC scope cl C X.env) fp) elt p) (hj : ∀ j ∈ js, j ∈ own.map (·.2)) (hp : i ∉ pn := by decide) (hs : ∀ x, foldedSetIterable iter X.env x = pure x := by intro _; rfl) :
    SOk X w pn (.Assign [.Name y py] (.ListComp elt [⟨tg, iter, ifs, 0⟩] scope pos) spos) (sSet i (eF (fComp (own.map (·.2)) t q p src))) := ⟨fun pins s σ H D I h => (s_setLc (w := w) (pn := pn) hc hN hy hyl hsw hi ok hg ht he hj hs).run pins s σ H D I (by
  obtain ⟨B, env, O, st, h⟩ := h
  have q : rdE X w (eF (fComp (own.map (·.2)) t q p src)) σ H (fun v H' => D.nx (σ.set i (some v)) H') := rdE_s st h fun c e v H' A O' r h => by
    obtain ⟨O2, s2, f2⟩ := r.put (i := i) (by rw [r.len, I.len]; exact lt_of_N hy)
    exact h _ H' O2 s2 f2 (Pin.set hp)
  exact eF_of σ H _ q)⟩
/-! ### a call whose result stays one's own -/
def eFnO (m : List C → Out C) (fs : List (M C)) : M C := fun env => (evMs fs env).bind fun cs e1 => match m cs with
  | .ok c _ => .ok c e1
  | .err x _ => .err x e1
  | .no => .no
theorem e_fnO {k : Nat} {x : Str} {st : Stmt} {qs : List Str} {m : List C → Out C} {fs : List (M C)} (F : FnM X.prog X.w X.K X.mg X.base k x st qs m) (bd : BindP x st qs) (hg : X.A.guards = some []) (hr : Room k X.A) (tk : Takes X w) (gl : Gl X x) (ha : AMk X w (e :: es) fs) (hl : fs.length = qs.length := by rfl)
    (hdb : (x == ("__debug__" : Str)) = false := by decide) (he : starEach (e :: es) X.env = (false, eval e X.env) :: starEach es X.env := by rfl) (hpl : (backTo pos (starEach es X.env)).any (·.1) = false := by rfl) :
    EOk X w (.Call (.Name x pp) (e :: es) [] pos) (eFnO m fs) := by
  obtain ⟨f, kV, doc, pm, an, cdv, ct, hm, kp, G⟩ := F.ex
  refine ⟨fun pins s σ H Q I h => ?_⟩
  have want : rdM X w fs σ H fun vs H1 => spM X.K X.mg qs.length m vs H1 Q (EofW w σ) := by
    obtain ⟨B, env, O, st, h⟩ := h
    refine ⟨B, env, O, st, ?_⟩
    unfold eFnO at h
    cases er : evMs fs env with
    | no => simp only [er, Out.bind] at h
    | err y e => simp only [er, Out.bind] at h; exact h
    | ok cs e1 =>
      simp only [er, Out.bind] at h
      intro vs H1 A O1 r
      refine ⟨by rw [r.rep.length, evMs_len er]; exact hl, fun a => B a ∨ a ∈ O1, cs, A, r.args, ?_⟩
      cases em : m cs with
      | no => rw [em] at h; exact h
      | err y outs =>
        rw [em] at h
        intro cls d H' O' x2
        obtain ⟨s2, f2⟩ := r.stay (A2 := []) x2.frm
        exact h cls d H' O1 (XRes.mk' x2.cls (x2.xfs.less fun a z => .inl z) s2 f2)
      | ok c outs =>
        rw [em] at h
        intro u H' A2 O2 r2
        obtain ⟨s2, f2⟩ := r.stay r2.frm
        have tA : ∀ a ∈ A2, ∃ u, H' a = some u := RepC.trk _ _ _ r2.rep
        have nA : ∀ a ∈ A2, a ∉ O1 := fun a ha z => r2.dj a ha (.inr z)
        refine h u H' A2 O1 ⟨RepC.kp (Kp.less fun a z => ?_) _ _ _ (fun _ _ _ e => e) r2.rep, ⟨RepE.kp (fun a o hw ha => ?_) (fun a ha o e => (r2.frm a o (fun z => r.stt.dj a ha (.inr z)) e).1) r.stt.rep, s2.nd, fun a ha z => z.elim (s2.dj a ha) fun z => nA a z ha, fun a z => z.elim (s2.tr a) (tA a)⟩, r2.nd, fun a ha z => r2.dj a ha (.inl z), fun a o hw ha => ?_⟩
        · rcases z with (z | z) | z
          · exact .inl (.inl (.inl z))
          · exact .inl (.inr z)
          · exact .inl (.inl (.inr z))
        · obtain ⟨q1, q2⟩ := r2.frm a o (fun z => hw (.inl (.inr z))) ha
          exact ⟨q1, fun z => z.elim (fun z => z.elim (fun z => hw (.inl (.inl z))) fun z => q2 (.inl z)) fun z => hw (.inr z)⟩
        · obtain ⟨q1, q2⟩ := r.frm a o hw ha
          obtain ⟨q3, q4⟩ := r2.frm a o (fun z => q2 (.inl z)) q1
          exact ⟨q3, fun z => z.elim (fun z => q4 (.inl z)) fun z => q2 (.inr z)⟩
  refine wpAny_Call_Name_kw (ld_glob I gl hm ?_ hdb)
  refine PySem.W.callWith_K (h₀ := X.base) I.ok.mod.kin kp (thn (ha.run pos pins s σ H _ I want) ?_) he hpl
  rintro us s1 ⟨vs, H1, I1, r1, q1⟩
  exact ⟨I1.kIn, run_G G hg hr (fun e s' c => tk e s' (XE.of_call I1 (fun _ _ _ z => z) c)) (.of_eq (bd kV doc pm an cdv ct us (r1.length.symm.trans q1.1))) I1 r1 q1⟩
end
end PL
namespace PL
open PySem PySem.Spec PySem.W PyProof.Rows L2
section
variable {X : Cx} {w : WX} {H : Hp} {σ : L2.St} {e : Expr} {es : List Expr} {p q r : P} {ps : List P} {pos pp : Pos} {K : PySem.W.Frag} {mg : Str → Option Value} {B : Addr → Prop} {O : List Addr} {env : Slots} {st : Stmt} {rest : List Stmt} {pn : List Nat}
/-! ### divmod -/
def dmD : D → D → Option D
  | .int a, .int b => if 0 < b ∧ Builtin.divisionGoesByPylong a b = false then some (.tup [.int (a / b), .int (a % b)]) else none
  | _, _ => none
def pDm (p q : P) : P := fun env => match p env, q env with
  | some a, some b => dmD a b
  | _, _ => none
theorem p_divmod {a b : Expr} (hg : Gl X "divmod") (hm : X.mg "divmod" = none) (ha : ABk X [a, b] [p, q]) (he : starEach [a, b] X.env = (false, eval a X.env) :: starEach [b] X.env := by rfl) (hpl : (backTo pos (starEach [b] X.env)).any (·.1) = false := by rfl) :
    POk X (.Call (.Name "divmod" pp) [a, b] [] pos) (pDm p q) :=
  (pe_callB call_divmodW hg hm (by decide +kernel) ha (by decide) (by decide) he hpl).imp fun σ H Q h => by
    obtain ⟨B, env, O, s, d, hp, h⟩ := h
    unfold pDm at hp
    split at hp
    · rename_i d1 d2 e1 e2
      unfold dmD at hp
      split at hp
      · split at hp
        · rename_i i j hc
          cases hp
          refine ⟨B, env, O, s, [.int i, .int j], by simp [evPs, e1, e2], fun vs H1 g1 hv => ?_⟩
          obtain ⟨x, y, rfl, hx, hy⟩ := hv.two
          rw [show x = _ from hx, show y = _ from hy]
          refine ⟨i, j, rfl, hc, fun t ht => ?_⟩
          have g2 : Grw H1 (upd H1 t (.tup [.int (i / j), .int (i % j)])) := fun b o e => by rw [upd_ne (ne_of_none e ht)]; exact e
          refine h _ _ (g1.trans g2) ⟨t, _, rfl, upd_same, fun z => ?_, _, _, rfl, rfl, _, _, rfl, rfl, rfl⟩
          obtain ⟨u, e⟩ := (s.grw g1).trk t z
          rw [ht] at e; cases e
        · cases hp
      · cases hp
    · cases hp
end
/-! ### a def by its body -/
def startE (n : Nat) (cs : List C) : Slots := cs.map some ++ List.replicate (n - cs.length) none
def outsE (pn : List Nat) : Nat → Nat → Slots → Slots
  | _, 0, _ => []
  | _, _ + 1, [] => []
  | k, n + 1, oc :: r => (if pn.contains k then oc else none) :: outsE pn (k + 1) n r
/-- what a body makes of the arguments (N: how many slots; pn: the lent ones; a: how many parameters) -/
def bodyM (N : Nat) (pn : List Nat) (a : Nat) (f : SS) : List C → Out C := fun cs => match f (startE N cs) with
  | .nx e => .ok (.frz .non) (outsE pn 0 a e)
  | .rt c e => .ok c (outsE pn 0 a e)
  | .err x e => .err x (outsE pn 0 a e)
  | _ => .no
theorem RepE.nones {K : PySem.W.Frag} {W : Addr → Prop} {H : Hp} : ∀ n : Nat, RepE K W H (List.replicate n none) (List.replicate n none) []
  | 0 => ⟨rfl, rfl⟩
  | n + 1 => ⟨none, List.replicate n none, [], [], rfl, rfl, rfl, RepE.nones n⟩
theorem RepE.app {K : PySem.W.Frag} {W : Addr → Prop} {H : Hp} {e2 : Slots} {σ2 : List (Option V)} (h2 : RepE K W H e2 σ2 []) : ∀ {e1 : Slots} {σ1 : List (Option V)} {A : List Addr}, RepE K W H e1 σ1 A → RepE K W H (e1 ++ e2) (σ1 ++ σ2) A
  | [], σ1, A, h => by
    obtain ⟨rfl, rfl⟩ := h
    exact h2
  | oc :: r, σ1, A, h => by
    obtain ⟨o, τ, A1, A2, rfl, rfl, h3, h4⟩ := h
    exact ⟨o, τ ++ σ2, A1, A2, rfl, rfl, h3, RepE.app h2 h4⟩
theorem Stt.start {K : PySem.W.Frag} {B : Addr → Prop} {H : Hp} {cs : List C} {vs : List V} {O : List Addr} (N : List Str) (s : Stt K B H (vs.map some) (cs.map some) O) : Stt K B H (L2.start N vs) (startE N.length cs) O := by
  have hl : vs.length = cs.length := by have := s.len; simpa using this
  unfold L2.start startE
  rw [hl]
  exact ⟨RepE.app (RepE.nones _) s.rep, s.nd, s.dj, s.tr⟩
theorem RepE.outs {K : PySem.W.Frag} {W : Addr → Prop} {H : Hp} {pn : List Nat} : ∀ {n k : Nat} {e : Slots} {σ τ : List (Option V)} {A : List Addr}, RepE K W H e σ A → τ.length = n → n ≤ e.length → (∀ i, k + i ∈ pn → i < n → σ[i]? = τ[i]?) → ∃ A', A'.Sublist A ∧ RepE K W H (outsE pn k n e) τ A'
  | 0, k, e, σ, τ, A, h, ht, hl, hp => ⟨[], List.nil_sublist _, by
    rw [List.eq_nil_of_length_eq_zero ht]
    unfold outsE
    exact ⟨rfl, rfl⟩⟩
  | n + 1, k, [], σ, τ, A, h, ht, hl, hp => by simp at hl
  | n + 1, k, oc :: r, σ, τ, A, h, ht, hl, hp => by
    obtain ⟨o, σ', A1, A2, rfl, rfl, h1, h2⟩ := h
    cases τ with
    | nil => simp at ht
    | cons t τ =>
      obtain ⟨A', sub, h3⟩ := RepE.outs (n := n) (k := k + 1) (τ := τ) h2 (by simpa using ht) (by simpa using hl) fun i hi hn => by
        have := hp (i + 1) (by rw [show k + (i + 1) = k + 1 + i by omega]; exact hi) (by omega)
        simpa using this
      unfold outsE
      by_cases hk : pn.contains k = true
      · rw [if_pos hk]
        refine ⟨A1 ++ A', List.Sublist.append (List.Sublist.refl _) sub, t, τ, A1, A', rfl, rfl, ?_, h3⟩
        have := hp 0 (by simpa using hk) (by omega)
        simp at this
        rw [← this]
        exact h1
      · rw [if_neg hk]
        exact ⟨A', List.Sublist.trans sub (List.sublist_append_right _ _), t, τ, [], A', rfl, rfl, rfl, h3⟩
theorem Stt.outs {K : PySem.W.Frag} {B : Addr → Prop} {H : Hp} {σ : List (Option V)} {vs : List V} {e : Slots} {O : List Addr} {pn : List Nat} {N : List Str} (s : Stt K B H σ e O) (hl : vs.length ≤ e.length) (hp : Pin pn (L2.start N vs) σ) :
    ∃ O', O'.Sublist O ∧ Stt K B H (vs.map some) (outsE pn 0 vs.length e) O' := by
  obtain ⟨A', sub, h⟩ := RepE.outs (pn := pn) (k := 0) (τ := vs.map some) s.rep (by simp) hl fun i hi hn => by
    rw [hp.2 i (by simpa using hi)]
    unfold L2.start
    rw [List.getElem?_append_left (by simpa using hn)]
  exact ⟨A', sub, RepE.kp (Kp.less fun a z => z.imp id (sub.subset ·)) (fun _ _ _ e => e) h, s.nd.sublist sub, fun a ha => s.dj a (sub.subset ha), s.tr⟩
/-- THE RULE: a def, by its body's reading -/
theorem fnG_of {Pr : Program} {w : World} {K : PySem.W.Frag} {mg : Str → Option Value} {base : Heap} {k : Nat} {f : Addr} {nm qu : Str} {pa : Arguments} {body : List Stmt} {sc : Scope} {dV kV doc pm cdv ct oc : Value} {an od : Option Addr}
    {osl : Array (Option Value)} {N ps : List Str} {pn : List Nat} {g : SS} (lk : K.lookup f = some ⟨oc, od, .func (PySem.W.fnOf nm qu pa body sc dV kV doc pm an cdv ct), osl⟩) (hcd : PySem.W.codeIn K cdv qu = true) (S : FnScope N ps sc)
    (hb : ∀ (A : Around) (outer : List Env) (s : Shared) (H : Hp) (E : XK), A.guards = some [] → Room k (A.deeper (envOfC qu sc s.heap.objs.size f cdv)) →
      SsOk (cxOf (CY Pr w) Pr w K mg base N qu sc f cdv A outer s H E) (fun cls d _ H' => E cls d H') pn body g) :
    FnG Pr w K mg base (k + 1) f (PySem.W.fnOf nm qu pa body sc dV kV doc pm an cdv ct) ps (spM K mg ps.length (bodyM N.length pn ps.length g)) :=
  fn_ofG lk hcd S (fun vs H Q E h => h.1) fun A outer s H vs Q E hg hr h => by
    refine ⟨_, hb A outer s H E hg hr, ?_⟩
    obtain ⟨hl, B, cs, O, st, h⟩ := h
    have hpl : ps.length ≤ N.length := by have := congrArg List.length S.pre; rw [List.length_take] at this; omega
    have hcs : cs.length = vs.length := by have := st.len; simp at this; exact this.symm
    refine ⟨B, startE N.length cs, O, st.start N, ?_⟩
    have lenS : (L2.start N vs).length = N.length := by
      unfold L2.start
      rw [List.length_append, List.length_map, List.length_replicate]; omega
    unfold bodyM at h
    rw [← hl] at h
    have lenE : ∀ {σ' : List (Option V)} {e : Slots} {B' : Addr → Prop} {H' : Hp} {O' : List Addr}, Stt K B' H' σ' e O' → Pin pn (L2.start N vs) σ' → vs.length ≤ e.length := fun s' p' => by
      rw [← s'.len, p'.1, lenS]; omega
    have subF : ∀ {A' O' O2 : List Addr} {H' : Hp}, Frm O H A' O' H' → O2.Sublist O' → Frm O H A' O2 H' := fun f sub => Frm.sub f fun a z => sub.subset z
    cases eg : g (startE N.length cs) with
    | no => rw [eg] at h; exact h
    | bk e => rw [eg] at h; exact h.elim
    | ct e => rw [eg] at h; exact h.elim
    | nx e =>
      rw [eg] at h
      intro σ' H' O' s' f' p'
      obtain ⟨O2, sub, s2⟩ := s'.outs (lenE s' p') p'
      exact h .non H' [] O2 (Res.new s2 (subF f' sub) (New.of_is rfl))
    | rt c e =>
      rw [eg] at h
      intro σ' v H' A' O' r p'
      obtain ⟨O2, sub, s2⟩ := r.stt.outs (lenE r.stt p') p'
      exact h v H' A' O2 ⟨RepC.kp (Kp.less fun a z => z.imp id (sub.subset ·)) _ _ _ (fun _ _ _ e => e) r.rep, s2, r.nd, r.dj, subF r.frm sub⟩
    | err x e =>
      rw [eg] at h
      intro σ' cls d H' O' r p'
      obtain ⟨O2, sub, s2⟩ := r.stt.outs (lenE r.stt p') p'
      exact h cls d H' O2 (XRes.mk' r.cls (r.xfs.less fun a z => z.imp id (sub.subset ·)) s2 (subF r.frm sub))
end PL
namespace PL
open PySem PySem.Spec PySem.W PyProof.Rows L2
/-! ### the law's end -/
/-- the table of modules stands -/
def SysD (h : Heap) : Prop := ∃ (o : Obj) (es : Array DictEntry) (ep : Nat), h.get? sysModules = some o ∧ o.data = .dict es ep
theorem SysD.of {h : Heap} (x : h.NoSeer) : SysD h := by
  obtain ⟨mm, ⟨o, es, ep, e, d, _⟩, _⟩ := x.mods
  exact ⟨o, es, ep, e, d⟩
theorem SysD.keeps {h h' : Heap} (x : SysD h) (k : ∀ b o, h.get? b = some o → h'.get? b = some o) : SysD h' := let ⟨o, es, ep, e, d⟩ := x; ⟨o, es, ep, k _ _ e, d⟩
/-- the law's def, promised over every base -/
theorem law_callG {P : Program} {w : World} {K : PySem.W.Frag} {mg mb : Str → Option Value} {k : Nat} {fa sa : Addr} {fd : FuncData} {x : Str} {m : List C → Out C} {s0 : Shared} {vs : List Value} {ns : List Int} {c : C} {outs : Slots}
    (KX : K.In s0.heap) (hns : s0.heap.Ns mainGlobals mg) (hb : s0.heap.Ns builtinsNs mb) (hbb : ∀ x : Str, x ≠ "__name__" → mb x = bootBuiltins x) (hlim : s0.heap.NoLimit) (hg : s0.gens = #[])
    (hs : s0.heap.get? sa = some { cls := .type "list", data := .seq vs.toArray }) (hi : IntsAre vs ns) (hl : ns.length ≤ sizeLine) (hr : Room k PySem.callerA)
    (hsys : SysD s0.heap) (F : ∀ base : Heap, K.In base → base.Ns mainGlobals mg → SysD base → FnG P w K mg base k fa fd [x] (spM K mg 1 m)) (hbind : ∀ (s : Shared) (u : Value), BindsTo s fd ⟨[u], []⟩ [(x, u)])
    (hm : m [.frz (.ro ns)] = .ok c outs) (hc : c.toD = .bl true) :
    codeAny (model P w) PySem.callerA (.call (.ref fa) ⟨[.ref sa], []⟩) (fun r s' => r = .ok (.ret (.bool true)) ∧ OldK s0.heap s'.heap ∧ s'.os = s0.os ∧ AllBare s'.gens) s0 := by
  have rv := vals_ints hi
  have lv := hi.length
  have main : ∀ H : Hp, Only H → SqL K H sa (ns.map V.int) → HOk P w H s0.heap → (∀ b, H b ≠ none → b = sa) → (H sa ≠ none → K.lookup sa = none) →
      codeAny (model P w) PySem.callerA (.call (.ref fa) ⟨[.ref sa], []⟩) (fun r s' => r = .ok (.ret (.bool true)) ∧ OldK s0.heap s'.heap ∧ s'.os = s0.os ∧ AllBare s'.gens) s0 := by
    intro H hO hS hok only noK
    have base : ∀ {b : Addr} {o : Obj}, s0.heap.get? b = some o → H b = none → (hidT s0.heap H).get? b = some o := fun e n => hidT_get e n
    have same : ∀ {b : Addr} {u : HO}, H b = some u → b = sa := fun q => only _ (by rw [q]; exact fun z => nomatch z)
    have dct : ∀ {b : Addr} {o : Obj} {es : Array DictEntry} {ep : Nat}, s0.heap.get? b = some o → o.data = .dict es ep → H b = none := fun {b o es ep} e d => by
      cases q : H b with
      | none => rfl
      | some u =>
        cases same q
        rw [hs] at e
        cases e
        exact absurd d (fun z => nomatch (z : Data.seq vs.toArray _ = Data.dict es ep))
    have nsB : ∀ {b : Addr} {f : Str → Option Value}, s0.heap.Ns b f → (hidT s0.heap H).Ns b f := fun ⟨o, es, ep, e, d, r⟩ => ⟨o, es, ep, base e (dct e d), d, r⟩
    have kB : K.In (hidT s0.heap H) := fun b o e => base (KX b o e) (by
      cases q : H b with
      | none => rfl
      | some u =>
        cases same q
        rw [noK (by rw [q]; exact fun z => nomatch z)] at e
        cases e)
    have md : Mod K mg (hidT s0.heap H) := ⟨kB, nsB hns, ⟨mb, nsB hb, hbb⟩, let ⟨mc, q1, q2⟩ := hlim; ⟨mc, nsB q1, q2⟩⟩
    have ev : Env0 P w K mg (hidT s0.heap H) PySem.callerA [] s0 H := ⟨rfl, md, fun b o e => of_hidT e, Nat.le_of_eq (hidT_size _ _), trivial, fun b z => (nomatch z), hok, .of_eq hg⟩
    have sysB : SysD (hidT s0.heap H) := let ⟨o, es, ep, e, d⟩ := hsys; ⟨o, es, ep, base e (dct e d), d⟩
    have want : spM K mg 1 m [.ref sa] H (fun v _ => v = .bl true) fun _ _ _ => False := by
      refine ⟨rfl, fun _ => False, [.frz (.ro ns)], [], ⟨⟨some (.ref sa), [], [], [], rfl, rfl, ⟨.ref sa, rfl, rfl, sa, rfl, ?_⟩, rfl, rfl⟩, .nil, fun _ z => (nomatch z), fun _ z => z.elim⟩, ?_⟩
      · exact hS.imp (fun z => ⟨z, fun y => y.elim id fun y => nomatch y⟩) id
      · rw [hm]
        intro u H' A O' r
        have q := r.is
        rw [hc] at q
        exact q
    refine codeAny_mono ((F _ kB (nsB hns) sysB).run PySem.callerA [] s0 H ⟨[.ref sa], []⟩ [.ref sa] [.ref sa] _ _ rfl hr ev (hbind s0 (.ref sa)) (.cons rfl .nil) want) fun r s' h => ?_
    cases r with
    | error e =>
      obtain ⟨_, _, _, _, _, _, _, _, _, _, _, _, z⟩ := h
      exact z.elim
    | ok fl =>
      cases fl with
      | ret u =>
        obtain ⟨v, H', q1, q2, un, q4, q5, q6⟩ := h
        cases (show v = .bl true from q6)
        cases (show u = Value.bool true from q5)
        refine ⟨rfl, OldK.of_keep fun b o e => ?_, q1, q2⟩
        cases q : H b with
        | none => exact un.keep b o e q (fun z => nomatch z) (by simp)
        | some u =>
          rcases hO b with z | ⟨ob, xs, z⟩
          · rw [q] at z; cases z
          · obtain ⟨e1, _⟩ := hok b _ z
            obtain ⟨e2, _⟩ := q4 b _ (un.frzs b ob _ z)
            rw [e] at e1; cases e1
            exact e2
      | next => exact h.elim
      | brk => exact h.elim
      | cont => exact h.elim
  cases hk : K.lookup sa with
  | some o =>
    have e := KX sa o hk
    rw [hs] at e
    cases e
    refine main (fun _ => none) (fun _ => .inl rfl) (.inr ⟨_, vs.toArray, _, hk, rfl, rfl, rfl, by rw [List.size_toArray, lv]; exact hl, by simpa using rv⟩) (fun b u z => nomatch (z : (none : Option HO) = some u)) (fun b z => absurd rfl z) fun z => absurd rfl z
  | none =>
    refine main (fun b => if b = sa then some (.frz { cls := .type "list", data := .seq vs.toArray } (.lst (ns.map V.int))) else none) (fun b => ?_) (.inl (.inr ⟨{ cls := .type "list", data := .seq vs.toArray }, if_pos rfl⟩)) (fun b u z => ?_) (fun b z => ?_) fun _ => hk
    · by_cases q : b = sa
      · exact .inr ⟨_, _, if_pos q⟩
      · exact .inl (if_neg q)
    · by_cases q : b = sa
      · cases (if_pos q).symm.trans z
        subst q
        exact ⟨hs, by rw [List.length_map]; exact hl, vs, _, rv, hs⟩
      · cases (if_neg q).symm.trans z
    · by_cases q : b = sa
      · exact q
      · exact absurd (if_neg q) z
theorem walk_ofG {l : PySem.W.OpenLaw} {n k : Nat} {q : Program} {loose : List Str} {XP : (Str → Option Value) → Heap → Prop} {YP : World → Heap → Prop} {d : PySem.DefRec} {K : PySem.Params → PySem.W.Frag} {x : Str}
    (hn : l.most = some n) (hn2 : n ≤ sizeLine) (hdf : d.params.defaults = []) (hr : Room k PySem.callerA)
    (hq : PyProof.Rows.importsNone q = true) (hY : ∀ (w : World) (h : Heap), YP w h → (K w.params).In h)
    (F : ∀ (w : World) (mg : Str → Option Value) (fa : Addr) (h : Heap), (K w.params).In h → h.Ns mainGlobals mg → mg d.name = some (.ref fa) →
      ∃ (fd : FuncData) (m : List C → Out C), (∀ (s : Shared) (u : Value), BindsTo s fd ⟨[u], []⟩ [(x, u)]) ∧
        (∀ base : Heap, (K w.params).In base → base.Ns mainGlobals mg → SysD base → FnG l.prog w (K w.params) mg base k fa fd [x] (spM (K w.params) mg 1 m)) ∧
        ∀ ns : List Int, ns.length ≤ n → (∀ z ∈ ns, Builtin.Int.intBits z ≤ 1048576) → ∃ c outs, m [.frz (.ro ns)] = .ok c outs ∧ c.toD = .bl true) :
    PySem.W.WalkO q loose XP YP l.row.toRowW d [] (fun f vs => PySem.call f vs) := by
  refine Att.attach_callB hn hdf fun w s0 s1 mg mb fa o pm cd doc a vs ns G Y ho hd hcd hmg hobj hints hlen hbits hg => ?_
  obtain ⟨fd, m, hb, hF, hm⟩ := F w mg fa _ (hY w _ Y) G.T.g hmg
  obtain ⟨c, outs, e1, e2⟩ := hm ns hlen hbits
  exact law_callG (hY w _ Y) G.T.g G.T.b G.T.builtins G.T.nolimit hg hobj hints (Nat.le_trans hlen hn2) hr (.of (G.T.seer hq)) hF hb e1 e2
end PL
namespace PL
open PySem PySem.Spec PyProof.Rows L2
section
variable {X : Cx} {w : WX} {H : Hp} {σ : L2.St} {e : Expr} {es : List Expr} {p q r : P} {ps : List P} {pos pp : Pos} {K : PySem.W.Frag} {mg : Str → Option Value} {B : Addr → Prop} {O : List Addr} {env : Slots} {st : Stmt} {rest : List Stmt} {pn : List Nat}
/-! ### comprehensions whose parts may change what the slots hold -/
abbrev wN : WX := fun _ _ _ _ => False
def compM (vs : List Nat) (t : Tg) (q : PB) (f : M C) : List D → Slots → Option (List C × Slots)
  | [], e => some ([], e)
  | d :: r, e => match t d e with
    | none => none
    | some e1 => match q e1 with
      | none => none
      | some false => compM vs t q f r (wipeE e1 vs)
      | some true => match f e1 with
        | .ok c e3 => match compM vs t q f r (wipeE e3 vs) with
          | some (cs, e4) => some (c :: cs, e4)
          | none => none
        | _ => none
def freeE (vs : List Nat) (e : Slots) : Bool := vs.all fun v => isFree e[v]?
def eComp (vs : List Nat) (t : Tg) (q : PB) (f : M C) (src : M (List D)) : M C := fun env => (src env).bind fun l e1 => if freeE vs e1 && decide (l.length ≤ 100000) then (match compM vs t q f l e1 with
  | some (cs, e2) => .ok (.own cs) e2
  | none => .no) else .no
theorem freeE_out {vs : List Nat} {e : Slots} (h : freeE vs e = true) {i : Nat} {c : C} (g : e[i]? = some (some c)) : i ∉ vs := fun z => by
  have := List.all_eq_true.mp h i z
  rw [g] at this
  cases this
theorem free_wipe {e : Slots} : ∀ {vs us : List Nat}, (∀ v ∈ vs, v < e.length) → freeE vs (wipeE e vs) = true := by
  intro vs us h
  refine List.all_eq_true.mpr fun v hv => ?_
  cases g : (wipeE e vs)[v]? with
  | none =>
    rw [List.getElem?_eq_none_iff, wipeE_length] at g
    have := h v hv
    omega
  | some o =>
    cases o with
    | none => rfl
    | some c => exact absurd hv (wipeE_none g)
theorem freeE_lt {vs : List Nat} {e : Slots} (h : freeE vs e = true) : ∀ v ∈ vs, v < e.length := fun v hv => by
  have := List.all_eq_true.mp h v hv
  by_cases q : v < e.length
  · exact q
  · rw [List.getElem?_eq_none (by omega)] at this
    cases this
/-- slots of which nothing is known may change -/
theorem Stt.ext {τ : List (Option V)} (s : Stt K B H σ env O) (h : ∀ (i : Nat) (c : C), env[i]? = some (some c) → τ[i]? = σ[i]?) (hl : τ.length = σ.length) : Stt K B H τ env O := ⟨RepE.ext s.rep h hl, s.nd, s.dj, s.tr⟩
theorem lcM_of {js : List Nat} {t : Tg} {q : PB} {f : M C} {src : M (List D)} {vs : List Nat} (hj : ∀ j ∈ js, j ∈ vs) (σ : L2.St) (H : Hp) (Q : VK) (h : rdE X w (eComp vs t q f src) σ H Q) : tLc (rdID X w src) (rdG X true js t) (rdQ X q) (rdE X wN f) vs σ H Q := by
  obtain ⟨B, env, O, s, h⟩ := h
  refine ⟨B, env, O, s, ?_⟩
  unfold eComp at h
  cases es : src env with
  | no => rw [es] at h; exact h
  | err x e => rw [es] at h; exact h
  | ok its e0 =>
    rw [es] at h
    simp only [Out.bind] at h
    intro J H1 O1 s1 f1 wk D hD
    split at h
    case h_2 => rename_i hc; split at hc <;> (try split at hc) <;> cases hc
    case h_3 => exact h.elim
    rename_i cR eR hc
    split at hc
    case isFalse => cases hc
    rename_i hfree
    simp only [Bool.and_eq_true, decide_eq_true_eq] at hfree
    obtain ⟨hfree, hlen⟩ := hfree
    split at hc
    case h_2 => cases hc
    rename_i l eZ hcomp
    cases hc
    have gD : ∀ a o, H1 a = some o → upd H1 D (.lst []) a = some o := fun a o e => by rw [upd_ne (ne_of_none e hD)]; exact e
    have nD : ¬ B D := fun z => by
      obtain ⟨u, e⟩ := s1.tr D z
      rw [hD] at e; cases e
    have nDO : D ∉ O1 := fun z => by
      obtain ⟨u, e⟩ := RepE.trk s1.rep D z
      rw [hD] at e; cases e
    have lw : (L2.wipe σ vs).length = σ.length := L2.wipe_length σ vs
    have wout : ∀ i, i ∉ vs → (L2.wipe σ vs)[i]? = σ[i]? := fun i hi => by rw [wipe_get, if_neg hi]
    let Iv : Nat → Hp → Prop := fun i H2 => ∃ acc xs A e O2 rest, H2 D = some (.lst xs) ∧ Stt X.K (fun a => B a ∨ a ∈ D :: A) H2 (L2.wipe σ vs) e O2 ∧ RepL X.K (fun a => (B a ∨ a ∈ D :: A) ∨ a ∈ O2) H2 acc xs A ∧ (D :: A).Nodup ∧ (∀ a ∈ A, ¬ B a) ∧
      Kp (fun a => a ∈ O1) H1 (fun a => a ∈ D :: A ∨ a ∈ O2) H2 ∧ freeE vs e = true ∧ compM vs t q f (its.drop i) e = some (rest, eR) ∧ acc ++ rest = l ∧ acc.length ≤ i
    have start : Iv 0 (upd H1 D (.lst [])) := by
      have s2 : Stt X.K B H1 (L2.wipe σ vs) e0 O1 := s1.ext (fun i c g => wout i (freeE_out hfree g)) lw
      refine ⟨[], [], [], e0, O1, l, upd_same, s2.grow gD (fun a z => z.imp id fun z => by rw [List.mem_singleton.mp z]; exact hD) (fun a z => ?_), ⟨rfl, rfl⟩, by simp, fun _ z => (nomatch z), fun a o hw ha => ⟨gD a o ha, fun z => ?_⟩, hfree, by simpa using hcomp, rfl, Nat.le_refl _⟩
      · rcases z with z | z
        · obtain ⟨u, e⟩ := s1.tr a z; exact ⟨u, gD a u e⟩
        · rw [List.mem_singleton.mp z]; exact ⟨_, upd_same⟩
      · rcases z with z | z
        · rw [List.mem_singleton.mp z, hD] at ha; cases ha
        · exact hw z
    refine ⟨fun i m H2 => m = its.length - i ∧ i ≤ its.length ∧ Iv i H2, ⟨its.length, by simp, Nat.zero_le _, start⟩, ?_⟩
    rintro i m H2 ⟨rfl, hi2, acc, xs, A, e, O2, rest, k1, k2, k3, k4, k5, k6, k7, k8, k9, k10⟩
    have n4 := List.nodup_cons.mp k4
    obtain ⟨w1, w2, w3⟩ := wk (fun a => (B a ∨ a ∈ D :: A) ∨ a ∈ O2) H2 (fun a o hw ha => by
      obtain ⟨q1, q2⟩ := k6 a o (fun z => hw (.inr z)) ha
      refine ⟨q1, fun z => ?_⟩
      rcases z with (z | z) | z
      · exact hw (.inl z)
      · exact q2 (.inl z)
      · exact q2 (.inr z)) k2.trk
    by_cases hlt : i < its.length
    · refine .inr ⟨w1 i hlt, fun H' => Iv (i + 1) H', fun H' z => ⟨its.length - (i + 1), by omega, rfl, hlt, z⟩, fun x H3 y => ?_⟩
      obtain ⟨g3, d, hd, hx⟩ := w3 i x H3 hlt y
      have edrop : its.drop i = d :: its.drop (i + 1) := by
        rw [List.drop_eq_getElem_cons hlt]
        rw [List.getElem?_eq_getElem hlt] at hd
        cases hd; rfl
      rw [edrop] at k8
      unfold compM at k8
      cases et : t d e with
      | none => rw [et] at k8; cases k8
      | some e1 =>
        rw [et] at k8
        simp only [] at k8
        have kp3 : Kp (fun a => a ∈ O1) H1 (fun a => a ∈ D :: A ∨ a ∈ O2) H3 := fun a o hw ha => ⟨g3 a o (k6 a o hw ha).1, (k6 a o hw ha).2⟩
        refine ⟨_, e, O2, d, e1, k2.grw g3, hx, et, fun σ2 H3' O3 s3 f3 z3 q3 => ⟨?_, ?_⟩⟩
        · rw [z3.wipe hj]
          refine List.ext_getElem? fun i => ?_
          rw [wipe_get, wipe_get]
          by_cases hi : i ∈ vs
          · simp only [hi, if_true]; cases σ[i]? <;> rfl
          · simp only [hi, if_false]
        · obtain ⟨rfl, rfl⟩ := q3 rfl
          have z3' : ∀ i, i ∉ vs → (L2.wipe σ vs)[i]? = σ2[i]? := fun i hi => (z3.out i fun z => hi (hj i z)).symm
          have lt3 : ∀ v ∈ vs, v < σ2.length := fun v hv => by rw [z3.len, k2.len]; exact freeE_lt k7 v hv
          cases eq : q e1 with
          | none => rw [eq] at k8; cases k8
          | some b =>
            rw [eq] at k8
            refine ⟨_, e1, O3, s3, b, eq, fun H4 g4 => ?_⟩
            have kp4 : Kp (fun a => a ∈ O1) H1 (fun a => a ∈ D :: A ∨ a ∈ O3) H4 := fun a o hw ha => ⟨g4 a o (kp3 a o hw ha).1, (kp3 a o hw ha).2⟩
            have kG : RepL X.K (fun a => (B a ∨ a ∈ D :: A) ∨ a ∈ O3) H4 acc xs A := RepL.kp (fun a o hw ha => ⟨g4 a o (g3 a o ha), hw⟩) _ _ _ (fun a _ o ea => g4 a o (g3 a o ea)) k3
            cases b with
            | false =>
              simp only [] at k8
              obtain ⟨O4, sub, s4⟩ := (s3.grw g4).wiped (vs := vs) (τ := L2.wipe σ vs) z3' z3.len.symm
              refine iteF ⟨acc, xs, A, wipeE e1 vs, O4, rest, g4 _ _ (g3 _ _ k1), s4, RepL.kp (Kp.less fun a z => z.imp id (sub.subset ·)) _ _ _ (fun _ _ _ e => e) kG, k4, k5, fun a o hw ha => ⟨(kp4 a o hw ha).1, fun z => (kp4 a o hw ha).2 (z.imp id (sub.subset ·))⟩, free_wipe (us := []) (fun v hv => by rw [← s3.len]; exact lt3 v hv), k8, k9, by omega⟩
            | true =>
              simp only [] at k8
              cases ef : f e1 with
              | no => rw [ef] at k8; cases k8
              | err _ _ => rw [ef] at k8; cases k8
              | ok c e3 =>
                rw [ef] at k8
                simp only [] at k8
                split at k8
                case h_2 => cases k8
                rename_i cs e4 hrest
                cases k8
                refine iteT ⟨_, e1, O3, s3.grw g4, ?_⟩
                rw [ef]
                intro v H5 A5 O5 r5
                have hD5 : H5 D = some (.lst xs) := (r5.frm D _ (fun z => s3.dj D z (.inr (by simp))) (g4 _ _ (g3 _ _ k1))).1
                have nA5 : ∀ a ∈ A5, ¬ B a ∧ a ∉ D :: A := fun a ha => ⟨fun z => r5.dj a ha (.inl z), fun z => r5.dj a ha (.inr z)⟩
                have kA : ∀ a ∈ A, ∀ o, H4 a = some o → H5 a = some o := fun a ha o ea => (r5.frm a o (fun z => s3.dj a z (.inr (by simp [ha]))) ea).1
                obtain ⟨O6, sub, s6⟩ := r5.stt.wiped (vs := vs) (τ := L2.wipe σ vs) z3' z3.len.symm
                have H6D : ∀ a o, a ≠ D → H5 a = some o → upd H5 D (.lst (xs ++ [v])) a = some o := fun a o n ea => by rw [upd_ne n]; exact ea
                have memb : ∀ a, ((B a ∨ a ∈ D :: (A ++ A5)) ∨ a ∈ O6) → (((B a ∨ a ∈ D :: A) ∨ a ∈ A5) ∨ a ∈ O5) := fun a z => by
                  rcases z with (z | z) | z
                  · exact .inl (.inl (.inl z))
                  · rcases List.mem_cons.mp z with z | z
                    · exact .inl (.inl (.inr (by simp [z])))
                    · rcases List.mem_append.mp z with z | z
                      · exact .inl (.inl (.inr (by simp [z])))
                      · exact .inl (.inr z)
                  · exact .inr (sub.subset z)
                have kU : Kp (fun a => ((B a ∨ a ∈ D :: A) ∨ a ∈ A5) ∨ a ∈ O5) H5 (fun a => (B a ∨ a ∈ D :: (A ++ A5)) ∨ a ∈ O6) (upd H5 D (.lst (xs ++ [v]))) := fun a o hw ha => ⟨H6D a o (fun z => hw (.inl (.inl (.inr (by simp [z]))))) ha, fun z => hw (memb a z)⟩
                have nO6 : D ∉ O5 := fun z => r5.stt.dj D z (.inl (.inr (by simp)))
                have kacc : RepL X.K (fun a => ((B a ∨ a ∈ D :: A) ∨ a ∈ A5) ∨ a ∈ O5) H5 acc xs A := by
                  refine RepL.kp (fun a o hw ha => ?_) _ _ _ kA kG
                  obtain ⟨q1, q2⟩ := r5.frm a o (fun z => hw (.inr z)) ha
                  refine ⟨q1, fun z => ?_⟩
                  rcases z with (z | z) | z
                  · exact hw (.inl z)
                  · exact q2 (.inl z)
                  · exact q2 (.inr z)
                refine ⟨xs, hD5, by rw [k3.length, sizeLine_eq]; omega, acc ++ [c], xs ++ [v], A ++ A5, wipeE e3 vs, O6, cs, upd_same, ?_, ?_, ?_, ?_, ?_, free_wipe (us := []) (fun v hv => by rw [← r5.stt.len]; exact lt3 v hv), hrest, by rw [List.append_assoc]; exact k9, by rw [List.length_append]; simp; omega⟩
                · refine ⟨RepE.kp (fun a o hw ha => ⟨H6D a o (fun z => hw (.inl (.inl (.inr (by simp [z]))))) ha, fun z => hw ?_⟩) (fun a ha o ea => H6D a o (fun z => nO6 (by rw [← z]; exact sub.subset ha)) ea) s6.rep, s6.nd, fun a ha z => ?_, fun a z => ?_⟩
                  · rcases z with (z | z) | z
                    · exact .inl (.inl (.inl z))
                    · rcases List.mem_cons.mp z with z | z
                      · exact .inl (.inl (.inr (by simp [z])))
                      · rcases List.mem_append.mp z with z | z
                        · exact .inl (.inl (.inr (by simp [z])))
                        · exact .inl (.inr z)
                    · exact .inr z
                  · refine r5.stt.dj a (sub.subset ha) ?_
                    rcases z with z | z
                    · exact .inl (.inl z)
                    · rcases List.mem_cons.mp z with z | z
                      · exact .inl (.inr (by simp [z]))
                      · rcases List.mem_append.mp z with z | z
                        · exact .inl (.inr (by simp [z]))
                        · exact .inr z
                  · by_cases ha : a = D
                    · exact ⟨_, by rw [ha]; exact upd_same⟩
                    · have tr5 : ∃ u, H5 a = some u := by
                        rcases z with z | z
                        · exact r5.stt.tr a (.inl (.inl z))
                        · rcases List.mem_cons.mp z with z | z
                          · exact absurd z ha
                          · rcases List.mem_append.mp z with z | z
                            · exact r5.stt.tr a (.inl (.inr (by simp [z])))
                            · exact r5.stt.tr a (.inr z)
                      obtain ⟨u, ea⟩ := tr5
                      exact ⟨u, H6D a u ha ea⟩
                · refine RepL.append (RepL.kp kU _ _ _ (fun a ha o ea => H6D a o (fun z => n4.1 (by rw [← z]; exact ha)) ea) kacc) (RepL.one (RepC.kp kU _ _ _ (fun a ha o ea => H6D a o (fun z => (nA5 a ha).2 (by simp [z])) ea) r5.rep))
                · refine List.nodup_cons.mpr ⟨fun z => ?_, List.nodup_append.mpr ⟨n4.2, r5.nd, fun a ha b hb eab => (nA5 b hb).2 (by rw [← eab]; simp [ha])⟩⟩
                  rcases List.mem_append.mp z with z | z
                  · exact n4.1 z
                  · exact (nA5 D z).2 (by simp)
                · exact fun a ha => (List.mem_append.mp ha).elim (k5 a) fun z => (nA5 a z).1
                · intro a o hw ha
                  obtain ⟨q1, q2⟩ := kp4 a o hw ha
                  obtain ⟨q3, q4⟩ := r5.frm a o (fun z => q2 (.inr z)) q1
                  refine ⟨H6D a o (fun z => q2 (.inl (by simp [z]))) q3, fun z => ?_⟩
                  rcases z with z | z
                  · rcases List.mem_cons.mp z with z | z
                    · exact q2 (.inl (by simp [z]))
                    · rcases List.mem_append.mp z with z | z
                      · exact q2 (.inl (by simp [z]))
                      · exact q4 (.inl z)
                  · exact q4 (.inr (sub.subset z))
    · have ei : i = its.length := by omega
      subst ei
      refine .inl ⟨w2, ?_⟩
      rw [List.drop_length] at k8
      cases k8
      rw [List.append_nil] at k9
      subst k9
      have s3 : Stt X.K (fun a => B a ∨ a ∈ D :: A) H2 σ eR O2 := k2.ext (fun i c g => (wout i (freeE_out k7 g)).symm) lw.symm
      refine h (.ref D) H2 (D :: A) O2 ⟨⟨D, xs, A, rfl, rfl, k1, k3⟩, s3, k4, fun a ha => ?_, fun a o hw ha => ?_⟩
      · rcases List.mem_cons.mp ha with z | z
        · rw [z]; exact nD
        · exact k5 a z
      · obtain ⟨q1, q2⟩ := f1 a o hw ha
        exact k6 a o (fun z => q2 (.inr z)) q1
theorem e_comp {elt tg iter : Expr} {ifs : List Expr} {scope : Scope} {own : List (Str × Nat)} {js : List Nat} {t : Tg} {q : PB} {f : M C} {src : M (List D)} (hc : X.calm = true) (hN : X.N.Nodup) (hi : IDk X w tg iter src) (ok : BlkOk X.N X.env.scope scope own)
    (hg : ∀ (s : Shared) (H : Hp) (C : Addr) (cl : List (Str × Addr)) (fp : List Addr), GOk (X.blk s H scope (compEnvC scope cl C X.env) fp) true tg js t) (ht : ∀ (s : Shared) (H : Hp) (C : Addr) (cl : List (Str × Addr)) (fp : List Addr), TsOk (X.blk s H scope (compEnvC scope cl C X.env) fp) ifs q)
    (he : ∀ (s : Shared) (H : Hp) (C : Addr) (cl : List (Str × Addr)) (fp : List Addr), EOk (X.blk s H scope (compEnvC scope cl C X.env) fp) wN elt f) (hj : ∀ j ∈ js, j ∈ own.map (·.2)) (hs : ∀ x, foldedSetIterable iter X.env x = pure x := by intro _; rfl) :
    EOk X w (.ListComp elt [⟨tg, iter, ifs, 0⟩] scope pos) (eComp (own.map (·.2)) t q f src) :=
  (pe_lc (g := rdG X true js t) (tt := rdQ X q) (te := rdE X wN f) hc hN hi ok hg ht he hs).imp (lcM_of hj)
theorem s_setCM {i : Nat} {y : Str} {py spos : Pos} {elt tg iter : Expr} {ifs : List Expr} {scope : Scope} {own : List (Str × Nat)} {js : List Nat} {t : Tg} {q : PB} {f : M C} {src : M (List D)} (hc : X.calm = true) (hN : X.N.Nodup) (hy : X.N[i]? = some y) (hyl : X.env.scope.names.lookup y = some .local)
    (hsw : swapsWith (.ListComp elt [⟨tg, iter, ifs, 0⟩] scope pos) (some (.Name y py)) spos.line X.env = pure true) (hi : IDk X w tg iter src) (ok : BlkOk X.N X.env.scope scope own)
    (hg : ∀ (s : Shared) (H : Hp) (C : Addr) (cl : List (Str × Addr)) (fp : List Addr), GOk (X.blk s H scope (compEnvC scope cl C X.env) fp) true tg js t) (ht : ∀ (s : Shared) (H : Hp) (C : Addr) (cl : List (Str × Addr)) (fp : List Addr), TsOk (X.blk s H scope (compEnvC scope cl C X.env) fp) ifs q)
    (he : ∀ (s : Shared) (H : Hp) (C : Addr) (cl : List (Str × Addr)) (fp : List Addr), EOk (X.blk s H scope (compEnvC scope cl C X.env) fp) wN elt f) (hj : ∀ j ∈ js, j ∈ own.map (·.2)) (hp : i ∉ pn := by decide) (hs : ∀ x, foldedSetIterable iter X.env x = pure x := by intro _; rfl) :
    SOk X w pn (.Assign [.Name y py] (.ListComp elt [⟨tg, iter, ifs, 0⟩] scope pos) spos) (sSet i (eComp (own.map (·.2)) t q f src)) := ⟨fun pins s σ H D I h =>
  (ps_setLc (wi := rdID X w src) (g := rdG X true js t) (tt := rdQ X q) (te := rdE X wN f) hc hN hy hyl hsw hi ok hg ht he hs).run pins s σ H D I (lcM_of hj σ H _ (by
    obtain ⟨B, env, O, st, h⟩ := h
    exact rdE_s st h fun c e v H' A O' r h => by
      obtain ⟨O2, s2, f2⟩ := r.put (i := i) (by rw [r.len, I.len]; exact lt_of_N hy)
      exact h _ H' O2 s2 f2 (Pin.set hp)))⟩
theorem takesN : Takes X wN := takes_none5
end
/-! ### what the top has made of a def -/
structure DefAt (K : PySem.W.Frag) (mg : Str → Option Value) (x : Str) (st : Stmt) : Prop where
  ex : ∃ (f : Addr) (oc : Value) (od : Option Addr) (kV doc pm : Value) (an : Option Addr) (cdv ct : Value) (osl : Array (Option Value)), mg x = some (.ref f) ∧ PySem.W.keepIn K (.ref f) = true ∧
    K.lookup f = some ⟨oc, od, .func (PySem.W.fnOf x x (defArgs st) (defBody st) (defScope st) .none kV doc pm an cdv ct), osl⟩ ∧ PySem.W.codeIn K cdv x = true
theorem FnM.of {Pr : Program} {w : World} {K : PySem.W.Frag} {mg : Str → Option Value} {base : Heap} {k : Nat} {x : Str} {st : Stmt} {N ps : List Str} {pn : List Nat} {g : SS} (F : DefAt K mg x st) (S : FnScope N ps (defScope st))
    (hb : ∀ (f : Addr) (cdv : Value) (A : Around) (outer : List Env) (s : Shared) (H : Hp) (E : XK), A.guards = some [] → Room k (A.deeper (envOfC x (defScope st) s.heap.objs.size f cdv)) →
      SsOk (cxOf (CY Pr w) Pr w K mg base N x (defScope st) f cdv A outer s H E) (fun cls d _ H' => E cls d H') pn (defBody st) g) :
    FnM Pr w K mg base (k + 1) x st ps (bodyM N.length pn ps.length g) := by
  obtain ⟨f, oc, od, kV, doc, pm, an, cdv, ct, osl, h1, h2, h3, h4⟩ := F.ex
  exact ⟨f, kV, doc, pm, an, cdv, ct, h1, h2, fnG_of h3 h4 S fun A outer s H E hg hr => hb f cdv A outer s H E hg hr⟩
theorem FnG.mono {Pr : Program} {w : World} {K : PySem.W.Frag} {mg : Str → Option Value} {base : Heap} {j k : Nat} {f : Addr} {fd : FuncData} {ps : List Str} {sp : Sp} (F : FnG Pr w K mg base j f fd ps sp) (h : j ≤ k) : FnG Pr w K mg base k f fd ps sp :=
  ⟨F.len, fun A outer s H args us vs Q E hg hr => F.run A outer s H args us vs Q E hg (hr.mono h)⟩
theorem FnM.mono {Pr : Program} {w : World} {K : PySem.W.Frag} {mg : Str → Option Value} {base : Heap} {j k : Nat} {x : Str} {st : Stmt} {ps : List Str} {m : List C → Out C} (F : FnM Pr w K mg base j x st ps m) (h : j ≤ k) : FnM Pr w K mg base k x st ps m := by
  obtain ⟨f, kV, doc, pm, an, cdv, ct, h1, h2, G⟩ := F.ex
  exact ⟨f, kV, doc, pm, an, cdv, ct, h1, h2, G.mono h⟩
end PL
namespace PL
open PySem PySem.Spec PyProof.Rows L2
section
variable {X : Cx} {w : WX} {H : Hp} {σ : L2.St} {a b e : Expr} {es : List Expr} {p q r : P} {ps : List P} {fs : List (M C)} {pos pp : Pos} {K : PySem.W.Frag} {mg : Str → Option Value} {B : Addr → Prop} {O : List Addr} {env : Slots} {st : Stmt} {rest : List Stmt} {pn : List Nat} {k : Nat}
/-! ### the built-in functions by name -/
theorem c_len : CallR X (.builtin "len") (fun xs H Q => (∃ x n, xs = [x] ∧ LenV X.K x H n ∧ Q (.int n) H) ∨ (∃ a kvs, xs = [V.ref a] ∧ H a = some (.dK kvs) ∧ Q (.int kvs.length) H) ∨ rLenT xs H Q) := call_len.or (call_lenD.or call_len_dT)
theorem c_isi : CallR X (.builtin "isinstance") (fun xs H Q => rIsi X.K xs H Q ∨ rIsiT X.K xs H Q) := call_isi.or call_isiT
theorem p_len (hm : X.mg "len" = none) (ha : ABk X [e] ps) (hg : Gl X "len" := by rfl) (he : starEach [e] X.env = (false, eval e X.env) :: starEach [] X.env := by rfl) (hpl : (backTo pos (starEach [] X.env)).any (·.1) = false := by rfl) : POk X (.Call (.Name "len" pp) [e] [] pos) (pCall lenF ps) :=
  p_callB c_len cal_len hg hm PySem.boot_len ha (by decide) (by decide) he hpl
theorem p_isi (hm : X.mg "isinstance" = none) (ha : ABk X (a :: es) ps) (hg : Gl X "isinstance" := by rfl) (he : starEach (a :: es) X.env = (false, eval a X.env) :: starEach es X.env := by rfl) (hpl : (backTo pos (starEach es X.env)).any (·.1) = false := by rfl) : POk X (.Call (.Name "isinstance" pp) (a :: es) [] pos) (pCall isiF ps) :=
  p_callB c_isi cal_isi hg hm boot_isinstance ha (by decide) (by decide) he hpl
theorem p_abs (hm : X.mg "abs" = none) (ha : ABk X [e] ps) (hg : Gl X "abs" := by rfl) (he : starEach [e] X.env = (false, eval e X.env) :: starEach [] X.env := by rfl) (hpl : (backTo pos (starEach [] X.env)).any (·.1) = false := by rfl) : POk X (.Call (.Name "abs" pp) [e] [] pos) (pCall absF ps) :=
  p_callB call_abs cal_abs hg hm boot_abs ha (by decide) (by decide) he hpl
theorem p_intC (hm : X.mg "int" = none) (ha : ABk X [e] ps) (hg : Gl X "int" := by rfl) (he : starEach [e] X.env = (false, eval e X.env) :: starEach [] X.env := by rfl) (hpl : (backTo pos (starEach [] X.env)).any (·.1) = false := by rfl) : POk X (.Call (.Name "int" pp) [e] [] pos) (pCall intF ps) :=
  p_callT call_int1 cal_int hg hm (by decide +kernel) ha (by decide) (by decide) he hpl
theorem p_strC (hm : X.mg "str" = none) (ha : ABk X [e] ps) (hg : Gl X "str" := by rfl) (he : starEach [e] X.env = (false, eval e X.env) :: starEach [] X.env := by rfl) (hpl : (backTo pos (starEach [] X.env)).any (·.1) = false := by rfl) : POk X (.Call (.Name "str" pp) [e] [] pos) (pCall strF ps) :=
  p_callT call_str_int cal_str hg hm (by decide +kernel) ha (by decide) (by decide) he hpl
theorem p_max (hc : X.calm = true) (hm : X.mg "max" = none) (ha : ABk X (a :: es) ps) (hg : Gl X "max" := by rfl) (he : starEach (a :: es) X.env = (false, eval a X.env) :: starEach es X.env := by rfl) (hpl : (backTo pos (starEach es X.env)).any (·.1) = false := by rfl) : POk X (.Call (.Name "max" pp) (a :: es) [] pos) (pCall maxF ps) :=
  p_callB ((cr_max hc).or (call_max2 hc)) cal_max hg hm (by decide +kernel) ha (by decide) (by decide) he hpl
theorem p_min (hc : X.calm = true) (hm : X.mg "min" = none) (ha : ABk X (a :: es) ps) (hg : Gl X "min" := by rfl) (he : starEach (a :: es) X.env = (false, eval a X.env) :: starEach es X.env := by rfl) (hpl : (backTo pos (starEach es X.env)).any (·.1) = false := by rfl) : POk X (.Call (.Name "min" pp) (a :: es) [] pos) (pCall minF ps) :=
  p_callB (call_min2 hc) cal_min hg hm (by decide +kernel) ha (by decide) (by decide) he hpl
theorem p_sum (hc : X.calm = true) (hm : X.mg "sum" = none) (ha : ABk X [e] ps) (hg : Gl X "sum" := by rfl) (he : starEach [e] X.env = (false, eval e X.env) :: starEach [] X.env := by rfl) (hpl : (backTo pos (starEach [] X.env)).any (·.1) = false := by rfl) : POk X (.Call (.Name "sum" pp) [e] [] pos) (pCall sumF ps) :=
  p_callB (cr_sum hc) cal_sum hg hm (by decide +kernel) ha (by decide) (by decide) he hpl
theorem p_all (hc : X.calm = true) (hm : X.mg "all" = none) (ha : ABk X [e] ps) (hg : Gl X "all" := by rfl) (he : starEach [e] X.env = (false, eval e X.env) :: starEach [] X.env := by rfl) (hpl : (backTo pos (starEach [] X.env)).any (·.1) = false := by rfl) : POk X (.Call (.Name "all" pp) [e] [] pos) (pCall allF ps) :=
  p_callB (cr_all hc) cal_all hg hm (by decide +kernel) ha (by decide) (by decide) he hpl
theorem p_any (hc : X.calm = true) (hm : X.mg "any" = none) (ha : ABk X [e] ps) (hg : Gl X "any" := by rfl) (he : starEach [e] X.env = (false, eval e X.env) :: starEach [] X.env := by rfl) (hpl : (backTo pos (starEach [] X.env)).any (·.1) = false := by rfl) : POk X (.Call (.Name "any" pp) [e] [] pos) (pCall anyF ps) :=
  p_callB (cr_any hc) cal_any hg hm (by decide +kernel) ha (by decide) (by decide) he hpl
theorem p_repr (hm : X.mg "repr" = none) (hr : Room k X.A) (hgd : X.A.guards = some []) (ha : ABk X [e] ps) (hg : Gl X "repr" := by rfl) (he : starEach [e] X.env = (false, eval e X.env) :: starEach [] X.env := by rfl) (hpl : (backTo pos (starEach [] X.env)).any (·.1) = false := by rfl) : POk X (.Call (.Name "repr" pp) [e] [] pos) (pCall reprF ps) :=
  p_callB (call_repr hr hgd) cal_repr hg hm (by decide +kernel) ha (by decide) (by decide) he hpl
theorem f_listC (hm : X.mg "list" = none) (ha : POk X e p) (hg : Gl X "list" := by rfl) (he : starEach [e] X.env = (false, eval e X.env) :: starEach [] X.env := by rfl) : FOk X (.Call (.Name "list" pp) [e] [] pos) (fSq p) := f_listS hg hm (by decide +kernel) ha (he := he)
theorem f_listL {f : PLs} (hm : X.mg "list" = none) (ha : LOk X e f) (hg : Gl X "list" := by rfl) (he : starEach [e] X.env = (false, eval e X.env) :: starEach [] X.env := by rfl) : FOk X (.Call (.Name "list" pp) [e] [] pos) (fList f) := f_list hg hm (by decide +kernel) ha (he := he)
theorem p_tupC {f : PLs} (hm : X.mg "tuple" = none) (ha : LOk X e f) (hg : Gl X "tuple" := by rfl) (he : starEach [e] X.env = (false, eval e X.env) :: starEach [] X.env := by rfl) : POk X (.Call (.Name "tuple" pp) [e] [] pos) (pTupL f) := p_tupL hg hm (by decide +kernel) ha (he := he)
/-- M-tier -/
theorem e_len (hm : X.mg "len" = none) (ha : AMk X w [e] fs) (hg : Gl X "len" := by rfl) (he : starEach [e] X.env = (false, eval e X.env) :: starEach [] X.env := by rfl) (hpl : (backTo pos (starEach [] X.env)).any (·.1) = false := by rfl) : EOk X w (.Call (.Name "len" pp) [e] [] pos) (eCall lenF fs) :=
  e_callB c_len cal_len hg hm PySem.boot_len ha (by decide) (by decide) he hpl
theorem e_isi (hm : X.mg "isinstance" = none) (ha : AMk X w (a :: es) fs) (hg : Gl X "isinstance" := by rfl) (he : starEach (a :: es) X.env = (false, eval a X.env) :: starEach es X.env := by rfl) (hpl : (backTo pos (starEach es X.env)).any (·.1) = false := by rfl) : EOk X w (.Call (.Name "isinstance" pp) (a :: es) [] pos) (eCall isiF fs) :=
  e_callB c_isi cal_isi hg hm boot_isinstance ha (by decide) (by decide) he hpl
theorem e_abs (hm : X.mg "abs" = none) (ha : AMk X w [e] fs) (hg : Gl X "abs" := by rfl) (he : starEach [e] X.env = (false, eval e X.env) :: starEach [] X.env := by rfl) (hpl : (backTo pos (starEach [] X.env)).any (·.1) = false := by rfl) : EOk X w (.Call (.Name "abs" pp) [e] [] pos) (eCall absF fs) :=
  e_callB call_abs cal_abs hg hm boot_abs ha (by decide) (by decide) he hpl
theorem e_max (hc : X.calm = true) (hm : X.mg "max" = none) (ha : AMk X w (a :: es) fs) (hg : Gl X "max" := by rfl) (he : starEach (a :: es) X.env = (false, eval a X.env) :: starEach es X.env := by rfl) (hpl : (backTo pos (starEach es X.env)).any (·.1) = false := by rfl) : EOk X w (.Call (.Name "max" pp) (a :: es) [] pos) (eCall maxF fs) :=
  e_callB ((cr_max hc).or (call_max2 hc)) cal_max hg hm (by decide +kernel) ha (by decide) (by decide) he hpl
theorem e_repr (hm : X.mg "repr" = none) (hr : Room k X.A) (hgd : X.A.guards = some []) (ha : AMk X w [e] fs) (hg : Gl X "repr" := by rfl) (he : starEach [e] X.env = (false, eval e X.env) :: starEach [] X.env := by rfl) (hpl : (backTo pos (starEach [] X.env)).any (·.1) = false := by rfl) : EOk X w (.Call (.Name "repr" pp) [e] [] pos) (eCall reprF fs) :=
  e_callB (call_repr hr hgd) cal_repr hg hm (by decide +kernel) ha (by decide) (by decide) he hpl
/-! ### a name whose thing is handed on for good -/
def eMv (i : Nat) : M C := fun env => match env[i]? with
  | some (some c) => .ok c (env.set i none)
  | _ => .no
theorem e_Mv {i : Nat} {x : Str} (hN : X.N[i]? = some x) (hv : Vis X.env.scope x) (hd : (x == ("__debug__" : Str)) = false := by decide) (hcd : (x == ("__classdict__" : Str)) = false := by decide) :
    EOk X w (.Name x pos) (eMv i) := (pe_var (i := i) hN hv hd hcd).imp fun σ H Q h => by
  obtain ⟨B, env, O, s, h⟩ := h
  unfold eMv at h
  split at h
  · rename_i c' e' hc
    split at hc
    · rename_i c e0
      cases hc
      obtain ⟨o, A1, A2, A3, g1, g2, ⟨x0, rfl, hc0⟩, put⟩ := RepE.at s.rep e0
      have nd := s.nd
      rw [g2] at nd
      have n1 := List.nodup_append.mp nd
      have n2 := List.nodup_append.mp n1.2.1
      have mO : ∀ b, b ∈ O ↔ b ∈ A2 ∨ b ∈ A1 ++ A3 := fun b => by rw [g2]; simp; constructor <;> intro h <;> rcases h with h | h | h <;> simp [h]
      have z := put (fun b => (B b ∨ b ∈ A2) ∨ b ∈ A1 ++ A3) H none (some x0) [] (Kp.less fun b z => by
        rcases z with (z | z) | z
        · exact .inl z
        · exact .inr ((mO b).mpr (.inl z))
        · exact .inr ((mO b).mpr (.inr z))) (fun _ _ _ e => e) rfl
      rw [set_same g1] at z
      refine ⟨x0, g1, h x0 H A2 (A1 ++ A3) ⟨RepC.kp (Kp.less fun b z => ?_) _ _ _ (fun _ _ _ e => e) hc0, ⟨by simpa using z, ?_, fun b hb y => ?_, fun b y => y.elim (s.tr b) fun y => RepE.trk s.rep b ((mO b).mpr (.inl y))⟩, n2.1, fun b hb => s.dj b ((mO b).mpr (.inl hb)), fun b o hw hb => ⟨hb, fun y => hw ((mO b).mpr (y.imp id id))⟩⟩⟩
      · rcases z with (z | z) | z
        · exact .inl z
        · exact .inr ((mO b).mpr (.inl z))
        · exact .inr ((mO b).mpr (.inr z))
      · exact List.nodup_append.mpr ⟨n1.1, n2.2.1, fun b hb d hd => n1.2.2 b hb d (by simp [hd])⟩
      · rcases y with y | y
        · exact s.dj b ((mO b).mpr (.inr hb)) y
        · rcases List.mem_append.mp hb with z | z
          · exact n1.2.2 b z b (by simp [y]) rfl
          · exact n2.2.2 b y b z rfl
    · cases hc
  · rename_i hc; split at hc <;> cases hc
  · exact h.elim
/-! ### a call that only looks: its arguments stay one's own, its answer is a scalar -/
def flatD : D → Bool
  | .non => true
  | .bl _ => true
  | .int _ => true
  | .str _ => true
  | _ => false
theorem flat_is {W W' : Addr → Prop} {H H' : Hp} {d : D} {v : V} (hf : flatD d = true) (h : Is K W H d v) : Is K W' H' d v := by
  cases d <;> first | exact h | cases hf
def pFnB (m : List C → Out C) (ps : List P) : P := fun env => match evPs ps env with
  | some ds => match m (ds.map .frz) with
    | .ok c _ => if flatD c.toD then some c.toD else none
    | _ => none
  | none => none
theorem p_fnB {x : Str} {st : Stmt} {qs : List Str} {m : List C → Out C} (F : FnM X.prog X.w X.K X.mg X.base k x st qs m) (bd : BindP x st qs) (hg : X.A.guards = some []) (hr : Room k X.A) (gl : Gl X x) (ha : ABk X (e :: es) ps) (hl : ps.length = qs.length := by rfl)
    (hdb : (x == ("__debug__" : Str)) = false := by decide) (he : starEach (e :: es) X.env = (false, eval e X.env) :: starEach es X.env := by rfl) (hpl : (backTo pos (starEach es X.env)).any (·.1) = false := by rfl) :
    POk X (.Call (.Name x pp) (e :: es) [] pos) (pFnB m ps) := by
  obtain ⟨f, kV, doc, pm, an, cdv, ct, hm, kp, G⟩ := F.ex
  refine ⟨fun pins s σ H Q I h => ?_⟩
  obtain ⟨B, env, O, st, d, hp, h⟩ := h
  unfold pFnB at hp
  split at hp
  · rename_i ds e1
    split at hp
    · rename_i c outs e2
      split at hp
      · rename_i hf
        cases hp
        have want : rdDB X ps σ H fun vs H1 => spM X.K X.mg qs.length m vs H1 Q E0 := ⟨B, env, O, st, ds, e1, fun vs H1 g1 hv => by
          have st0 : Stt X.K (fun _ => False) H1 [] [] [] := ⟨⟨rfl, rfl⟩, .nil, fun _ z => (nomatch z), fun _ z => z.elim⟩
          have hv' : IsL X.K (fun a => False ∨ a ∈ ([] : List Addr)) H1 ds vs := IsL.kp (fun a o w ha => ⟨ha, fun z => z.elim id fun z => nomatch z⟩) _ _ hv
          exact spM_pure st0 hv' e2 (by rw [evPs_len e1]; exact hl) fun v H' g2 hv => h v H' (g1.trans g2) (flat_is hf hv)⟩
        refine wpAny_Call_Name_kw (ld_glob I gl hm ?_ hdb)
        refine PySem.W.callWith_K (h₀ := X.base) I.ok.mod.kin kp (thn (ha.run pos pins s σ H _ I want) ?_) he hpl
        rintro us s1 ⟨vs, H1, I1, r1, q1⟩
        exact ⟨I1.kIn, run_G G hg hr passX0 (.of_eq (bd kV doc pm an cdv ct us (r1.length.symm.trans q1.1))) I1 r1 q1⟩
      · cases hp
    · cases hp
  · cases hp
end
end PL
namespace PL
open PySem PySem.Spec PyProof.Rows L2
section
variable {X : Cx} {w : WX} {H : Hp} {σ : L2.St} {a b e : Expr} {es : List Expr} {p q r : P} {ps : List P} {fs : List (M C)} {pos pp : Pos} {K : PySem.W.Frag} {mg : Str → Option Value} {B : Addr → Prop} {O : List Addr} {env : Slots} {st : Stmt} {rest : List Stmt} {pn : List Nat} {k : Nat}
/-! ### lists added, repeated -/
def catD : D → D → Option C
  | .lst l, .lst m => if l.length + m.length ≤ 100000 then some (.own ((l ++ m).map .frz)) else none
  | _, _ => none
theorem New.lst {W : Addr → Prop} {l : List D} {xs : List V} {t : Addr} (h : IsL K W H l xs) (ht : H t = none) : New K W H (.own (l.map .frz)) (.ref t) (upd H t (.lst xs)) [t] := by
  have g : Grw H (upd H t (.lst xs)) := fun b o e => by rw [upd_ne (ne_of_none e ht)]; exact e
  refine ⟨g, ⟨t, xs, [], rfl, rfl, upd_same, RepL.frz (IsL.kp (fun b o hw hb => ⟨g b o hb, fun z => ?_⟩) _ _ h)⟩, by simp, fun b hb => by rw [List.mem_singleton.mp hb]; exact ht⟩
  rcases z with z | z
  · exact hw z
  · rw [List.mem_singleton.mp z, ht] at hb; cases hb
theorem opS_cat : OpS K rCat catD := fun W H x y d1 d2 c Q tr h1 h2 e k => by
  unfold catD at e
  split at e
  · split at e
    · rename_i l m hz
      cases e
      obtain ⟨a, xs, rfl, ha, na, il⟩ := h1
      obtain ⟨b, ys, rfl, hb, nb, im⟩ := h2
      exact ⟨a, b, xs, ys, rfl, rfl, ha, hb, by rw [il.length, im.length, sizeLine_eq]; omega, fun t ht => k _ _ _ (New.lst (il.append im) ht)⟩
    · cases e
  · cases e
def eCat (f g : M C) : M C := eBin catD f g
theorem e_cat {f g : M C} (ha : EOk X w a f) (hb : EOk X w b g) : EOk X w (.BinOp a .Add b pos) (eCat f g) := e_bin op_cat opS_cat ha hb
def repD : D → D → Option C
  | .lst l, .int k => if (-(2 ^ 63) ≤ k ∧ k < 2 ^ 63) ∧ l.length * k.toNat ≤ 100000 then some (.own ((List.replicate k.toNat l).flatten.map .frz)) else none
  | _, _ => none
theorem opS_rep : OpS K rRep repD := fun W H x y d1 d2 c Q tr h1 h2 e k => by
  unfold repD at e
  split at e
  · split at e
    · rename_i l m hz
      cases e
      obtain ⟨a, xs, rfl, ha, na, il⟩ := h1
      rw [show y = _ from h2]
      exact ⟨a, m, xs, rfl, rfl, ha, hz.1.1, hz.1.2, by rw [il.length, sizeLine_eq]; omega, fun t ht => k _ _ _ (New.lst (il.rep _) ht)⟩
    · cases e
  · cases e
def eRep (f g : M C) : M C := eBin repD f g
theorem e_rep {f g : M C} (ha : EOk X w a f) (hb : EOk X w b g) : EOk X w (.BinOp a .Mult b pos) (eRep f g) := e_bin op_rep opS_rep ha hb
/-! ### xs.extend(..) of another's -/
def eExtM (i : Nat) (f : M C) : M C := fun env => match ownAt i [] env with
  | some _ => (f env).bind fun c e1 => match ownAt i [] e1, c.toD with
    | some l, .lst m => if l.length + m.length < 100000 then .ok (.frz .non) (setAt i [] (l ++ m.map .frz) e1) else .no
    | _, _ => .no
  | none => .no
theorem e_extM {i : Nat} {x : Str} {f : M C} {npos apos cpos : Pos} (hN : X.N[i]? = some x) (hv : Vis X.env.scope x) (he : EOk X w e f) (hd : (x == ("__debug__" : Str)) = false := by decide) (hcd : (x == ("__classdict__" : Str)) = false := by decide)
    (hbase : attributeBase (.Name x npos) "extend" X.env (eval (.Name x npos) X.env) = eval (.Name x npos) X.env := by rfl)
    (hfew : ((backTo cpos (starEach [e] X.env)).all (fun x => !x.1) && (backToKw cpos (keywordEach [] X.env)).all (fun x => x.1.isSome)
      && decide ([e].length + ([] : List Keyword).length + (if ([] : List Keyword).isEmpty then 0 else 1) < 30)) = true := by rfl)
    (hline : (apos.endLine == cpos.line) = true := by rfl) (hs : starEach [e] X.env = (false, eval e X.env) :: starEach [] X.env := by rfl) (hplain : (backTo cpos (starEach [] X.env)).any (·.1) = false := by rfl) :
    EOk X w (.Call (.Attribute (.Name x npos) "extend" apos) [e] [] cpos) (eExtM i f) :=
  (pe_bm PySem.F.plainAttrs_list PySem.F.slot_list_extend PySem.F.type_list_extend mt_extend (pe_var (i := i) hN hv hd hcd) (pa_cons he pa_nil hs) hbase hfew hline hs hplain).imp fun σ H Q h => by
    obtain ⟨B, env, O, s, h⟩ := h
    unfold eExtM at h
    cases e0 : ownAt i [] env with
    | none => rw [e0] at h; exact h.elim
    | some l0 =>
      rw [e0] at h
      simp only [] at h
      obtain ⟨a, xs, A2, g1, g2, g3⟩ := s.ref0 e0
      refine ⟨_, g1, .inl ⟨rfl, xs, SqL.of g2⟩, B, env, O, s, ?_⟩
      cases ef : f env with
      | no => rw [ef] at h; exact h
      | err y e1 => rw [ef] at h; exact h
      | ok c e1 =>
        rw [ef] at h
        simp only [Out.bind] at h
        intro v H1 A O1 r
        have rf := r.frz
        have his := r.is
        cases e2 : ownAt i [] e1 with
        | none => rw [e2] at h; exact h.elim
        | some l =>
          rw [e2] at h
          cases ec : c.toD with
          | lst m =>
            rw [ec] at h his
            simp only [] at h
            split at h
            · rename_i e3 he3
              split at he3
              · rename_i hlen
                cases he3
                obtain ⟨b, ys, rfl, hb, nb, im⟩ := his
                obtain ⟨c0, k0, k1, k2⟩ := ownAt_some e2
                obtain ⟨w0, a', xs', A2', m1, m2, m3, m4, m5, m6, m7⟩ := rf.stt.mut .nil (fun _ z => nomatch z) rf.frm k0 k1
                rw [g1] at m1
                cases m1
                have ea : V.ref a = .ref a' := m2
                cases ea
                obtain ⟨O2, t1, t2, t3⟩ := m7 (l ++ m.map .frz) (xs' ++ ys) (A2' ++ []) (m4.append (RepL.frz (IsL.kp (Kp.less fun b z => z.imp (fun z => z.elim id fun z => nomatch z) id) _ _ im))) (by rw [List.append_nil]; exact m5) fun b hb => .inl (by simpa using hb)
                refine ⟨a, b, xs', ys, rfl, rfl, m3, hb, by rw [m4.length, im.length, sizeLine_eq]; omega, ?_⟩
                rw [k2] at h
                exact h .non _ [] O2 (Res.new t1 t2 (New.of_is rfl))
              · cases he3
            · rename_i he3; split at he3 <;> cases he3
            · exact h.elim
          | non => rw [ec] at h; exact h.elim
          | bl _ => rw [ec] at h; exact h.elim
          | int _ => rw [ec] at h; exact h.elim
          | str _ => rw [ec] at h; exact h.elim
          | tup _ => rw [ec] at h; exact h.elim
          | dct _ => rw [ec] at h; exact h.elim
          | dcT _ => rw [ec] at h; exact h.elim
          | ro _ => rw [ec] at h; exact h.elim
          | opq _ => rw [ec] at h; exact h.elim
/-! ### {} -/
theorem p_dct0 : POk X (.Dict [] [] pos) (pK (.dct [])) := pe_dnewK.imp fun σ H Q h => by
  obtain ⟨B, env, O, s, d, hp, h⟩ := h
  cases hp
  intro t ht
  have g : Grw H (upd H t (.dK [])) := fun b o e => by rw [upd_ne (ne_of_none e ht)]; exact e
  refine h _ _ g ⟨t, [], rfl, upd_same, fun z => ?_, rfl⟩
  obtain ⟨u, e⟩ := s.trk t z
  rw [ht] at e; cases e
end
/-- a def's body does what g says -/
def BdOk (Pr : Program) (w : World) (K : PySem.W.Frag) (mg : Str → Option Value) (base : Heap) (k : Nat) (x : Str) (st : Stmt) (N : List Str) (pn : List Nat) (g : SS) : Prop := ∀ (f : Addr) (cdv : Value) (A : Around) (outer : List Env) (s : Shared) (H : Hp) (E : XK), A.guards = some [] → Room k (A.deeper (envOfC x (defScope st) s.heap.objs.size f cdv)) →
  SsOk (cxOf (CY Pr w) Pr w K mg base N x (defScope st) f cdv A outer s H E) (fun cls d _ H' => E cls d H') pn (defBody st) g
theorem FnM.by {Pr : Program} {w : World} {K : PySem.W.Frag} {mg : Str → Option Value} {base : Heap} {k : Nat} {x : Str} {st : Stmt} {N ps : List Str} {pn : List Nat} {g : SS} (F : DefAt K mg x st) (S : FnScope N ps (defScope st)) (hb : BdOk Pr w K mg base k x st N pn g) :
    FnM Pr w K mg base (k + 1) x st ps (bodyM N.length pn ps.length g) := FnM.of F S hb
theorem law_end {Pr : Program} {w : World} {K : PySem.W.Frag} {mg : Str → Option Value} {k n : Nat} {x : Str} {st : Stmt} {N : List Str} {g : SS} {fa : Addr} (F : DefAt K mg "law" st) (S : FnScope N [x] (defScope st)) (bd : BindP "law" st [x]) (hb : ∀ base, SysD base → BdOk Pr w K mg base k "law" st N [] g)
    (hfa : mg "law" = some (.ref fa)) (hm : ∀ ns : List Int, ns.length ≤ n → (∀ z ∈ ns, Builtin.Int.intBits z ≤ 1048576) → ∃ c outs, bodyM N.length [] 1 g [.frz (.ro ns)] = .ok c outs ∧ c.toD = .bl true) :
    ∃ (fd : FuncData) (m : List C → Out C), (∀ (s : Shared) (u : Value), BindsTo s fd ⟨[u], []⟩ [(x, u)]) ∧
        (∀ base : Heap, K.In base → base.Ns mainGlobals mg → SysD base → FnG Pr w K mg base (k + 1) fa fd [x] (spM K mg 1 m)) ∧
        ∀ ns : List Int, ns.length ≤ n → (∀ z ∈ ns, Builtin.Int.intBits z ≤ 1048576) → ∃ c outs, m [.frz (.ro ns)] = .ok c outs ∧ c.toD = .bl true := by
  obtain ⟨f, oc, od, kV, doc, pm, an, cdv, ct, osl, h1, h2, h3, h4⟩ := F.ex
  cases hfa.symm.trans h1
  exact ⟨_, _, fun s u => .of_eq (bd kV doc pm an cdv ct [u] rfl), fun base _ _ hS => fnG_of h3 h4 S fun A outer s H E hg hr => hb base hS fa cdv A outer s H E hg hr, hm⟩
end PL
/-! ### plain reasoning -/
namespace PL
open PySem PySem.Spec PyProof.Rows L2
theorem compF_map {t : Tg} {q : PB} {p : P} {env : Slots} (g : D → D) : ∀ {l : List D}, (∀ d ∈ l, ∃ e, t d env = some e ∧ q e = some true ∧ p e = some (g d)) → compF t q p env l = some (l.map g)
  | [], _ => rfl
  | d :: r, h => by
    obtain ⟨e, h1, h2, h3⟩ := h d (by simp)
    have ih := compF_map g (fun x hx => h x (List.mem_cons_of_mem _ hx))
    unfold compF
    simp only [h1, h2, h3, ih, List.map_cons]
theorem compF_fm {t : Tg} {q : PB} {p : P} {env : Slots} (g : D → Option D) : ∀ {l : List D}, (∀ d ∈ l, ∃ e, t d env = some e ∧ ((q e = some false ∧ g d = none) ∨ (q e = some true ∧ ∃ v, p e = some v ∧ g d = some v))) → compF t q p env l = some (l.filterMap g)
  | [], _ => rfl
  | d :: r, h => by
    obtain ⟨e, h1, h2⟩ := h d (by simp)
    have ih := compF_fm g (fun x hx => h x (List.mem_cons_of_mem _ hx))
    unfold compF
    rcases h2 with ⟨h2, h3⟩ | ⟨h2, v, h3, h4⟩
    · simp only [h1, h2, ih, List.filterMap_cons, h3]
    · simp only [h1, h2, h3, ih, List.filterMap_cons, h4]
/-- a loop whose body goes on or answers -/
theorem forL_all {t : Tg} {b : SS} {c : C} (Inv : Slots → Prop) (P : D → Bool) : ∀ {l : List D} {e : Slots}, (∀ d ∈ l, ∀ e, Inv e → ∃ e1, t d e = some e1 ∧ (P d = true → ∃ e2, b e1 = .nx e2 ∧ Inv e2) ∧ (P d = false → ∃ e2, b e1 = .rt c e2)) → Inv e →
    (l.all P = true ∧ ∃ e2, forL t b l e = .nx e2 ∧ Inv e2) ∨ (l.all P = false ∧ ∃ e2, forL t b l e = .rt c e2)
  | [], e, h, i => .inl ⟨rfl, e, rfl, i⟩
  | d :: r, e, h, i => by
    obtain ⟨e1, h1, h2, h3⟩ := h d (by simp) e i
    cases hP : P d with
    | true =>
      obtain ⟨e2, h4, h5⟩ := h2 hP
      rcases forL_all Inv P (fun x hx => h x (List.mem_cons_of_mem _ hx)) h5 with ⟨k1, k2⟩ | ⟨k1, k2⟩
      · exact .inl ⟨by simp [hP, k1], by unfold forL; simp only [h1, h4]; exact k2⟩
      · exact .inr ⟨by simp only [List.all_cons, hP, k1, Bool.true_and], by unfold forL; simp only [h1, h4]; exact k2⟩
    | false =>
      obtain ⟨e2, h4⟩ := h3 hP
      exact .inr ⟨by simp only [List.all_cons, hP, Bool.false_and], e2, by unfold forL; simp only [h1, h4]⟩
/-- a loop with an invariant by what is done -/
theorem forL_inv {t : Tg} {b : SS} (Inv : Nat → Slots → Prop) : ∀ {l : List D} {e : Slots} (k : Nat), (∀ i d, l[i]? = some d → ∀ e, Inv (k + i) e → ∃ e1, t d e = some e1 ∧ ((∃ e2, b e1 = .nx e2 ∧ Inv (k + i + 1) e2) ∨ ∃ e2, b e1 = .ct e2 ∧ Inv (k + i + 1) e2)) → Inv k e →
    ∃ e2, forL t b l e = .nx e2 ∧ Inv (k + l.length) e2
  | [], e, k, h, i => ⟨e, rfl, i⟩
  | d :: r, e, k, h, i => by
    obtain ⟨e1, h1, h2⟩ := h 0 d rfl e i
    have go : ∀ e2, Inv (k + 1) e2 → ∃ e3, forL t b r e2 = .nx e3 ∧ Inv (k + (d :: r).length) e3 := fun e2 i2 => by
      obtain ⟨e3, k1, k2⟩ := forL_inv Inv (k + 1) (fun i x hx e ie => by
        have := h (i + 1) x (by simpa using hx) e (by rw [show k + (i + 1) = k + 1 + i by omega]; exact ie)
        rw [show k + (i + 1) + 1 = k + 1 + i + 1 by omega] at this
        exact this) i2
      exact ⟨e3, k1, by rw [List.length_cons, show k + (r.length + 1) = k + 1 + r.length by omega]; exact k2⟩
    unfold forL
    rcases h2 with ⟨e2, h3, h4⟩ | ⟨e2, h3, h4⟩
    · simp only [h1, h3]; exact go e2 h4
    · simp only [h1, h3]; exact go e2 h4
/-- a comprehension of the others with an invariant -/
theorem compM_inv {vs : List Nat} {t : Tg} {q : PB} {f : M C} (Inv : Slots → Prop) (Pc : C → Prop) : ∀ {l : List D} {e : Slots}, (∀ d ∈ l, ∀ e, Inv e → ∃ e1, t d e = some e1 ∧ q e1 = some true ∧ ∃ c e2, f e1 = .ok c e2 ∧ Pc c ∧ Inv (wipeE e2 vs)) → Inv e →
    ∃ cs e2, compM vs t q f l e = some (cs, e2) ∧ cs.length = l.length ∧ (∀ c ∈ cs, Pc c) ∧ Inv e2
  | [], e, h, i => ⟨[], e, rfl, rfl, fun _ z => (nomatch z), i⟩
  | d :: r, e, h, i => by
    obtain ⟨e1, h1, h2, c, e2, h3, h4, h5⟩ := h d (by simp) e i
    obtain ⟨cs, e3, k1, k2, k3, k4⟩ := compM_inv Inv Pc (fun x hx => h x (List.mem_cons_of_mem _ hx)) h5
    refine ⟨c :: cs, e3, ?_, by simp [k2], fun x hx => ?_, k4⟩
    · unfold compM
      simp only [h1, h2, h3, k1]
    · rcases List.mem_cons.mp hx with z | z
      · rw [z]; exact h4
      · exact k3 x z
theorem toDs_m (l : List D) : C.toDs (l.map .frz) = l := toDs_frz l
@[simp] theorem shaped_int (i : Int) : SeqAt.shaped (.int i) = true := by unfold SeqAt.shaped; simp [PyData.canLay0, PyData.depth]
@[simp] theorem shaped_bool (i : Bool) : SeqAt.shaped (.bool i) = true := by unfold SeqAt.shaped; simp [PyData.canLay0, PyData.depth]
@[simp] theorem shaped_none : SeqAt.shaped .none = true := by unfold SeqAt.shaped; simp [PyData.canLay0, PyData.depth]
@[simp] theorem eqD_int (a b : Int) : eqD (.int a) (.int b) = some (a == b) := by simp [eqD, toPy, PyData.eqv]
theorem mulOk_r {a b : Int} (h1 : -(2 ^ 64) < b) (h2 : b < 2 ^ 64) : mulOk a b = true := by unfold mulOk; rw [decide_eq_true h1, decide_eq_true h2, Bool.and_self, Bool.or_true]
theorem mulOk_l {a b : Int} (h1 : -(2 ^ 64) < a) (h2 : a < 2 ^ 64) : mulOk a b = true := by unfold mulOk; rw [decide_eq_true h1, decide_eq_true h2, Bool.and_self, Bool.or_true, Bool.true_or]
theorem divOk_small {a b : Int} (h1 : b ≠ 0) (h2 : b.natAbs < 1073741824) : divOk a b = true := by simp [divOk, h1, PyProof.noPylong_small h2]
/-- an own pot of two numbers -/
def pot (a b : Int) : C := .own [.frz (.int a), .frz (.int b)]
def PotOk (c : C) : Prop := ∃ a b, c = pot a b ∧ 0 ≤ b ∧ b < 4294967296
/-- what a law's draw keeps to: one of 0 .. s - 1, the pot a pot -/
def DrawOk (m : List C → Out C) : Prop := ∀ (c : C) (s : Int), PotOk c → 0 < s → s < 1073741824 → ∃ r c', m [c, .frz (.int s)] = .ok (.frz (.int r)) [some c', none] ∧ 0 ≤ r ∧ r < s ∧ PotOk c'
end PL
namespace PL
open PySem PySem.Spec PyProof.Rows L2
/-! #### lists of ints as data -/
def inD (l : List Int) : List D := l.map D.int
def lnD (ls : List (List Int)) : List D := ls.map fun l => D.lst (inD l)
def fz (l : List D) : List C := l.map C.frz
@[simp] theorem inD_nil : inD [] = [] := rfl
@[simp] theorem lnD_nil : lnD [] = [] := rfl
@[simp] theorem fz_nil : fz [] = [] := rfl
@[simp] theorem fz_fold (l : List D) : l.map C.frz = fz l := rfl
@[simp] theorem toDs_fz (l : List D) : C.toDs (fz l) = l := toDs_frz l
@[simp] theorem inD_len (l : List Int) : (inD l).length = l.length := by simp [inD]
@[simp] theorem lnD_len (l : List (List Int)) : (lnD l).length = l.length := by simp [lnD]
@[simp] theorem fz_len (l : List D) : (fz l).length = l.length := List.length_map ..
theorem inD_app (a b : List Int) : inD (a ++ b) = inD a ++ inD b := List.map_append ..
theorem lnD_app (a b : List (List Int)) : lnD (a ++ b) = lnD a ++ lnD b := List.map_append ..
theorem fz_app (a b : List D) : fz (a ++ b) = fz a ++ fz b := List.map_append ..
theorem fz_cons (x : D) (l : List D) : fz (x :: l) = .frz x :: fz l := rfl
theorem inD_one (x : Int) : inD [x] = [.int x] := rfl
theorem lnD_one (x : List Int) : lnD [x] = [.lst (inD x)] := rfl
theorem fz_one (x : D) : fz [x] = [.frz x] := rfl
@[simp] theorem frzs_fz (l : List D) : frzs (fz l) = some l := frzs_map l
@[simp] theorem intsOf_inD (l : List Int) : intsOf (inD l) = some l := intsOf_map l
theorem toPys_ints : ∀ l : List Int, toPys (inD l) = some (l.map PyData.int)
  | [] => rfl
  | i :: r => by
    have ih := toPys_ints r
    simp only [inD, List.map_cons, toPys, toPy] at ih ⊢
    rw [ih]
theorem toPys_lns : ∀ ls : List (List Int), toPys (lnD ls) = some (ls.map fun l => PyData.list (l.map PyData.int))
  | [] => rfl
  | i :: r => by
    have ih := toPys_lns r
    have e := toPys_ints i
    simp only [lnD, inD, List.map_cons, toPys, toPy] at ih e ⊢
    rw [ih, e]
    rfl
theorem lay_ints : ∀ l : List Int, PyData.canLayAll0 (l.map PyData.int) = true
  | [] => rfl
  | i :: r => by simp [PyData.canLayAll0, PyData.canLay0, lay_ints r]
theorem lay_lns : ∀ ls : List (List Int), PyData.canLayAll0 (ls.map fun l => PyData.list (l.map PyData.int)) = true
  | [] => rfl
  | i :: r => by simp [PyData.canLayAll0, PyData.canLay0, lay_lns r, lay_ints i]
theorem deep_ints : ∀ l : List Int, PyData.depthAll (l.map PyData.int) ≤ 1
  | [] => by simp [PyData.depthAll]
  | i :: r => by
    have := deep_ints r
    simp only [List.map_cons, PyData.depthAll, PyData.depth]
    omega
theorem deep_lns : ∀ ls : List (List Int), PyData.depthAll (ls.map fun l => PyData.list (l.map PyData.int)) ≤ 2
  | [] => by simp [PyData.depthAll]
  | i :: r => by
    have := deep_lns r
    have := deep_ints i
    simp only [List.map_cons, PyData.depthAll, PyData.depth]
    omega
theorem shaped_ints (l : List Int) : SeqAt.shaped (.list (l.map PyData.int)) = true := by
  have := deep_ints l
  have e : PyData.depth (.list (l.map PyData.int)) = PyData.depthAll (l.map PyData.int) + 1 := by simp [PyData.depth]
  unfold SeqAt.shaped
  rw [e, show PyData.canLay0 (.list (l.map PyData.int)) = PyData.canLayAll0 (l.map PyData.int) by simp [PyData.canLay0], lay_ints, Bool.true_and]
  exact decide_eq_true (by omega)
theorem shaped_lns (l : List (List Int)) : SeqAt.shaped (.list (l.map fun l => PyData.list (l.map PyData.int))) = true := by
  have := deep_lns l
  have e : PyData.depth (.list (l.map fun l => PyData.list (l.map PyData.int))) = PyData.depthAll (l.map fun l => PyData.list (l.map PyData.int)) + 1 := by simp [PyData.depth]
  unfold SeqAt.shaped
  rw [e, show PyData.canLay0 (.list (l.map fun l => PyData.list (l.map PyData.int))) = PyData.canLayAll0 (l.map fun l => PyData.list (l.map PyData.int)) by simp [PyData.canLay0], lay_lns, Bool.true_and]
  exact decide_eq_true (by omega)
theorem eqv_ints : ∀ a b : List Int, PyData.eqvAll (a.map PyData.int) (b.map PyData.int) = (a == b)
  | [], [] => rfl
  | [], _ :: _ => rfl
  | _ :: _, [] => rfl
  | x :: a, y :: b => by
    simp only [List.map_cons, PyData.eqvAll, PyData.eqv, eqv_ints a b]
    rfl
theorem eqv_lns : ∀ a b : List (List Int), PyData.eqvAll (a.map fun l => PyData.list (l.map PyData.int)) (b.map fun l => PyData.list (l.map PyData.int)) = (a == b)
  | [], [] => rfl
  | [], _ :: _ => rfl
  | _ :: _, [] => rfl
  | x :: a, y :: b => by
    simp only [List.map_cons, PyData.eqvAll, PyData.eqv, eqv_lns a b, eqv_ints x y]
    rfl
theorem eqD_ints (a b : List Int) : eqD (.lst (inD a)) (.lst (inD b)) = some (a == b) := by
  simp only [eqD, toPy, toPys_ints, Option.map_some, shaped_ints, Bool.and_self, if_true, PyData.eqv, eqv_ints]
theorem eqD_lns (a b : List (List Int)) : eqD (.lst (lnD a)) (.lst (lnD b)) = some (a == b) := by
  simp only [eqD, toPy, toPys_lns, Option.map_some, shaped_lns, Bool.and_self, if_true, PyData.eqv, eqv_lns]
theorem eqD_ints0 (a : List Int) : eqD (.lst (inD a)) (.lst []) = some a.isEmpty := by
  have := eqD_ints a []
  rw [show inD [] = [] from rfl] at this
  rw [this]
  cases a <;> rfl
theorem eqD_lns0 (a : List (List Int)) : eqD (.lst (lnD a)) (.lst []) = some a.isEmpty := by
  have := eqD_lns a []
  rw [show lnD [] = [] from rfl] at this
  rw [this]
  cases a <;> rfl
/-- trailing zeros cut off -/
def trimI : List Int → List Int
  | [] => []
  | x :: r => match trimI r with
    | [] => if x = 0 then [] else [x]
    | y :: t => x :: y :: t
theorem trimI_snoc0 (l : List Int) : trimI (l ++ [0]) = trimI l := by
  induction l with
  | nil => rfl
  | cons x r ih => simp only [List.cons_append, trimI, ih]
theorem trimI_snoc {l : List Int} {x : Int} (h : x ≠ 0) : trimI (l ++ [x]) = l ++ [x] := by
  induction l with
  | nil => simp [trimI, h]
  | cons y r ih =>
    simp only [List.cons_append, trimI, ih]
    cases e : r ++ [x] with
    | nil => simp at e
    | cons z t => rfl
theorem trimI_len (l : List Int) : (trimI l).length ≤ l.length := by
  induction l with
  | nil => simp [trimI]
  | cons x r ih =>
    unfold trimI
    cases e : trimI r with
    | nil => simp only []; split <;> simp
    | cons y t => rw [e] at ih; simp at ih ⊢; omega
theorem trimI_last {l : List Int} {x : Int} (h : (trimI l).getLast? = some x) : x ≠ 0 := by
  induction l with
  | nil => simp [trimI] at h
  | cons y r ih =>
    unfold trimI at h
    cases e : trimI r with
    | nil =>
      rw [e] at h
      simp only [] at h
      split at h
      · simp at h
      · simp at h; subst h; assumption
    | cons z t =>
      rw [e] at h ih
      simp only [List.getLast?_cons_cons] at h
      exact ih h
theorem trimI_mem {l : List Int} {x : Int} (h : x ∈ trimI l) : x ∈ l := by
  induction l with
  | nil => exact h
  | cons y r ih =>
    unfold trimI at h
    cases e : trimI r with
    | nil =>
      rw [e] at h
      simp only [] at h
      split at h
      · cases h
      · simp at h; simp [h]
    | cons z t =>
      rw [e] at h ih
      rcases List.mem_cons.mp h with q | q
      · simp [q]
      · exact List.mem_cons_of_mem _ (ih q)
end PL
namespace PL
open PySem PySem.Spec PyProof.Rows L2
theorem atI_snoc {α : Type} (l : List α) (x : α) : atI (l ++ [x]) (-1) = some x := by
  unfold atI ixN
  rw [if_neg (by decide), if_pos (by rw [List.length_append, List.length_singleton]; omega)]
  have e : (-1 + ((l ++ [x]).length : Int)).toNat = l.length := by rw [List.length_append, List.length_singleton]; omega
  rw [e]
  simp
theorem ixN_nat {n j : Nat} (h : j < n) : ixN n (j : Int) = some j := by
  unfold ixN
  rw [if_pos (by omega), if_pos (by omega)]
  simp
theorem atI_nat {α : Type} {l : List α} {j : Nat} (h : j < l.length) : atI l (j : Int) = some l[j] := by
  unfold atI
  rw [ixN_nat h]
  simp [h]
theorem atI_none {α : Type} {l : List α} {i : Int} (h : (l.length : Int) ≤ i) : atI l i = none := by
  unfold atI ixN
  rw [if_pos (by omega), if_neg (by omega)]
  rfl
/-- the tail of zeros taken off, as the laws write it -/
theorem told_loop (s : Option C) (ns : List Int) : sWhile (tP (qAnd (qOf (pOp neV' (bV 1) (pF (evPs [])))) (qOf (pOp eqV' (bKf (kIx (kV 1) (pNeg (pK (.int 1))))) (pK (.int 0)))))) (sDrop (ePop 1 (paV 1))) [s, some (.own (fz (inD ns)))] = .nx [s, some (.own (fz (inD (trimI ns))))] := by
  have key : ∀ n, ∀ ns : List Int, ns.length = n → sWhile (tP (qAnd (qOf (pOp neV' (bV 1) (pF (evPs [])))) (qOf (pOp eqV' (bKf (kIx (kV 1) (pNeg (pK (.int 1))))) (pK (.int 0)))))) (sDrop (ePop 1 (paV 1))) [s, some (.own (fz (inD ns)))] = .nx [s, some (.own (fz (inD (trimI ns))))] := by
    intro n
    induction n with
    | zero =>
      intro ns h
      rw [List.eq_nil_of_length_eq_zero h, sWhile_eq]
      simp [tP, qAnd, qOf, pOp, bV, C.toD, pF, evPs, neV', eqD_ints0, ofV, sOf, trimI, C.toDs, show eqD (.lst []) (.lst []) = some true from eqD_ints0 []]
    | succ n ih =>
      intro ns h
      obtain ⟨r, x, rfl⟩ : ∃ r x, ns = r ++ [x] := by
        have hne : ns ≠ [] := by intro z; simp [z] at h
        exact ⟨ns.dropLast, ns.getLast hne, (List.dropLast_concat_getLast hne).symm⟩
      rw [sWhile_eq]
      have e1 : eqD (.lst (inD (r ++ [x]))) (.lst []) = some false := by rw [eqD_ints0]; cases r <;> rfl
      have e0 : fz (inD (r ++ [x])) = fz (inD r) ++ [.frz (.int x)] := by rw [inD_app, fz_app, inD_one, fz_one]
      have e2 : atI (fz (inD (r ++ [x]))) (-1) = some (.frz (.int x)) := by rw [e0]; exact atI_snoc _ _
      have e3 : (fz (inD (r ++ [x]))).getLast? = some (.frz (.int x)) := by rw [e0]; simp
      have e4 : (fz (inD (r ++ [x]))).dropLast = fz (inD r) := by rw [e0]; simp
      by_cases hx : x = 0
      · subst hx
        rw [trimI_snoc0, ← ih r (by simpa using h)]
        simp [tP, qAnd, qOf, pOp, bV, C.toD, pF, evPs, neV', e1, ofV, sOf, eqV', bKf, kIx, kV, pNeg, pK, ixC, e2, sDrop, ePop, paV, ownAt, setAt, getP, setP, e3, e4]
      · rw [trimI_snoc hx]
        simp [tP, qAnd, qOf, pOp, bV, C.toD, pF, evPs, neV', e1, ofV, sOf, eqV', bKf, kIx, kV, pNeg, pK, ixC, e2, hx]
  exact key ns.length ns rfl
theorem told_gen (ns : List Int) : bodyM 2 [] 1 (sSeq (sSet 1 (eF (fSq (pV 0)))) (sSeq (sWhile (tP (qAnd (qOf (pOp neV' (bV 1) (pF (evPs [])))) (qOf (pOp eqV' (bKf (kIx (kV 1) (pNeg (pK (.int 1))))) (pK (.int 0)))))) (sDrop (ePop 1 (paV 1)))) (sRet (eV 1)))) [.frz (.lst (inD ns))] = .ok (.frz (.lst (inD (trimI ns)))) [none] := by
  simp only [bodyM, startE, sSeq, sSet, sOf, eF, fSq, pV, sqD]
  simp [told_loop, sRet, eV, sOf, C.toD, outsE, sqD]
end PL
namespace PL
open PySem PySem.Spec PyProof.Rows L2
mutual
/-- plain data through and through (no script, no type) -/
def plD : D → Bool
  | .tup l => plL l
  | .lst l => plL l
  | .ro _ => false
  | .opq _ => false
  | _ => true
def plL : List D → Bool
  | [] => true
  | d :: r => plD d && plL r
end
theorem plL_mem : ∀ {l : List D} {d : D}, plL l = true → d ∈ l → plD d = true
  | [], d, h, m => nomatch m
  | e :: r, d, h, m => by
    simp only [plL, Bool.and_eq_true] at h
    rcases List.mem_cons.mp m with z | z
    · rw [z]; exact h.1
    · exact plL_mem h.2 z
theorem plL_of : ∀ {l : List D}, (∀ d ∈ l, plD d = true) → plL l = true
  | [], _ => rfl
  | d :: r, h => by simp only [plL, h d (by simp), plL_of (fun x hx => h x (List.mem_cons_of_mem _ hx)), Bool.and_self]
theorem plL_inD (l : List Int) : plL (inD l) = true := plL_of fun d h => by
  obtain ⟨i, _, rfl⟩ := List.mem_map.mp h
  rfl
theorem plL_lnD (l : List (List Int)) : plL (lnD l) = true := plL_of fun d h => by
  obtain ⟨i, _, rfl⟩ := List.mem_map.mp h
  exact plL_inD i
def itD : D → Bool
  | .int _ => true
  | _ => false
def sqB : D → Bool
  | .lst _ => true
  | .tup _ => true
  | _ => false
theorem itD_all {l : List D} (h : l.all itD = true) : ∃ ns, l = inD ns := by
  induction l with
  | nil => exact ⟨[], rfl⟩
  | cons d r ih =>
    simp only [List.all_cons, Bool.and_eq_true] at h
    obtain ⟨ns, rfl⟩ := ih h.2
    cases d with
    | int i => exact ⟨i :: ns, rfl⟩
    | _ => cases h.1
theorem sqB_sq {d : D} (h : sqB d = true) : ∃ l, sqD d = some l ∧ (d = .lst l ∨ d = .tup l) := by
  cases d with
  | lst l => exact ⟨l, rfl, .inl rfl⟩
  | tup l => exact ⟨l, rfl, .inr rfl⟩
  | _ => cases h
end PL
namespace PL
open PySem PySem.Spec PyProof.Rows L2
theorem evPs_n (env : Slots) : evPs [] env = some [] := rfl
theorem evPs_c (p : P) (ps : List P) (env : Slots) : evPs (p :: ps) env = match p env, evPs ps env with
  | some d, some r => some (d :: r)
  | _, _ => none := by
  cases h1 : p env <;> cases h2 : evPs ps env <;> simp [evPs, h1, h2]
theorem evMs_n (env : Slots) : evMs [] env = .ok [] env := rfl
theorem evMs_c (f : M C) (fs : List (M C)) (env : Slots) : evMs (f :: fs) env = (f env).bind fun c e1 => (evMs fs e1).bind fun cs e2 => .ok (c :: cs) e2 := rfl
/-! #### step by step -/
section
variable {f g b : SS} {env e e' : Slots} {c : C} {h : M C} {q : M Bool} {t : Tg} {src : M (List D)} {l : List D} {i N a : Nat} {pn : List Nat} {cs : List C} {R : SOut}
theorem seq_nx (h1 : f env = .nx e) : sSeq f g env = g e := by unfold sSeq; rw [h1]
theorem seq_rt (h1 : f env = .rt c e) : sSeq f g env = .rt c e := by unfold sSeq; rw [h1]
theorem set_ok (h1 : h env = .ok c e) : sSet i h env = .nx (e.set i (some c)) := by unfold sSet sOf; rw [h1]
theorem ret_ok (h1 : h env = .ok c e) : sRet h env = .rt c e := by unfold sRet sOf; rw [h1]
theorem drop_ok (h1 : h env = .ok c e) : sDrop h env = .nx e := by unfold sDrop sOf; rw [h1]
theorem if_t (h1 : q env = .ok true e) : sIf q f g env = f e := by unfold sIf sOf; rw [h1]; rfl
theorem if_f (h1 : q env = .ok false e) : sIf q f g env = g e := by unfold sIf sOf; rw [h1]; rfl
theorem for_ok (h1 : src env = .ok l e) : sFor src t b env = forL t b l e := by unfold sFor sOf; rw [h1]
theorem asg_ok (h1 : h env = .ok c e) (h2 : t c.toD e = some e') : sAsg h t env = .nx e' := by unfold sAsg sOf; rw [h1]; simp only [h2]
theorem body_rt (h1 : f (startE N cs) = .rt c e) : bodyM N pn a f cs = .ok c (outsE pn 0 a e) := by unfold bodyM; rw [h1]
theorem body_nx (h1 : f (startE N cs) = .nx e) : bodyM N pn a f cs = .ok (.frz .non) (outsE pn 0 a e) := by unfold bodyM; rw [h1]
theorem pCall_1 {fn : List D → Option V} {p : P} {d : D} {v : V} (h1 : p env = some d) (h2 : fn [d] = some v) : pCall fn [p] env = some (ofV v) := by unfold pCall; rw [evPs_c, h1, evPs_n]; simp only []; rw [h2]; rfl
theorem pOp_v {op : D → D → Option V} {p q : P} {a b : D} {v : V} (h1 : p env = some a) (h2 : q env = some b) (h3 : op a b = some v) : pOp op p q env = some (ofV v) := by unfold pOp; rw [h1, h2]; simp only []; rw [h3]; rfl
theorem qOf_b {p : P} {b : Bool} (h1 : p env = some (.bl b)) : qOf p env = some b := by unfold qOf; rw [h1]
theorem tP_of {p : PB} {b : Bool} (h1 : p env = some b) : tP p env = .ok b env := by unfold tP; rw [h1]
theorem eP_of {p : P} {d : D} (h1 : p env = some d) : eP p env = .ok (.frz d) env := by unfold eP; rw [h1]
/-- the def answers c -/
def Gives (m : List C → Out C) (cs : List C) (c : C) : Prop := ∃ o, m cs = .ok c o
theorem gives_rt (h1 : ∃ e, f (startE N cs) = .rt c e) : Gives (bodyM N pn a f) cs c := let ⟨_, h1⟩ := h1; ⟨_, body_rt h1⟩
theorem pFn_gives {m : List C → Out C} {ps : List P} {ds : List D} (hp : evPs ps env = some ds) (hm : Gives m (ds.map .frz) c) : pFn m ps env = some c.toD := by
  obtain ⟨o, hm⟩ := hm
  unfold pFn
  rw [hp]
  simp only []
  rw [hm]
theorem seq_for (Inv : Slots → Prop) (Pr : SOut → Prop) (hs : src env = .ok l e) (hl : ∃ e2, forL t b l e = .nx e2 ∧ Inv e2) (k : ∀ e2, Inv e2 → Pr (g e2)) : Pr (sSeq (sFor src t b) g env) := by
  obtain ⟨e2, h1, h2⟩ := hl
  rw [seq_nx ((for_ok hs).trans h1)]
  exact k e2 h2
theorem seq_for_rt (Pr : SOut → Prop) (hs : src env = .ok l e) (hl : ∃ e2, forL t b l e = .rt c e2) (k : ∀ e2, Pr (.rt c e2)) : Pr (sSeq (sFor src t b) g env) := by
  obtain ⟨e2, h1⟩ := hl
  rw [seq_rt ((for_ok hs).trans h1)]
  exact k e2
theorem forL_t (Inv : Slots → Prop) (P : D → Bool) (hP : l.all P = true) (h : ∀ d ∈ l, P d = true → ∀ e, Inv e → ∃ e1, t d e = some e1 ∧ ∃ e2, b e1 = .nx e2 ∧ Inv e2) (i : Inv e) : ∃ e2, forL t b l e = .nx e2 ∧ Inv e2 := by
  induction l generalizing e with
  | nil => exact ⟨e, rfl, i⟩
  | cons d r ih =>
    simp only [List.all_cons, Bool.and_eq_true] at hP
    obtain ⟨e1, h1, e2, h2, h3⟩ := h d (by simp) hP.1 e i
    obtain ⟨e3, k1, k2⟩ := ih hP.2 (fun x hx => h x (List.mem_cons_of_mem _ hx)) h3
    exact ⟨e3, by unfold forL; simp only [h1, h2]; exact k1, k2⟩
theorem forL_f (Inv : Slots → Prop) (P : D → Bool) (hP : l.all P = false) (h : ∀ d ∈ l, ∀ e, Inv e → ∃ e1, t d e = some e1 ∧ (P d = true → ∃ e2, b e1 = .nx e2 ∧ Inv e2) ∧ (P d = false → ∃ e2, b e1 = .rt c e2)) (i : Inv e) : ∃ e2, forL t b l e = .rt c e2 := by
  rcases forL_all Inv P h i with ⟨h1, _⟩ | ⟨_, h2⟩
  · rw [hP] at h1; cases h1
  · exact h2
end
end PL
namespace PL
open PySem PySem.Spec PyProof.Rows L2
/-! #### draws -/
theorem draw_E {m : List C → Out C} (hm : DrawOk m) {env : Slots} {c : C} {s : Int} (h0 : env[0]? = some (some c)) (hc : PotOk c) (hs : 0 < s) (hs2 : s < 1073741824) :
    ∃ r c', eFnL m 0 [eP (pK (.int s))] env = .ok (.frz (.int r)) (env.set 0 (some c')) ∧ 0 ≤ r ∧ r < s ∧ PotOk c' := by
  obtain ⟨r, c', h1, h2, h3, h4⟩ := hm c s hc hs hs2
  refine ⟨r, c', ?_, h2, h3, h4⟩
  unfold eFnL
  rw [h0]
  simp only [evMs_c, evMs_n, eP, pK, Out.bind, lentTo, h0, h1, C.toD]
theorem rngM_1 {f : M C} {env e1 : Slots} {j : Int} (h : f env = .ok (.frz (.int j)) e1) (h1 : 0 ≤ j) (h2 : j < 1073741824) : rngM [f] env = .ok ((List.range j.toNat).map fun (i : Nat) => .int (0 + (i : Int))) e1 := by
  have e : -(2 ^ 62) ≤ j ∧ j < 2 ^ 62 := by constructor <;> omega
  unfold rngM
  simp only [evMs_c, evMs_n, h, Out.bind, C.toDs, C.toD, rngL]
  rw [if_pos e]
theorem eOp_ok {op : D → D → Option V} {f g : M C} {env e1 e2 : Slots} {a b : C} {v : V} (h1 : f env = .ok a e1) (h2 : g e1 = .ok b e2) (h3 : op a.toD b.toD = some v) : eOp op f g env = .ok (.frz (ofV v)) e2 := by
  unfold eOp eBin
  rw [h1]
  simp only [Out.bind]
  rw [h2]
  simp only [h3, Option.map_some]
theorem eFn_1 {m : List C → Out C} {f : M C} {env e1 : Slots} {a c : C} (h1 : f env = .ok a e1) (h2 : Gives m [a] c) : eFn m [f] env = .ok (.frz c.toD) e1 := by
  obtain ⟨o, h2⟩ := h2
  unfold eFn
  simp only [evMs_c, evMs_n, h1, Out.bind, h2]
theorem eFrz_ok {f : M C} {env e1 : Slots} {c : C} (h : f env = .ok c e1) : eFrz f env = .ok (.frz c.toD) e1 := by
  unfold eFrz
  rw [h]
  rfl
theorem eApp_ok {i : Nat} {f : M C} {env e1 : Slots} {c : C} {l0 l : List C} (h0 : env[i]? = some (some (.own l0))) (h : f env = .ok c e1) (h1 : e1[i]? = some (some (.own l))) (hl : l.length < 100000) : eApp i f env = .ok (.frz .non) (e1.set i (some (.own (l ++ [c])))) := by
  unfold eApp
  simp only [ownAt, h0, getP, h, Out.bind, h1, hl, if_true, setAt, setP]
theorem eComp_ok {vs : List Nat} {t : Tg} {q : PB} {f : M C} {src : M (List D)} {env e1 e2 : Slots} {l : List D} {cs : List C} (h : src env = .ok l e1) (h1 : freeE vs e1 = true) (h2 : l.length ≤ 100000) (h3 : compM vs t q f l e1 = some (cs, e2)) : eComp vs t q f src env = .ok (.own cs) e2 := by
  unfold eComp
  rw [h]
  simp only [Out.bind, h1, h2, decide_true, Bool.and_self, if_true, h3]
theorem ints_of {cs : List C} (h : ∀ c ∈ cs, ∃ z : Int, c = .frz (.int z)) : ∃ ns : List Int, cs = fz (inD ns) := by
  induction cs with
  | nil => exact ⟨[], rfl⟩
  | cons c r ih =>
    obtain ⟨z, rfl⟩ := h c (by simp)
    obtain ⟨ns, rfl⟩ := ih fun x hx => h x (List.mem_cons_of_mem _ hx)
    exact ⟨z :: ns, rfl⟩
end PL
namespace PL
open PySem PySem.Spec PyProof.Rows L2
section
variable {X : Cx} {w : WX} {H : Hp} {σ : L2.St} {a b e : Expr} {es : List Expr} {p q r : P} {ps : List P} {fs : List (M C)} {pos pp : Pos} {K : PySem.W.Frag} {mg : Str → Option Value} {B : Addr → Prop} {O : List Addr} {env : Slots} {st : Stmt} {rest : List Stmt} {pn : List Nat} {k : Nat}
/-! ### dict displays of pure parts, keys ints and texts -/
def keyD : D → Option Key
  | .int i => some (.inl i)
  | .str x => some (.inr x)
  | _ => none
theorem keyD_is {W : Addr → Prop} {d : D} {k : Key} {x : V} (h : keyD d = some k) (i : Is K W H d x) : x = L2.kV k := by
  cases d <;> simp [keyD] at h
  · subst h; exact i
  · subst h; exact i
def putD {κ : Type} [DecidableEq κ] (l : List (κ × D)) (k : κ) (d : D) : List (κ × D) :=
  if (l.any fun kv => decide (kv.1 = k)) = true then l.map (fun kv => if kv.1 = k then (kv.1, d) else kv) else l ++ [(k, d)]
theorem IsP.any {W : Addr → Prop} {k : Key} : ∀ {l : List (Key × D)} {xs : List (Key × V)}, IsP K W H l xs → (xs.any fun kv => decide (kv.1 = k)) = (l.any fun kv => decide (kv.1 = k))
  | [], xs, h => by rw [show xs = [] from h]; rfl
  | (k', d) :: r, xs, h => by
    obtain ⟨x, ys, rfl, h1, h2⟩ := h
    simp only [List.any_cons, IsP.any h2]
theorem IsP.mapP {W : Addr → Prop} {k : Key} {d : D} {v : V} (hv : Is K W H d v) : ∀ {l : List (Key × D)} {xs : List (Key × V)}, IsP K W H l xs → IsP K W H (l.map (fun kv => if kv.1 = k then (kv.1, d) else kv)) (xs.map (fun kv => if kv.1 = k then (kv.1, v) else kv))
  | [], xs, h => by rw [show xs = [] from h]; exact rfl
  | (k', d') :: r, xs, h => by
    obtain ⟨x, ys, rfl, h1, h2⟩ := h
    by_cases hk : k' = k
    · subst hk
      have := IsP.mapP (k := k') hv h2
      simp only [List.map_cons, if_true]
      exact ⟨v, _, rfl, hv, this⟩
    · have := IsP.mapP (k := k) hv h2
      simp only [List.map_cons, hk, if_false]
      exact ⟨x, _, rfl, h1, this⟩
theorem IsP.snoc {W : Addr → Prop} {k : Key} {d : D} {v : V} (hv : Is K W H d v) : ∀ {l : List (Key × D)} {xs : List (Key × V)}, IsP K W H l xs → IsP K W H (l ++ [(k, d)]) (xs ++ [(k, v)])
  | [], xs, h => by rw [show xs = [] from h]; exact ⟨v, [], rfl, hv, rfl⟩
  | (k', d') :: r, xs, h => by
    obtain ⟨x, ys, rfl, h1, h2⟩ := h
    exact ⟨x, ys ++ [(k, v)], rfl, h1, IsP.snoc hv h2⟩
theorem IsP.put {W : Addr → Prop} {k : Key} {d : D} {v : V} {l : List (Key × D)} {xs : List (Key × V)} (h : IsP K W H l xs) (hv : Is K W H d v) : IsP K W H (putD l k d) (putK xs k v) := by
  unfold putD putK
  rw [IsP.any h]
  split
  · exact IsP.mapP hv h
  · exact IsP.snoc hv h
def evDs : List (P × P) → Slots → Option (List (Key × D))
  | [], _ => some []
  | (pk, pv) :: r, env => match pk env, pv env, evDs r env with
    | some dk, some dv, some l => (keyD dk).map fun k => (k, dv) :: l
    | _, _, _ => none
def mergeD (l : List (Key × D)) : List (Key × D) := l.foldl (fun acc kv => putD acc kv.1 kv.2) []
theorem IsP.merge {W : Addr → Prop} : ∀ {l : List (Key × D)} {xs : List (Key × V)} {acc : List (Key × D)} {ac : List (Key × V)}, IsP K W H l xs → IsP K W H acc ac → IsP K W H (l.foldl (fun acc kv => putD acc kv.1 kv.2) acc) (mergeK ac xs)
  | [], xs, acc, ac, h, h' => by rw [show xs = [] from h]; exact h'
  | (k, d) :: r, xs, acc, ac, h, h' => by
    obtain ⟨x, ys, rfl, h1, h2⟩ := h
    exact IsP.merge (acc := putD acc k d) (ac := putK ac k x) h2 (h'.put h1)
def pDisp (l : List (P × P)) : P := fun env => (evDs l env).bind fun kvs => if kvs.length ≤ 15 then some (.dct (mergeD kvs)) else none
inductive DDk (X : Cx) : List (Option Expr) → List Expr → List (P × P) → Prop where
  | nil : DDk X [] [] []
  | cons {k v : Expr} {ks : List (Option Expr)} {vs : List Expr} {pk pv : P} {l : List (P × P)} : POk X k pk → POk X v pv → DDk X ks vs l → DDk X (some k :: ks) (v :: vs) ((pk, pv) :: l)
theorem dd_nil : DDk X [] [] [] := .nil
theorem dd_cons {k v : Expr} {ks : List (Option Expr)} {vs : List Expr} {pk pv : P} {l : List (P × P)} (h1 : POk X k pk) (h2 : POk X v pv) (h3 : DDk X ks vs l) : DDk X (some k :: ks) (v :: vs) ((pk, pv) :: l) := .cons h1 h2 h3
theorem DDk.pps {ks : List (Option Expr)} {vs : List Expr} {l : List (P × P)} (h : DDk X ks vs l) : PPs X pos ks vs (l.map fun z => (rdP X z.1, rdP X z.2)) := by
  induction h with
  | nil => exact pps_nil
  | cons h1 h2 _ ih => exact pps_cons h1 h2 ih
theorem evDs_read {l : List (P × P)} : ∀ {H : Hp} {B : Addr → Prop} {O : List Addr} {kvs : List (Key × D)} {Q : List (V × V) → Hp → Prop}, Stt X.K B H σ env O → evDs l env = some kvs → (∀ (xs : List (Key × V)) H', Grw H H' → IsP X.K (fun a => B a ∨ a ∈ O) H' kvs xs → Q (xs.map fun kv => (L2.kV kv.1, kv.2)) H') →
    tPairs (l.map fun z => (rdP X z.1, rdP X z.2)) σ H Q := by
  induction l with
  | nil =>
    intro H B O kvs Q s he h
    cases he
    exact h [] H Grw.refl rfl
  | cons z l ih =>
    intro H B O kvs Q s he h
    obtain ⟨pk, pv⟩ := z
    unfold evDs at he
    split at he
    · rename_i dk dv kr e1 e2 e3
      simp only [Option.map_eq_some_iff] at he
      obtain ⟨k, hk, rfl⟩ := he
      refine ⟨B, env, O, s, dk, e1, fun x H1 g1 hx => ⟨B, env, O, s.grw g1, dv, e2, fun y H2 g2 hy => ?_⟩⟩
      refine ih ((s.grw g1).grw g2) e3 fun xs H3 g3 hxs => ?_
      have := h ((k, y) :: xs) H3 ((g1.trans g2).trans g3) ⟨y, xs, rfl, hy.grw g3, hxs⟩
      rw [List.map_cons, ← keyD_is hk hx] at this
      exact this
    · cases he
theorem p_disp {ks : List (Option Expr)} {vs : List Expr} {l : List (P × P)} (h : DDk X ks vs l) (hall : ks.all (·.isSome) = true := by rfl) (hl : ks.length = vs.length := by rfl) (h0 : ks ≠ [] := by exact List.cons_ne_nil _ _)
    (h15 : ks.length ≤ 15 := by decide) : POk X (.Dict ks vs pos) (pDisp l) := (pe_disp h.pps hall hl h0 h15).imp fun σ H Q h => by
  obtain ⟨B, env, O, s, d, hp, h⟩ := h
  unfold pDisp at hp
  simp only [Option.bind_eq_some_iff] at hp
  obtain ⟨kvs, e1, hp⟩ := hp
  split at hp
  · rename_i hlen
    cases hp
    intro t ht
    have g : Grw H (upd H t (.dK [])) := fun b o e => by rw [upd_ne (ne_of_none e ht)]; exact e
    have s1 : Stt X.K (fun a => B a ∨ a = t) (upd H t (.dK [])) σ env O := s.grow g (fun a z => z.imp id fun z => by rw [show a = t from z]; exact ht) fun a z => by
      rcases z with z | z
      · obtain ⟨u, e⟩ := s.tr a z; exact ⟨u, g a u e⟩
      · exact ⟨_, by rw [show a = t from z]; exact upd_same⟩
    refine evDs_read s1 e1 fun xs H2 g2 hxs => ⟨g2 _ _ upd_same, xs, rfl, ?_, ?_⟩
    · have : ∀ {l : List (Key × D)} {xs : List (Key × V)}, IsP X.K (fun a => (B a ∨ a = t) ∨ a ∈ O) H2 l xs → xs.length = l.length := IsP.length
      rw [this hxs]; exact hlen
    · have nt : ¬ (B t ∨ t ∈ O) := fun z => by
        obtain ⟨u, e⟩ := s.trk t z
        rw [ht] at e; cases e
      refine h (.ref t) _ (fun b o e => ?_) ⟨t, _, rfl, upd_same, nt, IsP.merge (IsP.kp (fun b o hw hb => ⟨?_, fun z => hw (z.imp .inl id)⟩) _ _ hxs) rfl⟩
      · rw [upd_ne (ne_of_none e ht)]
        exact g2 _ _ (g _ _ e)
      · exact (upd_ne fun z : b = t => hw (.inl (.inr z))).trans hb
  · cases hp
end
/-! ### repr, dicts too -/
def keyPy : Key → PyData
  | .inl i => .int i
  | .inr x => .str x
mutual
def toPyR : D → Option PyData
  | .non => some .none
  | .bl b => some (.bool b)
  | .int i => some (.int i)
  | .str s => some (.str s)
  | .tup l => (toPysR l).map .tuple
  | .lst l => (toPysR l).map .list
  | .dct l => (toPyP l).map .dict
  | _ => none
def toPysR : List D → Option (List PyData)
  | [] => some []
  | d :: r => match toPyR d, toPysR r with
    | some x, some xs => some (x :: xs)
    | _, _ => none
def toPyP : List (Key × D) → Option (List (PyData × PyData))
  | [] => some []
  | (k, d) :: r => match toPyR d, toPyP r with
    | some x, some xs => some ((keyPy k, x) :: xs)
    | _, _ => none
end
section
variable {X : Cx} {pins : List (Addr × Obj)} {σ : L2.St} {H : Hp} {s : Shared} {W : Addr → Prop}
theorem not_sys {a : Addr} {o : Obj} (hs : SysD s.heap) (e : s.heap.get? a = some o) (nd : ∀ es ep, o.data ≠ .dict es ep) : a ≠ sysModules := fun z => by
  obtain ⟨o', es, ep, e', d⟩ := hs
  rw [z, e'] at e
  cases e
  exact nd _ _ d
mutual
theorem Is.rd (I : Inv X pins σ H s) (hs : SysD s.heap) : ∀ (d : D) (v : V) (u : Value) (y : PyData), Is X.K W H d v → toPyR d = some y → RelV v u → ∃ as, Reads s.heap u y as ∧ sysModules ∉ as
  | .non, v, u, y, h, e, r => by cases e; cases (show v = _ from h); cases r; exact ⟨_, Reads.none, by simp⟩
  | .bl b, v, u, y, h, e, r => by cases e; cases (show v = _ from h); cases r; exact ⟨_, Reads.bool b, by simp⟩
  | .int i, v, u, y, h, e, r => by cases e; cases (show v = _ from h); obtain ⟨t, rfl⟩ := r; exact ⟨_, Reads.int i t, by simp⟩
  | .str x, v, u, y, h, e, r => by cases e; cases (show v = _ from h); obtain ⟨t, rfl⟩ := r; exact ⟨_, Reads.str x t, by simp⟩
  | .tup l, v, u, y, h, e, r => by
    simp only [toPyR, Option.map_eq_some_iff] at e
    obtain ⟨ys, e, rfl⟩ := e
    obtain ⟨a, xs, rfl, ha, _, il⟩ := h
    cases r
    obtain ⟨its, rv, ⟨o, ho, hc, n, hd⟩, _⟩ := I.tuple (SqT.of ha)
    obtain ⟨as, hr, ns⟩ := IsL.rd I hs l xs its ys il e rv
    exact ⟨_, Reads.tuple ho hc hd hr, ns⟩
  | .lst l, v, u, y, h, e, r => by
    simp only [toPyR, Option.map_eq_some_iff] at e
    obtain ⟨ys, e, rfl⟩ := e
    obtain ⟨a, xs, rfl, ha, _, il⟩ := h
    cases r
    obtain ⟨its, rv, ⟨o, n, ho, hc, _, hd⟩, _⟩ := I.list (SqL.of ha)
    obtain ⟨as, hr, ns⟩ := IsL.rd I hs l xs its ys il e rv
    refine ⟨_, Reads.list ho hc hd hr, fun z => ?_⟩
    rcases List.mem_cons.mp z with z | z
    · exact not_sys hs ho (fun es ep q => by rw [hd] at q; cases q) z.symm
    · exact ns z
  | .dct l, v, u, y, h, e, r => by
    simp only [toPyR, Option.map_eq_some_iff] at e
    obtain ⟨ys, e, rfl⟩ := e
    obtain ⟨a, xs, rfl, ha, _, il⟩ := h
    cases r
    obtain ⟨_, na, vs, kv, o, es, ep, ho, hx, hd, _, hp, _⟩ := I.hok a _ ha
    obtain ⟨as, bs, h1, h2, n1, n2⟩ := IsP.rd I hs l xs es.toList vs ys il e kv hp
    refine ⟨_, Reads.dict ho hx.1 hd h1 h2, fun z => ?_⟩
    rcases List.mem_append.mp z with z | z
    · rcases List.mem_cons.mp z with z | z
      · rw [← z] at na
        simp at na
      · exact n1 z
    · exact n2 z
  | .dcT l, v, u, y, h, e, r => by cases e
  | .ro l, v, u, y, h, e, r => by cases e
  | .opq l, v, u, y, h, e, r => by cases e
theorem IsL.rd (I : Inv X pins σ H s) (hs : SysD s.heap) : ∀ (l : List D) (xs : List V) (us : List Value) (ys : List PyData), IsL X.K W H l xs → toPysR l = some ys → Vals xs us → ∃ as, ReadsAll s.heap us ys as ∧ sysModules ∉ as
  | [], xs, us, ys, h, e, r => by
    cases e
    rw [show xs = [] from h] at r
    cases r
    exact ⟨_, ReadsAll.nil, by simp⟩
  | d :: l, xs, us, ys, h, e, r => by
    obtain ⟨x, zs, rfl, h1, h2⟩ := h
    simp only [toPysR] at e
    cases e1 : toPyR d with
    | none => rw [e1] at e; cases e
    | some y1 =>
      cases e2 : toPysR l with
      | none => rw [e1, e2] at e; cases e
      | some y2 =>
        rw [e1, e2] at e
        cases e
        cases r with
        | cons r1 r2 =>
          obtain ⟨as, q1, n1⟩ := Is.rd I hs d x _ y1 h1 e1 r1
          obtain ⟨bs, q2, n2⟩ := IsL.rd I hs l zs _ y2 h2 e2 r2
          exact ⟨_, ReadsAll.cons q1 q2, fun z => (List.mem_append.mp z).elim n1 n2⟩
theorem IsP.rd (I : Inv X pins σ H s) (hs : SysD s.heap) : ∀ (l : List (Key × D)) (xs : List (Key × V)) (es : List DictEntry) (vs : List (Key × Value)) (ys : List (PyData × PyData)), IsP X.K W H l xs → toPyP l = some ys → KV xs vs → Pairs (mixKind X.prog X.w) es vs →
    ∃ as bs, ReadsAll s.heap (es.map (·.key)) (ys.map (·.1)) as ∧ ReadsAll s.heap (es.map (·.val)) (ys.map (·.2)) bs ∧ sysModules ∉ as ∧ sysModules ∉ bs
  | [], xs, es, vs, ys, h, e, r, p => by
    cases e
    rw [show xs = [] from h] at r
    cases r
    cases p
    exact ⟨_, _, ReadsAll.nil, ReadsAll.nil, by simp, by simp⟩
  | (k, d) :: l, xs, es, vs, ys, h, e, r, p => by
    obtain ⟨x, zs, rfl, h1, h2⟩ := h
    simp only [toPyP] at e
    cases e1 : toPyR d with
    | none => rw [e1] at e; cases e
    | some y1 =>
      cases e2 : toPyP l with
      | none => rw [e1, e2] at e; cases e
      | some y2 =>
        rw [e1, e2] at e
        cases e
        cases r with
        | cons r1 r2 =>
          cases p with
          | @cons en _ _ _ p1 p2 p3 =>
            obtain ⟨as, bs, q1, q2, n1, n2⟩ := IsP.rd I hs l zs _ _ y2 h2 e2 r2 p3
            obtain ⟨cs, q3, n3⟩ := Is.rd I hs d x _ y1 h1 e1 r1.2
            have hk : ∃ cs, Reads s.heap en.key (keyPy k) cs ∧ sysModules ∉ cs := by
              rw [← r1.1] at p1
              rcases keyIs_shape p1 with ⟨i, t, rfl, ek⟩ | ⟨z, t, rfl, ek⟩
              · exact ⟨[], ek ▸ Reads.int i t, by simp⟩
              · exact ⟨[], ek ▸ Reads.str z t, by simp⟩
            obtain ⟨ds, q4, n4⟩ := hk
            refine ⟨_, _, ReadsAll.cons q4 q1, ReadsAll.cons (by show Reads s.heap en.val y1 cs; rw [p2]; exact q3) q2, fun z => (List.mem_append.mp z).elim n4 n1, fun z => (List.mem_append.mp z).elim n3 n2⟩
end
variable {p : P} {ps : List P} {e : Expr} {pos pp : Pos} {k : Nat}
def rRepr2 (K : PySem.W.Frag) : List V → Hp → VK → Prop := fun xs H Q => ∃ x d y, xs = [x] ∧ Is K NoW H d x ∧ toPyR d = some y ∧ y.showable = true ∧ y.depth ≤ 60 ∧ y.shown.length ≤ sizeLine ∧ Q (.str y.shown) H
theorem call_repr2 (hr : Room k X.A) (hg : X.A.guards = some []) (hsys : SysD X.base) : CallR X (.builtin "repr") (rRepr2 X.K) := by
  intro pins s σ H xs us Q I r h
  obtain ⟨x, d, y, rfl, hd, h0, h1, h3, h4, q⟩ := h
  obtain ⟨u, rfl, ru⟩ := r.one
  have fin : ∀ t tk, EP X pins σ Q (.str y.shown t) { s with toks := tk } := fun t tk => ⟨.str y.shown, H, I.tok tk, ⟨t, rfl⟩, q⟩
  have hs : SysD s.heap := hsys.keeps I.bk
  have big : ∀ a, u = .ref a → wpAny (model X.prog X.w) X.A (call (.builtin "repr") [u]) (EP X pins σ Q) X.xe s := fun a e => by
    subst e
    obtain ⟨as, rr, ns⟩ := Is.rd I hs d x _ y hd h0 ru
    exact repr_of_reads' rr h1 (fun _ => ns) hg (by have := hr.units; omega) (fun _ _ e => e) (fun h' u tk hk => ⟨.str _, H, I.kept (t' := tk) hk, ⟨u, rfl⟩, q⟩) h4
  cases d with
  | non => cases h0; cases (show x = _ from hd); cases ru; exact PySem.P.repr_of_none (fin _ _)
  | bl b => cases h0; cases (show x = _ from hd); cases ru; exact PySem.P.repr_of_bool (fin _ _)
  | int i =>
    cases h0
    cases (show x = _ from hd)
    obtain ⟨t, rfl⟩ := ru
    exact PySem.P.repr_of_int (by simpa [PyData.showable] using h1) (fin _ _)
  | str z =>
    cases h0
    cases (show x = _ from hd)
    obtain ⟨t, rfl⟩ := ru
    exact PySem.P.repr_of_str (fin _ _) h4
  | lst l => obtain ⟨a, _, rfl, _⟩ := id hd; cases ru; exact big a rfl
  | tup l => obtain ⟨a, _, rfl, _⟩ := id hd; cases ru; exact big a rfl
  | dct l => obtain ⟨a, _, rfl, _⟩ := id hd; cases ru; exact big a rfl
  | dcT l => cases h0
  | ro l => cases h0
  | opq l => cases h0
def reprF2 : List D → Option V
  | [d] => match toPyR d with
    | some y => if y.showable && decide (y.depth ≤ 60) && decide (y.shown.length ≤ 16777216) then some (.str y.shown) else none
    | none => none
  | _ => none
theorem cal_repr2 : CalS X.K (rRepr2 X.K) reprF2 := fun H xs ds v Q h e q => by
  unfold reprF2 at e
  split at e
  · rename_i d
    split at e
    · rename_i y ey
      split at e
      · rename_i hz
        cases e
        simp only [Bool.and_eq_true, decide_eq_true_eq] at hz
        obtain ⟨x, rfl, hx⟩ := h.one
        exact ⟨x, d, y, rfl, hx, ey, hz.1.1, hz.1.2, by rw [sizeLine_eq]; exact hz.2, q⟩
      · cases e
    · cases e
  · cases e
theorem p_repr2 (hm : X.mg "repr" = none) (hr : Room k X.A) (hgd : X.A.guards = some []) (hsys : SysD X.base) (ha : ABk X [e] ps) (hg : Gl X "repr" := by rfl) (he : starEach [e] X.env = (false, eval e X.env) :: starEach [] X.env := by rfl) (hpl : (backTo pos (starEach [] X.env)).any (·.1) = false := by rfl) : POk X (.Call (.Name "repr" pp) [e] [] pos) (pCall reprF2 ps) :=
  p_callB (call_repr2 hr hgd hsys) cal_repr2 hg hm (by decide +kernel) ha (by decide) (by decide) he hpl
theorem e_repr2 {w : WX} {fs : List (M C)} (hm : X.mg "repr" = none) (hr : Room k X.A) (hgd : X.A.guards = some []) (hsys : SysD X.base) (ha : AMk X w [e] fs) (hg : Gl X "repr" := by rfl) (he : starEach [e] X.env = (false, eval e X.env) :: starEach [] X.env := by rfl) (hpl : (backTo pos (starEach [] X.env)).any (·.1) = false := by rfl) : EOk X w (.Call (.Name "repr" pp) [e] [] pos) (eCall reprF2 fs) :=
  e_callB (call_repr2 hr hgd hsys) cal_repr2 hg hm (by decide +kernel) ha (by decide) (by decide) he hpl
/-! ### x in (a, b, ..) of scalars -/
def vD : D → Option V
  | .non => some .non
  | .bl b => some (.bl b)
  | .int i => some (.int i)
  | .str x => some (.str x)
  | _ => none
theorem vD_is {K : PySem.W.Frag} {W : Addr → Prop} {d : D} {v x : V} (h : vD d = some v) (i : Is K W H d x) : x = v ∧ flatV v = true := by
  cases d <;> simp [vD] at h <;> subst h <;> exact ⟨i, rfl⟩
def vDs : List D → Option (List V)
  | [] => some []
  | d :: r => match vD d, vDs r with
    | some v, some vs => some (v :: vs)
    | _, _ => none
theorem vDs_is {K : PySem.W.Frag} {W : Addr → Prop} : ∀ {l : List D} {vs xs : List V}, vDs l = some vs → IsL K W H l xs → xs = vs ∧ vs.all flatV = true
  | [], vs, xs, h, i => by cases h; exact ⟨i, rfl⟩
  | d :: r, vs, xs, h, i => by
    obtain ⟨x, ys, rfl, i1, i2⟩ := i
    simp only [vDs] at h
    cases e1 : vD d with
    | none => rw [e1] at h; cases h
    | some v =>
      cases e2 : vDs r with
      | none => rw [e1, e2] at h; cases h
      | some ws =>
        rw [e1, e2] at h
        cases h
        obtain ⟨rfl, f1⟩ := vD_is e1 i1
        obtain ⟨rfl, f2⟩ := vDs_is e2 i2
        exact ⟨rfl, by simp [f1, f2]⟩
def sqV (d : D) : Option (List V) := match d with
  | .lst l => vDs l
  | .tup l => vDs l
  | _ => none
def inF (neg : Bool) (a b : D) : Option V := match vD a, sqV b with
  | some v, some vs => some (.bl (if neg then !L2.inV v vs else L2.inV v vs))
  | _, _ => none
theorem pure_in {K : PySem.W.Frag} {neg : Bool} : PureS K (rIn K neg) (inF neg) := fun H x y d1 d2 v Q h1 h2 e q => by
  unfold inF at e
  split at e
  · rename_i v1 vs e1 e2
    cases e
    obtain ⟨rfl, f1⟩ := vD_is e1 h1
    unfold sqV at e2
    split at e2
    · obtain ⟨p, xs, rfl, hp, _, il⟩ := h2
      obtain ⟨rfl, f2⟩ := vDs_is e2 il
      exact ⟨p, _, rfl, .inl (SqL.of hp), f1, f2, q⟩
    · obtain ⟨p, xs, rfl, hp, _, il⟩ := h2
      obtain ⟨rfl, f2⟩ := vDs_is e2 il
      exact ⟨p, _, rfl, .inr (SqT.of hp), f1, f2, q⟩
    · cases e2
  · cases e
variable {a b : Expr} {q : P}
theorem p_in (ha : BOk X a p) (hb : BOk X b q) (hm : behindInMarks .In b = false := by rfl) : POk X (.Compare a [.In] [b] pos) (pOp (inF false) p q) := p_cmp op_in_seq pure_in hm ha hb
theorem p_nin (ha : BOk X a p) (hb : BOk X b q) (hm : behindInMarks .NotIn b = false := by rfl) : POk X (.Compare a [.NotIn] [b] pos) (pOp (inF true) p q) := p_cmp op_notIn_seq pure_in hm ha hb
theorem q_in (ha : BOk X a p) (hb : BOk X b q) (hm : behindInMarks .In b = false := by rfl) : QOk X (.Compare a [.In] [b] pos) (qOf (pOp (inF false) p q)) := q_cmp op_in_seq pure_in hm ha hb
theorem q_nin (ha : BOk X a p) (hb : BOk X b q) (hm : behindInMarks .NotIn b = false := by rfl) : QOk X (.Compare a [.NotIn] [b] pos) (qOf (pOp (inF true) p q)) := q_cmp op_notIn_seq pure_in hm ha hb
end
end PL
/-! ### zip over two sequences, lists or tuples -/
namespace PL
open PySem PySem.Spec PyProof.Rows L2
/-- t: a tuple -/
def SqK (t : Bool) (K : PySem.W.Frag) (H : Hp) (a : Addr) (xs : List V) : Prop := match t with
  | true => SqT K H a xs
  | false => SqL K H a xs
def ItAt (t : Bool) (it a : Addr) (i : Nat) (h : Heap) : Prop := match t with
  | true => h.IsTupleIter it a i
  | false => h.IsListIter it a i
def HasIt (t : Bool) (h : Heap) (a : Addr) (items : Array Value) : Prop := match t with
  | true => h.IsTuple a items
  | false => h.IsList a items
theorem ItAt.obj {t : Bool} {it a : Addr} {i : Nat} {h : Heap} (x : ItAt t it a i h) : ∃ o, h.get? it = some o ∧ ∀ v, o.data ≠ .cell v := by
  cases t <;> (obtain ⟨o, e, _, d⟩ := x; exact ⟨o, e, fun v q => by rw [d] at q; cases q⟩)
theorem ItAt.at {t : Bool} {it a : Addr} {i : Nat} {h h' : Heap} (x : ItAt t it a i h) (k : ∀ o, h.get? it = some o → h'.get? it = some o) : ItAt t it a i h' := by
  cases t
  · exact Heap.IsListIter.at x k
  · exact Heap.IsTupleIter.at x k
theorem drawsK {prog : Program} {w : World} {A : Around} (hh : A.handled = none) (t : Bool) (it a : Addr) (ne : a ≠ it) (items : Array Value) :
    Draws prog w A it [it, a] items.size (fun i v => items[i]? = some v) (fun i h => ItAt t it a i h ∧ HasIt t h a items) := by
  cases t
  · exact Draws.list hh it a ne items
  · exact Draws.tuple hh it a ne items
theorem inv_sq {X : Cx} {pins : List (Addr × Obj)} {σ : L2.St} {H : Hp} {s : Shared} {t : Bool} {a : Addr} {xs : List V} (I : Inv X pins σ H s) (h : SqK t X.K H a xs) : ∃ its, Vals xs its ∧ HasIt t s.heap a its.toArray := by
  cases t
  · obtain ⟨its, rv, p, _⟩ := I.list h; exact ⟨its, rv, p.isList⟩
  · obtain ⟨its, rv, p, _⟩ := I.tuple h; exact ⟨its, rv, p⟩
theorem inv_sq_inj {X : Cx} {pins : List (Addr × Obj)} {σ : L2.St} {H : Hp} {s : Shared} {t : Bool} {a : Addr} {xs ys : List V} (I : Inv X pins σ H s) (h : SqK t X.K H a xs) (h' : SqK t X.K H a ys) : xs = ys := by
  cases t
  · exact I.list_inj h h'
  · exact I.tuple_inj h h'
theorem HasIt.lt {t : Bool} {h : Heap} {a : Addr} {items : Array Value} (x : HasIt t h a items) : a < h.objs.size := by
  cases t <;> (obtain ⟨o, e, _⟩ := x; exact Heap.lt_size e)
def ItzS (K : PySem.W.Frag) (t1 t2 : Bool) (a b : Addr) : It :=
  ⟨fun i H => ∃ (xs ys : List V) (x y : V), SqK t1 K H a xs ∧ SqK t2 K H b ys ∧ xs[i]? = some x ∧ ys[i]? = some y,
    fun i H v H' => ∃ T x y, v = .ref T ∧ H T = none ∧ H' = upd H T (.tup [x, y]) ∧ (∀ xs, SqK t1 K H a xs → xs[i]? = some x) ∧ ∀ ys, SqK t2 K H b ys → ys[i]? = some y,
    fun i H => ∃ xs ys : List V, SqK t1 K H a xs ∧ SqK t2 K H b ys ∧ i ≤ xs.length ∧ i ≤ ys.length ∧ (xs.length = i ∨ ys.length = i)⟩
theorem zip_sep {n a b : Addr} (ha : a < n) (hb : b < n) : ZipSep2 (n + 4) (n + 2) (n + 3) n (n + 1) [n, a] [n + 1, b] := by
  have e : ∀ (p q : Nat), p ≠ q → (p : Addr) ≠ q := fun _ _ h => h
  have ha' : (a : Nat) < n := ha
  have hb' : (b : Nat) < n := hb
  refine ⟨?_, ?_, ?_, ?_, by simp, ?_, ?_, ?_, by simp, ?_, ?_, ?_, ?_⟩
  · exact Nat.ne_of_lt (Nat.add_lt_add_left (by decide) n)
  · exact Nat.ne_of_lt (Nat.add_lt_add_left (by decide) n)
  · exact Nat.ne_of_lt (Nat.add_lt_add_left (by decide) n)
  · exact Nat.ne_of_gt (Nat.lt_add_of_pos_right (by decide))
  · intro z
    rcases List.mem_cons.mp z with z | z
    · exact absurd z (Nat.ne_of_gt (Nat.lt_add_of_pos_right (by decide)))
    · exact absurd (List.mem_singleton.mp z) (Nat.ne_of_gt (Nat.lt_of_lt_of_le ha (Nat.le_add_right _ _)))
  · intro z
    rcases List.mem_cons.mp z with z | z
    · exact absurd z (Nat.ne_of_gt (Nat.lt_add_of_pos_right (by decide)))
    · exact absurd (List.mem_singleton.mp z) (Nat.ne_of_gt (Nat.lt_of_lt_of_le ha (Nat.le_add_right _ _)))
  · exact Nat.ne_of_gt (Nat.add_lt_add_left (by decide) n)
  · intro z
    rcases List.mem_cons.mp z with z | z
    · exact absurd z (Nat.ne_of_gt (Nat.add_lt_add_left (by decide) n))
    · exact absurd (List.mem_singleton.mp z) (Nat.ne_of_gt (Nat.lt_of_lt_of_le hb (Nat.le_add_right _ _)))
  · intro z
    rcases List.mem_cons.mp z with z | z
    · exact absurd z (Nat.ne_of_gt (Nat.add_lt_add_left (by decide) n))
    · exact absurd (List.mem_singleton.mp z) (Nat.ne_of_gt (Nat.lt_of_lt_of_le hb (Nat.le_add_right _ _)))
  · intro z
    rcases List.mem_cons.mp z with z | z
    · exact absurd z (Nat.ne_of_lt (Nat.lt_add_of_pos_right (by decide)))
    · exact absurd (List.mem_singleton.mp z) (Nat.ne_of_gt hb)
  · intro z
    rcases List.mem_cons.mp z with z | z
    · exact absurd z (Nat.ne_of_gt (Nat.lt_add_of_pos_right (by decide)))
    · exact absurd (List.mem_singleton.mp z) (Nat.ne_of_gt (Nat.lt_of_lt_of_le ha (Nat.le_add_right _ _)))
theorem zip_turnS {P : Program} {w : World} {K : PySem.W.Frag} {elts : List Expr} {kk : Nat} {tpos : Pos} {t1 t2 : Bool} {a b n : Addr} (ha : a < n) (hb : b < n) :
    Turn P w K (.Tuple elts kk tpos) (ItzS K t1 t2 a b) [n + 4, n + 2, n + 3, n, n + 1] (n + 4) (fun i h => IsZip h (n + 4) (n + 2) (n + 3) .none ∧ IsTupOf2 h (n + 2) (.ref n) (.ref (n + 1)) ∧ (∃ x y, IsTupOf2 h (n + 3) x y) ∧ ItAt t1 n a i h ∧ ItAt t2 (n + 1) b i h) where
  mem := List.mem_cons_self
  obj := fun i h hst c hc => by
    obtain ⟨q1, q2, ⟨x, y, q3⟩, q4, q5⟩ := hst
    simp only [List.mem_cons, List.not_mem_nil, or_false] at hc
    rcases hc with z | z | z | z | z <;> rw [z]
    · exact ⟨_, q1, fun v y => by cases y⟩
    · exact ⟨_, q2, fun v y => by cases y⟩
    · exact ⟨_, q3, fun v y => by cases y⟩
    · exact q4.obj
    · exact q5.obj
  keep := fun i h h' hst k => by
    obtain ⟨q1, q2, ⟨x, y, q3⟩, q4, q5⟩ := hst
    exact ⟨k _ (by simp) _ q1, k _ (by simp) _ q2, ⟨x, y, k _ (by simp) _ q3⟩, q4.at fun o z => k _ (by simp) o z, q5.at fun o z => k _ (by simp) o z⟩
  item := by
    intro X hP hw hK hc i pins s σ H E I hf hst hgo
    subst hP hw hK
    obtain ⟨q1, q2, ⟨x0, y0, q3⟩, q4, q5⟩ := hst
    obtain ⟨xs, ys, x, y, hqx, hqy, hx, hy⟩ := hgo
    obtain ⟨us, rv, p1⟩ := inv_sq I hqx
    obtain ⟨ws, rw2, p2⟩ := inv_sq I hqy
    obtain ⟨u, hu, ru⟩ := rv.get hx
    obtain ⟨u2, hu2, ru2⟩ := rw2.get hy
    have S := zip_sep (n := n) ha hb
    have lz : n + 4 < s.heap.objs.size := Heap.lt_size q1
    have D1 := drawsK (prog := X.prog) (w := X.w) (A := X.A.in1) (I.ok.hd hc) t1 n a (Nat.ne_of_lt ha) us.toArray
    have D2 := drawsK (prog := X.prog) (w := X.w) (A := X.A.in1) (I.ok.hd hc) t2 (n + 1) b (Nat.ne_of_lt (Nat.lt_of_lt_of_le hb (Nat.le_add_right _ _))) ws.toArray
    have lt1 : i < us.toArray.size := by have := (List.getElem?_eq_some_iff.mp hu).1; simpa using this
    have lt2 : i < ws.toArray.size := by have := (List.getElem?_eq_some_iff.mp hu2).1; simpa using this
    refine wpAny_pyNext_zipD2_item S D1 D2 q1 q2 q3 ⟨q4, p1⟩ ⟨q5, p2⟩ lt1 lt2 fun z1 z2 h' tk e1 e2 k1 k2 k3 k4 k5 k6 k7 => ?_
    have e1' : us.toArray[i]? = some z1 := e1
    have e2' : ws.toArray[i]? = some z2 := e2
    rw [show us.toArray[i]? = us[i]? by simp, hu] at e1'
    rw [show ws.toArray[i]? = ws[i]? by simp, hu2] at e2'
    cases e1'
    cases e2'
    refine ⟨_, rfl, wpAny_letOwnedTupleGo_zip (s := { s with heap := h', toks := tk }) k1 fun h2 hz2 sb => ?_⟩
    have nt : s.heap.objs.size ≠ n + 4 := Nat.ne_of_gt lz
    have t2' : h2.get? s.heap.objs.size = some { cls := .type "tuple", data := .seq #[u, u2] } := (sb.2 _ nt).trans k5
    have nw : ObjOk X.prog X.w (upd H s.heap.objs.size (.tup [x, y])) h2 s.heap.objs.size (.tup [x, y]) :=
      ⟨by show 2 ≤ sizeLine; decide, [u, u2], .cons ru (.cons ru2 .nil), ⟨_, t2', rfl, _, rfl⟩⟩
    have J : Inv X pins σ (upd H s.heap.objs.size (.tup [x, y])) { s with heap := h2, toks := tk } :=
      I.turnedNew (ch := [n + 4, n + 2, n + 3, n, n + 1]) (fun c o hcn z => (sb.2 c fun y => hcn (by simp [y])).trans (k7 c o (fun y => hcn (by simp [y])) (fun y => hcn (by simp [y])) (fun y => hcn (by simp [y])) (fun y => hcn (by simp [y])) z)) hf (Nat.le_refl _) nw
    refine ⟨.ref s.heap.objs.size, _, J, rfl, ⟨_, x, y, rfl, I.hok.fresh (Nat.le_refl _), rfl, fun l hl => by rw [inv_sq_inj I hl hqx]; exact hx, fun l hl => by rw [inv_sq_inj I hl hqy]; exact hy⟩, ⟨hz2, ?_, ⟨u, u2, ?_⟩, ?_, ?_⟩, fun c hcm => ?_⟩
    · exact (sb.2 _ S.TIz).trans (k7 _ _ S.TIz S.TITO S.TIi1 S.TIi2 q2)
    · exact (sb.2 _ S.TOz).trans k2
    · exact k3.1.at fun o z => (sb.2 _ (Ne.symm S.zi1)).trans z
    · exact k4.1.at fun o z => (sb.2 _ (Ne.symm S.zi2)).trans z
    · have lt : c < s.heap.objs.size := by
        simp only [List.mem_cons, List.not_mem_nil, or_false] at hcm
        rcases hcm with z | z | z | z | z <;> rw [z]
        · exact lz
        · exact Heap.lt_size q2
        · exact Heap.lt_size q3
        · obtain ⟨_, z, _⟩ := q4.obj; exact Heap.lt_size z
        · obtain ⟨_, z, _⟩ := q5.obj; exact Heap.lt_size z
      rw [upd_ne (Nat.ne_of_lt lt)]
      exact (hf c hcm).1
  done := by
    intro X hP hw hK hc i pins s σ H E I hf hst hstop
    subst hP hw hK
    obtain ⟨q1, q2, ⟨x0, y0, q3⟩, q4, q5⟩ := hst
    obtain ⟨xs, ys, hqx, hqy, l1, l2, hend⟩ := hstop
    obtain ⟨us, rv, p1⟩ := inv_sq I hqx
    obtain ⟨ws, rw2, p2⟩ := inv_sq I hqy
    have S := zip_sep (n := n) ha hb
    have D1 := drawsK (prog := X.prog) (w := X.w) (A := X.A.in1) (I.ok.hd hc) t1 n a (Nat.ne_of_lt ha) us.toArray
    have D2 := drawsK (prog := X.prog) (w := X.w) (A := X.A.in1) (I.ok.hd hc) t2 (n + 1) b (Nat.ne_of_lt (Nat.lt_of_lt_of_le hb (Nat.le_add_right _ _))) ws.toArray
    have m1 := rv.length
    have m2 := rw2.length
    refine wpAny_pyNext_zipD2_end S D1 D2 q1 q2 q3 ⟨q4, p1⟩ ⟨q5, p2⟩ (by simp; omega) (by simp; omega) (by simp; omega) fun h' tk hk => ⟨rfl, I.turnedL (ch := [n + 4, n + 2, n + 3, n, n + 1]) (fun c o hcn z =>
      hk c o (fun y => hcn (by simp [y])) (fun y => hcn (by simp [y])) (fun y => hcn (by simp [y])) (fun y => hcn (by simp [y])) z) hf⟩
  self := fun A i s Q E hst h => wpAny_pyIter_zip hst.1 h
end PL
namespace PL
open PySem PySem.Spec PyProof.Rows L2
def iterObj (t : Bool) (a : Addr) : Obj := match t with
  | true => { cls := .type "tuple_iterator", data := .fields #[.ref a, .int 0 0] }
  | false => { cls := .type "list_iterator", data := .fields #[.ref a, .int 0 0] }
theorem beginsK (t : Bool) (a : Addr) (items : Array Value) : Begins (.ref a) (iterObj t a) fun h => HasIt t h a items := by
  cases t
  · exact begins_list a items
  · exact begins_tuple a items
theorem itAt0 {t : Bool} {it a : Addr} {h : Heap} (e : h.get? it = some (iterObj t a)) : ItAt t it a 0 h := by
  cases t <;> exact ⟨_, e, rfl, rfl⟩
def iZipS (K : PySem.W.Frag) (ta : TA) : TI := fun σ H R => ta σ H fun vs H1 => ∃ t1 t2 a b xs ys, vs = [.ref a, .ref b] ∧ SqK t1 K H1 a xs ∧ SqK t2 K H1 b ys ∧ R (ItzS K t1 t2 a b) H1
theorem pi_zipS {X : Cx} {e e2 : Expr} {ta : TA} {p pos tpos : Pos} {elts : List Expr} {kk : Nat} (hg : Gl X "zip") (hm : X.mg "zip" = none) (ha : PA X [e, e2] ta)
    (hs : starEach [e, e2] X.env = (false, eval e X.env) :: starEach [e2] X.env := by rfl) (hpl : (backTo pos (starEach [e2] X.env)).any (·.1) = false := by rfl) :
    PI X (.Tuple elts kk tpos) (.Call (.Name "zip" p) [e, e2] [] pos) (iZipS X.K ta) := ⟨fun pins s σ H R I h => by
  refine Call_ (ld_blt I hg hm PyProof.Rows.boot_zip (PyProof.Rows.callWith_type1 (thn (ha.run pos pins s σ H _ I h) fun us s1 ⟨vs, H1, I1, r1, q1⟩ => ?_) hs hpl))
  obtain ⟨t1, t2, a, b, xs, ys, rfl, hqx, hqy, q⟩ := q1
  obtain ⟨u1, u2, rfl, ra, rb⟩ := vals2 r1
  cases ra
  cases rb
  obtain ⟨us, rv, p1⟩ := inv_sq I1 hqx
  obtain ⟨ws, rw2, p2⟩ := inv_sq I1 hqy
  refine zip_begins2 (beginsK t1 a us.toArray) (beginsK t2 b ws.toArray) p1 p2 fun h' hz hTI hTO e1 e2 hsz hk => wpAny_pyIter_zip hz ?_
  have J : Inv X pins σ H1 { s1 with heap := h' } := I1.kept (t' := s1.toks) hk
  refine ⟨s1.heap.objs.size + 4, [s1.heap.objs.size + 4, s1.heap.objs.size + 2, s1.heap.objs.size + 3, s1.heap.objs.size, s1.heap.objs.size + 1], _, _, H1, rfl, J, zip_turnS p1.lt p2.lt, ⟨hz, hTI, ⟨_, _, hTO⟩, itAt0 e1, itAt0 e2⟩, fun c hcm => ?_, q⟩
  have hle : s1.heap.objs.size ≤ c := by
    simp only [List.mem_cons, List.not_mem_nil, or_false] at hcm
    rcases hcm with z | z | z | z | z <;> rw [z]
    · exact Nat.le_add_right _ _
    · exact Nat.le_add_right _ _
    · exact Nat.le_add_right _ _
    · exact Nat.le_refl _
    · exact Nat.le_add_right _ _
  exact I1.fpOk hle (I1.hok.fresh hle)⟩
theorem walkD_zipS {K : PySem.W.Frag} {W : Addr → Prop} {H : Hp} {t1 t2 : Bool} {a b : Addr} {xs ys : List V} {l m : List D} (q1 : ∀ H2, H2 a = H a → SqK t1 K H2 a xs) (q2 : ∀ H2, H2 b = H b → SqK t2 K H2 b ys) (ha : ∃ o, H a = some o) (hb : ∃ o, H b = some o) (na : ¬ W a) (nb : ¬ W b) (il : IsL K W H l xs) (im : IsL K W H m ys) : WalkD K W H (ItzS K t1 t2 a b) (zipD l m) := fun W2 H2 kp tr => by
  obtain ⟨oa, ea⟩ := ha
  obtain ⟨ob, eb⟩ := hb
  have ga : H2 a = H a := (kp a _ na ea).1.trans ea.symm
  have gb : H2 b = H b := (kp b _ nb eb).1.trans eb.symm
  have i2 := IsL.kp kp _ _ il
  have i3 := IsL.kp kp _ _ im
  have hl := il.length
  have hm := im.length
  rw [zipD_length]
  refine ⟨fun i hi => ⟨xs, ys, xs[i]'(by omega), ys[i]'(by omega), q1 H2 ga, q2 H2 gb, by simp, by simp⟩, ⟨xs, ys, q1 H2 ga, q2 H2 gb, by omega, by omega, by omega⟩, fun i x H3 hi y => ?_⟩
  obtain ⟨T, z, u, rfl, hT, rfl, y1, y2⟩ := y
  have g1 : Grw H2 (upd H2 T (.tup [z, u])) := fun b o e => by rw [upd_ne (ne_of_none e hT)]; exact e
  refine ⟨g1, _, zipD_get (List.getElem?_eq_getElem (by omega : i < l.length)) (List.getElem?_eq_getElem (by omega : i < m.length)), T, _, rfl, upd_same, fun q => ?_, ?_⟩
  · obtain ⟨u, e⟩ := tr T q; rw [hT] at e; cases e
  · obtain ⟨x', e, h⟩ := i2.get (List.getElem?_eq_getElem (by omega : i < l.length))
    obtain ⟨y', e', h'⟩ := i3.get (List.getElem?_eq_getElem (by omega : i < m.length))
    rw [y1 xs (q1 H2 ga)] at e
    rw [y2 ys (q2 H2 gb)] at e'
    cases e
    cases e'
    exact ⟨_, _, rfl, h.grw g1, _, _, rfl, h'.grw g1, rfl⟩
section
variable {X : Cx} {w : WX} {H : Hp} {σ : L2.St} {p q : P} {K : PySem.W.Frag} {B : Addr → Prop} {O : List Addr} {env : Slots} {tg : Expr} {kk : Nat} {tpos : Pos} {elts : List Expr}
/-- a frozen sequence's value, as a walk sees it -/
theorem Is.seq {W : Addr → Prop} {d : D} {v : V} {l : List D} (h : Is K W H d v) (e : sqD d = some l) : ∃ (t : Bool) (a : Addr) (xs : List V), v = .ref a ∧ (∃ o, H a = some o) ∧ ¬ W a ∧ IsL K W H l xs ∧ ∀ H2 : Hp, H2 a = H a → SqK t K H2 a xs := by
  cases d with
  | lst l' =>
    cases e
    obtain ⟨a, xs, rfl, ha, nw, il⟩ := h
    exact ⟨false, a, xs, rfl, ⟨_, ha⟩, nw, il, fun H2 e => SqL.of (e.trans ha)⟩
  | tup l' =>
    cases e
    obtain ⟨a, xs, rfl, ha, nw, il⟩ := h
    exact ⟨true, a, xs, rfl, ⟨_, ha⟩, nw, il, fun H2 e => SqT.of (e.trans ha)⟩
  | _ => cases e
def zipS (p q : P) : PLs := fun env => match (p env).bind sqD, (q env).bind sqD with
  | some l, some m => some (zipD l m)
  | _, _ => none
theorem iG_zipS {a b : Expr} {pa pb : Pos} (hg : Gl X "zip") (hm : X.mg "zip" = none) (ha : POk X a p) (hb : POk X b q) (hs : starEach [a, b] X.env = (false, eval a X.env) :: starEach [b] X.env := by rfl) (hs2 : starEach [b] X.env = (false, eval b X.env) :: starEach [] X.env := by rfl) (hpl : (backTo pb (starEach [b] X.env)).any (·.1) = false := by rfl) :
    IGk X (.Tuple elts kk tpos) (.Call (.Name "zip" pa) [a, b] [] pb) (zipS p q) := (pi_zipS hg hm (pa_cons ha (pa_cons hb pa_nil hs2) hs) hs hpl).imp fun σ H R hr => by
  obtain ⟨B, env, O, s, l, hp, hr⟩ := hr
  unfold zipS at hp
  split at hp
  · rename_i l1 l2 e1 e2
    cases hp
    simp only [Option.bind_eq_some_iff] at e1 e2
    obtain ⟨d1, e1, s1⟩ := e1
    obtain ⟨d2, e2, s2⟩ := e2
    refine ⟨B, env, O, s, d1, e1, fun v H1 g1 h1 => ⟨B, env, O, s.grw g1, d2, e2, fun u H2 g2 h2 => ?_⟩⟩
    obtain ⟨t1, a1, xs, rfl, ta, na, il, k1⟩ := (h1.grw g2).seq s1
    obtain ⟨t2, a2, ys, rfl, tb, nb, im, k2⟩ := h2.seq s2
    exact ⟨t1, t2, a1, a2, xs, ys, rfl, k1 H2 rfl, k2 H2 rfl, hr _ H2 (g1.trans g2) (walkD_zipS k1 k2 ta tb na nb il im).g⟩
  · cases hp
theorem iD_zipS {a b : Expr} {pa pb : Pos} (hg : Gl X "zip") (hm : X.mg "zip" = none) (ha : POk X a p) (hb : POk X b q) (hs : starEach [a, b] X.env = (false, eval a X.env) :: starEach [b] X.env := by rfl) (hs2 : starEach [b] X.env = (false, eval b X.env) :: starEach [] X.env := by rfl) (hpl : (backTo pb (starEach [b] X.env)).any (·.1) = false := by rfl) :
    IDk X w (.Tuple elts kk tpos) (.Call (.Name "zip" pa) [a, b] [] pb) (mP (zipS p q)) := (pi_zipS hg hm (pa_cons ha (pa_cons hb pa_nil hs2) hs) hs hpl).imp fun σ H R hr => by
  obtain ⟨B, env, O, s, hr⟩ := hr
  unfold mP at hr
  cases hz : zipS p q env with
  | none => rw [hz] at hr; exact hr.elim
  | some l =>
    rw [hz] at hr
    simp only [] at hr
    unfold zipS at hz
    split at hz
    · rename_i l1 l2 e1 e2
      cases hz
      simp only [Option.bind_eq_some_iff] at e1 e2
      obtain ⟨d1, e1, s1⟩ := e1
      obtain ⟨d2, e2, s2⟩ := e2
      refine ⟨B, env, O, s, d1, e1, fun v H1 g1 h1 => ⟨B, env, O, s.grw g1, d2, e2, fun u H2 g2 h2 => ?_⟩⟩
      obtain ⟨t1, a1, xs, rfl, ta, na, il, k1⟩ := (h1.grw g2).seq s1
      obtain ⟨t2, a2, ys, rfl, tb, nb, im, k2⟩ := h2.seq s2
      exact ⟨t1, t2, a1, a2, xs, ys, rfl, k1 H2 rfl, k2 H2 rfl, hr _ H2 O (s.grw (g1.trans g2)) (s.grwF (g1.trans g2)) (walkD_zipS k1 k2 ta tb na nb il im)⟩
    · cases hz
end
end PL
/-! ### what repr tells of small data -/
namespace PL
open PySem PySem.Spec PyProof.Rows L2
mutual
def rok : D → Bool
  | .non => true
  | .bl _ => true
  | .int i => decide (i.natAbs < 10 ^ 26)
  | .str x => x.cps.toList.all fun c => decide (c < 4294967296)
  | .tup l => rokL l
  | .lst l => rokL l
  | .dct l => rokP l
  | _ => false
def rokL : List D → Bool
  | [] => true
  | d :: r => rok d && rokL r
def rokP : List (Key × D) → Bool
  | [] => true
  | (k, d) :: r => rok d && rokP r && (match k with | .inl i => decide (i.natAbs < 10 ^ 26) | .inr x => x.cps.toList.all fun c => decide (c < 4294967296))
end
mutual
theorem rok_py : ∀ {d : D}, rok d = true → ∃ y, toPyR d = some y ∧ y.showable = true ∧ y.leavesShort 30 = true
  | .non, h => ⟨_, rfl, by simp [PyData.showable], by simp [PyData.leavesShort]⟩
  | .bl b, h => ⟨_, rfl, by simp [PyData.showable], by simp [PyData.leavesShort]⟩
  | .int i, h => by
    have h := of_decide_eq_true h
    refine ⟨_, rfl, ?_, ?_⟩
    · have : i.natAbs.log2 < 1920 := by
        rcases Nat.eq_zero_or_pos i.natAbs with z | z
        · rw [z]; decide
        · exact (Nat.log2_lt (by omega)).mpr (Nat.lt_of_lt_of_le h (by decide))
      simpa [PyData.showable] using this
    · have e := int_text_length_le10 (k := 26) (by decide) h
      have e2 : (PyData.shown (.int i)).length ≤ 30 := by
        show (Str.ofString (toString i)).length ≤ 30
        rw [PySem.ofString_length]; omega
      simpa [PyData.leavesShort] using e2
  | .str x, h => ⟨_, rfl, by simp [PyData.showable], by
    have h : (x.cps.toList.all fun c => decide (c < 4294967296)) = true := h
    simpa [PyData.leavesShort] using h⟩
  | .tup l, h => by
    obtain ⟨ys, h1, h2, h3⟩ := rokL_py (l := l) h
    exact ⟨_, by simp only [toPyR, h1]; rfl, by simpa [PyData.showable] using h2, by simpa [PyData.leavesShort] using h3⟩
  | .lst l, h => by
    obtain ⟨ys, h1, h2, h3⟩ := rokL_py (l := l) h
    exact ⟨_, by simp only [toPyR, h1]; rfl, by simpa [PyData.showable] using h2, by simpa [PyData.leavesShort] using h3⟩
  | .dct l, h => by
    obtain ⟨ys, h1, h2, h3⟩ := rokP_py (l := l) h
    exact ⟨_, by simp only [toPyR, h1]; rfl, by simpa [PyData.showable] using h2, by simpa [PyData.leavesShort] using h3⟩
  | .dcT l, h => nomatch h
  | .ro l, h => nomatch h
  | .opq l, h => nomatch h
theorem rokL_py : ∀ {l : List D}, rokL l = true → ∃ ys, toPysR l = some ys ∧ PyData.showableAll ys = true ∧ PyData.leavesShortAll 30 ys = true
  | [], _ => ⟨[], rfl, by simp [PyData.showableAll], by simp [PyData.leavesShortAll]⟩
  | d :: r, h => by
    simp only [rokL, Bool.and_eq_true] at h
    obtain ⟨y, h1, h2, h3⟩ := rok_py h.1
    obtain ⟨ys, k1, k2, k3⟩ := rokL_py h.2
    exact ⟨y :: ys, by simp only [toPysR, h1, k1], by simp [PyData.showableAll, h2, k2], by simp [PyData.leavesShortAll, h3, k3]⟩
theorem rokP_py : ∀ {l : List (Key × D)}, rokP l = true → ∃ ys, toPyP l = some ys ∧ PyData.showableKv ys = true ∧ PyData.leavesShortKv 30 ys = true
  | [], _ => ⟨[], rfl, by simp [PyData.showableKv], by simp [PyData.leavesShortKv]⟩
  | (k, d) :: r, h => by
    simp only [rokP, Bool.and_eq_true] at h
    obtain ⟨y, h1, h2, h3⟩ := rok_py h.1.1
    obtain ⟨ys, k1, k2, k3⟩ := rokP_py h.1.2
    have hk : (keyPy k).showable = true ∧ (keyPy k).leavesShort 30 = true := by
      cases k with
      | inl i =>
        obtain ⟨y, e1, e2, e3⟩ := rok_py (d := .int i) h.2
        cases e1
        exact ⟨e2, e3⟩
      | inr x =>
        obtain ⟨y, e1, e2, e3⟩ := rok_py (d := .str x) h.2
        cases e1
        exact ⟨e2, e3⟩
    exact ⟨(keyPy k, y) :: ys, by simp only [toPyP, h1, k1], by simp [PyData.showableKv, h2, k2, hk.1], by simp [PyData.leavesShortKv, h3, k3, hk.2]⟩
end
/-- small: of a size and a depth that repr and == bear -/
def small (d : D) : Prop := ∃ y, toPyR d = some y ∧ y.weight ≤ 500000 ∧ y.depth ≤ 60
theorem repr_small {d : D} (h : rok d = true) (hs : small d) : ∃ s, reprF2 [d] = some (.str s) := by
  obtain ⟨y, h1, h2, h3⟩ := rok_py h
  obtain ⟨y', e1, e2, e3⟩ := hs
  rw [h1] at e1
  cases e1
  have := PyData.shown_le 30 (by decide) y h3
  refine ⟨y.shown, ?_⟩
  unfold reprF2
  simp only [h1]
  rw [if_pos]
  simp only [Bool.and_eq_true, decide_eq_true_eq]
  exact ⟨⟨h2, e3⟩, by omega⟩
end PL
/-! ### == and != where a text may hold any signs -/
namespace PL
open PySem PySem.Spec PyProof.Rows L2
def fitT (d : PyData) : Bool := d.plain && decide (d.depth ≤ 64)
def rEqT (K : PySem.W.Frag) : R2 := fun x y H Q => ∃ d e, Dp K H x d ∧ Dp K H y e ∧ fitT d = true ∧ fitT e = true ∧ Q (.bl (PyData.eqv d e)) H
def rNeT (K : PySem.W.Frag) : R2 := fun x y H Q => ∃ d e, Dp K H x d ∧ Dp K H y e ∧ fitT d = true ∧ fitT e = true ∧ Q (.bl (!PyData.eqv d e)) H
theorem fitT_room {A : Around} {d e : PyData} (h : fitT d = true) (hu : A.units + 64 < cLine) : A.units + min d.depth e.depth < cLine := by
  have h2 : d.depth ≤ 64 := of_decide_eq_true (Bool.and_eq_true_iff.mp h).2
  have h3 : min d.depth e.depth ≤ d.depth := Nat.min_le_left _ _
  omega
theorem op_eqT {X : Cx} (hu : X.A.units + 64 < cLine) : OpR X (compareOp .Eq) (rEqT X.K) := by
  intro pins s σ H x y v u Q I rx ry h
  obtain ⟨d, e, hd, he, sd, se, q⟩ := h
  obtain ⟨as, r1⟩ := Dp.reads I d x v hd rx
  obtain ⟨bs, r2⟩ := Dp.reads I e y u he ry
  exact SeqAt.eq_plain r1 r2 (Bool.and_eq_true_iff.mp sd).1 (Bool.and_eq_true_iff.mp se).1 (fitT_room sd hu) ⟨.bl _, H, I, rfl, q⟩
theorem op_neT {X : Cx} (hu : X.A.units + 64 < cLine) : OpR X (compareOp .NotEq) (rNeT X.K) := by
  intro pins s σ H x y v u Q I rx ry h
  obtain ⟨d, e, hd, he, sd, se, q⟩ := h
  obtain ⟨as, r1⟩ := Dp.reads I d x v hd rx
  obtain ⟨bs, r2⟩ := Dp.reads I e y u he ry
  exact SeqAt.ne_plain r1 r2 (Bool.and_eq_true_iff.mp sd).1 (Bool.and_eq_true_iff.mp se).1 (fitT_room sd hu) ⟨.bl _, H, I, rfl, q⟩
def eqDT (a b : D) : Option Bool := match toPy a, toPy b with
  | some x, some y => if fitT x && fitT y then some (PyData.eqv x y) else none
  | _, _ => none
def eqT' (a b : D) : Option V := (eqDT a b).map V.bl
def neT' (a b : D) : Option V := (eqDT a b).map fun c => V.bl !c
theorem eqDT_of {a b : D} {c : Bool} (h : eqDT a b = some c) : ∃ x y, toPy a = some x ∧ toPy b = some y ∧ fitT x = true ∧ fitT y = true ∧ c = PyData.eqv x y := by
  unfold eqDT at h
  split at h
  · rename_i x y e1 e2
    simp at h
    exact ⟨x, y, e1, e2, h.1.1, h.1.2, h.2.symm⟩
  · cases h
theorem pure_eqT {K} : PureS K (rEqT K) eqT' := fun H x y d1 d2 v Q h1 h2 e q => by
  unfold eqT' at e
  simp only [Option.map_eq_some_iff] at e
  obtain ⟨c, e, rfl⟩ := e
  obtain ⟨y1, y2, e1, e2, s1, s2, rfl⟩ := eqDT_of e
  exact ⟨y1, y2, toPy_dp _ _ _ h1 e1, toPy_dp _ _ _ h2 e2, s1, s2, q⟩
theorem pure_neT {K} : PureS K (rNeT K) neT' := fun H x y d1 d2 v Q h1 h2 e q => by
  unfold neT' at e
  simp only [Option.map_eq_some_iff] at e
  obtain ⟨c, e, rfl⟩ := e
  obtain ⟨y1, y2, e1, e2, s1, s2, rfl⟩ := eqDT_of e
  exact ⟨y1, y2, toPy_dp _ _ _ h1 e1, toPy_dp _ _ _ h2 e2, s1, s2, q⟩
section
variable {X : Cx} {p q : P} {pos : Pos} {a b : Expr} {k : Nat}
theorem p_eqT (hr : Room k X.A) (ha : BOk X a p) (hb : BOk X b q) : POk X (.Compare a [.Eq] [b] pos) (pOp eqT' p q) := p_cmp (op_eqT hr.units) pure_eqT (nomark _) ha hb
theorem p_neT (hr : Room k X.A) (ha : BOk X a p) (hb : BOk X b q) : POk X (.Compare a [.NotEq] [b] pos) (pOp neT' p q) := p_cmp (op_neT hr.units) pure_neT (nomark _) ha hb
theorem q_eqT (hr : Room k X.A) (ha : BOk X a p) (hb : BOk X b q) : QOk X (.Compare a [.Eq] [b] pos) (qOf (pOp eqT' p q)) := q_cmp (op_eqT hr.units) pure_eqT (nomark _) ha hb
theorem q_neT (hr : Room k X.A) (ha : BOk X a p) (hb : BOk X b q) : QOk X (.Compare a [.NotEq] [b] pos) (qOf (pOp neT' p q)) := q_cmp (op_neT hr.units) pure_neT (nomark _) ha hb
end
theorem eqDT_str (x y : Str) : eqDT (.str x) (.str y) = some (x == y) := by
  simp [eqDT, toPy, fitT, PyData.plain, PyData.depth, PyData.eqv]
end PL
namespace PL
open PySem PySem.Spec PyProof.Rows L2
section
variable {X : Cx} {w : WX} {H : Hp} {σ : L2.St} {e : Expr} {es : List Expr} {p q r : P} {ps : List P} {pos pp : Pos} {K : PySem.W.Frag} {mg : Str → Option Value} {B : Addr → Prop} {O : List Addr} {env : Slots} {k : Nat}
/-! ### a display and a call, only looked at: their parts stay one's own -/
theorem b_lst (h : ABk X es ps) (hz : ps.length ≤ 100000 := by decide) : BOk X (.List es pos) (pF (evPs ps)) := (pe_lst h).imp fun σ H Q h => by
  obtain ⟨B, env, O, s, d, hp, h⟩ := h
  unfold pF at hp
  simp only [Option.map_eq_some_iff] at hp
  obtain ⟨l, hp, rfl⟩ := hp
  refine ⟨B, env, O, s, l, hp, fun vs H1 g hv => ⟨?_, fun a ha => ?_⟩⟩
  · rw [hv.length, evPs_len hp, sizeLine_eq]; omega
  · have g1 : Grw H1 (upd H1 a (.lst vs)) := fun b o e => by rw [upd_ne (ne_of_none e ha)]; exact e
    exact h _ _ (g.trans g1) ⟨a, vs, rfl, upd_same, fun z => z.elim, hv.grw g1⟩
theorem b_fnN {x : Str} {st : Stmt} {qs : List Str} {m : List C → Out C} (F : FnM X.prog X.w X.K X.mg X.base k x st qs m) (bd : BindP x st qs) (hg : X.A.guards = some []) (hr : Room k X.A) (gl : Gl X x) (ha : ABk X (e :: es) ps) (hl : ps.length = qs.length := by rfl)
    (hdb : (x == ("__debug__" : Str)) = false := by decide) (he : starEach (e :: es) X.env = (false, eval e X.env) :: starEach es X.env := by rfl) (hpl : (backTo pos (starEach es X.env)).any (·.1) = false := by rfl) :
    BOk X (.Call (.Name x pp) (e :: es) [] pos) (pFn m ps) := by
  obtain ⟨f, kV, doc, pm, an, cdv, ct, hm, kp, G⟩ := F.ex
  refine ⟨fun pins s σ H Q I h => ?_⟩
  obtain ⟨B, env, O, st, d, hp, h⟩ := h
  unfold pFn at hp
  split at hp
  · rename_i ds e1
    split at hp
    · rename_i c outs e2
      cases hp
      have want : rdDB X ps σ H fun vs H1 => spM X.K X.mg qs.length m vs H1 Q E0 := ⟨B, env, O, st, ds, e1, fun vs H1 g1 hv => by
        have st0 : Stt X.K (fun _ => False) H1 [] [] [] := ⟨⟨rfl, rfl⟩, .nil, fun _ z => (nomatch z), fun _ z => z.elim⟩
        have hv' : IsL X.K (fun a => False ∨ a ∈ ([] : List Addr)) H1 ds vs := IsL.kp (fun a o w ha => ⟨ha, fun z => z.elim id fun z => nomatch z⟩) _ _ hv
        exact spM_pure st0 hv' e2 (by rw [evPs_len e1]; exact hl) fun v H' g2 hv => h v H' (g1.trans g2) hv.noW⟩
      refine wpAny_Call_Name_kw (ld_glob I gl hm ?_ hdb)
      refine PySem.W.callWith_K (h₀ := X.base) I.ok.mod.kin kp (thn (ha.run pos pins s σ H _ I want) ?_) he hpl
      rintro us s1 ⟨vs, H1, I1, r1, q1⟩
      exact ⟨I1.kIn, run_G G hg hr passX0 (.of_eq (bd kV doc pm an cdv ct us (r1.length.symm.trans q1.1))) I1 r1 q1⟩
    · cases hp
  · cases hp
/-! ### name = [.. for ..], the list being given up at once -/
theorem frz_of {f : M C} {σ : L2.St} {H : Hp} {Q : VK} (h : rdE X w (eFrz f) σ H Q) : rdE X w f σ H Q := by
  obtain ⟨B, env, O, s, h⟩ := h
  refine ⟨B, env, O, s, ?_⟩
  unfold eFrz at h
  cases ef : f env with
  | no => rw [ef] at h; exact h
  | err x e => rw [ef] at h; exact h
  | ok c e => rw [ef] at h; exact fun v H' A O' r => h v H' [] O' r.frz
theorem s_setCf {i : Nat} {y : Str} {py spos : Pos} {elt tg iter : Expr} {ifs : List Expr} {scope : Scope} {own : List (Str × Nat)} {js : List Nat} {t : Tg} {q : PB} {p : P} {src : PLs} {pn : List Nat} (hc : X.calm = true) (hN : X.N.Nodup) (hy : X.N[i]? = some y) (hyl : X.env.scope.names.lookup y = some .local)
    (hsw : swapsWith (.ListComp elt [⟨tg, iter, ifs, 0⟩] scope pos) (some (.Name y py)) spos.line X.env = pure true) (hi : IGk X tg iter src) (ok : BlkOk X.N X.env.scope scope own)
    (hg : ∀ (s : Shared) (H : Hp) (C : Addr) (cl : List (Str × Addr)) (fp : List Addr), GOk (X.blk s H scope (compEnvC scope cl C X.env) fp) true tg js t) (ht : ∀ (s : Shared) (H : Hp) (C : Addr) (cl : List (Str × Addr)) (fp : List Addr), TsOk (X.blk s H scope (compEnvC scope cl C X.env) fp) ifs q)
    (he : ∀ (s : Shared) (H : Hp) (C : Addr) (cl : List (Str × Addr)) (fp : List Addr), POk (X.blk s H scope (compEnvC scope cl C X.env) fp) elt p) (hj : ∀ j ∈ js, j ∈ own.map (·.2)) (hp : i ∉ pn := by decide) (hs : ∀ x, foldedSetIterable iter X.env x = pure x := by intro _; rfl) :
    SOk X w pn (.Assign [.Name y py] (.ListComp elt [⟨tg, iter, ifs, 0⟩] scope pos) spos) (sSet i (eFrz (eF (fComp (own.map (·.2)) t q p src)))) := ⟨fun pins s σ H D I h => (s_setLc (w := w) (pn := pn) hc hN hy hyl hsw hi ok hg ht he hj hs).run pins s σ H D I (by
  obtain ⟨B, env, O, st, h⟩ := h
  have q : rdE X w (eFrz (eF (fComp (own.map (·.2)) t q p src))) σ H (fun v H' => D.nx (σ.set i (some v)) H') := rdE_s st h fun c e v H' A O' r h => by
    obtain ⟨O2, s2, f2⟩ := r.put (i := i) (by rw [r.len, I.len]; exact lt_of_N hy)
    exact h _ H' O2 s2 f2 (Pin.set hp)
  exact eF_of σ H _ (frz_of q))⟩
theorem s_setCMf {i : Nat} {y : Str} {py spos : Pos} {elt tg iter : Expr} {ifs : List Expr} {scope : Scope} {own : List (Str × Nat)} {js : List Nat} {t : Tg} {q : PB} {f : M C} {src : M (List D)} {pn : List Nat} (hc : X.calm = true) (hN : X.N.Nodup) (hy : X.N[i]? = some y) (hyl : X.env.scope.names.lookup y = some .local)
    (hsw : swapsWith (.ListComp elt [⟨tg, iter, ifs, 0⟩] scope pos) (some (.Name y py)) spos.line X.env = pure true) (hi : IDk X w tg iter src) (ok : BlkOk X.N X.env.scope scope own)
    (hg : ∀ (s : Shared) (H : Hp) (C : Addr) (cl : List (Str × Addr)) (fp : List Addr), GOk (X.blk s H scope (compEnvC scope cl C X.env) fp) true tg js t) (ht : ∀ (s : Shared) (H : Hp) (C : Addr) (cl : List (Str × Addr)) (fp : List Addr), TsOk (X.blk s H scope (compEnvC scope cl C X.env) fp) ifs q)
    (he : ∀ (s : Shared) (H : Hp) (C : Addr) (cl : List (Str × Addr)) (fp : List Addr), EOk (X.blk s H scope (compEnvC scope cl C X.env) fp) wN elt f) (hj : ∀ j ∈ js, j ∈ own.map (·.2)) (hp : i ∉ pn := by decide) (hs : ∀ x, foldedSetIterable iter X.env x = pure x := by intro _; rfl) :
    SOk X w pn (.Assign [.Name y py] (.ListComp elt [⟨tg, iter, ifs, 0⟩] scope pos) spos) (sSet i (eFrz (eComp (own.map (·.2)) t q f src))) := ⟨fun pins s σ H D I h =>
  (ps_setLc (wi := rdID X w src) (g := rdG X true js t) (tt := rdQ X q) (te := rdE X wN f) hc hN hy hyl hsw hi ok hg ht he hs).run pins s σ H D I (lcM_of hj σ H _ (by
    obtain ⟨B, env, O, st, h⟩ := h
    have q := rdE_s st h (Q := fun v H' => D.nx (σ.set i (some v)) H') fun c e v H' A O' r h => by
      obtain ⟨O2, s2, f2⟩ := r.put (i := i) (by rw [r.len, I.len]; exact lt_of_N hy)
      exact h _ H' O2 s2 f2 (Pin.set hp)
    exact frz_of q))⟩
end
end PL
namespace k71
open PySem PySem.Spec PyProof.Rows L2 PL
noncomputable def is_integer_b : SS := sRet (eP (pAnd (pCall isiF [pV 0, pK (.opq (.ty "int"))]) (pNot (pCall isiF [pV 0, pK (.opq (.ty "bool"))]))))
noncomputable def is_integer_m : List C → Out C := bodyM 1 [] 1 is_integer_b
noncomputable def is_list_b : SS := sRet (eP (pCall isiF [pV 0, pTup [pK (.opq (.ty "list")), pK (.opq (.ty "tuple"))]]))
noncomputable def is_list_m : List C → Out C := bodyM 1 [] 1 is_list_b
noncomputable def want_at_most_b : SS := sIf (tP (qOf (pOp (cmpI iGt) (pV 2) (pV 1)))) (sNo) (sNx)
noncomputable def want_at_most_m : List C → Out C := bodyM 3 [] 3 want_at_most_b
noncomputable def divisor_of_b : SS := sSeq (sPar [2, 3] [eP (pCall absF [pV 0]), eP (pCall absF [pV 1])]) (sSeq (sWhile (tP (qOf (pOp neV' (pV 3) (pK (.int 0))))) (sPar [2, 3] [eP (pV 3), eP (pOp subI (pV 2) (pOp mulI (pOp fdivI (pV 2) (pV 3)) (pV 3)))])) (sRet (eP (pV 2))))
noncomputable def divisor_of_m : List C → Out C := bodyM 4 [] 2 divisor_of_b
noncomputable def trimmed_b : SS := sSeq (sSet 1 (eP (pCall lenF [pV 0]))) (sSeq (sWhile (tP (qAnd (qOf (pOp (cmpI iGt) (pV 1) (pK (.int 0)))) (qOf (pOp eqV' (pIx (pV 0) (pOp subI (pV 1) (pK (.int 1)))) (pK (.int 0)))))) (sSet 1 (eP (pOp subI (pV 1) (pK (.int 1)))))) (sRet (eF (fSq (pF (fSl (lP (pV 0)) none (some (pV 1))))))))
noncomputable def trimmed_m : List C → Out C := bodyM 2 [] 1 trimmed_b
noncomputable def scaled_line_b : SS := sRet (eIf (tP (qOf (pOp neV' (pV 1) (pK (.int 0))))) (eF (fComp [2] (gV true 2) (fun _ => some true) (pOp mulI (pV 1) (pV 2)) (fSq (pV 0)))) (eF (evPs [])))
noncomputable def scaled_line_m : List C → Out C := bodyM 3 [] 2 scaled_line_b
noncomputable def times_lines_b : SS := sSeq (sIf (tP (qOr (qOf (pOp eqV' (pCall lenF [pV 0]) (pK (.int 0)))) (qOf (pOp eqV' (pCall lenF [pV 1]) (pK (.int 0)))))) (sRet (eP (pF (evPs [])))) (sNx)) (sSeq (sSet 2 (eF (fRep (evPs [pK (.int 0)]) (pOp subI (pOp addI (pCall lenF [pV 0]) (pCall lenF [pV 1])) (pK (.int 1)))))) (sSeq (sFor (mP (enumS (pV 0))) (gTupD 2 (gsCons (gV false 3) (gsCons (gV false 4) gsNil))) (sIf (tP (qOf (pOp neV' (pV 4) (pK (.int 0))))) (sFor (mP (enumS (pV 1))) (gTupD 2 (gsCons (gV false 5) (gsCons (gV false 6) gsNil))) (sAugIx addI 2 (paV 2) (pOp addI (pV 3) (pV 5)) (pOp mulI (pV 4) (pV 6)))) (sNx))) (sRet (eV 2))))
noncomputable def times_lines_m : List C → Out C := bodyM 7 [] 2 times_lines_b
noncomputable def value_at_b : SS := sSeq (sSet 2 (eP (pK (.int 0)))) (sSeq (sFor (mSq (eP (pF (fRev (lP (pV 0)))))) (gV false 3) (sSet 2 (eP (pOp addI (pOp mulI (pV 2) (pV 1)) (pV 3))))) (sRet (eP (pV 2))))
noncomputable def value_at_m : List C → Out C := bodyM 4 [] 2 value_at_b
noncomputable def degree_of_b : SS := sRet (eP (pOp subI (pCall maxF [pF (fComp [1] (gV true 1) (fun _ => some true) (pCall lenF [pV 1]) (fSq (pV 0)))]) (pK (.int 1))))
noncomputable def degree_of_m : List C → Out C := bodyM 2 [] 1 degree_of_b
noncomputable def _law_pot_b : SS := sSeq (sSet 2 (eP (pIf (qOf (pOp (cmpI iLt) (pV 1) (pCall lenF [pV 0]))) (pCall absF [pIx (pV 0) (pV 1)]) (pOp addI (pOp mulI (pK (.int 839)) (pV 1)) (pK (.int 683)))))) (sRet (eF (evPs [pCall maxF [pK (.int 0), pOp subI (pV 2) (pOp powI (pK (.int 10)) (pK (.int 18)))], pOp addI (pOp modI (pCall intF [pOp addI (pOp addI (pOp mulI (pOp modI (pCall intF [pV 2]) (pK (.int 2147483549))) (pK (.int 48271))) (pOp mulI (pK (.int 28718)) (pV 1))) (pK (.int 607))]) (pK (.int 2147483563))) (pK (.int 1))])))
noncomputable def _law_pot_m : List C → Out C := bodyM 3 [] 2 _law_pot_b
noncomputable def _law_draw_b : SS := sSeq (sIf (tP (qOf (pOp (cmpI iGt) (bKf (kIx (kV 0) (pK (.int 0)))) (pK (.int 0))))) (sSeq (sAsg (eP (pDm (bKf (kIx (kV 0) (pK (.int 0)))) (pV 1))) (gTupD 2 (gsCons (gIx 0 (paV 0) (pK (.int 0))) (gsCons (gV false 2) gsNil)))) (sRet (eP (pV 2)))) (sNx)) (sSeq (sAsg (eP (pOp modI (pCall intF [pOp addI (pOp mulI (bKf (kIx (kV 0) (pK (.int 1)))) (pK (.int 39373))) (pK (.int 607))]) (pK (.int 2147483587)))) (gIx 0 (paV 0) (pK (.int 1)))) (sRet (eP (pOp modI (pCall intF [pOp fdivI (pOp modI (pCall intF [pOp mulI (bKf (kIx (kV 0) (pK (.int 1)))) (bKf (kIx (kV 0) (pK (.int 1))))]) (pK (.int 2147483563))) (pK (.int 17))]) (pV 1)))))
noncomputable def _law_draw_m : List C → Out C := bodyM 3 [0] 2 _law_draw_b
noncomputable def _law_trim_b : SS := sSeq (sSet 1 (eP (pF (fSq (pV 0))))) (sSeq (sWhile (tP (qAnd (qOf (pOp neV' (pV 1) (pF (evPs [])))) (qOf (pOp eqV' (pIx (pV 1) (pNeg (pK (.int 1)))) (pK (.int 0)))))) (sSet 1 (eP (pF (fSl (lP (pV 1)) none (some (pNeg (pK (.int 1))))))))) (sRet (eP (pV 1))))
noncomputable def _law_trim_m : List C → Out C := bodyM 2 [] 1 _law_trim_b
noncomputable def _law_value_b : SS := sSeq (sSet 2 (eP (pK (.int 0)))) (sSeq (sFor (mSq (eP (pF (fRev (lP (pV 0)))))) (gV false 3) (sSet 2 (eP (pOp addI (pOp mulI (pV 2) (pV 1)) (pV 3))))) (sRet (eP (pV 2))))
noncomputable def _law_value_m : List C → Out C := bodyM 4 [] 2 _law_value_b
noncomputable def _law_divisor_b : SS := sSeq (sSet 1 (eP (pK (.int 0)))) (sSeq (sFor (mSq (eP (pV 0))) (gV false 2) (sSeq (sPar [3, 4] [eP (pV 1), eP (pCall absF [pV 2])]) (sSeq (sWhile (tP (qOf (pOp (cmpI iGt) (pV 4) (pK (.int 0))))) (sPar [3, 4] [eP (pV 4), eP (pOp modI (pCall intF [pV 3]) (pV 4))])) (sSet 1 (eP (pV 3)))))) (sRet (eP (pV 1))))
noncomputable def _law_divisor_m : List C → Out C := bodyM 5 [] 1 _law_divisor_b
noncomputable def _law_degree_b : SS := sRet (eP (pOp subI (pCall maxF [pF (fComp [1] (gV true 1) (fun _ => some true) (pCall lenF [pV 1]) (fSq (pV 0)))]) (pK (.int 1))))
noncomputable def _law_degree_m : List C → Out C := bodyM 2 [] 1 _law_degree_b
noncomputable def greatest_of_b : SS := sSeq (sSet 1 (eP (pK (.int 0)))) (sSeq (sFor (mSq (eP (pV 0))) (gV false 2) (sSet 1 (eP (pFn divisor_of_m [pV 1, pV 2])))) (sRet (eP (pV 1))))
noncomputable def greatest_of_m : List C → Out C := bodyM 3 [] 1 greatest_of_b
noncomputable def want_number_b : SS := sIf (tP (qNot (qOf (pFn is_integer_m [pV 0])))) (sNo) (sNx)
noncomputable def want_number_m : List C → Out C := bodyM 1 [] 1 want_number_b
noncomputable def plus_lines_b : SS := sSeq (sAsg (eP (pIf (qOf (pOp (cmpI iGe) (pCall lenF [pV 0]) (pCall lenF [pV 1]))) (pTup [pV 0, pV 1]) (pTup [pV 1, pV 0]))) (gTupD 2 (gsCons (gV false 2) (gsCons (gV false 3) gsNil)))) (sRet (eFnO trimmed_m [eP (pF (fCat (fComp [4] (gV true 4) (fun _ => some true) (pOp addI (pIx (pV 2) (pV 4)) (pIx (pV 3) (pV 4))) (rngP [pCall lenF [pV 3]])) (fSq (pF (fSl (lP (pV 2)) (some (pCall lenF [pV 3])) none)))))]))
noncomputable def plus_lines_m : List C → Out C := bodyM 5 [] 2 plus_lines_b
noncomputable def line_in_b : SS := sSeq (sIf (tP (qOr (qNot (qOf (pFn is_list_m [pV 0]))) (qOr (qOf (pOp (cmpI iGt) (pCall lenF [pV 0]) (pOp addI (pK (.int 12)) (pK (.int 1))))) (qNot (qOf (pCall allF [pF (fComp [1] (gV true 1) (fun _ => some true) (pFn is_integer_m [pV 1]) (fSq (pV 0)))])))))) (sRet (eP (pK .non))) (sNx)) (sRet (eP (pIf (qOr (qOf (pOp eqV' (pCall lenF [pV 0]) (pK (.int 0)))) (qOf (pOp neV' (pIx (pV 0) (pNeg (pK (.int 1)))) (pK (.int 0))))) (pF (fSq (pV 0))) (pK .non))))
noncomputable def line_in_m : List C → Out C := bodyM 2 [] 1 line_in_b
noncomputable def _law_pick_b : SS := sRet (eIx (eP (pV 1)) (eFnL _law_draw_m 0 [eP (pCall lenF [pV 1])]))
noncomputable def _law_pick_m : List C → Out C := bodyM 2 [0] 2 _law_pick_b
noncomputable def _law_plus_b : SS := sSeq (sSet 2 (eP (pCall maxF [pCall lenF [pV 0], pCall lenF [pV 1]]))) (sSeq (sPar [3, 4] [eP (pF (fCat (fSq (pV 0)) (fRep (evPs [pK (.int 0)]) (pOp subI (pV 2) (pCall lenF [pV 0]))))), eP (pF (fCat (fSq (pV 1)) (fRep (evPs [pK (.int 0)]) (pOp subI (pV 2) (pCall lenF [pV 1])))))]) (sRet (eP (pFn _law_trim_m [pF (fComp [5, 6] (gTupD 2 (gsCons (gV true 5) (gsCons (gV true 6) gsNil))) (fun _ => some true) (pOp addI (pV 5) (pV 6)) (zipS (pV 3) (pV 4)))]))))
noncomputable def _law_plus_m : List C → Out C := bodyM 7 [] 2 _law_plus_b
noncomputable def _law_by_b : SS := sRet (eP (pFn _law_trim_m [pF (fComp [2] (gV true 2) (fun _ => some true) (pOp mulI (pV 1) (pV 2)) (fSq (pV 0)))]))
noncomputable def _law_by_m : List C → Out C := bodyM 3 [] 2 _law_by_b
noncomputable def _law_times_b : SS := sSeq (sSet 2 (eF (fRep (evPs [pK (.int 0)]) (pOp addI (pCall lenF [pV 0]) (pCall lenF [pV 1]))))) (sSeq (sFor (mP (enumS (pV 0))) (gTupD 2 (gsCons (gV false 3) (gsCons (gV false 4) gsNil))) (sFor (mP (enumS (pV 1))) (gTupD 2 (gsCons (gV false 5) (gsCons (gV false 6) gsNil))) (sAsg (eP (pOp addI (bKf (kIx (kV 2) (pOp addI (pV 3) (pV 5)))) (pOp mulI (pV 4) (pV 6)))) (gIx 2 (paV 2) (pOp addI (pV 3) (pV 5)))))) (sRet (eFn _law_trim_m [eV 2])))
noncomputable def _law_times_m : List C → Out C := bodyM 7 [] 2 _law_times_b
noncomputable def _law_bare_b : SS := sSeq (sSet 1 (eP (pFn _law_divisor_m [pV 0]))) (sRet (eP (pIf (qOf (pOp (cmpI iGt) (pV 1) (pK (.int 1)))) (pF (fComp [2] (gV true 2) (fun _ => some true) (pOp fdivI (pV 2) (pV 1)) (fSq (pV 0)))) (pF (fSq (pV 0))))))
noncomputable def _law_bare_m : List C → Out C := bodyM 3 [] 1 _law_bare_b
noncomputable def _law_given_b : SS := sSeq (sSet 2 (eFrz (eComp [3] (gV true 3) (fun _ => some true) (eIf (tOfE (eOp eqV' (eFnL _law_draw_m 0 [eP (pK (.int 3))]) (eP (pK (.int 0))))) (eP (pTupL (lP (pV 3)))) (eP (pF (fSq (pV 3))))) (mSq (eP (pV 1)))))) (sRet (eIf (tOfE (eOp eqV' (eFnL _law_draw_m 0 [eP (pK (.int 3))]) (eP (pK (.int 0))))) (eP (pTupL (lP (pV 2)))) (eP (pV 2))))
noncomputable def _law_given_m : List C → Out C := bodyM 4 [0] 2 _law_given_b
noncomputable def minus_lines_b : SS := sRet (eP (pFn plus_lines_m [pV 0, pFn scaled_line_m [pV 1, pNeg (pK (.int 1))]]))
noncomputable def minus_lines_m : List C → Out C := bodyM 2 [] 2 minus_lines_b
noncomputable def plain_of_b : SS := sSeq (sIf (tP (qOf (pOp eqV' (pCall lenF [pV 0]) (pK (.int 0))))) (sRet (eP (pF (evPs [])))) (sNx)) (sSeq (sSet 1 (eP (pFn greatest_of_m [pV 0]))) (sSeq (sIf (tP (qOf (pOp (cmpI iLt) (pIx (pV 0) (pNeg (pK (.int 1)))) (pK (.int 0))))) (sSet 1 (eP (pOp subI (pK (.int 0)) (pV 1)))) (sNx)) (sRet (eP (pF (fComp [2] (gV true 2) (fun _ => some true) (pOp fdivI (pV 2) (pV 1)) (fSq (pV 0))))))))
noncomputable def plain_of_m : List C → Out C := bodyM 3 [] 1 plain_of_b
noncomputable def want_line_b : SS := sSeq (sSet 1 (eP (pFn line_in_m [pV 0]))) (sSeq (sIf (tP (qOf (pOp isN (pV 1) (pK .non)))) (sNo) (sNx)) (sRet (eP (pV 1))))
noncomputable def want_line_m : List C → Out C := bodyM 2 [] 1 want_line_b
noncomputable def lowest_b : SS := sSeq (sSet 1 (eP (pFn greatest_of_m [pV 0]))) (sRet (eIf (tP (qOf (pOp (cmpI iGt) (pV 1) (pK (.int 1))))) (eF (fComp [2] (gV true 2) (fun _ => some true) (pOp fdivI (pV 2) (pV 1)) (fSq (pV 0)))) (eF (fSq (pV 0)))))
noncomputable def lowest_m : List C → Out C := bodyM 3 [] 1 lowest_b
noncomputable def three_lines_b : SS := sSeq (sIf (tP (qOr (qNot (qOf (pFn is_list_m [pV 0]))) (qOf (pOp neV' (pCall lenF [pV 0]) (pK (.int 3)))))) (sRet (eP (pK .non))) (sNx)) (sSeq (sSet 1 (eFrz (eF (fComp [2] (gV true 2) (fun _ => some true) (pFn line_in_m [pV 2]) (fSq (pV 0)))))) (sRet (eP (pIf (qOf (pCall anyF [pF (fComp [2] (gV true 2) (fun _ => some true) (pOp isN (pV 2) (pK .non)) (fSq (pV 1)))])) (pK .non) (pV 1)))))
noncomputable def three_lines_m : List C → Out C := bodyM 3 [] 1 three_lines_b
noncomputable def led_line_b : SS := sSeq (sSet 2 (eF (evPs []))) (sSeq (sFor (mSq (eP (pF (fRev (lP (pV 0)))))) (gV false 3) (sSet 2 (eFnO plus_lines_m [eFn times_lines_m [eV 2, eP (pV 1)], eP (pIf (qOf (pOp neV' (pV 3) (pK (.int 0)))) (pF (evPs [pV 3])) (pF (evPs [])))]))) (sRet (eMv 2)))
noncomputable def led_line_m : List C → Out C := bodyM 4 [] 2 led_line_b
noncomputable def _law_at_b : SS := sSeq (sSet 2 (eP (pF (evPs [])))) (sSeq (sFor (mSq (eP (pF (fRev (lP (pV 0)))))) (gV false 3) (sSet 2 (eP (pFn _law_plus_m [pFn _law_times_m [pV 2, pV 1], pIf (qOf (pOp neV' (pV 3) (pK (.int 0)))) (pF (evPs [pV 3])) (pF (evPs []))])))) (sRet (eP (pV 2))))
noncomputable def _law_at_m : List C → Out C := bodyM 4 [] 2 _law_at_b
noncomputable def _law_common_b : SS := sSeq (sAsg (eP (pTup [pFn _law_bare_m [pV 0], pFn _law_bare_m [pV 1]])) (gTupD 2 (gsCons (gV false 2) (gsCons (gV false 3) gsNil)))) (sSeq (sWhile (tP (qOf (pOp neV' (pV 3) (pF (evPs []))))) (sSeq (sSet 4 (eP (pV 2))) (sSeq (sWhile (tP (qOf (pOp (cmpI iGe) (pCall lenF [pV 4]) (pCall lenF [pV 3])))) (sSeq (sSet 5 (eP (pF (fCat (fRep (evPs [pK (.int 0)]) (pOp subI (pCall lenF [pV 4]) (pCall lenF [pV 3]))) (lP (pV 3)))))) (sSet 4 (eP (pFn _law_trim_m [pF (fComp [6, 7] (gTupD 2 (gsCons (gV true 6) (gsCons (gV true 7) gsNil))) (fun _ => some true) (pOp subI (pOp mulI (pV 6) (pIx (pV 3) (pNeg (pK (.int 1))))) (pOp mulI (pIx (pV 4) (pNeg (pK (.int 1)))) (pV 7))) (zipS (pV 4) (pV 5)))]))))) (sAsg (eP (pTup [pV 3, pFn _law_bare_m [pV 4]])) (gTupD 2 (gsCons (gV false 2) (gsCons (gV false 3) gsNil))))))) (sRet (eP (pV 2))))
noncomputable def _law_common_m : List C → Out C := bodyM 8 [] 2 _law_common_b
noncomputable def _law_line_b : SS := sSeq (sSet 2 (eF (evPs []))) (sSeq (sFor (rngM [eP (pOp addI (pV 1) (pK (.int 1)))]) (gV false 3) (sDrop (eApp 2 (eFnL _law_pick_m 0 [eP (pF (evPs [pK (.int 0), pK (.int 1), pNeg (pK (.int 1)), pK (.int 2), pK (.int 0), pNeg (pK (.int 2)), pK (.int 1), pK (.int 3)]))])))) (sRet (eFn _law_trim_m [eV 2])))
noncomputable def _law_line_m : List C → Out C := bodyM 4 [0] 2 _law_line_b
noncomputable def _law_cross_b : SS := sSeq (sSet 2 (eF (evPs []))) (sSeq (sFor (mSq (eP (pF (evPs [pTup [pK (.int 1), pK (.int 2)], pTup [pK (.int 2), pK (.int 0)], pTup [pK (.int 0), pK (.int 1)]])))) (gTupD 2 (gsCons (gV false 3) (gsCons (gV false 4) gsNil))) (sDrop (eApp 2 (eP (pFn _law_plus_m [pFn _law_times_m [pIx (pV 0) (pV 3), pIx (pV 1) (pV 4)], pFn _law_by_m [pFn _law_times_m [pIx (pV 0) (pV 4), pIx (pV 1) (pV 3)], pNeg (pK (.int 1))]]))))) (sRet (eV 2)))
noncomputable def _law_cross_m : List C → Out C := bodyM 5 [] 2 _law_cross_b
noncomputable def _law_point_b : SS := sSeq (sSet 1 (eP (pFn _law_bare_m [pV 0]))) (sSeq (sSet 2 (eFrz (eF (fComp [3] (gV true 3) (qOf (pOp neV' (pV 3) (pK (.int 0)))) (pV 3) (fSq (pV 1)))))) (sRet (eP (pIf (qOf (pOp (cmpI iGt) (pIx (pV 2) (pK (.int 0))) (pK (.int 0)))) (pV 1) (pF (fComp [3] (gV true 3) (fun _ => some true) (pOp subI (pK (.int 0)) (pV 3)) (fSq (pV 1))))))))
noncomputable def _law_point_m : List C → Out C := bodyM 4 [] 1 _law_point_b
noncomputable def parted_b : SS := sSeq (sPar [2, 3, 4] [eP (pK (.int 1)), eP (pF (fSq (pV 0))), eF (evPs [])]) (sSeq (sIf (tP (qOf (pOp (cmpI iGe) (pCall lenF [pV 0]) (pCall lenF [pV 1])))) (sSet 4 (eF (fRep (evPs [pK (.int 0)]) (pOp addI (pOp subI (pCall lenF [pV 0]) (pCall lenF [pV 1])) (pK (.int 1)))))) (sNx)) (sSeq (sWhile (tP (qOf (pOp (cmpI iGe) (pCall lenF [pV 3]) (pCall lenF [pV 1])))) (sSeq (sPar [6, 7] [eP (pOp subI (pCall lenF [pV 3]) (pCall lenF [pV 1])), eP (pIx (pV 3) (pNeg (pK (.int 1))))]) (sSeq (sPar [2, 4] [eP (pOp mulI (pV 2) (pIx (pV 1) (pNeg (pK (.int 1))))), eFnO scaled_line_m [eV 4, eP (pIx (pV 1) (pNeg (pK (.int 1))))]]) (sSeq (sAugIx addI 4 (paV 4) (pV 6) (pV 7)) (sSeq (sSet 8 (eP (pF (fCat (fRep (evPs [pK (.int 0)]) (pV 6)) (lP (pFn scaled_line_m [pV 1, pV 7])))))) (sSet 3 (eP (pFn minus_lines_m [pFn scaled_line_m [pV 3, pIx (pV 1) (pNeg (pK (.int 1)))], pV 8])))))))) (sSeq (sSet 5 (eP (pFn greatest_of_m [pF (fCat (fCat (evPs [pV 2]) (lKf (kV 4))) (lP (pV 3)))]))) (sSeq (sIf (tP (qOf (pOp (cmpI iLt) (pV 2) (pK (.int 0))))) (sSet 5 (eP (pOp subI (pK (.int 0)) (pV 5)))) (sNx)) (sRet (eP (pTup [pOp fdivI (pV 2) (pV 5), pF (fComp [9] (gV true 9) (fun _ => some true) (pOp fdivI (pV 9) (pV 5)) (lKf (kV 4))), pF (fComp [9] (gV true 9) (fun _ => some true) (pOp fdivI (pV 9) (pV 5)) (fSq (pV 3)))])))))))
noncomputable def parted_m : List C → Out C := bodyM 10 [] 2 parted_b
noncomputable def bare_three_b : SS := sSeq (sSet 1 (eFnO lowest_m [eP (pV 0)])) (sSeq (sSet 2 (eFrz (eF (fComp [3] (gV true 3) (qOf (pOp neV' (pV 3) (pK (.int 0)))) (pV 3) (lKf (kV 1)))))) (sRet (eIf (tP (qOf (pOp (cmpI iGt) (pIx (pV 2) (pK (.int 0))) (pK (.int 0))))) (eMv 1) (eF (fComp [3] (gV true 3) (fun _ => some true) (pNeg (pV 3)) (lKf (kV 1)))))))
noncomputable def bare_three_m : List C → Out C := bodyM 4 [] 1 bare_three_b
noncomputable def _law_curve_b : SS := sSeq (sSet 2 (eOp addI (eP (pK (.int 1))) (eFnL _law_draw_m 0 [eP (pV 1)]))) (sSeq (sSet 3 (eLst [eFnL _law_line_m 0 [eP (pV 2)], eFnL _law_line_m 0 [eP (pV 2)], eFnL _law_line_m 0 [eP (pV 2)]])) (sSeq (sIf (tP (qOf (pOp (cmpI iLt) (pFnB _law_degree_m [bV 3]) (pK (.int 1))))) (sAsg (eP (pF (fCat (fRep (evPs [pK (.int 0)]) (pV 2)) (evPs [pK (.int 1)])))) (gIx 3 (paV 3) (pK (.int 0)))) (sNx)) (sSeq (sIf (tP (qOf (pOp neV' (pCall lenF [pFn _law_common_m [pFn _law_common_m [pKf (kIx (kV 3) (pK (.int 0))), pKf (kIx (kV 3) (pK (.int 1)))], pKf (kIx (kV 3) (pK (.int 2)))]]) (pK (.int 1))))) (sSeq (sAsg (eP (pF (evPs [pK (.int 1)]))) (gIx 3 (paV 3) (pK (.int 2)))) (sIf (tP (qOf (pOp (cmpI iLt) (pFnB _law_degree_m [bV 3]) (pK (.int 1))))) (sAsg (eP (pF (fCat (fRep (evPs [pK (.int 0)]) (pV 2)) (evPs [pK (.int 1)])))) (gIx 3 (paV 3) (pK (.int 0)))) (sNx))) (sNx)) (sRet (eV 3)))))
noncomputable def _law_curve_m : List C → Out C := bodyM 4 [0] 2 _law_curve_b
noncomputable def common_of_b : SS := sSeq (sPar [2, 3] [eP (pFn plain_of_m [pV 0]), eP (pFn plain_of_m [pV 1])]) (sSeq (sWhile (tP (qOf (pOp (cmpI iGt) (pCall lenF [pV 3]) (pK (.int 0))))) (sPar [2, 3] [eP (pV 3), eP (pFn plain_of_m [pIx (pFn parted_m [pV 2, pV 3]) (pK (.int 2))])])) (sRet (eP (pV 2))))
noncomputable def common_of_m : List C → Out C := bodyM 4 [] 2 common_of_b
noncomputable def _law_led_curve_b : SS := sSeq (sPar [2, 3] [eFnL _law_draw_m 0 [eP (pK (.int 3))], eOp addI (eP (pK (.int 1))) (eFnL _law_draw_m 0 [eP (pK (.int 3))])]) (sSeq (sSet 4 (eFrz (eLst [eFnL _law_line_m 0 [eP (pV 2)], eFnL _law_line_m 0 [eP (pV 2)], eFnL _law_line_m 0 [eP (pV 2)]]))) (sSeq (sSet 5 (eFrz (eLst [eFnL _law_line_m 0 [eP (pV 3)], eFnL _law_line_m 0 [eP (pV 3)], eFnL _law_line_m 0 [eP (pV 3)]]))) (sSeq (sSet 6 (eP (pFn _law_cross_m [pV 4, pV 5]))) (sSeq (sIf (tP (qOr (qNot (qOf (pChain (cmpI iLe) (cmpI iLe) (pK (.int 1)) (pFn _law_degree_m [pV 6]) (pV 1)))) (qOf (pOp neV' (pCall lenF [pFn _law_common_m [pFn _law_common_m [pIx (pV 6) (pK (.int 0)), pIx (pV 6) (pK (.int 1))], pIx (pV 6) (pK (.int 2))]]) (pK (.int 1)))))) (sRet (eFnL _law_curve_m 0 [eP (pV 1)])) (sNx)) (sRet (eP (pV 6)))))))
noncomputable def _law_led_curve_m : List C → Out C := bodyM 7 [0] 2 _law_led_curve_b
noncomputable def curve_in_b : SS := sSeq (sSet 1 (eP (pFn three_lines_m [pV 0]))) (sSeq (sIf (tP (qOr (qOf (pOp isN (pV 1) (pK .non))) (qNot (qOf (pChain (cmpI iLe) (cmpI iLe) (pK (.int 1)) (pFn degree_of_m [pV 1]) (pK (.int 5))))))) (sRet (eP (pK .non))) (sNx)) (sSeq (sSet 2 (eP (pFn common_of_m [pIx (pV 1) (pK (.int 0)), pIx (pV 1) (pK (.int 1))]))) (sSeq (sIf (tP (qOf (pOp neV' (pCall lenF [pV 2]) (pK (.int 1))))) (sSet 2 (eP (pFn common_of_m [pV 2, pIx (pV 1) (pK (.int 2))]))) (sNx)) (sRet (eP (pIf (qOf (pOp eqV' (pCall lenF [pV 2]) (pK (.int 1)))) (pV 1) (pK .non)))))))
noncomputable def curve_in_m : List C → Out C := bodyM 3 [] 1 curve_in_b
noncomputable def want_curve_b : SS := sSeq (sSet 1 (eP (pFn curve_in_m [pV 0]))) (sSeq (sIf (tP (qOf (pOp isN (pV 1) (pK .non)))) (sNo) (sNx)) (sRet (eP (pV 1))))
noncomputable def want_curve_m : List C → Out C := bodyM 2 [] 1 want_curve_b
noncomputable def is_curve_b : SS := sRet (eP (pOp notN (pFn curve_in_m [pV 0]) (pK .non)))
noncomputable def is_curve_m : List C → Out C := bodyM 1 [] 1 is_curve_b
noncomputable def curve_degree_b : SS := sRet (eP (pFn degree_of_m [pFn want_curve_m [pV 0]]))
noncomputable def curve_degree_m : List C → Out C := bodyM 1 [] 1 curve_degree_b
noncomputable def point_at_b : SS := sSeq (sSet 2 (eP (pFn want_curve_m [pV 0]))) (sSeq (sDrop (eP (pFn want_number_m [pV 1]))) (sRet (eP (pFn bare_three_m [pF (fComp [3] (gV true 3) (fun _ => some true) (pFn value_at_m [pV 3, pV 1]) (fSq (pV 2)))]))))
noncomputable def point_at_m : List C → Out C := bodyM 4 [] 2 point_at_b
noncomputable def point_after_b : SS := sSeq (sSet 1 (eP (pFn want_curve_m [pV 0]))) (sSeq (sSet 2 (eP (pOp addI (pFn degree_of_m [pV 1]) (pK (.int 1))))) (sRet (eFnO bare_three_m [eP (pF (fComp [3] (gV true 3) (fun _ => some true) (pIf (qOf (pOp eqV' (pCall lenF [pV 3]) (pV 2))) (pIx (pV 3) (pNeg (pK (.int 1)))) (pK (.int 0))) (fSq (pV 1))))])))
noncomputable def point_after_m : List C → Out C := bodyM 4 [] 1 point_after_b
noncomputable def by_time_b : SS := sSeq (sSet 2 (eP (pFn want_curve_m [pV 0]))) (sSeq (sSet 3 (eP (pFn want_line_m [pV 1]))) (sSeq (sIf (tP (qOf (pOp (cmpI iLt) (pCall lenF [pV 3]) (pK (.int 2))))) (sNo) (sNx)) (sSeq (sDrop (eP (pFn want_at_most_m [pK (.str "degree"), pK (.int 5), pOp mulI (pFn degree_of_m [pV 2]) (pOp subI (pCall lenF [pV 3]) (pK (.int 1)))]))) (sRet (eComp [4] (gV true 4) (fun _ => some true) (eFnO led_line_m [eP (pV 4), eP (pV 3)]) (mSq (eP (pV 2))))))))
noncomputable def by_time_m : List C → Out C := bodyM 5 [] 2 by_time_b
noncomputable def _law_curve_right_b : SS := sSeq (sAsg (eTup [eFnL _law_given_m 0 [eP (pV 1)], eP (pFn _law_degree_m [pV 1])]) (gTupD 2 (gsCons (gV false 2) (gsCons (gV false 3) gsNil)))) (sSeq (sSet 4 (eP (pCall reprF2 [pV 2]))) (sSeq (sIf (tP (qOf (pOp neT' (pCall reprF2 [pF (evPs [pFn is_curve_m [pV 2], pFn curve_degree_m [pV 2], pFnK curve_degree_m [0] [pV 1]])]) (pCall reprF2 [pF (evPs [pK (.bl true), pV 3, pV 3])])))) (sRet (eP (pK (.bl false)))) (sNx)) (sSeq (sFor (mSq (eFrz (eLst [eP (pK (.int 0)), eP (pK (.int 1)), eOp subI (eFnL _law_draw_m 0 [eP (pK (.int 19))]) (eP (pK (.int 9))), eOp addI (eP (pK (.int 999990))) (eFnL _law_draw_m 0 [eP (pK (.int 9))])]))) (gV false 5) (sSeq (sSet 8 (eP (pFn _law_point_m [pF (fComp [9] (gV true 9) (fun _ => some true) (pFn _law_value_m [pV 9, pV 5]) (fSq (pV 1)))]))) (sIf (tP (qOf (pOp neT' (pCall reprF2 [pF (evPs [pFn point_at_m [pV 2, pV 5], pFnK point_at_m [1, 0] [pV 5, pV 2]])]) (pCall reprF2 [pF (evPs [pV 8, pV 8])])))) (sRet (eP (pK (.bl false)))) (sNx)))) (sSeq (sSet 6 (eP (pFn _law_point_m [pF (fComp [9] (gV true 9) (fun _ => some true) (pIf (qOf (pOp (cmpI iGt) (pCall lenF [pV 9]) (pV 3))) (pIx (pV 9) (pV 3)) (pK (.int 0))) (fSq (pV 1)))]))) (sSeq (sSet 7 (eFnO point_after_m [eP (pV 2)])) (sSeq (sIf (tP (qOf (pOp neT' (pCall reprF2 [pF (evPs [bV 7, pFnK point_after_m [0] [pV 1]])]) (pCall reprF2 [pF (evPs [pV 6, pV 6])])))) (sRet (eP (pK (.bl false)))) (sNx)) (sSeq (sDrop (eApp 7 (eP (pK .non)))) (sRet (eP (pAnd (pOp eqV' (pFn point_after_m [pV 2]) (pV 6)) (pOp eqT' (pCall reprF2 [pV 2]) (pV 4))))))))))))
noncomputable def _law_curve_right_m : List C → Out C := bodyM 10 [0] 2 _law_curve_right_b
noncomputable def _law_time_right_b : SS := sSeq (sSet 2 (eP (pFn _law_degree_m [pV 1]))) (sSeq (sSet 3 (eOp addI (eP (pK (.int 1))) (eFnL _law_draw_m 0 [eP (pOp fdivI (pK (.int 5)) (pV 2))]))) (sSeq (sSet 4 (eFrz (eCat (eFnL _law_line_m 0 [eP (pOp subI (pV 3) (pK (.int 1)))]) (eP (pF (fRep (evPs [pK (.int 0)]) (pV 3))))))) (sSeq (sSet 4 (eFrz (eCat (eP (pF (fSl (lP (pV 4)) none (some (pV 3))))) (eFrz (eLst [eFnL _law_pick_m 0 [eP (pF (evPs [pK (.int 1), pNeg (pK (.int 1)), pK (.int 2), pK (.int 3)]))]]))))) (sSeq (sSet 5 (eFrz (eF (fComp [8] (gV true 8) (fun _ => some true) (pFn _law_at_m [pV 8, pV 4]) (fSq (pV 1)))))) (sSeq (sSet 6 (eFnO by_time_m [eFnL _law_given_m 0 [eP (pV 1)], eP (pTupL (lP (pV 4)))])) (sSeq (sIf (tP (qOr (qOf (pOp neT' (pCall reprF2 [bV 6]) (pCall reprF2 [pV 5]))) (qOr (qOf (pOp neV' (pFnK by_time_m [1, 0] [pV 4, pV 1]) (pV 5))) (qOf (pOp neV' (pFnB curve_degree_m [bV 6]) (pOp mulI (pV 2) (pV 3))))))) (sRet (eP (pK (.bl false)))) (sNx)) (sSeq (sSet 7 (eOp subI (eFnL _law_draw_m 0 [eP (pK (.int 9))]) (eP (pK (.int 4))))) (sSeq (sIf (tP (qOr (qOf (pOp neV' (pFn point_at_m [bV 6, pV 7]) (pFn point_at_m [pV 1, pFn _law_value_m [pV 4, pV 7]]))) (qOf (pOp neV' (pFn point_after_m [bV 6]) (pFn point_after_m [pV 1]))))) (sRet (eP (pK (.bl false)))) (sNx)) (sSeq (sDrop (eApp 6 (eP (pK .non)))) (sSeq (sDrop (eAppP 6 (paIx 6 (paV 6) (pK (.int 0))) (pK .non))) (sRet (eP (pOp eqV' (pFn by_time_m [pV 1, pV 4]) (pV 5))))))))))))))
noncomputable def _law_time_right_m : List C → Out C := bodyM 9 [0] 2 _law_time_right_b
noncomputable def _law_right_b : SS := sSeq (sSet 1 (eIf (tOfE (eOp eqV' (eFnL _law_draw_m 0 [eP (pK (.int 2))]) (eP (pK (.int 0))))) (eFnL _law_curve_m 0 [eP (pK (.int 5))]) (eFnL _law_led_curve_m 0 [eP (pK (.int 5))]))) (sRet (eAnd (eFnL _law_curve_right_m 0 [eP (pV 1)]) (eFnL _law_time_right_m 0 [eP (pV 1)])))
noncomputable def _law_right_m : List C → Out C := bodyM 2 [0] 1 _law_right_b
noncomputable def law_b : SS := sRet (eFn _law_right_m [eFnO _law_pot_m [eP (pV 0), eP (pK (.int 0))]])
noncomputable def law_m : List C → Out C := bodyM 1 [] 1 law_b
def top (i : Nat) : Stmt := PySem.Challenge.pw_curvemeets_k71_whole_points_of_curves.main.body.getD i (.Pass ⟨0, 0, 0, 0⟩)
abbrev st_is_integer : Stmt := top 8
abbrev st_is_list : Stmt := top 9
abbrev st_want_at_most : Stmt := top 10
abbrev st_divisor_of : Stmt := top 12
abbrev st_trimmed : Stmt := top 17
abbrev st_scaled_line : Stmt := top 19
abbrev st_times_lines : Stmt := top 21
abbrev st_value_at : Stmt := top 22
abbrev st_degree_of : Stmt := top 33
abbrev st__law_pot : Stmt := top 44
abbrev st__law_draw : Stmt := top 45
abbrev st__law_trim : Stmt := top 47
abbrev st__law_value : Stmt := top 51
abbrev st__law_divisor : Stmt := top 53
abbrev st__law_degree : Stmt := top 56
abbrev st_greatest_of : Stmt := top 13
abbrev st_want_number : Stmt := top 14
abbrev st_plus_lines : Stmt := top 18
abbrev st_line_in : Stmt := top 26
abbrev st__law_pick : Stmt := top 46
abbrev st__law_plus : Stmt := top 48
abbrev st__law_by : Stmt := top 49
abbrev st__law_times : Stmt := top 50
abbrev st__law_bare : Stmt := top 54
abbrev st__law_given : Stmt := top 61
abbrev st_minus_lines : Stmt := top 20
abbrev st_plain_of : Stmt := top 23
abbrev st_want_line : Stmt := top 27
abbrev st_lowest : Stmt := top 29
abbrev st_three_lines : Stmt := top 32
abbrev st_led_line : Stmt := top 37
abbrev st__law_at : Stmt := top 52
abbrev st__law_common : Stmt := top 55
abbrev st__law_line : Stmt := top 57
abbrev st__law_cross : Stmt := top 59
abbrev st__law_point : Stmt := top 62
abbrev st_parted : Stmt := top 24
abbrev st_bare_three : Stmt := top 36
abbrev st__law_curve : Stmt := top 58
abbrev st_common_of : Stmt := top 25
abbrev st__law_led_curve : Stmt := top 60
abbrev st_curve_in : Stmt := top 34
abbrev st_want_curve : Stmt := top 35
abbrev st_is_curve : Stmt := top 38
abbrev st_curve_degree : Stmt := top 39
abbrev st_point_at : Stmt := top 40
abbrev st_point_after : Stmt := top 41
abbrev st_by_time : Stmt := top 42
abbrev st__law_curve_right : Stmt := top 63
abbrev st__law_time_right : Stmt := top 64
abbrev st__law_right : Stmt := top 65
abbrev st_law : Stmt := top 66
structure Txt (K : PySem.W.Frag) (mg : Str → Option Value) : Prop where
  z_abs : mg "abs" = none
  z_all : mg "all" = none
  z_any : mg "any" = none
  z_bool : mg "bool" = none
  z_divmod : mg "divmod" = none
  z_enumerate : mg "enumerate" = none
  z_int : mg "int" = none
  z_isinstance : mg "isinstance" = none
  z_len : mg "len" = none
  z_list : mg "list" = none
  z_max : mg "max" = none
  z_range : mg "range" = none
  z_repr : mg "repr" = none
  z_tuple : mg "tuple" = none
  z_zip : mg "zip" = none
  g_MOST_CURVE : ∃ t, mg "MOST_CURVE" = some (.int 5 t)
  g_MOST_DEGREE : ∃ t, mg "MOST_DEGREE" = some (.int 12 t)
  d_is_integer : DefAt K mg "is_integer" st_is_integer
  d_is_list : DefAt K mg "is_list" st_is_list
  d_want_at_most : DefAt K mg "want_at_most" st_want_at_most
  d_divisor_of : DefAt K mg "divisor_of" st_divisor_of
  d_trimmed : DefAt K mg "trimmed" st_trimmed
  d_scaled_line : DefAt K mg "scaled_line" st_scaled_line
  d_times_lines : DefAt K mg "times_lines" st_times_lines
  d_value_at : DefAt K mg "value_at" st_value_at
  d_degree_of : DefAt K mg "degree_of" st_degree_of
  d__law_pot : DefAt K mg "_law_pot" st__law_pot
  d__law_draw : DefAt K mg "_law_draw" st__law_draw
  d__law_trim : DefAt K mg "_law_trim" st__law_trim
  d__law_value : DefAt K mg "_law_value" st__law_value
  d__law_divisor : DefAt K mg "_law_divisor" st__law_divisor
  d__law_degree : DefAt K mg "_law_degree" st__law_degree
  d_greatest_of : DefAt K mg "greatest_of" st_greatest_of
  d_want_number : DefAt K mg "want_number" st_want_number
  d_plus_lines : DefAt K mg "plus_lines" st_plus_lines
  d_line_in : DefAt K mg "line_in" st_line_in
  d__law_pick : DefAt K mg "_law_pick" st__law_pick
  d__law_plus : DefAt K mg "_law_plus" st__law_plus
  d__law_by : DefAt K mg "_law_by" st__law_by
  d__law_times : DefAt K mg "_law_times" st__law_times
  d__law_bare : DefAt K mg "_law_bare" st__law_bare
  d__law_given : DefAt K mg "_law_given" st__law_given
  d_minus_lines : DefAt K mg "minus_lines" st_minus_lines
  d_plain_of : DefAt K mg "plain_of" st_plain_of
  d_want_line : DefAt K mg "want_line" st_want_line
  d_lowest : DefAt K mg "lowest" st_lowest
  d_three_lines : DefAt K mg "three_lines" st_three_lines
  d_led_line : DefAt K mg "led_line" st_led_line
  d__law_at : DefAt K mg "_law_at" st__law_at
  d__law_common : DefAt K mg "_law_common" st__law_common
  d__law_line : DefAt K mg "_law_line" st__law_line
  d__law_cross : DefAt K mg "_law_cross" st__law_cross
  d__law_point : DefAt K mg "_law_point" st__law_point
  d_parted : DefAt K mg "parted" st_parted
  d_bare_three : DefAt K mg "bare_three" st_bare_three
  d__law_curve : DefAt K mg "_law_curve" st__law_curve
  d_common_of : DefAt K mg "common_of" st_common_of
  d__law_led_curve : DefAt K mg "_law_led_curve" st__law_led_curve
  d_curve_in : DefAt K mg "curve_in" st_curve_in
  d_want_curve : DefAt K mg "want_curve" st_want_curve
  d_is_curve : DefAt K mg "is_curve" st_is_curve
  d_curve_degree : DefAt K mg "curve_degree" st_curve_degree
  d_point_at : DefAt K mg "point_at" st_point_at
  d_point_after : DefAt K mg "point_after" st_point_after
  d_by_time : DefAt K mg "by_time" st_by_time
  d__law_curve_right : DefAt K mg "_law_curve_right" st__law_curve_right
  d__law_time_right : DefAt K mg "_law_time_right" st__law_time_right
  d__law_right : DefAt K mg "_law_right" st__law_right
  d_law : DefAt K mg "law" st_law
theorem bp_is_integer : BindP "is_integer" st_is_integer ["value"] := fun _ _ _ _ _ _ us hl => match us, hl with | [_], _ => rfl
theorem bp_is_list : BindP "is_list" st_is_list ["value"] := fun _ _ _ _ _ _ us hl => match us, hl with | [_], _ => rfl
theorem bp_want_at_most : BindP "want_at_most" st_want_at_most ["what", "limit", "number"] := fun _ _ _ _ _ _ us hl => match us, hl with | [_, _, _], _ => rfl
theorem bp_divisor_of : BindP "divisor_of" st_divisor_of ["number", "other"] := fun _ _ _ _ _ _ us hl => match us, hl with | [_, _], _ => rfl
theorem bp_trimmed : BindP "trimmed" st_trimmed ["numbers"] := fun _ _ _ _ _ _ us hl => match us, hl with | [_], _ => rfl
theorem bp_scaled_line : BindP "scaled_line" st_scaled_line ["line", "number"] := fun _ _ _ _ _ _ us hl => match us, hl with | [_, _], _ => rfl
theorem bp_times_lines : BindP "times_lines" st_times_lines ["line", "other"] := fun _ _ _ _ _ _ us hl => match us, hl with | [_, _], _ => rfl
theorem bp_value_at : BindP "value_at" st_value_at ["line", "number"] := fun _ _ _ _ _ _ us hl => match us, hl with | [_, _], _ => rfl
theorem bp_degree_of : BindP "degree_of" st_degree_of ["three"] := fun _ _ _ _ _ _ us hl => match us, hl with | [_], _ => rfl
theorem bp__law_pot : BindP "_law_pot" st__law_pot ["script", "k"] := fun _ _ _ _ _ _ us hl => match us, hl with | [_, _], _ => rfl
theorem bp__law_draw : BindP "_law_draw" st__law_draw ["pot", "many"] := fun _ _ _ _ _ _ us hl => match us, hl with | [_, _], _ => rfl
theorem bp__law_trim : BindP "_law_trim" st__law_trim ["numbers"] := fun _ _ _ _ _ _ us hl => match us, hl with | [_], _ => rfl
theorem bp__law_value : BindP "_law_value" st__law_value ["line", "number"] := fun _ _ _ _ _ _ us hl => match us, hl with | [_, _], _ => rfl
theorem bp__law_divisor : BindP "_law_divisor" st__law_divisor ["numbers"] := fun _ _ _ _ _ _ us hl => match us, hl with | [_], _ => rfl
theorem bp__law_degree : BindP "_law_degree" st__law_degree ["three"] := fun _ _ _ _ _ _ us hl => match us, hl with | [_], _ => rfl
theorem bp_greatest_of : BindP "greatest_of" st_greatest_of ["some"] := fun _ _ _ _ _ _ us hl => match us, hl with | [_], _ => rfl
theorem bp_want_number : BindP "want_number" st_want_number ["value"] := fun _ _ _ _ _ _ us hl => match us, hl with | [_], _ => rfl
theorem bp_plus_lines : BindP "plus_lines" st_plus_lines ["line", "other"] := fun _ _ _ _ _ _ us hl => match us, hl with | [_, _], _ => rfl
theorem bp_line_in : BindP "line_in" st_line_in ["value"] := fun _ _ _ _ _ _ us hl => match us, hl with | [_], _ => rfl
theorem bp__law_pick : BindP "_law_pick" st__law_pick ["pot", "some"] := fun _ _ _ _ _ _ us hl => match us, hl with | [_, _], _ => rfl
theorem bp__law_plus : BindP "_law_plus" st__law_plus ["line", "other"] := fun _ _ _ _ _ _ us hl => match us, hl with | [_, _], _ => rfl
theorem bp__law_by : BindP "_law_by" st__law_by ["line", "number"] := fun _ _ _ _ _ _ us hl => match us, hl with | [_, _], _ => rfl
theorem bp__law_times : BindP "_law_times" st__law_times ["line", "other"] := fun _ _ _ _ _ _ us hl => match us, hl with | [_, _], _ => rfl
theorem bp__law_bare : BindP "_law_bare" st__law_bare ["numbers"] := fun _ _ _ _ _ _ us hl => match us, hl with | [_], _ => rfl
theorem bp__law_given : BindP "_law_given" st__law_given ["pot", "three"] := fun _ _ _ _ _ _ us hl => match us, hl with | [_, _], _ => rfl
theorem bp_minus_lines : BindP "minus_lines" st_minus_lines ["line", "other"] := fun _ _ _ _ _ _ us hl => match us, hl with | [_, _], _ => rfl
theorem bp_plain_of : BindP "plain_of" st_plain_of ["line"] := fun _ _ _ _ _ _ us hl => match us, hl with | [_], _ => rfl
theorem bp_want_line : BindP "want_line" st_want_line ["value"] := fun _ _ _ _ _ _ us hl => match us, hl with | [_], _ => rfl
theorem bp_lowest : BindP "lowest" st_lowest ["row"] := fun _ _ _ _ _ _ us hl => match us, hl with | [_], _ => rfl
theorem bp_three_lines : BindP "three_lines" st_three_lines ["value"] := fun _ _ _ _ _ _ us hl => match us, hl with | [_], _ => rfl
theorem bp_led_line : BindP "led_line" st_led_line ["line", "other"] := fun _ _ _ _ _ _ us hl => match us, hl with | [_, _], _ => rfl
theorem bp__law_at : BindP "_law_at" st__law_at ["line", "time"] := fun _ _ _ _ _ _ us hl => match us, hl with | [_, _], _ => rfl
theorem bp__law_common : BindP "_law_common" st__law_common ["line", "other"] := fun _ _ _ _ _ _ us hl => match us, hl with | [_, _], _ => rfl
theorem bp__law_line : BindP "_law_line" st__law_line ["pot", "size"] := fun _ _ _ _ _ _ us hl => match us, hl with | [_, _], _ => rfl
theorem bp__law_cross : BindP "_law_cross" st__law_cross ["three", "others"] := fun _ _ _ _ _ _ us hl => match us, hl with | [_, _], _ => rfl
theorem bp__law_point : BindP "_law_point" st__law_point ["numbers"] := fun _ _ _ _ _ _ us hl => match us, hl with | [_], _ => rfl
theorem bp_parted : BindP "parted" st_parted ["line", "other"] := fun _ _ _ _ _ _ us hl => match us, hl with | [_, _], _ => rfl
theorem bp_bare_three : BindP "bare_three" st_bare_three ["numbers"] := fun _ _ _ _ _ _ us hl => match us, hl with | [_], _ => rfl
theorem bp__law_curve : BindP "_law_curve" st__law_curve ["pot", "most"] := fun _ _ _ _ _ _ us hl => match us, hl with | [_, _], _ => rfl
theorem bp_common_of : BindP "common_of" st_common_of ["line", "other"] := fun _ _ _ _ _ _ us hl => match us, hl with | [_, _], _ => rfl
theorem bp__law_led_curve : BindP "_law_led_curve" st__law_led_curve ["pot", "most"] := fun _ _ _ _ _ _ us hl => match us, hl with | [_, _], _ => rfl
theorem bp_curve_in : BindP "curve_in" st_curve_in ["value"] := fun _ _ _ _ _ _ us hl => match us, hl with | [_], _ => rfl
theorem bp_want_curve : BindP "want_curve" st_want_curve ["value"] := fun _ _ _ _ _ _ us hl => match us, hl with | [_], _ => rfl
theorem bp_is_curve : BindP "is_curve" st_is_curve ["value"] := fun _ _ _ _ _ _ us hl => match us, hl with | [_], _ => rfl
theorem bp_curve_degree : BindP "curve_degree" st_curve_degree ["curve"] := fun _ _ _ _ _ _ us hl => match us, hl with | [_], _ => rfl
theorem bp_point_at : BindP "point_at" st_point_at ["curve", "number"] := fun _ _ _ _ _ _ us hl => match us, hl with | [_, _], _ => rfl
theorem bp_point_after : BindP "point_after" st_point_after ["curve"] := fun _ _ _ _ _ _ us hl => match us, hl with | [_], _ => rfl
theorem bp_by_time : BindP "by_time" st_by_time ["curve", "line"] := fun _ _ _ _ _ _ us hl => match us, hl with | [_, _], _ => rfl
theorem bp__law_curve_right : BindP "_law_curve_right" st__law_curve_right ["pot", "three"] := fun _ _ _ _ _ _ us hl => match us, hl with | [_, _], _ => rfl
theorem bp__law_time_right : BindP "_law_time_right" st__law_time_right ["pot", "three"] := fun _ _ _ _ _ _ us hl => match us, hl with | [_, _], _ => rfl
theorem bp__law_right : BindP "_law_right" st__law_right ["pot"] := fun _ _ _ _ _ _ us hl => match us, hl with | [_], _ => rfl
theorem bp_law : BindP "law" st_law ["script"] := fun _ _ _ _ _ _ us hl => match us, hl with | [_], _ => rfl
theorem bk_by_time_line_curve : BindK "by_time" st_by_time ["curve", "line"] ["line", "curve"] [1, 0] := fun _ _ _ _ _ _ ws hl => match ws, hl with | [_, _], _ => rfl
theorem bk_curve_degree_curve : BindK "curve_degree" st_curve_degree ["curve"] ["curve"] [0] := fun _ _ _ _ _ _ ws hl => match ws, hl with | [_], _ => rfl
theorem bk_point_after_curve : BindK "point_after" st_point_after ["curve"] ["curve"] [0] := fun _ _ _ _ _ _ ws hl => match ws, hl with | [_], _ => rfl
theorem bk_point_at_number_curve : BindK "point_at" st_point_at ["curve", "number"] ["number", "curve"] [1, 0] := fun _ _ _ _ _ _ ws hl => match ws, hl with | [_, _], _ => rfl
section
variable {Pr : Program} {w : World} {K : PySem.W.Frag} {mg : Str → Option Value} {base : Heap}
theorem sc_is_integer : FnScope ["value"] ["value"] (defScope st_is_integer) := ⟨rfl, rfl, rfl, by decide +kernel, rfl, by decide +kernel, by decide +kernel⟩
theorem is_integer_bd (V : Txt K mg) (hS : SysD base) : BdOk Pr w K mg base 0 "is_integer" st_is_integer ["value"] [] is_integer_b := fun fa cdv A outer s H E hg hr => by
  have hN := (sc_is_integer).nd
  exact s_one (s_ret (e_P (p_and (p_isi V.z_isinstance (ab_cons (b_P (p_V rfl (.inl rfl))) (ab_cons (b_P (p_ty (by rfl) V.z_int (by decide +kernel))) ab_nil))) (p_one (p_not (p_isi V.z_isinstance (ab_cons (b_P (p_V rfl (.inl rfl))) (ab_cons (b_P (p_ty (by rfl) V.z_bool (by decide +kernel))) ab_nil))))))))
theorem is_integer_ok (V : Txt K mg) (hS : SysD base) : FnM Pr w K mg base 1 "is_integer" st_is_integer ["value"] is_integer_m := FnM.by V.d_is_integer sc_is_integer (is_integer_bd V hS)
theorem sc_is_list : FnScope ["value"] ["value"] (defScope st_is_list) := ⟨rfl, rfl, rfl, by decide +kernel, rfl, by decide +kernel, by decide +kernel⟩
theorem is_list_bd (V : Txt K mg) (hS : SysD base) : BdOk Pr w K mg base 0 "is_list" st_is_list ["value"] [] is_list_b := fun fa cdv A outer s H E hg hr => by
  have hN := (sc_is_list).nd
  exact s_one (s_ret (e_P (p_isi V.z_isinstance (ab_cons (b_P (p_V rfl (.inl rfl))) (ab_cons (b_P (p_tup (ad_cons (p_ty (by rfl) V.z_list (by decide +kernel)) (ad_cons (p_ty (by rfl) V.z_tuple (by decide +kernel)) ad_nil)))) ab_nil)))))
theorem is_list_ok (V : Txt K mg) (hS : SysD base) : FnM Pr w K mg base 1 "is_list" st_is_list ["value"] is_list_m := FnM.by V.d_is_list sc_is_list (is_list_bd V hS)
theorem sc_want_at_most : FnScope ["what", "limit", "number"] ["what", "limit", "number"] (defScope st_want_at_most) := ⟨rfl, rfl, rfl, by decide +kernel, rfl, by decide +kernel, by decide +kernel⟩
theorem want_at_most_bd (V : Txt K mg) (hS : SysD base) : BdOk Pr w K mg base 0 "want_at_most" st_want_at_most ["what", "limit", "number"] [] want_at_most_b := fun fa cdv A outer s H E hg hr => by
  have hN := (sc_want_at_most).nd
  exact s_one (s_if (t_P (q_gt (b_P (p_V rfl (.inl rfl))) (b_P (p_V rfl (.inl rfl))))) (s_one (s_never)) (s_nil))
theorem want_at_most_ok (V : Txt K mg) (hS : SysD base) : FnM Pr w K mg base 1 "want_at_most" st_want_at_most ["what", "limit", "number"] want_at_most_m := FnM.by V.d_want_at_most sc_want_at_most (want_at_most_bd V hS)
theorem sc_divisor_of : FnScope ["number", "other", "near", "far"] ["number", "other"] (defScope st_divisor_of) := ⟨rfl, rfl, rfl, by decide +kernel, rfl, by decide +kernel, by decide +kernel⟩
theorem divisor_of_bd (V : Txt K mg) (hS : SysD base) : BdOk Pr w K mg base 0 "divisor_of" st_divisor_of ["number", "other", "near", "far"] [] divisor_of_b := fun fa cdv A outer s H E hg hr => by
  have hN := (sc_divisor_of).nd
  exact s_cons (s_par (i := 2) (j := 3) rfl hN rfl rfl (by decide) rfl rfl (am_cons (e_P (p_abs V.z_abs (ab_cons (b_P (p_V rfl (.inl rfl))) ab_nil))) (am_cons (e_P (p_abs V.z_abs (ab_cons (b_P (p_V rfl (.inl rfl))) ab_nil))) am_nil)) (by decide) (by decide) rfl) (s_cons (s_while (passes_of rfl) (t_P (q_ne hr (b_P (p_V rfl (.inl rfl))) (b_P (p_int)))) (s_one (s_par (i := 2) (j := 3) rfl hN rfl rfl (by decide) rfl rfl (am_cons (e_P (p_V rfl (.inl rfl))) (am_cons (e_P (p_sub (b_P (p_V rfl (.inl rfl))) (b_P (p_mul (b_P (p_fdiv (b_P (p_V rfl (.inl rfl))) (b_P (p_V rfl (.inl rfl))))) (b_P (p_V rfl (.inl rfl))))))) am_nil)) (by decide) (by decide) rfl))) (s_one (s_ret (e_P (p_V rfl (.inl rfl))))))
theorem divisor_of_ok (V : Txt K mg) (hS : SysD base) : FnM Pr w K mg base 1 "divisor_of" st_divisor_of ["number", "other"] divisor_of_m := FnM.by V.d_divisor_of sc_divisor_of (divisor_of_bd V hS)
theorem sc_trimmed : FnScope ["numbers", "many"] ["numbers"] (defScope st_trimmed) := ⟨rfl, rfl, rfl, by decide +kernel, rfl, by decide +kernel, by decide +kernel⟩
theorem trimmed_bd (V : Txt K mg) (hS : SysD base) : BdOk Pr w K mg base 0 "trimmed" st_trimmed ["numbers", "many"] [] trimmed_b := fun fa cdv A outer s H E hg hr => by
  have hN := (sc_trimmed).nd
  exact s_cons (s_set (i := 1) hN rfl (.inl rfl) (e_P (p_len V.z_len (ab_cons (b_P (p_V rfl (.inl rfl))) ab_nil)))) (s_cons (s_while (passes_of rfl) (t_P (q_W (w_and (q_gt (b_P (p_V rfl (.inl rfl))) (b_P (p_int))) (w_and1 (q_eq hr (b_P (p_ix (p_V rfl (.inl rfl)) (b_P (p_sub (b_P (p_V rfl (.inl rfl))) (b_P (p_int)))) (fun _ _ => rfl))) (b_P (p_int))))))) (s_one (s_set (i := 1) hN rfl (.inl rfl) (e_P (p_sub (b_P (p_V rfl (.inl rfl))) (b_P (p_int))))))) (s_one (s_ret (e_F (f_listC V.z_list (p_F (f_slice (l_P (p_V rfl (.inl rfl))) o_none (o_some (b_P (p_V rfl (.inl rfl)))))))))))
theorem trimmed_ok (V : Txt K mg) (hS : SysD base) : FnM Pr w K mg base 1 "trimmed" st_trimmed ["numbers"] trimmed_m := FnM.by V.d_trimmed sc_trimmed (trimmed_bd V hS)
theorem sc_scaled_line : FnScope ["line", "number", "one"] ["line", "number"] (defScope st_scaled_line) := ⟨rfl, rfl, rfl, by decide +kernel, rfl, by decide +kernel, by decide +kernel⟩
theorem scaled_line_bd (V : Txt K mg) (hS : SysD base) : BdOk Pr w K mg base 0 "scaled_line" st_scaled_line ["line", "number", "one"] [] scaled_line_b := fun fa cdv A outer s H E hg hr => by
  have hN := (sc_scaled_line).nd
  exact s_one (s_ret (e_if (t_P (q_ne hr (b_P (p_V rfl (.inr (.inl rfl)))) (b_P (p_int)))) (e_F (f_comp rfl hN (iG_seq (p_V rfl (.inl rfl))) (blkOk_by (own := [("one", 2)]) rfl) (fun _ _ _ _ _ => g_V hN rfl (by first | exact .inl rfl | exact .inr rfl) (by first | exact .inr rfl | exact .inl rfl)) (fun _ _ _ _ _ => ts_nil) (fun _ _ _ _ _ => p_mul (b_P (p_V rfl (by first | exact .inr (.inr rfl) | exact .inr (.inl rfl) | exact .inl rfl))) (b_P (p_V rfl (.inl rfl)))) (by decide))) (e_F (f_lst (ad_nil)))))
theorem scaled_line_ok (V : Txt K mg) (hS : SysD base) : FnM Pr w K mg base 1 "scaled_line" st_scaled_line ["line", "number"] scaled_line_m := FnM.by V.d_scaled_line sc_scaled_line (scaled_line_bd V hS)
theorem sc_times_lines : FnScope ["line", "other", "found", "at", "near", "to", "far"] ["line", "other"] (defScope st_times_lines) := ⟨rfl, rfl, rfl, by decide +kernel, rfl, by decide +kernel, by decide +kernel⟩
theorem times_lines_bd (V : Txt K mg) (hS : SysD base) : BdOk Pr w K mg base 0 "times_lines" st_times_lines ["line", "other", "found", "at", "near", "to", "far"] [] times_lines_b := fun fa cdv A outer s H E hg hr => by
  have hN := (sc_times_lines).nd
  exact s_cons (s_if (t_P (q_W (w_or (q_eq hr (b_P (p_len V.z_len (ab_cons (b_P (p_V rfl (.inl rfl))) ab_nil))) (b_P (p_int))) (w_or1 (q_eq hr (b_P (p_len V.z_len (ab_cons (b_P (p_V rfl (.inl rfl))) ab_nil))) (b_P (p_int))))))) (s_one (s_ret (e_P (p_F (f_lst (ad_nil)))))) (s_nil)) (s_cons (s_set (i := 2) hN rfl (.inl rfl) (e_F (f_rep (l_F (f_lst (ad_cons (p_int) ad_nil))) (b_P (p_sub (b_P (p_add (b_P (p_len V.z_len (ab_cons (b_P (p_V rfl (.inl rfl))) ab_nil))) (b_P (p_len V.z_len (ab_cons (b_P (p_V rfl (.inl rfl))) ab_nil))))) (b_P (p_int))))))) (s_cons (s_for (passes_of rfl) rfl (iD_enumS (by rfl) V.z_enumerate (p_V rfl (.inl rfl))) (g_tup rfl (gs_cons (g_V hN rfl (.inl rfl) (.inl rfl)) (gs_cons (g_V hN rfl (.inl rfl) (.inl rfl)) (gs_nil)))) (s_one (s_if (t_P (q_ne hr (b_P (p_V rfl (.inl rfl))) (b_P (p_int)))) (s_one (s_for (passes_of rfl) rfl (iD_enumS (by rfl) V.z_enumerate (p_V rfl (.inl rfl))) (g_tup rfl (gs_cons (g_V hN rfl (.inl rfl) (.inl rfl)) (gs_cons (g_V hN rfl (.inl rfl) (.inl rfl)) (gs_nil)))) (s_one (s_augIx (pa_V rfl (.inl rfl)) (b_P (p_add (b_P (p_V rfl (.inl rfl))) (b_P (p_V rfl (.inl rfl))))) (b_P (p_mul (b_P (p_V rfl (.inl rfl))) (b_P (p_V rfl (.inl rfl))))) (iop_add.or iop_add_str) pure_add)))) (s_nil)))) (s_one (s_ret (e_V rfl (.inl rfl))))))
theorem times_lines_ok (V : Txt K mg) (hS : SysD base) : FnM Pr w K mg base 1 "times_lines" st_times_lines ["line", "other"] times_lines_m := FnM.by V.d_times_lines sc_times_lines (times_lines_bd V hS)
theorem sc_value_at : FnScope ["line", "number", "found", "one"] ["line", "number"] (defScope st_value_at) := ⟨rfl, rfl, rfl, by decide +kernel, rfl, by decide +kernel, by decide +kernel⟩
theorem value_at_bd (V : Txt K mg) (hS : SysD base) : BdOk Pr w K mg base 0 "value_at" st_value_at ["line", "number", "found", "one"] [] value_at_b := fun fa cdv A outer s H E hg hr => by
  have hN := (sc_value_at).nd
  exact s_cons (s_set (i := 2) hN rfl (.inl rfl) (e_P (p_int))) (s_cons (s_for (passes_of rfl) rfl (iD_seq (e_P (p_F (f_rev (l_P (p_V rfl (.inl rfl))))))) (g_V hN rfl (.inl rfl) (.inl rfl)) (s_one (s_set (i := 2) hN rfl (.inl rfl) (e_P (p_add (b_P (p_mul (b_P (p_V rfl (.inl rfl))) (b_P (p_V rfl (.inl rfl))))) (b_P (p_V rfl (.inl rfl)))))))) (s_one (s_ret (e_P (p_V rfl (.inl rfl))))))
theorem value_at_ok (V : Txt K mg) (hS : SysD base) : FnM Pr w K mg base 1 "value_at" st_value_at ["line", "number"] value_at_m := FnM.by V.d_value_at sc_value_at (value_at_bd V hS)
theorem sc_degree_of : FnScope ["three", "line"] ["three"] (defScope st_degree_of) := ⟨rfl, rfl, rfl, by decide +kernel, rfl, by decide +kernel, by decide +kernel⟩
theorem degree_of_bd (V : Txt K mg) (hS : SysD base) : BdOk Pr w K mg base 0 "degree_of" st_degree_of ["three", "line"] [] degree_of_b := fun fa cdv A outer s H E hg hr => by
  have hN := (sc_degree_of).nd
  exact s_one (s_ret (e_P (p_sub (b_P (p_max rfl V.z_max (ab_cons (b_P (p_F (f_comp rfl hN (iG_seq (p_V rfl (.inl rfl))) (blkOk_by (own := [("line", 1)]) rfl) (fun _ _ _ _ _ => g_V hN rfl (by first | exact .inl rfl | exact .inr rfl) (by first | exact .inr rfl | exact .inl rfl)) (fun _ _ _ _ _ => ts_nil) (fun _ _ _ _ _ => p_len V.z_len (ab_cons (b_P (p_V rfl (.inl rfl))) ab_nil)) (by decide)))) ab_nil))) (b_P (p_int)))))
theorem degree_of_ok (V : Txt K mg) (hS : SysD base) : FnM Pr w K mg base 1 "degree_of" st_degree_of ["three"] degree_of_m := FnM.by V.d_degree_of sc_degree_of (degree_of_bd V hS)
theorem sc__law_pot : FnScope ["script", "k", "cell"] ["script", "k"] (defScope st__law_pot) := ⟨rfl, rfl, rfl, by decide +kernel, rfl, by decide +kernel, by decide +kernel⟩
theorem _law_pot_bd (V : Txt K mg) (hS : SysD base) : BdOk Pr w K mg base 0 "_law_pot" st__law_pot ["script", "k", "cell"] [] _law_pot_b := fun fa cdv A outer s H E hg hr => by
  have hN := (sc__law_pot).nd
  exact s_cons (s_set (i := 2) hN rfl (.inl rfl) (e_P (p_if (q_lt (b_P (p_V rfl (.inl rfl))) (b_P (p_len V.z_len (ab_cons (b_P (p_V rfl (.inl rfl))) ab_nil)))) (p_abs V.z_abs (ab_cons (b_P (p_ix (p_V rfl (.inl rfl)) (b_P (p_V rfl (.inl rfl))) (fun _ _ => rfl))) ab_nil)) (p_add (b_P (p_mul (b_P (p_int)) (b_P (p_V rfl (.inl rfl))))) (b_P (p_int)))))) (s_one (s_ret (e_F (f_lst (ad_cons (p_max rfl V.z_max (ab_cons (b_P (p_int)) (ab_cons (b_P (p_sub (b_P (p_V rfl (.inl rfl))) (b_P (p_pow (b_P (p_int)) (b_P (p_int)))))) ab_nil))) (ad_cons (p_add (b_P (p_mod (b_P (p_intC V.z_int (ab_cons (b_P (p_add (b_P (p_add (b_P (p_mul (b_P (p_mod (b_P (p_intC V.z_int (ab_cons (b_P (p_V rfl (.inl rfl))) ab_nil))) (b_P (p_int)))) (b_P (p_int)))) (b_P (p_mul (b_P (p_int)) (b_P (p_V rfl (.inl rfl))))))) (b_P (p_int)))) ab_nil))) (b_P (p_int)))) (b_P (p_int))) ad_nil))))))
theorem _law_pot_ok (V : Txt K mg) (hS : SysD base) : FnM Pr w K mg base 1 "_law_pot" st__law_pot ["script", "k"] _law_pot_m := FnM.by V.d__law_pot sc__law_pot (_law_pot_bd V hS)
theorem sc__law_draw : FnScope ["pot", "many", "digit"] ["pot", "many"] (defScope st__law_draw) := ⟨rfl, rfl, rfl, by decide +kernel, rfl, by decide +kernel, by decide +kernel⟩
theorem _law_draw_bd (V : Txt K mg) (hS : SysD base) : BdOk Pr w K mg base 0 "_law_draw" st__law_draw ["pot", "many", "digit"] [0] _law_draw_b := fun fa cdv A outer s H E hg hr => by
  have hN := (sc__law_draw).nd
  exact s_cons (s_if (t_P (q_gt (b_Kf (k_ix (k_V rfl (.inl rfl)) (b_P (p_int)) (fun _ _ => rfl))) (b_P (p_int)))) (s_cons (s_asg (e_P (p_divmod (by rfl) V.z_divmod (ab_cons (b_Kf (k_ix (k_V rfl (.inl rfl)) (b_P (p_int)) (fun _ _ => rfl))) (ab_cons (b_P (p_V rfl (.inl rfl))) ab_nil)))) (g_tup rfl (gs_cons (g_ix (pa_V rfl (.inl rfl)) (b_P (p_int))) (gs_cons (g_V hN rfl (.inl rfl) (.inl rfl)) (gs_nil))))) (s_one (s_ret (e_P (p_V rfl (.inl rfl)))))) (s_nil)) (s_cons (s_asg (e_P (p_mod (b_P (p_intC V.z_int (ab_cons (b_P (p_add (b_P (p_mul (b_Kf (k_ix (k_V rfl (.inl rfl)) (b_P (p_int)) (fun _ _ => rfl))) (b_P (p_int)))) (b_P (p_int)))) ab_nil))) (b_P (p_int)))) (g_ix (pa_V rfl (.inl rfl)) (b_P (p_int)))) (s_one (s_ret (e_P (p_mod (b_P (p_intC V.z_int (ab_cons (b_P (p_fdiv (b_P (p_mod (b_P (p_intC V.z_int (ab_cons (b_P (p_mul (b_Kf (k_ix (k_V rfl (.inl rfl)) (b_P (p_int)) (fun _ _ => rfl))) (b_Kf (k_ix (k_V rfl (.inl rfl)) (b_P (p_int)) (fun _ _ => rfl))))) ab_nil))) (b_P (p_int)))) (b_P (p_int)))) ab_nil))) (b_P (p_V rfl (.inl rfl))))))))
theorem _law_draw_ok (V : Txt K mg) (hS : SysD base) : FnM Pr w K mg base 1 "_law_draw" st__law_draw ["pot", "many"] _law_draw_m := FnM.by V.d__law_draw sc__law_draw (_law_draw_bd V hS)
theorem sc__law_trim : FnScope ["numbers", "found"] ["numbers"] (defScope st__law_trim) := ⟨rfl, rfl, rfl, by decide +kernel, rfl, by decide +kernel, by decide +kernel⟩
theorem _law_trim_bd (V : Txt K mg) (hS : SysD base) : BdOk Pr w K mg base 0 "_law_trim" st__law_trim ["numbers", "found"] [] _law_trim_b := fun fa cdv A outer s H E hg hr => by
  have hN := (sc__law_trim).nd
  exact s_cons (s_set (i := 1) hN rfl (.inl rfl) (e_P (p_F (f_listC V.z_list (p_V rfl (.inl rfl)))))) (s_cons (s_while (passes_of rfl) (t_P (q_W (w_and (q_ne hr (b_P (p_V rfl (.inl rfl))) (b_P (p_F (f_lst (ad_nil))))) (w_and1 (q_eq hr (b_P (p_ix (p_V rfl (.inl rfl)) (b_P (p_neg (b_P (p_int)))) (fun _ _ => rfl))) (b_P (p_int))))))) (s_one (s_set (i := 1) hN rfl (.inl rfl) (e_P (p_F (f_slice (l_P (p_V rfl (.inl rfl))) o_none (o_some (b_P (p_neg (b_P (p_int))))))))))) (s_one (s_ret (e_P (p_V rfl (.inl rfl))))))
theorem _law_trim_ok (V : Txt K mg) (hS : SysD base) : FnM Pr w K mg base 1 "_law_trim" st__law_trim ["numbers"] _law_trim_m := FnM.by V.d__law_trim sc__law_trim (_law_trim_bd V hS)
theorem sc__law_value : FnScope ["line", "number", "found", "one"] ["line", "number"] (defScope st__law_value) := ⟨rfl, rfl, rfl, by decide +kernel, rfl, by decide +kernel, by decide +kernel⟩
theorem _law_value_bd (V : Txt K mg) (hS : SysD base) : BdOk Pr w K mg base 0 "_law_value" st__law_value ["line", "number", "found", "one"] [] _law_value_b := fun fa cdv A outer s H E hg hr => by
  have hN := (sc__law_value).nd
  exact s_cons (s_set (i := 2) hN rfl (.inl rfl) (e_P (p_int))) (s_cons (s_for (passes_of rfl) rfl (iD_seq (e_P (p_F (f_rev (l_P (p_V rfl (.inl rfl))))))) (g_V hN rfl (.inl rfl) (.inl rfl)) (s_one (s_set (i := 2) hN rfl (.inl rfl) (e_P (p_add (b_P (p_mul (b_P (p_V rfl (.inl rfl))) (b_P (p_V rfl (.inl rfl))))) (b_P (p_V rfl (.inl rfl)))))))) (s_one (s_ret (e_P (p_V rfl (.inl rfl))))))
theorem _law_value_ok (V : Txt K mg) (hS : SysD base) : FnM Pr w K mg base 1 "_law_value" st__law_value ["line", "number"] _law_value_m := FnM.by V.d__law_value sc__law_value (_law_value_bd V hS)
theorem sc__law_divisor : FnScope ["numbers", "found", "number", "near", "far"] ["numbers"] (defScope st__law_divisor) := ⟨rfl, rfl, rfl, by decide +kernel, rfl, by decide +kernel, by decide +kernel⟩
theorem _law_divisor_bd (V : Txt K mg) (hS : SysD base) : BdOk Pr w K mg base 0 "_law_divisor" st__law_divisor ["numbers", "found", "number", "near", "far"] [] _law_divisor_b := fun fa cdv A outer s H E hg hr => by
  have hN := (sc__law_divisor).nd
  exact s_cons (s_set (i := 1) hN rfl (.inl rfl) (e_P (p_int))) (s_cons (s_for (passes_of rfl) rfl (iD_seq (e_P (p_V rfl (.inl rfl)))) (g_V hN rfl (.inl rfl) (.inl rfl)) (s_cons (s_par (i := 3) (j := 4) rfl hN rfl rfl (by decide) rfl rfl (am_cons (e_P (p_V rfl (.inl rfl))) (am_cons (e_P (p_abs V.z_abs (ab_cons (b_P (p_V rfl (.inl rfl))) ab_nil))) am_nil)) (by decide) (by decide) rfl) (s_cons (s_while (passes_of rfl) (t_P (q_gt (b_P (p_V rfl (.inl rfl))) (b_P (p_int)))) (s_one (s_par (i := 3) (j := 4) rfl hN rfl rfl (by decide) rfl rfl (am_cons (e_P (p_V rfl (.inl rfl))) (am_cons (e_P (p_mod (b_P (p_intC V.z_int (ab_cons (b_P (p_V rfl (.inl rfl))) ab_nil))) (b_P (p_V rfl (.inl rfl))))) am_nil)) (by decide) (by decide) rfl))) (s_one (s_set (i := 1) hN rfl (.inl rfl) (e_P (p_V rfl (.inl rfl)))))))) (s_one (s_ret (e_P (p_V rfl (.inl rfl))))))
theorem _law_divisor_ok (V : Txt K mg) (hS : SysD base) : FnM Pr w K mg base 1 "_law_divisor" st__law_divisor ["numbers"] _law_divisor_m := FnM.by V.d__law_divisor sc__law_divisor (_law_divisor_bd V hS)
theorem sc__law_degree : FnScope ["three", "line"] ["three"] (defScope st__law_degree) := ⟨rfl, rfl, rfl, by decide +kernel, rfl, by decide +kernel, by decide +kernel⟩
theorem _law_degree_bd (V : Txt K mg) (hS : SysD base) : BdOk Pr w K mg base 0 "_law_degree" st__law_degree ["three", "line"] [] _law_degree_b := fun fa cdv A outer s H E hg hr => by
  have hN := (sc__law_degree).nd
  exact s_one (s_ret (e_P (p_sub (b_P (p_max rfl V.z_max (ab_cons (b_P (p_F (f_comp rfl hN (iG_seq (p_V rfl (.inl rfl))) (blkOk_by (own := [("line", 1)]) rfl) (fun _ _ _ _ _ => g_V hN rfl (by first | exact .inl rfl | exact .inr rfl) (by first | exact .inr rfl | exact .inl rfl)) (fun _ _ _ _ _ => ts_nil) (fun _ _ _ _ _ => p_len V.z_len (ab_cons (b_P (p_V rfl (.inl rfl))) ab_nil)) (by decide)))) ab_nil))) (b_P (p_int)))))
theorem _law_degree_ok (V : Txt K mg) (hS : SysD base) : FnM Pr w K mg base 1 "_law_degree" st__law_degree ["three"] _law_degree_m := FnM.by V.d__law_degree sc__law_degree (_law_degree_bd V hS)
theorem sc_greatest_of : FnScope ["some", "found", "number"] ["some"] (defScope st_greatest_of) := ⟨rfl, rfl, rfl, by decide +kernel, rfl, by decide +kernel, by decide +kernel⟩
theorem greatest_of_bd (V : Txt K mg) (hS : SysD base) : BdOk Pr w K mg base 1 "greatest_of" st_greatest_of ["some", "found", "number"] [] greatest_of_b := fun fa cdv A outer s H E hg hr => by
  have hN := (sc_greatest_of).nd
  exact s_cons (s_set (i := 1) hN rfl (.inl rfl) (e_P (p_int))) (s_cons (s_for (passes_of rfl) rfl (iD_seq (e_P (p_V rfl (.inl rfl)))) (g_V hN rfl (.inl rfl) (.inl rfl)) (s_one (s_set (i := 1) hN rfl (.inl rfl) (e_P (p_fn (divisor_of_ok V hS) bp_divisor_of hg hr (by rfl) (ad_cons (p_V rfl (.inl rfl)) (ad_cons (p_V rfl (.inl rfl)) ad_nil))))))) (s_one (s_ret (e_P (p_V rfl (.inl rfl))))))
theorem greatest_of_ok (V : Txt K mg) (hS : SysD base) : FnM Pr w K mg base 2 "greatest_of" st_greatest_of ["some"] greatest_of_m := FnM.by V.d_greatest_of sc_greatest_of (greatest_of_bd V hS)
theorem sc_want_number : FnScope ["value"] ["value"] (defScope st_want_number) := ⟨rfl, rfl, rfl, by decide +kernel, rfl, by decide +kernel, by decide +kernel⟩
theorem want_number_bd (V : Txt K mg) (hS : SysD base) : BdOk Pr w K mg base 1 "want_number" st_want_number ["value"] [] want_number_b := fun fa cdv A outer s H E hg hr => by
  have hN := (sc_want_number).nd
  exact s_one (s_if (t_P (q_not (q_val (p_fn (is_integer_ok V hS) bp_is_integer hg hr (by rfl) (ad_cons (p_V rfl (.inl rfl)) ad_nil))))) (s_one (s_never)) (s_nil))
theorem want_number_ok (V : Txt K mg) (hS : SysD base) : FnM Pr w K mg base 2 "want_number" st_want_number ["value"] want_number_m := FnM.by V.d_want_number sc_want_number (want_number_bd V hS)
theorem sc_plus_lines : FnScope ["line", "other", "near", "far", "at"] ["line", "other"] (defScope st_plus_lines) := ⟨rfl, rfl, rfl, by decide +kernel, rfl, by decide +kernel, by decide +kernel⟩
theorem plus_lines_bd (V : Txt K mg) (hS : SysD base) : BdOk Pr w K mg base 1 "plus_lines" st_plus_lines ["line", "other", "near", "far", "at"] [] plus_lines_b := fun fa cdv A outer s H E hg hr => by
  have hN := (sc_plus_lines).nd
  exact s_cons (s_asg (e_P (p_if (q_ge (b_P (p_len V.z_len (ab_cons (b_P (p_V rfl (.inl rfl))) ab_nil))) (b_P (p_len V.z_len (ab_cons (b_P (p_V rfl (.inl rfl))) ab_nil)))) (p_tup (ad_cons (p_V rfl (.inl rfl)) (ad_cons (p_V rfl (.inl rfl)) ad_nil))) (p_tup (ad_cons (p_V rfl (.inl rfl)) (ad_cons (p_V rfl (.inl rfl)) ad_nil))))) (g_tup rfl (gs_cons (g_V hN rfl (.inr rfl) (.inl rfl)) (gs_cons (g_V hN rfl (.inr rfl) (.inl rfl)) (gs_nil))))) (s_one (s_ret (e_fnO (trimmed_ok V hS) bp_trimmed hg hr (takes_of rfl rfl rfl rfl) (by rfl) (am_cons (e_P (p_F (f_cat (l_F (f_comp rfl hN (iG_rng1 (by rfl) V.z_range (ab_cons (b_P (p_len V.z_len (ab_cons (b_P (p_V rfl (.inr (.inl rfl)))) ab_nil))) ab_nil)) (blkOk_by (own := [("at", 4)]) rfl) (fun _ _ _ _ _ => g_V hN rfl (by first | exact .inl rfl | exact .inr rfl) (by first | exact .inr rfl | exact .inl rfl)) (fun _ _ _ _ _ => ts_nil) (fun _ _ _ _ _ => p_add (b_P (p_ix (p_V rfl (by first | exact .inr (.inr rfl) | exact .inr (.inl rfl) | exact .inl rfl)) (b_P (p_V rfl (.inl rfl))) (fun _ _ => rfl))) (b_P (p_ix (p_V rfl (by first | exact .inr (.inr rfl) | exact .inr (.inl rfl) | exact .inl rfl)) (b_P (p_V rfl (.inl rfl))) (fun _ _ => rfl)))) (by decide))) (l_F (f_listC V.z_list (p_F (f_slice (l_P (p_V rfl (.inr (.inl rfl)))) (o_some (b_P (p_len V.z_len (ab_cons (b_P (p_V rfl (.inr (.inl rfl)))) ab_nil)))) o_none))))))) am_nil))))
theorem plus_lines_ok (V : Txt K mg) (hS : SysD base) : FnM Pr w K mg base 2 "plus_lines" st_plus_lines ["line", "other"] plus_lines_m := FnM.by V.d_plus_lines sc_plus_lines (plus_lines_bd V hS)
theorem sc_line_in : FnScope ["value", "one"] ["value"] (defScope st_line_in) := ⟨rfl, rfl, rfl, by decide +kernel, rfl, by decide +kernel, by decide +kernel⟩
theorem line_in_bd (V : Txt K mg) (hS : SysD base) : BdOk Pr w K mg base 1 "line_in" st_line_in ["value", "one"] [] line_in_b := fun fa cdv A outer s H E hg hr => by
  have hN := (sc_line_in).nd
  exact s_cons (s_if (t_P (q_W (w_or (q_not (q_val (p_fn (is_list_ok V hS) bp_is_list hg hr (by rfl) (ad_cons (p_V rfl (.inl rfl)) ad_nil)))) (w_or (q_gt (b_P (p_len V.z_len (ab_cons (b_P (p_V rfl (.inl rfl))) ab_nil))) (b_P (p_add (b_P (p_glob (v := .int 12) rfl V.g_MOST_DEGREE.choose_spec ⟨_, rfl⟩)) (b_P (p_int))))) (w_or1 (q_not (q_val (p_all rfl V.z_all (ab_cons (b_P (p_F (f_comp rfl hN (iG_seq (p_V rfl (.inl rfl))) (blkOk_by (own := [("one", 1)]) rfl) (fun _ _ _ _ _ => g_V hN rfl (by first | exact .inl rfl | exact .inr rfl) (by first | exact .inr rfl | exact .inl rfl)) (fun _ _ _ _ _ => ts_nil) (fun _ _ _ _ _ => p_fn (is_integer_ok V hS) bp_is_integer hg hr (by rfl) (ad_cons (p_V rfl (.inl rfl)) ad_nil)) (by decide)))) ab_nil))))))))) (s_one (s_ret (e_P (p_non)))) (s_nil)) (s_one (s_ret (e_P (p_if (q_W (w_or (q_eq hr (b_P (p_len V.z_len (ab_cons (b_P (p_V rfl (.inl rfl))) ab_nil))) (b_P (p_int))) (w_or1 (q_ne hr (b_P (p_ix (p_V rfl (.inl rfl)) (b_P (p_neg (b_P (p_int)))) (fun _ _ => rfl))) (b_P (p_int)))))) (p_F (f_listC V.z_list (p_V rfl (.inl rfl)))) (p_non)))))
theorem line_in_ok (V : Txt K mg) (hS : SysD base) : FnM Pr w K mg base 2 "line_in" st_line_in ["value"] line_in_m := FnM.by V.d_line_in sc_line_in (line_in_bd V hS)
theorem sc__law_pick : FnScope ["pot", "some"] ["pot", "some"] (defScope st__law_pick) := ⟨rfl, rfl, rfl, by decide +kernel, rfl, by decide +kernel, by decide +kernel⟩
theorem _law_pick_bd (V : Txt K mg) (hS : SysD base) : BdOk Pr w K mg base 1 "_law_pick" st__law_pick ["pot", "some"] [0] _law_pick_b := fun fa cdv A outer s H E hg hr => by
  have hN := (sc__law_pick).nd
  exact s_one (s_ret (e_ix (e_P (p_V rfl (.inl rfl))) (e_fnL (_law_draw_ok V hS) bp__law_draw hg hr (takes_of rfl rfl rfl rfl) (by rfl) rfl (.inl rfl) (am_cons (e_P (p_len V.z_len (ab_cons (b_P (p_V rfl (.inl rfl))) ab_nil))) am_nil)) (fun _ _ => rfl)))
theorem _law_pick_ok (V : Txt K mg) (hS : SysD base) : FnM Pr w K mg base 2 "_law_pick" st__law_pick ["pot", "some"] _law_pick_m := FnM.by V.d__law_pick sc__law_pick (_law_pick_bd V hS)
theorem sc__law_plus : FnScope ["line", "other", "size", "near", "far", "one", "two"] ["line", "other"] (defScope st__law_plus) := ⟨rfl, rfl, rfl, by decide +kernel, rfl, by decide +kernel, by decide +kernel⟩
theorem _law_plus_bd (V : Txt K mg) (hS : SysD base) : BdOk Pr w K mg base 1 "_law_plus" st__law_plus ["line", "other", "size", "near", "far", "one", "two"] [] _law_plus_b := fun fa cdv A outer s H E hg hr => by
  have hN := (sc__law_plus).nd
  exact s_cons (s_set (i := 2) hN rfl (.inl rfl) (e_P (p_max rfl V.z_max (ab_cons (b_P (p_len V.z_len (ab_cons (b_P (p_V rfl (.inl rfl))) ab_nil))) (ab_cons (b_P (p_len V.z_len (ab_cons (b_P (p_V rfl (.inl rfl))) ab_nil))) ab_nil))))) (s_cons (s_par (i := 3) (j := 4) rfl hN rfl rfl (by decide) rfl rfl (am_cons (e_P (p_F (f_cat (l_F (f_listC V.z_list (p_V rfl (.inl rfl)))) (l_F (f_rep (l_F (f_lst (ad_cons (p_int) ad_nil))) (b_P (p_sub (b_P (p_V rfl (.inl rfl))) (b_P (p_len V.z_len (ab_cons (b_P (p_V rfl (.inl rfl))) ab_nil)))))))))) (am_cons (e_P (p_F (f_cat (l_F (f_listC V.z_list (p_V rfl (.inl rfl)))) (l_F (f_rep (l_F (f_lst (ad_cons (p_int) ad_nil))) (b_P (p_sub (b_P (p_V rfl (.inl rfl))) (b_P (p_len V.z_len (ab_cons (b_P (p_V rfl (.inl rfl))) ab_nil)))))))))) am_nil)) (by decide) (by decide) rfl) (s_one (s_ret (e_P (p_fn (_law_trim_ok V hS) bp__law_trim hg hr (by rfl) (ad_cons (p_F (f_comp rfl hN (iG_zipS (by rfl) V.z_zip (p_V rfl (.inl rfl)) (p_V rfl (.inl rfl))) (blkOk_by (own := [("one", 5), ("two", 6)]) rfl) (fun _ _ _ _ _ => g_tup rfl (gs_cons (g_V hN rfl (by first | exact .inl rfl | exact .inr rfl) (by first | exact .inr rfl | exact .inl rfl)) (gs_cons (g_V hN rfl (by first | exact .inl rfl | exact .inr rfl) (by first | exact .inr rfl | exact .inl rfl)) (gs_nil)))) (fun _ _ _ _ _ => ts_nil) (fun _ _ _ _ _ => p_add (b_P (p_V rfl (.inl rfl))) (b_P (p_V rfl (.inl rfl)))) (by decide))) ad_nil))))))
theorem _law_plus_ok (V : Txt K mg) (hS : SysD base) : FnM Pr w K mg base 2 "_law_plus" st__law_plus ["line", "other"] _law_plus_m := FnM.by V.d__law_plus sc__law_plus (_law_plus_bd V hS)
theorem sc__law_by : FnScope ["line", "number", "one"] ["line", "number"] (defScope st__law_by) := ⟨rfl, rfl, rfl, by decide +kernel, rfl, by decide +kernel, by decide +kernel⟩
theorem _law_by_bd (V : Txt K mg) (hS : SysD base) : BdOk Pr w K mg base 1 "_law_by" st__law_by ["line", "number", "one"] [] _law_by_b := fun fa cdv A outer s H E hg hr => by
  have hN := (sc__law_by).nd
  exact s_one (s_ret (e_P (p_fn (_law_trim_ok V hS) bp__law_trim hg hr (by rfl) (ad_cons (p_F (f_comp rfl hN (iG_seq (p_V rfl (.inl rfl))) (blkOk_by (own := [("one", 2)]) rfl) (fun _ _ _ _ _ => g_V hN rfl (by first | exact .inl rfl | exact .inr rfl) (by first | exact .inr rfl | exact .inl rfl)) (fun _ _ _ _ _ => ts_nil) (fun _ _ _ _ _ => p_mul (b_P (p_V rfl (by first | exact .inr (.inr rfl) | exact .inr (.inl rfl) | exact .inl rfl))) (b_P (p_V rfl (.inl rfl)))) (by decide))) ad_nil))))
theorem _law_by_ok (V : Txt K mg) (hS : SysD base) : FnM Pr w K mg base 2 "_law_by" st__law_by ["line", "number"] _law_by_m := FnM.by V.d__law_by sc__law_by (_law_by_bd V hS)
theorem sc__law_times : FnScope ["line", "other", "found", "at", "one", "to", "two"] ["line", "other"] (defScope st__law_times) := ⟨rfl, rfl, rfl, by decide +kernel, rfl, by decide +kernel, by decide +kernel⟩
theorem _law_times_bd (V : Txt K mg) (hS : SysD base) : BdOk Pr w K mg base 1 "_law_times" st__law_times ["line", "other", "found", "at", "one", "to", "two"] [] _law_times_b := fun fa cdv A outer s H E hg hr => by
  have hN := (sc__law_times).nd
  exact s_cons (s_set (i := 2) hN rfl (.inl rfl) (e_F (f_rep (l_F (f_lst (ad_cons (p_int) ad_nil))) (b_P (p_add (b_P (p_len V.z_len (ab_cons (b_P (p_V rfl (.inl rfl))) ab_nil))) (b_P (p_len V.z_len (ab_cons (b_P (p_V rfl (.inl rfl))) ab_nil)))))))) (s_cons (s_for (passes_of rfl) rfl (iD_enumS (by rfl) V.z_enumerate (p_V rfl (.inl rfl))) (g_tup rfl (gs_cons (g_V hN rfl (.inl rfl) (.inl rfl)) (gs_cons (g_V hN rfl (.inl rfl) (.inl rfl)) (gs_nil)))) (s_one (s_for (passes_of rfl) rfl (iD_enumS (by rfl) V.z_enumerate (p_V rfl (.inl rfl))) (g_tup rfl (gs_cons (g_V hN rfl (.inl rfl) (.inl rfl)) (gs_cons (g_V hN rfl (.inl rfl) (.inl rfl)) (gs_nil)))) (s_one (s_asg (e_P (p_add (b_Kf (k_ix (k_V rfl (.inl rfl)) (b_P (p_add (b_P (p_V rfl (.inl rfl))) (b_P (p_V rfl (.inl rfl))))) (fun _ _ => rfl))) (b_P (p_mul (b_P (p_V rfl (.inl rfl))) (b_P (p_V rfl (.inl rfl))))))) (g_ix (pa_V rfl (.inl rfl)) (b_P (p_add (b_P (p_V rfl (.inl rfl))) (b_P (p_V rfl (.inl rfl))))))))))) (s_one (s_ret (e_fn (_law_trim_ok V hS) bp__law_trim hg hr (takes_of rfl rfl rfl rfl) (by rfl) (am_cons (e_V rfl (.inl rfl)) am_nil)))))
theorem _law_times_ok (V : Txt K mg) (hS : SysD base) : FnM Pr w K mg base 2 "_law_times" st__law_times ["line", "other"] _law_times_m := FnM.by V.d__law_times sc__law_times (_law_times_bd V hS)
theorem sc__law_bare : FnScope ["numbers", "part", "number"] ["numbers"] (defScope st__law_bare) := ⟨rfl, rfl, rfl, by decide +kernel, rfl, by decide +kernel, by decide +kernel⟩
theorem _law_bare_bd (V : Txt K mg) (hS : SysD base) : BdOk Pr w K mg base 1 "_law_bare" st__law_bare ["numbers", "part", "number"] [] _law_bare_b := fun fa cdv A outer s H E hg hr => by
  have hN := (sc__law_bare).nd
  exact s_cons (s_set (i := 1) hN rfl (.inr rfl) (e_P (p_fn (_law_divisor_ok V hS) bp__law_divisor hg hr (by rfl) (ad_cons (p_V rfl (.inl rfl)) ad_nil)))) (s_one (s_ret (e_P (p_if (q_gt (b_P (p_V rfl (.inr (.inl rfl)))) (b_P (p_int))) (p_F (f_comp rfl hN (iG_seq (p_V rfl (.inl rfl))) (blkOk_by (own := [("number", 2)]) rfl) (fun _ _ _ _ _ => g_V hN rfl (by first | exact .inl rfl | exact .inr rfl) (by first | exact .inr rfl | exact .inl rfl)) (fun _ _ _ _ _ => ts_nil) (fun _ _ _ _ _ => p_fdiv (b_P (p_V rfl (.inl rfl))) (b_P (p_V rfl (by first | exact .inr (.inr rfl) | exact .inr (.inl rfl) | exact .inl rfl)))) (by decide))) (p_F (f_listC V.z_list (p_V rfl (.inl rfl))))))))
theorem _law_bare_ok (V : Txt K mg) (hS : SysD base) : FnM Pr w K mg base 2 "_law_bare" st__law_bare ["numbers"] _law_bare_m := FnM.by V.d__law_bare sc__law_bare (_law_bare_bd V hS)
theorem sc__law_given : FnScope ["pot", "three", "found", "line"] ["pot", "three"] (defScope st__law_given) := ⟨rfl, rfl, rfl, by decide +kernel, rfl, by decide +kernel, by decide +kernel⟩
theorem _law_given_bd (V : Txt K mg) (hS : SysD base) : BdOk Pr w K mg base 1 "_law_given" st__law_given ["pot", "three", "found", "line"] [0] _law_given_b := fun fa cdv A outer s H E hg hr => by
  have hN := (sc__law_given).nd
  exact s_cons (s_setCMf rfl hN rfl rfl rfl (iD_seq (e_P (p_V rfl (.inl rfl)))) (blkOk_by (own := [("line", 3)]) rfl) (fun _ _ _ _ _ => g_V hN rfl (by first | exact .inl rfl | exact .inr rfl) (by first | exact .inr rfl | exact .inl rfl)) (fun _ _ _ _ _ => ts_nil) (fun _ _ _ _ _ => e_if (t_cmp (op_eqD hr.units) pure_eq (nomark _) (e_fnL (_law_draw_ok V hS) bp__law_draw hg hr takesN (by rfl) rfl (by first | exact .inr (.inr rfl) | exact .inr (.inl rfl) | exact .inl rfl) (am_cons (e_P (p_int)) am_nil)) (e_P (p_int))) (e_P (p_tupC V.z_tuple (l_P (p_V rfl (.inl rfl))))) (e_P (p_F (f_listC V.z_list (p_V rfl (.inl rfl)))))) (by decide)) (s_one (s_ret (e_if (t_cmp (op_eqD hr.units) pure_eq (nomark _) (e_fnL (_law_draw_ok V hS) bp__law_draw hg hr (takes_of rfl rfl rfl rfl) (by rfl) rfl (.inr (.inl rfl)) (am_cons (e_P (p_int)) am_nil)) (e_P (p_int))) (e_P (p_tupC V.z_tuple (l_P (p_V rfl (.inl rfl))))) (e_P (p_V rfl (.inl rfl))))))
theorem _law_given_ok (V : Txt K mg) (hS : SysD base) : FnM Pr w K mg base 2 "_law_given" st__law_given ["pot", "three"] _law_given_m := FnM.by V.d__law_given sc__law_given (_law_given_bd V hS)
theorem sc_minus_lines : FnScope ["line", "other"] ["line", "other"] (defScope st_minus_lines) := ⟨rfl, rfl, rfl, by decide +kernel, rfl, by decide +kernel, by decide +kernel⟩
theorem minus_lines_bd (V : Txt K mg) (hS : SysD base) : BdOk Pr w K mg base 2 "minus_lines" st_minus_lines ["line", "other"] [] minus_lines_b := fun fa cdv A outer s H E hg hr => by
  have hN := (sc_minus_lines).nd
  exact s_one (s_ret (e_P (p_fn (plus_lines_ok V hS) bp_plus_lines hg hr (by rfl) (ad_cons (p_V rfl (.inl rfl)) (ad_cons (p_fn (scaled_line_ok V hS) bp_scaled_line hg (hr.mono (by decide : 1 ≤ 2)) (by rfl) (ad_cons (p_V rfl (.inl rfl)) (ad_cons (p_neg (b_P (p_int))) ad_nil))) ad_nil)))))
theorem minus_lines_ok (V : Txt K mg) (hS : SysD base) : FnM Pr w K mg base 3 "minus_lines" st_minus_lines ["line", "other"] minus_lines_m := FnM.by V.d_minus_lines sc_minus_lines (minus_lines_bd V hS)
theorem sc_plain_of : FnScope ["line", "part", "number"] ["line"] (defScope st_plain_of) := ⟨rfl, rfl, rfl, by decide +kernel, rfl, by decide +kernel, by decide +kernel⟩
theorem plain_of_bd (V : Txt K mg) (hS : SysD base) : BdOk Pr w K mg base 2 "plain_of" st_plain_of ["line", "part", "number"] [] plain_of_b := fun fa cdv A outer s H E hg hr => by
  have hN := (sc_plain_of).nd
  exact s_cons (s_if (t_P (q_eq hr (b_P (p_len V.z_len (ab_cons (b_P (p_V rfl (.inl rfl))) ab_nil))) (b_P (p_int)))) (s_one (s_ret (e_P (p_F (f_lst (ad_nil)))))) (s_nil)) (s_cons (s_set (i := 1) hN rfl (.inr rfl) (e_P (p_fn (greatest_of_ok V hS) bp_greatest_of hg hr (by rfl) (ad_cons (p_V rfl (.inl rfl)) ad_nil)))) (s_cons (s_if (t_P (q_lt (b_P (p_ix (p_V rfl (.inl rfl)) (b_P (p_neg (b_P (p_int)))) (fun _ _ => rfl))) (b_P (p_int)))) (s_one (s_set (i := 1) hN rfl (.inr rfl) (e_P (p_sub (b_P (p_int)) (b_P (p_V rfl (.inr (.inl rfl)))))))) (s_nil)) (s_one (s_ret (e_P (p_F (f_comp rfl hN (iG_seq (p_V rfl (.inl rfl))) (blkOk_by (own := [("number", 2)]) rfl) (fun _ _ _ _ _ => g_V hN rfl (by first | exact .inl rfl | exact .inr rfl) (by first | exact .inr rfl | exact .inl rfl)) (fun _ _ _ _ _ => ts_nil) (fun _ _ _ _ _ => p_fdiv (b_P (p_V rfl (.inl rfl))) (b_P (p_V rfl (by first | exact .inr (.inr rfl) | exact .inr (.inl rfl) | exact .inl rfl)))) (by decide))))))))
theorem plain_of_ok (V : Txt K mg) (hS : SysD base) : FnM Pr w K mg base 3 "plain_of" st_plain_of ["line"] plain_of_m := FnM.by V.d_plain_of sc_plain_of (plain_of_bd V hS)
theorem sc_want_line : FnScope ["value", "found"] ["value"] (defScope st_want_line) := ⟨rfl, rfl, rfl, by decide +kernel, rfl, by decide +kernel, by decide +kernel⟩
theorem want_line_bd (V : Txt K mg) (hS : SysD base) : BdOk Pr w K mg base 2 "want_line" st_want_line ["value", "found"] [] want_line_b := fun fa cdv A outer s H E hg hr => by
  have hN := (sc_want_line).nd
  exact s_cons (s_set (i := 1) hN rfl (.inl rfl) (e_P (p_fn (line_in_ok V hS) bp_line_in hg hr (by rfl) (ad_cons (p_V rfl (.inl rfl)) ad_nil)))) (s_cons (s_if (t_P (q_isN (b_P (p_V rfl (.inl rfl))) (b_P (p_non)))) (s_one (s_never)) (s_nil)) (s_one (s_ret (e_P (p_V rfl (.inl rfl))))))
theorem want_line_ok (V : Txt K mg) (hS : SysD base) : FnM Pr w K mg base 3 "want_line" st_want_line ["value"] want_line_m := FnM.by V.d_want_line sc_want_line (want_line_bd V hS)
theorem sc_lowest : FnScope ["row", "common", "number"] ["row"] (defScope st_lowest) := ⟨rfl, rfl, rfl, by decide +kernel, rfl, by decide +kernel, by decide +kernel⟩
theorem lowest_bd (V : Txt K mg) (hS : SysD base) : BdOk Pr w K mg base 2 "lowest" st_lowest ["row", "common", "number"] [] lowest_b := fun fa cdv A outer s H E hg hr => by
  have hN := (sc_lowest).nd
  exact s_cons (s_set (i := 1) hN rfl (.inr rfl) (e_P (p_fn (greatest_of_ok V hS) bp_greatest_of hg hr (by rfl) (ad_cons (p_V rfl (.inl rfl)) ad_nil)))) (s_one (s_ret (e_if (t_P (q_gt (b_P (p_V rfl (.inr (.inl rfl)))) (b_P (p_int)))) (e_F (f_comp rfl hN (iG_seq (p_V rfl (.inl rfl))) (blkOk_by (own := [("number", 2)]) rfl) (fun _ _ _ _ _ => g_V hN rfl (by first | exact .inl rfl | exact .inr rfl) (by first | exact .inr rfl | exact .inl rfl)) (fun _ _ _ _ _ => ts_nil) (fun _ _ _ _ _ => p_fdiv (b_P (p_V rfl (.inl rfl))) (b_P (p_V rfl (by first | exact .inr (.inr rfl) | exact .inr (.inl rfl) | exact .inl rfl)))) (by decide))) (e_F (f_listC V.z_list (p_V rfl (.inl rfl)))))))
theorem lowest_ok (V : Txt K mg) (hS : SysD base) : FnM Pr w K mg base 3 "lowest" st_lowest ["row"] lowest_m := FnM.by V.d_lowest sc_lowest (lowest_bd V hS)
theorem sc_three_lines : FnScope ["value", "found", "line"] ["value"] (defScope st_three_lines) := ⟨rfl, rfl, rfl, by decide +kernel, rfl, by decide +kernel, by decide +kernel⟩
theorem three_lines_bd (V : Txt K mg) (hS : SysD base) : BdOk Pr w K mg base 2 "three_lines" st_three_lines ["value", "found", "line"] [] three_lines_b := fun fa cdv A outer s H E hg hr => by
  have hN := (sc_three_lines).nd
  exact s_cons (s_if (t_P (q_W (w_or (q_not (q_val (p_fn (is_list_ok V hS) bp_is_list hg (hr.mono (by decide : 1 ≤ 2)) (by rfl) (ad_cons (p_V rfl (.inl rfl)) ad_nil)))) (w_or1 (q_ne hr (b_P (p_len V.z_len (ab_cons (b_P (p_V rfl (.inl rfl))) ab_nil))) (b_P (p_int))))))) (s_one (s_ret (e_P (p_non)))) (s_nil)) (s_cons (s_setCf rfl hN rfl rfl rfl (iG_seq (p_V rfl (.inl rfl))) (blkOk_by (own := [("line", 2)]) rfl) (fun _ _ _ _ _ => g_V hN rfl (by first | exact .inl rfl | exact .inr rfl) (by first | exact .inr rfl | exact .inl rfl)) (fun _ _ _ _ _ => ts_nil) (fun _ _ _ _ _ => p_fn (line_in_ok V hS) bp_line_in hg hr (by rfl) (ad_cons (p_V rfl (.inl rfl)) ad_nil)) (by decide)) (s_one (s_ret (e_P (p_if (q_val (p_any rfl V.z_any (ab_cons (b_P (p_F (f_comp rfl hN (iG_seq (p_V rfl (.inl rfl))) (blkOk_by (own := [("line", 2)]) rfl) (fun _ _ _ _ _ => g_V hN rfl (by first | exact .inl rfl | exact .inr rfl) (by first | exact .inr rfl | exact .inl rfl)) (fun _ _ _ _ _ => ts_nil) (fun _ _ _ _ _ => p_isN (b_P (p_V rfl (.inl rfl))) (b_P (p_non))) (by decide)))) ab_nil))) (p_non) (p_V rfl (.inl rfl)))))))
theorem three_lines_ok (V : Txt K mg) (hS : SysD base) : FnM Pr w K mg base 3 "three_lines" st_three_lines ["value"] three_lines_m := FnM.by V.d_three_lines sc_three_lines (three_lines_bd V hS)
theorem sc_led_line : FnScope ["line", "other", "found", "number"] ["line", "other"] (defScope st_led_line) := ⟨rfl, rfl, rfl, by decide +kernel, rfl, by decide +kernel, by decide +kernel⟩
theorem led_line_bd (V : Txt K mg) (hS : SysD base) : BdOk Pr w K mg base 2 "led_line" st_led_line ["line", "other", "found", "number"] [] led_line_b := fun fa cdv A outer s H E hg hr => by
  have hN := (sc_led_line).nd
  exact s_cons (s_set (i := 2) hN rfl (.inl rfl) (e_F (f_lst (ad_nil)))) (s_cons (s_for (passes_of rfl) rfl (iD_seq (e_P (p_F (f_rev (l_P (p_V rfl (.inl rfl))))))) (g_V hN rfl (.inl rfl) (.inl rfl)) (s_one (s_set (i := 2) hN rfl (.inl rfl) (e_fnO (plus_lines_ok V hS) bp_plus_lines hg hr (takes_of rfl rfl rfl rfl) (by rfl) (am_cons (e_fn (times_lines_ok V hS) bp_times_lines hg (hr.mono (by decide : 1 ≤ 2)) (takes_of rfl rfl rfl rfl) (by rfl) (am_cons (e_V rfl (.inl rfl)) (am_cons (e_P (p_V rfl (.inl rfl))) am_nil))) (am_cons (e_P (p_if (q_ne hr (b_P (p_V rfl (.inl rfl))) (b_P (p_int))) (p_F (f_lst (ad_cons (p_V rfl (.inl rfl)) ad_nil))) (p_F (f_lst (ad_nil))))) am_nil)))))) (s_one (s_ret (e_Mv rfl (.inl rfl)))))
theorem led_line_ok (V : Txt K mg) (hS : SysD base) : FnM Pr w K mg base 3 "led_line" st_led_line ["line", "other"] led_line_m := FnM.by V.d_led_line sc_led_line (led_line_bd V hS)
theorem sc__law_at : FnScope ["line", "time", "found", "one"] ["line", "time"] (defScope st__law_at) := ⟨rfl, rfl, rfl, by decide +kernel, rfl, by decide +kernel, by decide +kernel⟩
theorem _law_at_bd (V : Txt K mg) (hS : SysD base) : BdOk Pr w K mg base 2 "_law_at" st__law_at ["line", "time", "found", "one"] [] _law_at_b := fun fa cdv A outer s H E hg hr => by
  have hN := (sc__law_at).nd
  exact s_cons (s_set (i := 2) hN rfl (.inl rfl) (e_P (p_F (f_lst (ad_nil))))) (s_cons (s_for (passes_of rfl) rfl (iD_seq (e_P (p_F (f_rev (l_P (p_V rfl (.inl rfl))))))) (g_V hN rfl (.inl rfl) (.inl rfl)) (s_one (s_set (i := 2) hN rfl (.inl rfl) (e_P (p_fn (_law_plus_ok V hS) bp__law_plus hg hr (by rfl) (ad_cons (p_fn (_law_times_ok V hS) bp__law_times hg hr (by rfl) (ad_cons (p_V rfl (.inl rfl)) (ad_cons (p_V rfl (.inl rfl)) ad_nil))) (ad_cons (p_if (q_ne hr (b_P (p_V rfl (.inl rfl))) (b_P (p_int))) (p_F (f_lst (ad_cons (p_V rfl (.inl rfl)) ad_nil))) (p_F (f_lst (ad_nil)))) ad_nil))))))) (s_one (s_ret (e_P (p_V rfl (.inl rfl))))))
theorem _law_at_ok (V : Txt K mg) (hS : SysD base) : FnM Pr w K mg base 3 "_law_at" st__law_at ["line", "time"] _law_at_m := FnM.by V.d__law_at sc__law_at (_law_at_bd V hS)
theorem sc__law_common : FnScope ["line", "other", "near", "far", "left", "moved", "one", "two"] ["line", "other"] (defScope st__law_common) := ⟨rfl, rfl, rfl, by decide +kernel, rfl, by decide +kernel, by decide +kernel⟩
theorem _law_common_bd (V : Txt K mg) (hS : SysD base) : BdOk Pr w K mg base 2 "_law_common" st__law_common ["line", "other", "near", "far", "left", "moved", "one", "two"] [] _law_common_b := fun fa cdv A outer s H E hg hr => by
  have hN := (sc__law_common).nd
  exact s_cons (s_asg (e_P (p_tup (ad_cons (p_fn (_law_bare_ok V hS) bp__law_bare hg hr (by rfl) (ad_cons (p_V rfl (.inl rfl)) ad_nil)) (ad_cons (p_fn (_law_bare_ok V hS) bp__law_bare hg hr (by rfl) (ad_cons (p_V rfl (.inl rfl)) ad_nil)) ad_nil)))) (g_tup rfl (gs_cons (g_V hN rfl (.inl rfl) (.inl rfl)) (gs_cons (g_V hN rfl (.inr rfl) (.inl rfl)) (gs_nil))))) (s_cons (s_while (passes_of rfl) (t_P (q_ne hr (b_P (p_V rfl (.inr (.inl rfl)))) (b_P (p_F (f_lst (ad_nil)))))) (s_cons (s_set (i := 4) hN rfl (.inr rfl) (e_P (p_V rfl (.inl rfl)))) (s_cons (s_while (passes_of rfl) (t_P (q_ge (b_P (p_len V.z_len (ab_cons (b_P (p_V rfl (.inr (.inl rfl)))) ab_nil))) (b_P (p_len V.z_len (ab_cons (b_P (p_V rfl (.inr (.inl rfl)))) ab_nil))))) (s_cons (s_set (i := 5) hN rfl (.inl rfl) (e_P (p_F (f_cat (l_F (f_rep (l_F (f_lst (ad_cons (p_int) ad_nil))) (b_P (p_sub (b_P (p_len V.z_len (ab_cons (b_P (p_V rfl (.inr (.inl rfl)))) ab_nil))) (b_P (p_len V.z_len (ab_cons (b_P (p_V rfl (.inr (.inl rfl)))) ab_nil))))))) (l_P (p_V rfl (.inr (.inl rfl)))))))) (s_one (s_set (i := 4) hN rfl (.inr rfl) (e_P (p_fn (_law_trim_ok V hS) bp__law_trim hg (hr.mono (by decide : 1 ≤ 2)) (by rfl) (ad_cons (p_F (f_comp rfl hN (iG_zipS (by rfl) V.z_zip (p_V rfl (.inr (.inl rfl))) (p_V rfl (.inl rfl))) (blkOk_by (own := [("one", 6), ("two", 7)]) rfl) (fun _ _ _ _ _ => g_tup rfl (gs_cons (g_V hN rfl (by first | exact .inl rfl | exact .inr rfl) (by first | exact .inr rfl | exact .inl rfl)) (gs_cons (g_V hN rfl (by first | exact .inl rfl | exact .inr rfl) (by first | exact .inr rfl | exact .inl rfl)) (gs_nil)))) (fun _ _ _ _ _ => ts_nil) (fun _ _ _ _ _ => p_sub (b_P (p_mul (b_P (p_V rfl (.inl rfl))) (b_P (p_ix (p_V rfl (by first | exact .inr (.inr rfl) | exact .inr (.inl rfl) | exact .inl rfl)) (b_P (p_neg (b_P (p_int)))) (fun _ _ => rfl))))) (b_P (p_mul (b_P (p_ix (p_V rfl (by first | exact .inr (.inr rfl) | exact .inr (.inl rfl) | exact .inl rfl)) (b_P (p_neg (b_P (p_int)))) (fun _ _ => rfl))) (b_P (p_V rfl (.inl rfl)))))) (by decide))) ad_nil))))))) (s_one (s_asg (e_P (p_tup (ad_cons (p_V rfl (.inr (.inl rfl))) (ad_cons (p_fn (_law_bare_ok V hS) bp__law_bare hg hr (by rfl) (ad_cons (p_V rfl (.inr (.inl rfl))) ad_nil)) ad_nil)))) (g_tup rfl (gs_cons (g_V hN rfl (.inl rfl) (.inl rfl)) (gs_cons (g_V hN rfl (.inr rfl) (.inl rfl)) (gs_nil))))))))) (s_one (s_ret (e_P (p_V rfl (.inl rfl))))))
theorem _law_common_ok (V : Txt K mg) (hS : SysD base) : FnM Pr w K mg base 3 "_law_common" st__law_common ["line", "other"] _law_common_m := FnM.by V.d__law_common sc__law_common (_law_common_bd V hS)
theorem sc__law_line : FnScope ["pot", "size", "numbers", "turn"] ["pot", "size"] (defScope st__law_line) := ⟨rfl, rfl, rfl, by decide +kernel, rfl, by decide +kernel, by decide +kernel⟩
theorem _law_line_bd (V : Txt K mg) (hS : SysD base) : BdOk Pr w K mg base 2 "_law_line" st__law_line ["pot", "size", "numbers", "turn"] [0] _law_line_b := fun fa cdv A outer s H E hg hr => by
  have hN := (sc__law_line).nd
  exact s_cons (s_set (i := 2) hN rfl (.inl rfl) (e_F (f_lst (ad_nil)))) (s_cons (s_for (passes_of rfl) rfl (iD_rng1 (by rfl) V.z_range (am_cons (e_P (p_add (b_P (p_V rfl (.inl rfl))) (b_P (p_int)))) am_nil)) (g_V hN rfl (.inl rfl) (.inl rfl)) (s_one (s_expr (e_app rfl (.inl rfl) (e_fnL (_law_pick_ok V hS) bp__law_pick hg hr (takes_of rfl rfl rfl rfl) (by rfl) rfl (.inl rfl) (am_cons (e_P (p_F (f_lst (ad_cons (p_int) (ad_cons (p_int) (ad_cons (p_neg (b_P (p_int))) (ad_cons (p_int) (ad_cons (p_int) (ad_cons (p_neg (b_P (p_int))) (ad_cons (p_int) (ad_cons (p_int) ad_nil))))))))))) am_nil)))))) (s_one (s_ret (e_fn (_law_trim_ok V hS) bp__law_trim hg (hr.mono (by decide : 1 ≤ 2)) (takes_of rfl rfl rfl rfl) (by rfl) (am_cons (e_V rfl (.inl rfl)) am_nil)))))
theorem _law_line_ok (V : Txt K mg) (hS : SysD base) : FnM Pr w K mg base 3 "_law_line" st__law_line ["pot", "size"] _law_line_m := FnM.by V.d__law_line sc__law_line (_law_line_bd V hS)
theorem sc__law_cross : FnScope ["three", "others", "found", "one", "two"] ["three", "others"] (defScope st__law_cross) := ⟨rfl, rfl, rfl, by decide +kernel, rfl, by decide +kernel, by decide +kernel⟩
theorem _law_cross_bd (V : Txt K mg) (hS : SysD base) : BdOk Pr w K mg base 2 "_law_cross" st__law_cross ["three", "others", "found", "one", "two"] [] _law_cross_b := fun fa cdv A outer s H E hg hr => by
  have hN := (sc__law_cross).nd
  exact s_cons (s_set (i := 2) hN rfl (.inl rfl) (e_F (f_lst (ad_nil)))) (s_cons (s_for (passes_of rfl) rfl (iD_seq (e_P (p_F (f_lst (ad_cons (p_tup (ad_cons (p_int) (ad_cons (p_int) ad_nil))) (ad_cons (p_tup (ad_cons (p_int) (ad_cons (p_int) ad_nil))) (ad_cons (p_tup (ad_cons (p_int) (ad_cons (p_int) ad_nil))) ad_nil))))))) (g_tup rfl (gs_cons (g_V hN rfl (.inl rfl) (.inl rfl)) (gs_cons (g_V hN rfl (.inl rfl) (.inl rfl)) (gs_nil)))) (s_one (s_expr (e_app rfl (.inl rfl) (e_P (p_fn (_law_plus_ok V hS) bp__law_plus hg hr (by rfl) (ad_cons (p_fn (_law_times_ok V hS) bp__law_times hg hr (by rfl) (ad_cons (p_ix (p_V rfl (.inl rfl)) (b_P (p_V rfl (.inl rfl))) (fun _ _ => rfl)) (ad_cons (p_ix (p_V rfl (.inl rfl)) (b_P (p_V rfl (.inl rfl))) (fun _ _ => rfl)) ad_nil))) (ad_cons (p_fn (_law_by_ok V hS) bp__law_by hg hr (by rfl) (ad_cons (p_fn (_law_times_ok V hS) bp__law_times hg hr (by rfl) (ad_cons (p_ix (p_V rfl (.inl rfl)) (b_P (p_V rfl (.inl rfl))) (fun _ _ => rfl)) (ad_cons (p_ix (p_V rfl (.inl rfl)) (b_P (p_V rfl (.inl rfl))) (fun _ _ => rfl)) ad_nil))) (ad_cons (p_neg (b_P (p_int))) ad_nil))) ad_nil)))))))) (s_one (s_ret (e_V rfl (.inl rfl)))))
theorem _law_cross_ok (V : Txt K mg) (hS : SysD base) : FnM Pr w K mg base 3 "_law_cross" st__law_cross ["three", "others"] _law_cross_m := FnM.by V.d__law_cross sc__law_cross (_law_cross_bd V hS)
theorem sc__law_point : FnScope ["numbers", "found", "heads", "number"] ["numbers"] (defScope st__law_point) := ⟨rfl, rfl, rfl, by decide +kernel, rfl, by decide +kernel, by decide +kernel⟩
theorem _law_point_bd (V : Txt K mg) (hS : SysD base) : BdOk Pr w K mg base 2 "_law_point" st__law_point ["numbers", "found", "heads", "number"] [] _law_point_b := fun fa cdv A outer s H E hg hr => by
  have hN := (sc__law_point).nd
  exact s_cons (s_set (i := 1) hN rfl (.inl rfl) (e_P (p_fn (_law_bare_ok V hS) bp__law_bare hg hr (by rfl) (ad_cons (p_V rfl (.inl rfl)) ad_nil)))) (s_cons (s_setCf rfl hN rfl rfl rfl (iG_seq (p_V rfl (.inl rfl))) (blkOk_by (own := [("number", 3)]) rfl) (fun _ _ _ _ _ => g_V hN rfl (by first | exact .inl rfl | exact .inr rfl) (by first | exact .inr rfl | exact .inl rfl)) (fun _ _ _ _ _ => (ts_one (q_ne hr (b_P (p_V rfl (.inl rfl))) (b_P (p_int))))) (fun _ _ _ _ _ => p_V rfl (.inl rfl)) (by decide)) (s_one (s_ret (e_P (p_if (q_gt (b_P (p_ix (p_V rfl (.inl rfl)) (b_P (p_int)) (fun _ _ => rfl))) (b_P (p_int))) (p_V rfl (.inl rfl)) (p_F (f_comp rfl hN (iG_seq (p_V rfl (.inl rfl))) (blkOk_by (own := [("number", 3)]) rfl) (fun _ _ _ _ _ => g_V hN rfl (by first | exact .inl rfl | exact .inr rfl) (by first | exact .inr rfl | exact .inl rfl)) (fun _ _ _ _ _ => ts_nil) (fun _ _ _ _ _ => p_sub (b_P (p_int)) (b_P (p_V rfl (.inl rfl)))) (by decide))))))))
theorem _law_point_ok (V : Txt K mg) (hS : SysD base) : FnM Pr w K mg base 3 "_law_point" st__law_point ["numbers"] _law_point_m := FnM.by V.d__law_point sc__law_point (_law_point_bd V hS)
theorem sc_parted : FnScope ["line", "other", "number", "rest", "quotient", "part", "shift", "much", "taken", "one"] ["line", "other"] (defScope st_parted) := ⟨rfl, rfl, rfl, by decide +kernel, rfl, by decide +kernel, by decide +kernel⟩
theorem parted_bd (V : Txt K mg) (hS : SysD base) : BdOk Pr w K mg base 3 "parted" st_parted ["line", "other", "number", "rest", "quotient", "part", "shift", "much", "taken", "one"] [] parted_b := fun fa cdv A outer s H E hg hr => by
  have hN := (sc_parted).nd
  exact s_cons (s_par3 (i := 2) (j := 3) (l := 4) rfl hN rfl rfl rfl (by decide) (by decide) (by decide) rfl rfl rfl (am_cons (e_P (p_int)) (am_cons (e_P (p_F (f_listC V.z_list (p_V rfl (.inl rfl))))) (am_cons (e_F (f_lst (ad_nil))) am_nil))) (by decide) (by decide) (by decide) rfl) (s_cons (s_if (t_P (q_ge (b_P (p_len V.z_len (ab_cons (b_P (p_V rfl (.inl rfl))) ab_nil))) (b_P (p_len V.z_len (ab_cons (b_P (p_V rfl (.inl rfl))) ab_nil))))) (s_one (s_set (i := 4) hN rfl (.inl rfl) (e_F (f_rep (l_F (f_lst (ad_cons (p_int) ad_nil))) (b_P (p_add (b_P (p_sub (b_P (p_len V.z_len (ab_cons (b_P (p_V rfl (.inl rfl))) ab_nil))) (b_P (p_len V.z_len (ab_cons (b_P (p_V rfl (.inl rfl))) ab_nil))))) (b_P (p_int)))))))) (s_nil)) (s_cons (s_while (passes_of rfl) (t_P (q_ge (b_P (p_len V.z_len (ab_cons (b_P (p_V rfl (.inl rfl))) ab_nil))) (b_P (p_len V.z_len (ab_cons (b_P (p_V rfl (.inl rfl))) ab_nil))))) (s_cons (s_par (i := 6) (j := 7) rfl hN rfl rfl (by decide) rfl rfl (am_cons (e_P (p_sub (b_P (p_len V.z_len (ab_cons (b_P (p_V rfl (.inl rfl))) ab_nil))) (b_P (p_len V.z_len (ab_cons (b_P (p_V rfl (.inl rfl))) ab_nil))))) (am_cons (e_P (p_ix (p_V rfl (.inl rfl)) (b_P (p_neg (b_P (p_int)))) (fun _ _ => rfl))) am_nil)) (by decide) (by decide) rfl) (s_cons (s_par (i := 2) (j := 4) rfl hN rfl rfl (by decide) rfl rfl (am_cons (e_P (p_mul (b_P (p_V rfl (.inl rfl))) (b_P (p_ix (p_V rfl (.inl rfl)) (b_P (p_neg (b_P (p_int)))) (fun _ _ => rfl))))) (am_cons (e_fnO (scaled_line_ok V hS) bp_scaled_line hg (hr.mono (by decide : 1 ≤ 3)) (takes_of rfl rfl rfl rfl) (by rfl) (am_cons (e_V rfl (.inl rfl)) (am_cons (e_P (p_ix (p_V rfl (.inl rfl)) (b_P (p_neg (b_P (p_int)))) (fun _ _ => rfl))) am_nil))) am_nil)) (by decide) (by decide) rfl) (s_cons (s_augIx (pa_V rfl (.inl rfl)) (b_P (p_V rfl (.inl rfl))) (b_P (p_V rfl (.inl rfl))) (iop_add.or iop_add_str) pure_add) (s_cons (s_set (i := 8) hN rfl (.inl rfl) (e_P (p_F (f_cat (l_F (f_rep (l_F (f_lst (ad_cons (p_int) ad_nil))) (b_P (p_V rfl (.inl rfl))))) (l_P (p_fn (scaled_line_ok V hS) bp_scaled_line hg (hr.mono (by decide : 1 ≤ 3)) (by rfl) (ad_cons (p_V rfl (.inl rfl)) (ad_cons (p_V rfl (.inl rfl)) ad_nil)))))))) (s_one (s_set (i := 3) hN rfl (.inl rfl) (e_P (p_fn (minus_lines_ok V hS) bp_minus_lines hg hr (by rfl) (ad_cons (p_fn (scaled_line_ok V hS) bp_scaled_line hg (hr.mono (by decide : 1 ≤ 3)) (by rfl) (ad_cons (p_V rfl (.inl rfl)) (ad_cons (p_ix (p_V rfl (.inl rfl)) (b_P (p_neg (b_P (p_int)))) (fun _ _ => rfl)) ad_nil))) (ad_cons (p_V rfl (.inl rfl)) ad_nil))))))))))) (s_cons (s_set (i := 5) hN rfl (.inr rfl) (e_P (p_fn (greatest_of_ok V hS) bp_greatest_of hg (hr.mono (by decide : 2 ≤ 3)) (by rfl) (ad_cons (p_F (f_cat (l_F (f_cat (l_F (f_lst (ad_cons (p_V rfl (.inl rfl)) ad_nil))) (l_Kf (k_V rfl (.inl rfl))))) (l_P (p_V rfl (.inl rfl))))) ad_nil)))) (s_cons (s_if (t_P (q_lt (b_P (p_V rfl (.inl rfl))) (b_P (p_int)))) (s_one (s_set (i := 5) hN rfl (.inr rfl) (e_P (p_sub (b_P (p_int)) (b_P (p_V rfl (.inr (.inl rfl)))))))) (s_nil)) (s_one (s_ret (e_P (p_tup (ad_cons (p_fdiv (b_P (p_V rfl (.inl rfl))) (b_P (p_V rfl (.inr (.inl rfl))))) (ad_cons (p_F (f_comp rfl hN (iG_list (l_Kf (k_V rfl (.inl rfl)))) (blkOk_by (own := [("one", 9)]) rfl) (fun _ _ _ _ _ => g_V hN rfl (by first | exact .inl rfl | exact .inr rfl) (by first | exact .inr rfl | exact .inl rfl)) (fun _ _ _ _ _ => ts_nil) (fun _ _ _ _ _ => p_fdiv (b_P (p_V rfl (.inl rfl))) (b_P (p_V rfl (by first | exact .inr (.inr rfl) | exact .inr (.inl rfl) | exact .inl rfl)))) (by decide))) (ad_cons (p_F (f_comp rfl hN (iG_seq (p_V rfl (.inl rfl))) (blkOk_by (own := [("one", 9)]) rfl) (fun _ _ _ _ _ => g_V hN rfl (by first | exact .inl rfl | exact .inr rfl) (by first | exact .inr rfl | exact .inl rfl)) (fun _ _ _ _ _ => ts_nil) (fun _ _ _ _ _ => p_fdiv (b_P (p_V rfl (.inl rfl))) (b_P (p_V rfl (by first | exact .inr (.inr rfl) | exact .inr (.inl rfl) | exact .inl rfl)))) (by decide))) ad_nil)))))))))))
theorem parted_ok (V : Txt K mg) (hS : SysD base) : FnM Pr w K mg base 4 "parted" st_parted ["line", "other"] parted_m := FnM.by V.d_parted sc_parted (parted_bd V hS)
theorem sc_bare_three : FnScope ["numbers", "found", "heads", "number"] ["numbers"] (defScope st_bare_three) := ⟨rfl, rfl, rfl, by decide +kernel, rfl, by decide +kernel, by decide +kernel⟩
theorem bare_three_bd (V : Txt K mg) (hS : SysD base) : BdOk Pr w K mg base 3 "bare_three" st_bare_three ["numbers", "found", "heads", "number"] [] bare_three_b := fun fa cdv A outer s H E hg hr => by
  have hN := (sc_bare_three).nd
  exact s_cons (s_set (i := 1) hN rfl (.inl rfl) (e_fnO (lowest_ok V hS) bp_lowest hg hr (takes_of rfl rfl rfl rfl) (by rfl) (am_cons (e_P (p_V rfl (.inl rfl))) am_nil))) (s_cons (s_setCf rfl hN rfl rfl rfl (iG_list (l_Kf (k_V rfl (.inl rfl)))) (blkOk_by (own := [("number", 3)]) rfl) (fun _ _ _ _ _ => g_V hN rfl (by first | exact .inl rfl | exact .inr rfl) (by first | exact .inr rfl | exact .inl rfl)) (fun _ _ _ _ _ => (ts_one (q_ne hr (b_P (p_V rfl (.inl rfl))) (b_P (p_int))))) (fun _ _ _ _ _ => p_V rfl (.inl rfl)) (by decide)) (s_one (s_ret (e_if (t_P (q_gt (b_P (p_ix (p_V rfl (.inl rfl)) (b_P (p_int)) (fun _ _ => rfl))) (b_P (p_int)))) (e_Mv rfl (.inl rfl)) (e_F (f_comp rfl hN (iG_list (l_Kf (k_V rfl (.inl rfl)))) (blkOk_by (own := [("number", 3)]) rfl) (fun _ _ _ _ _ => g_V hN rfl (by first | exact .inl rfl | exact .inr rfl) (by first | exact .inr rfl | exact .inl rfl)) (fun _ _ _ _ _ => ts_nil) (fun _ _ _ _ _ => p_neg (b_P (p_V rfl (.inl rfl)))) (by decide)))))))
theorem bare_three_ok (V : Txt K mg) (hS : SysD base) : FnM Pr w K mg base 4 "bare_three" st_bare_three ["numbers"] bare_three_m := FnM.by V.d_bare_three sc_bare_three (bare_three_bd V hS)
theorem sc__law_curve : FnScope ["pot", "most", "size", "three"] ["pot", "most"] (defScope st__law_curve) := ⟨rfl, rfl, rfl, by decide +kernel, rfl, by decide +kernel, by decide +kernel⟩
theorem _law_curve_bd (V : Txt K mg) (hS : SysD base) : BdOk Pr w K mg base 3 "_law_curve" st__law_curve ["pot", "most", "size", "three"] [0] _law_curve_b := fun fa cdv A outer s H E hg hr => by
  have hN := (sc__law_curve).nd
  exact s_cons (s_set (i := 2) hN rfl (.inl rfl) (e_op (op_add.or op_add_str) pure_add (e_P (p_int)) (e_fnL (_law_draw_ok V hS) bp__law_draw hg (hr.mono (by decide : 1 ≤ 3)) (takes_of rfl rfl rfl rfl) (by rfl) rfl (.inl rfl) (am_cons (e_P (p_V rfl (.inl rfl))) am_nil)))) (s_cons (s_set (i := 3) hN rfl (.inl rfl) (e_lst (am_cons (e_fnL (_law_line_ok V hS) bp__law_line hg hr (takes_of rfl rfl rfl rfl) (by rfl) rfl (.inl rfl) (am_cons (e_P (p_V rfl (.inl rfl))) am_nil)) (am_cons (e_fnL (_law_line_ok V hS) bp__law_line hg hr (takes_of rfl rfl rfl rfl) (by rfl) rfl (.inl rfl) (am_cons (e_P (p_V rfl (.inl rfl))) am_nil)) (am_cons (e_fnL (_law_line_ok V hS) bp__law_line hg hr (takes_of rfl rfl rfl rfl) (by rfl) rfl (.inl rfl) (am_cons (e_P (p_V rfl (.inl rfl))) am_nil)) am_nil))))) (s_cons (s_if (t_P (q_lt (b_P (p_fnB (_law_degree_ok V hS) bp__law_degree hg (hr.mono (by decide : 1 ≤ 3)) (by rfl) (ab_cons (b_V rfl (.inl rfl)) ab_nil))) (b_P (p_int)))) (s_one (s_asg (e_P (p_F (f_cat (l_F (f_rep (l_F (f_lst (ad_cons (p_int) ad_nil))) (b_P (p_V rfl (.inl rfl))))) (l_F (f_lst (ad_cons (p_int) ad_nil)))))) (g_ix (pa_V rfl (.inl rfl)) (b_P (p_int))))) (s_nil)) (s_cons (s_if (t_P (q_ne hr (b_P (p_len V.z_len (ab_cons (b_P (p_fn (_law_common_ok V hS) bp__law_common hg hr (by rfl) (ad_cons (p_fn (_law_common_ok V hS) bp__law_common hg hr (by rfl) (ad_cons (p_Kf (k_ix (k_V rfl (.inl rfl)) (b_P (p_int)) (fun _ _ => rfl))) (ad_cons (p_Kf (k_ix (k_V rfl (.inl rfl)) (b_P (p_int)) (fun _ _ => rfl))) ad_nil))) (ad_cons (p_Kf (k_ix (k_V rfl (.inl rfl)) (b_P (p_int)) (fun _ _ => rfl))) ad_nil)))) ab_nil))) (b_P (p_int)))) (s_cons (s_asg (e_P (p_F (f_lst (ad_cons (p_int) ad_nil)))) (g_ix (pa_V rfl (.inl rfl)) (b_P (p_int)))) (s_one (s_if (t_P (q_lt (b_P (p_fnB (_law_degree_ok V hS) bp__law_degree hg (hr.mono (by decide : 1 ≤ 3)) (by rfl) (ab_cons (b_V rfl (.inl rfl)) ab_nil))) (b_P (p_int)))) (s_one (s_asg (e_P (p_F (f_cat (l_F (f_rep (l_F (f_lst (ad_cons (p_int) ad_nil))) (b_P (p_V rfl (.inl rfl))))) (l_F (f_lst (ad_cons (p_int) ad_nil)))))) (g_ix (pa_V rfl (.inl rfl)) (b_P (p_int))))) (s_nil)))) (s_nil)) (s_one (s_ret (e_V rfl (.inl rfl)))))))
theorem _law_curve_ok (V : Txt K mg) (hS : SysD base) : FnM Pr w K mg base 4 "_law_curve" st__law_curve ["pot", "most"] _law_curve_m := FnM.by V.d__law_curve sc__law_curve (_law_curve_bd V hS)
theorem sc_common_of : FnScope ["line", "other", "near", "far"] ["line", "other"] (defScope st_common_of) := ⟨rfl, rfl, rfl, by decide +kernel, rfl, by decide +kernel, by decide +kernel⟩
theorem common_of_bd (V : Txt K mg) (hS : SysD base) : BdOk Pr w K mg base 4 "common_of" st_common_of ["line", "other", "near", "far"] [] common_of_b := fun fa cdv A outer s H E hg hr => by
  have hN := (sc_common_of).nd
  exact s_cons (s_par (i := 2) (j := 3) rfl hN rfl rfl (by decide) rfl rfl (am_cons (e_P (p_fn (plain_of_ok V hS) bp_plain_of hg (hr.mono (by decide : 3 ≤ 4)) (by rfl) (ad_cons (p_V rfl (.inl rfl)) ad_nil))) (am_cons (e_P (p_fn (plain_of_ok V hS) bp_plain_of hg (hr.mono (by decide : 3 ≤ 4)) (by rfl) (ad_cons (p_V rfl (.inl rfl)) ad_nil))) am_nil)) (by decide) (by decide) rfl) (s_cons (s_while (passes_of rfl) (t_P (q_gt (b_P (p_len V.z_len (ab_cons (b_P (p_V rfl (.inl rfl))) ab_nil))) (b_P (p_int)))) (s_one (s_par (i := 2) (j := 3) rfl hN rfl rfl (by decide) rfl rfl (am_cons (e_P (p_V rfl (.inl rfl))) (am_cons (e_P (p_fn (plain_of_ok V hS) bp_plain_of hg (hr.mono (by decide : 3 ≤ 4)) (by rfl) (ad_cons (p_ix (p_fn (parted_ok V hS) bp_parted hg hr (by rfl) (ad_cons (p_V rfl (.inl rfl)) (ad_cons (p_V rfl (.inl rfl)) ad_nil))) (b_P (p_int)) (fun _ _ => rfl)) ad_nil))) am_nil)) (by decide) (by decide) rfl))) (s_one (s_ret (e_P (p_V rfl (.inl rfl))))))
theorem common_of_ok (V : Txt K mg) (hS : SysD base) : FnM Pr w K mg base 5 "common_of" st_common_of ["line", "other"] common_of_m := FnM.by V.d_common_of sc_common_of (common_of_bd V hS)
theorem sc__law_led_curve : FnScope ["pot", "most", "low", "high", "first", "second", "three"] ["pot", "most"] (defScope st__law_led_curve) := ⟨rfl, rfl, rfl, by decide +kernel, rfl, by decide +kernel, by decide +kernel⟩
theorem _law_led_curve_bd (V : Txt K mg) (hS : SysD base) : BdOk Pr w K mg base 4 "_law_led_curve" st__law_led_curve ["pot", "most", "low", "high", "first", "second", "three"] [0] _law_led_curve_b := fun fa cdv A outer s H E hg hr => by
  have hN := (sc__law_led_curve).nd
  exact s_cons (s_par (i := 2) (j := 3) rfl hN rfl rfl (by decide) rfl rfl (am_cons (e_fnL (_law_draw_ok V hS) bp__law_draw hg (hr.mono (by decide : 1 ≤ 4)) (takes_of rfl rfl rfl rfl) (by rfl) rfl (.inl rfl) (am_cons (e_P (p_int)) am_nil)) (am_cons (e_op (op_add.or op_add_str) pure_add (e_P (p_int)) (e_fnL (_law_draw_ok V hS) bp__law_draw hg (hr.mono (by decide : 1 ≤ 4)) (takes_of rfl rfl rfl rfl) (by rfl) rfl (.inl rfl) (am_cons (e_P (p_int)) am_nil))) am_nil)) (by decide) (by decide) rfl) (s_cons (s_set (i := 4) hN rfl (.inl rfl) (e_frz (e_lst (am_cons (e_fnL (_law_line_ok V hS) bp__law_line hg (hr.mono (by decide : 3 ≤ 4)) (takes_of rfl rfl rfl rfl) (by rfl) rfl (.inl rfl) (am_cons (e_P (p_V rfl (.inl rfl))) am_nil)) (am_cons (e_fnL (_law_line_ok V hS) bp__law_line hg (hr.mono (by decide : 3 ≤ 4)) (takes_of rfl rfl rfl rfl) (by rfl) rfl (.inl rfl) (am_cons (e_P (p_V rfl (.inl rfl))) am_nil)) (am_cons (e_fnL (_law_line_ok V hS) bp__law_line hg (hr.mono (by decide : 3 ≤ 4)) (takes_of rfl rfl rfl rfl) (by rfl) rfl (.inl rfl) (am_cons (e_P (p_V rfl (.inl rfl))) am_nil)) am_nil)))))) (s_cons (s_set (i := 5) hN rfl (.inl rfl) (e_frz (e_lst (am_cons (e_fnL (_law_line_ok V hS) bp__law_line hg (hr.mono (by decide : 3 ≤ 4)) (takes_of rfl rfl rfl rfl) (by rfl) rfl (.inl rfl) (am_cons (e_P (p_V rfl (.inl rfl))) am_nil)) (am_cons (e_fnL (_law_line_ok V hS) bp__law_line hg (hr.mono (by decide : 3 ≤ 4)) (takes_of rfl rfl rfl rfl) (by rfl) rfl (.inl rfl) (am_cons (e_P (p_V rfl (.inl rfl))) am_nil)) (am_cons (e_fnL (_law_line_ok V hS) bp__law_line hg (hr.mono (by decide : 3 ≤ 4)) (takes_of rfl rfl rfl rfl) (by rfl) rfl (.inl rfl) (am_cons (e_P (p_V rfl (.inl rfl))) am_nil)) am_nil)))))) (s_cons (s_set (i := 6) hN rfl (.inl rfl) (e_P (p_fn (_law_cross_ok V hS) bp__law_cross hg (hr.mono (by decide : 3 ≤ 4)) (by rfl) (ad_cons (p_V rfl (.inl rfl)) (ad_cons (p_V rfl (.inl rfl)) ad_nil))))) (s_cons (s_if (t_P (q_W (w_or (q_not (q_chain op_le op_le (pure_cmp _) (pure_cmp _) rfl (b_P (p_int)) (b_P (p_fn (_law_degree_ok V hS) bp__law_degree hg (hr.mono (by decide : 1 ≤ 4)) (by rfl) (ad_cons (p_V rfl (.inl rfl)) ad_nil))) (b_P (p_V rfl (.inl rfl))))) (w_or1 (q_ne hr (b_P (p_len V.z_len (ab_cons (b_P (p_fn (_law_common_ok V hS) bp__law_common hg (hr.mono (by decide : 3 ≤ 4)) (by rfl) (ad_cons (p_fn (_law_common_ok V hS) bp__law_common hg (hr.mono (by decide : 3 ≤ 4)) (by rfl) (ad_cons (p_ix (p_V rfl (.inl rfl)) (b_P (p_int)) (fun _ _ => rfl)) (ad_cons (p_ix (p_V rfl (.inl rfl)) (b_P (p_int)) (fun _ _ => rfl)) ad_nil))) (ad_cons (p_ix (p_V rfl (.inl rfl)) (b_P (p_int)) (fun _ _ => rfl)) ad_nil)))) ab_nil))) (b_P (p_int))))))) (s_one (s_ret (e_fnL (_law_curve_ok V hS) bp__law_curve hg hr (takes_of rfl rfl rfl rfl) (by rfl) rfl (.inl rfl) (am_cons (e_P (p_V rfl (.inl rfl))) am_nil)))) (s_nil)) (s_one (s_ret (e_P (p_V rfl (.inl rfl)))))))))
theorem _law_led_curve_ok (V : Txt K mg) (hS : SysD base) : FnM Pr w K mg base 5 "_law_led_curve" st__law_led_curve ["pot", "most"] _law_led_curve_m := FnM.by V.d__law_led_curve sc__law_led_curve (_law_led_curve_bd V hS)
theorem sc_curve_in : FnScope ["value", "found", "common"] ["value"] (defScope st_curve_in) := ⟨rfl, rfl, rfl, by decide +kernel, rfl, by decide +kernel, by decide +kernel⟩
theorem curve_in_bd (V : Txt K mg) (hS : SysD base) : BdOk Pr w K mg base 5 "curve_in" st_curve_in ["value", "found", "common"] [] curve_in_b := fun fa cdv A outer s H E hg hr => by
  have hN := (sc_curve_in).nd
  exact s_cons (s_set (i := 1) hN rfl (.inl rfl) (e_P (p_fn (three_lines_ok V hS) bp_three_lines hg (hr.mono (by decide : 3 ≤ 5)) (by rfl) (ad_cons (p_V rfl (.inl rfl)) ad_nil)))) (s_cons (s_if (t_P (q_W (w_or (q_isN (b_P (p_V rfl (.inl rfl))) (b_P (p_non))) (w_or1 (q_not (q_chain op_le op_le (pure_cmp _) (pure_cmp _) rfl (b_P (p_int)) (b_P (p_fn (degree_of_ok V hS) bp_degree_of hg (hr.mono (by decide : 1 ≤ 5)) (by rfl) (ad_cons (p_V rfl (.inl rfl)) ad_nil))) (b_P (p_glob (v := .int 5) rfl V.g_MOST_CURVE.choose_spec ⟨_, rfl⟩)))))))) (s_one (s_ret (e_P (p_non)))) (s_nil)) (s_cons (s_set (i := 2) hN rfl (.inl rfl) (e_P (p_fn (common_of_ok V hS) bp_common_of hg hr (by rfl) (ad_cons (p_ix (p_V rfl (.inl rfl)) (b_P (p_int)) (fun _ _ => rfl)) (ad_cons (p_ix (p_V rfl (.inl rfl)) (b_P (p_int)) (fun _ _ => rfl)) ad_nil))))) (s_cons (s_if (t_P (q_ne hr (b_P (p_len V.z_len (ab_cons (b_P (p_V rfl (.inl rfl))) ab_nil))) (b_P (p_int)))) (s_one (s_set (i := 2) hN rfl (.inl rfl) (e_P (p_fn (common_of_ok V hS) bp_common_of hg hr (by rfl) (ad_cons (p_V rfl (.inl rfl)) (ad_cons (p_ix (p_V rfl (.inl rfl)) (b_P (p_int)) (fun _ _ => rfl)) ad_nil)))))) (s_nil)) (s_one (s_ret (e_P (p_if (q_eq hr (b_P (p_len V.z_len (ab_cons (b_P (p_V rfl (.inl rfl))) ab_nil))) (b_P (p_int))) (p_V rfl (.inl rfl)) (p_non))))))))
theorem curve_in_ok (V : Txt K mg) (hS : SysD base) : FnM Pr w K mg base 6 "curve_in" st_curve_in ["value"] curve_in_m := FnM.by V.d_curve_in sc_curve_in (curve_in_bd V hS)
theorem sc_want_curve : FnScope ["value", "found"] ["value"] (defScope st_want_curve) := ⟨rfl, rfl, rfl, by decide +kernel, rfl, by decide +kernel, by decide +kernel⟩
theorem want_curve_bd (V : Txt K mg) (hS : SysD base) : BdOk Pr w K mg base 6 "want_curve" st_want_curve ["value", "found"] [] want_curve_b := fun fa cdv A outer s H E hg hr => by
  have hN := (sc_want_curve).nd
  exact s_cons (s_set (i := 1) hN rfl (.inl rfl) (e_P (p_fn (curve_in_ok V hS) bp_curve_in hg hr (by rfl) (ad_cons (p_V rfl (.inl rfl)) ad_nil)))) (s_cons (s_if (t_P (q_isN (b_P (p_V rfl (.inl rfl))) (b_P (p_non)))) (s_one (s_never)) (s_nil)) (s_one (s_ret (e_P (p_V rfl (.inl rfl))))))
theorem want_curve_ok (V : Txt K mg) (hS : SysD base) : FnM Pr w K mg base 7 "want_curve" st_want_curve ["value"] want_curve_m := FnM.by V.d_want_curve sc_want_curve (want_curve_bd V hS)
theorem sc_is_curve : FnScope ["value"] ["value"] (defScope st_is_curve) := ⟨rfl, rfl, rfl, by decide +kernel, rfl, by decide +kernel, by decide +kernel⟩
theorem is_curve_bd (V : Txt K mg) (hS : SysD base) : BdOk Pr w K mg base 6 "is_curve" st_is_curve ["value"] [] is_curve_b := fun fa cdv A outer s H E hg hr => by
  have hN := (sc_is_curve).nd
  exact s_one (s_ret (e_P (p_notN (b_P (p_fn (curve_in_ok V hS) bp_curve_in hg hr (by rfl) (ad_cons (p_V rfl (.inl rfl)) ad_nil))) (b_P (p_non)))))
theorem is_curve_ok (V : Txt K mg) (hS : SysD base) : FnM Pr w K mg base 7 "is_curve" st_is_curve ["value"] is_curve_m := FnM.by V.d_is_curve sc_is_curve (is_curve_bd V hS)
theorem sc_curve_degree : FnScope ["curve"] ["curve"] (defScope st_curve_degree) := ⟨rfl, rfl, rfl, by decide +kernel, rfl, by decide +kernel, by decide +kernel⟩
theorem curve_degree_bd (V : Txt K mg) (hS : SysD base) : BdOk Pr w K mg base 7 "curve_degree" st_curve_degree ["curve"] [] curve_degree_b := fun fa cdv A outer s H E hg hr => by
  have hN := (sc_curve_degree).nd
  exact s_one (s_ret (e_P (p_fn (degree_of_ok V hS) bp_degree_of hg (hr.mono (by decide : 1 ≤ 7)) (by rfl) (ad_cons (p_fn (want_curve_ok V hS) bp_want_curve hg hr (by rfl) (ad_cons (p_V rfl (.inl rfl)) ad_nil)) ad_nil))))
theorem curve_degree_ok (V : Txt K mg) (hS : SysD base) : FnM Pr w K mg base 8 "curve_degree" st_curve_degree ["curve"] curve_degree_m := FnM.by V.d_curve_degree sc_curve_degree (curve_degree_bd V hS)
theorem sc_point_at : FnScope ["curve", "number", "here", "line"] ["curve", "number"] (defScope st_point_at) := ⟨rfl, rfl, rfl, by decide +kernel, rfl, by decide +kernel, by decide +kernel⟩
theorem point_at_bd (V : Txt K mg) (hS : SysD base) : BdOk Pr w K mg base 7 "point_at" st_point_at ["curve", "number", "here", "line"] [] point_at_b := fun fa cdv A outer s H E hg hr => by
  have hN := (sc_point_at).nd
  exact s_cons (s_set (i := 2) hN rfl (.inl rfl) (e_P (p_fn (want_curve_ok V hS) bp_want_curve hg hr (by rfl) (ad_cons (p_V rfl (.inl rfl)) ad_nil)))) (s_cons (s_expr (e_P (p_fn (want_number_ok V hS) bp_want_number hg (hr.mono (by decide : 2 ≤ 7)) (by rfl) (ad_cons (p_V rfl (.inr (.inl rfl))) ad_nil)))) (s_one (s_ret (e_P (p_fn (bare_three_ok V hS) bp_bare_three hg (hr.mono (by decide : 4 ≤ 7)) (by rfl) (ad_cons (p_F (f_comp rfl hN (iG_seq (p_V rfl (.inl rfl))) (blkOk_by (own := [("line", 3)]) rfl) (fun _ _ _ _ _ => g_V hN rfl (by first | exact .inl rfl | exact .inr rfl) (by first | exact .inr rfl | exact .inl rfl)) (fun _ _ _ _ _ => ts_nil) (fun _ _ _ _ _ => p_fn (value_at_ok V hS) bp_value_at hg (hr.mono (by decide : 1 ≤ 7)) (by rfl) (ad_cons (p_V rfl (.inl rfl)) (ad_cons (p_V rfl (by first | exact .inr (.inr rfl) | exact .inr (.inl rfl) | exact .inl rfl)) ad_nil))) (by decide))) ad_nil))))))
theorem point_at_ok (V : Txt K mg) (hS : SysD base) : FnM Pr w K mg base 8 "point_at" st_point_at ["curve", "number"] point_at_m := FnM.by V.d_point_at sc_point_at (point_at_bd V hS)
theorem sc_point_after : FnScope ["curve", "here", "many", "line"] ["curve"] (defScope st_point_after) := ⟨rfl, rfl, rfl, by decide +kernel, rfl, by decide +kernel, by decide +kernel⟩
theorem point_after_bd (V : Txt K mg) (hS : SysD base) : BdOk Pr w K mg base 7 "point_after" st_point_after ["curve", "here", "many", "line"] [] point_after_b := fun fa cdv A outer s H E hg hr => by
  have hN := (sc_point_after).nd
  exact s_cons (s_set (i := 1) hN rfl (.inl rfl) (e_P (p_fn (want_curve_ok V hS) bp_want_curve hg hr (by rfl) (ad_cons (p_V rfl (.inl rfl)) ad_nil)))) (s_cons (s_set (i := 2) hN rfl (.inr rfl) (e_P (p_add (b_P (p_fn (degree_of_ok V hS) bp_degree_of hg (hr.mono (by decide : 1 ≤ 7)) (by rfl) (ad_cons (p_V rfl (.inl rfl)) ad_nil))) (b_P (p_int))))) (s_one (s_ret (e_fnO (bare_three_ok V hS) bp_bare_three hg (hr.mono (by decide : 4 ≤ 7)) (takes_of rfl rfl rfl rfl) (by rfl) (am_cons (e_P (p_F (f_comp rfl hN (iG_seq (p_V rfl (.inl rfl))) (blkOk_by (own := [("line", 3)]) rfl) (fun _ _ _ _ _ => g_V hN rfl (by first | exact .inl rfl | exact .inr rfl) (by first | exact .inr rfl | exact .inl rfl)) (fun _ _ _ _ _ => ts_nil) (fun _ _ _ _ _ => p_if (q_eq hr (b_P (p_len V.z_len (ab_cons (b_P (p_V rfl (.inl rfl))) ab_nil))) (b_P (p_V rfl (by first | exact .inr (.inr rfl) | exact .inr (.inl rfl) | exact .inl rfl)))) (p_ix (p_V rfl (.inl rfl)) (b_P (p_neg (b_P (p_int)))) (fun _ _ => rfl)) (p_int)) (by decide)))) am_nil)))))
theorem point_after_ok (V : Txt K mg) (hS : SysD base) : FnM Pr w K mg base 8 "point_after" st_point_after ["curve"] point_after_m := FnM.by V.d_point_after sc_point_after (point_after_bd V hS)
theorem sc_by_time : FnScope ["curve", "line", "here", "time", "one"] ["curve", "line"] (defScope st_by_time) := ⟨rfl, rfl, rfl, by decide +kernel, rfl, by decide +kernel, by decide +kernel⟩
theorem by_time_bd (V : Txt K mg) (hS : SysD base) : BdOk Pr w K mg base 7 "by_time" st_by_time ["curve", "line", "here", "time", "one"] [] by_time_b := fun fa cdv A outer s H E hg hr => by
  have hN := (sc_by_time).nd
  exact s_cons (s_set (i := 2) hN rfl (.inl rfl) (e_P (p_fn (want_curve_ok V hS) bp_want_curve hg hr (by rfl) (ad_cons (p_V rfl (.inl rfl)) ad_nil)))) (s_cons (s_set (i := 3) hN rfl (.inr rfl) (e_P (p_fn (want_line_ok V hS) bp_want_line hg (hr.mono (by decide : 3 ≤ 7)) (by rfl) (ad_cons (p_V rfl (.inl rfl)) ad_nil)))) (s_cons (s_if (t_P (q_lt (b_P (p_len V.z_len (ab_cons (b_P (p_V rfl (.inr (.inl rfl)))) ab_nil))) (b_P (p_int)))) (s_one (s_never)) (s_nil)) (s_cons (s_expr (e_P (p_fn (want_at_most_ok V hS) bp_want_at_most hg (hr.mono (by decide : 1 ≤ 7)) (by rfl) (ad_cons (p_str) (ad_cons (p_glob (v := .int 5) rfl V.g_MOST_CURVE.choose_spec ⟨_, rfl⟩) (ad_cons (p_mul (b_P (p_fn (degree_of_ok V hS) bp_degree_of hg (hr.mono (by decide : 1 ≤ 7)) (by rfl) (ad_cons (p_V rfl (.inl rfl)) ad_nil))) (b_P (p_sub (b_P (p_len V.z_len (ab_cons (b_P (p_V rfl (.inr (.inl rfl)))) ab_nil))) (b_P (p_int))))) ad_nil)))))) (s_one (s_ret (e_comp rfl hN (iD_seq (e_P (p_V rfl (.inl rfl)))) (blkOk_by (own := [("one", 4)]) rfl) (fun _ _ _ _ _ => g_V hN rfl (by first | exact .inl rfl | exact .inr rfl) (by first | exact .inr rfl | exact .inl rfl)) (fun _ _ _ _ _ => ts_nil) (fun _ _ _ _ _ => e_fnO (led_line_ok V hS) bp_led_line hg (hr.mono (by decide : 3 ≤ 7)) takesN (by rfl) (am_cons (e_P (p_V rfl (.inl rfl))) (am_cons (e_P (p_V rfl (by first | exact .inr (.inr rfl) | exact .inr (.inl rfl) | exact .inl rfl))) am_nil))) (by decide)))))))
theorem by_time_ok (V : Txt K mg) (hS : SysD base) : FnM Pr w K mg base 8 "by_time" st_by_time ["curve", "line"] by_time_m := FnM.by V.d_by_time sc_by_time (by_time_bd V hS)
theorem sc__law_curve_right : FnScope ["pot", "three", "given", "degree", "shown", "time", "late", "told", "due", "line"] ["pot", "three"] (defScope st__law_curve_right) := ⟨rfl, rfl, rfl, by decide +kernel, rfl, by decide +kernel, by decide +kernel⟩
theorem _law_curve_right_bd (V : Txt K mg) (hS : SysD base) : BdOk Pr w K mg base 8 "_law_curve_right" st__law_curve_right ["pot", "three", "given", "degree", "shown", "time", "late", "told", "due", "line"] [0] _law_curve_right_b := fun fa cdv A outer s H E hg hr => by
  have hN := (sc__law_curve_right).nd
  exact s_cons (s_asg (e_tup (am_cons (e_fnL (_law_given_ok V hS) bp__law_given hg (hr.mono (by decide : 2 ≤ 8)) (takes_of rfl rfl rfl rfl) (by rfl) rfl (.inl rfl) (am_cons (e_P (p_V rfl (.inl rfl))) am_nil)) (am_cons (e_P (p_fn (_law_degree_ok V hS) bp__law_degree hg (hr.mono (by decide : 1 ≤ 8)) (by rfl) (ad_cons (p_V rfl (.inl rfl)) ad_nil))) am_nil))) (g_tup rfl (gs_cons (g_V hN rfl (.inl rfl) (.inl rfl)) (gs_cons (g_V hN rfl (.inr rfl) (.inl rfl)) (gs_nil))))) (s_cons (s_set (i := 4) hN rfl (.inl rfl) (e_P (p_repr2 V.z_repr hr hg hS (ab_cons (b_P (p_V rfl (.inl rfl))) ab_nil)))) (s_cons (s_if (t_P (q_neT hr (b_P (p_repr2 V.z_repr hr hg hS (ab_cons (b_P (p_F (f_lst (ad_cons (p_fn (is_curve_ok V hS) bp_is_curve hg (hr.mono (by decide : 7 ≤ 8)) (by rfl) (ad_cons (p_V rfl (.inl rfl)) ad_nil)) (ad_cons (p_fn (curve_degree_ok V hS) bp_curve_degree hg hr (by rfl) (ad_cons (p_V rfl (.inl rfl)) ad_nil)) (ad_cons (p_fnK0 (js := [0]) (curve_degree_ok V hS) (bk_curve_degree_curve) hg hr (by rfl) (kd_cons (p_V rfl (.inl rfl)) (kd_nil)) (hj := fun ds hl => match ds, hl with | [_], _ => rfl)) ad_nil)))))) ab_nil))) (b_P (p_repr2 V.z_repr hr hg hS (ab_cons (b_P (p_F (f_lst (ad_cons (p_bl) (ad_cons (p_V rfl (.inr (.inl rfl))) (ad_cons (p_V rfl (.inr (.inl rfl))) ad_nil)))))) ab_nil))))) (s_one (s_ret (e_P (p_bl)))) (s_nil)) (s_cons (s_for (passes_of rfl) rfl (iD_seq (e_frz (e_lst (am_cons (e_P (p_int)) (am_cons (e_P (p_int)) (am_cons (e_op (op_sub) pure_sub (e_fnL (_law_draw_ok V hS) bp__law_draw hg (hr.mono (by decide : 1 ≤ 8)) (takes_of rfl rfl rfl rfl) (by rfl) rfl (.inl rfl) (am_cons (e_P (p_int)) am_nil)) (e_P (p_int))) (am_cons (e_op (op_add.or op_add_str) pure_add (e_P (p_int)) (e_fnL (_law_draw_ok V hS) bp__law_draw hg (hr.mono (by decide : 1 ≤ 8)) (takes_of rfl rfl rfl rfl) (by rfl) rfl (.inl rfl) (am_cons (e_P (p_int)) am_nil))) am_nil))))))) (g_V hN rfl (.inr rfl) (.inl rfl)) (s_cons (s_set (i := 8) hN rfl (.inl rfl) (e_P (p_fn (_law_point_ok V hS) bp__law_point hg (hr.mono (by decide : 3 ≤ 8)) (by rfl) (ad_cons (p_F (f_comp rfl hN (iG_seq (p_V rfl (.inl rfl))) (blkOk_by (own := [("line", 9)]) rfl) (fun _ _ _ _ _ => g_V hN rfl (by first | exact .inl rfl | exact .inr rfl) (by first | exact .inr rfl | exact .inl rfl)) (fun _ _ _ _ _ => ts_nil) (fun _ _ _ _ _ => p_fn (_law_value_ok V hS) bp__law_value hg (hr.mono (by decide : 1 ≤ 8)) (by rfl) (ad_cons (p_V rfl (.inl rfl)) (ad_cons (p_V rfl (by first | exact .inr (.inr rfl) | exact .inr (.inl rfl) | exact .inl rfl)) ad_nil))) (by decide))) ad_nil)))) (s_one (s_if (t_P (q_neT hr (b_P (p_repr2 V.z_repr hr hg hS (ab_cons (b_P (p_F (f_lst (ad_cons (p_fn (point_at_ok V hS) bp_point_at hg hr (by rfl) (ad_cons (p_V rfl (.inl rfl)) (ad_cons (p_V rfl (.inr (.inl rfl))) ad_nil))) (ad_cons (p_fnK0 (js := [1, 0]) (point_at_ok V hS) (bk_point_at_number_curve) hg hr (by rfl) (kd_cons (p_V rfl (.inr (.inl rfl))) (kd_cons (p_V rfl (.inl rfl)) (kd_nil))) (hj := fun ds hl => match ds, hl with | [_, _], _ => rfl)) ad_nil))))) ab_nil))) (b_P (p_repr2 V.z_repr hr hg hS (ab_cons (b_P (p_F (f_lst (ad_cons (p_V rfl (.inl rfl)) (ad_cons (p_V rfl (.inl rfl)) ad_nil))))) ab_nil))))) (s_one (s_ret (e_P (p_bl)))) (s_nil))))) (s_cons (s_set (i := 6) hN rfl (.inl rfl) (e_P (p_fn (_law_point_ok V hS) bp__law_point hg (hr.mono (by decide : 3 ≤ 8)) (by rfl) (ad_cons (p_F (f_comp rfl hN (iG_seq (p_V rfl (.inl rfl))) (blkOk_by (own := [("line", 9)]) rfl) (fun _ _ _ _ _ => g_V hN rfl (by first | exact .inl rfl | exact .inr rfl) (by first | exact .inr rfl | exact .inl rfl)) (fun _ _ _ _ _ => ts_nil) (fun _ _ _ _ _ => p_if (q_gt (b_P (p_len V.z_len (ab_cons (b_P (p_V rfl (.inl rfl))) ab_nil))) (b_P (p_V rfl (by first | exact .inr (.inr rfl) | exact .inr (.inl rfl) | exact .inl rfl)))) (p_ix (p_V rfl (.inl rfl)) (b_P (p_V rfl (by first | exact .inr (.inr rfl) | exact .inr (.inl rfl) | exact .inl rfl))) (fun _ _ => rfl)) (p_int)) (by decide))) ad_nil)))) (s_cons (s_set (i := 7) hN rfl (.inl rfl) (e_fnO (point_after_ok V hS) bp_point_after hg hr (takes_of rfl rfl rfl rfl) (by rfl) (am_cons (e_P (p_V rfl (.inl rfl))) am_nil))) (s_cons (s_if (t_P (q_neT hr (b_P (p_repr2 V.z_repr hr hg hS (ab_cons (b_lst (ab_cons (b_V rfl (.inl rfl)) (ab_cons (b_P (p_fnK0 (js := [0]) (point_after_ok V hS) (bk_point_after_curve) hg hr (by rfl) (kd_cons (p_V rfl (.inl rfl)) (kd_nil)) (hj := fun ds hl => match ds, hl with | [_], _ => rfl))) ab_nil))) ab_nil))) (b_P (p_repr2 V.z_repr hr hg hS (ab_cons (b_P (p_F (f_lst (ad_cons (p_V rfl (.inl rfl)) (ad_cons (p_V rfl (.inl rfl)) ad_nil))))) ab_nil))))) (s_one (s_ret (e_P (p_bl)))) (s_nil)) (s_cons (s_expr (e_app rfl (.inl rfl) (e_P (p_non)))) (s_one (s_ret (e_P (p_and (p_eq hr (b_P (p_fn (point_after_ok V hS) bp_point_after hg hr (by rfl) (ad_cons (p_V rfl (.inl rfl)) ad_nil))) (b_P (p_V rfl (.inl rfl)))) (p_one (p_eqT hr (b_P (p_repr2 V.z_repr hr hg hS (ab_cons (b_P (p_V rfl (.inl rfl))) ab_nil))) (b_P (p_V rfl (.inl rfl))))))))))))))))
theorem _law_curve_right_ok (V : Txt K mg) (hS : SysD base) : FnM Pr w K mg base 9 "_law_curve_right" st__law_curve_right ["pot", "three"] _law_curve_right_m := FnM.by V.d__law_curve_right sc__law_curve_right (_law_curve_right_bd V hS)
theorem sc__law_time_right : FnScope ["pot", "three", "degree", "many", "time", "due", "told", "number", "line"] ["pot", "three"] (defScope st__law_time_right) := ⟨rfl, rfl, rfl, by decide +kernel, rfl, by decide +kernel, by decide +kernel⟩
theorem _law_time_right_bd (V : Txt K mg) (hS : SysD base) : BdOk Pr w K mg base 8 "_law_time_right" st__law_time_right ["pot", "three", "degree", "many", "time", "due", "told", "number", "line"] [0] _law_time_right_b := fun fa cdv A outer s H E hg hr => by
  have hN := (sc__law_time_right).nd
  exact s_cons (s_set (i := 2) hN rfl (.inl rfl) (e_P (p_fn (_law_degree_ok V hS) bp__law_degree hg (hr.mono (by decide : 1 ≤ 8)) (by rfl) (ad_cons (p_V rfl (.inl rfl)) ad_nil)))) (s_cons (s_set (i := 3) hN rfl (.inl rfl) (e_op (op_add.or op_add_str) pure_add (e_P (p_int)) (e_fnL (_law_draw_ok V hS) bp__law_draw hg (hr.mono (by decide : 1 ≤ 8)) (takes_of rfl rfl rfl rfl) (by rfl) rfl (.inl rfl) (am_cons (e_P (p_fdiv (b_P (p_int)) (b_P (p_V rfl (.inl rfl))))) am_nil)))) (s_cons (s_set (i := 4) hN rfl (.inr rfl) (e_frz (e_cat (e_fnL (_law_line_ok V hS) bp__law_line hg (hr.mono (by decide : 3 ≤ 8)) (takes_of rfl rfl rfl rfl) (by rfl) rfl (.inl rfl) (am_cons (e_P (p_sub (b_P (p_V rfl (.inl rfl))) (b_P (p_int)))) am_nil)) (e_P (p_F (f_rep (l_F (f_lst (ad_cons (p_int) ad_nil))) (b_P (p_V rfl (.inl rfl))))))))) (s_cons (s_set (i := 4) hN rfl (.inr rfl) (e_frz (e_cat (e_P (p_F (f_slice (l_P (p_V rfl (.inr (.inl rfl)))) o_none (o_some (b_P (p_V rfl (.inl rfl))))))) (e_frz (e_lst (am_cons (e_fnL (_law_pick_ok V hS) bp__law_pick hg (hr.mono (by decide : 2 ≤ 8)) (takes_of rfl rfl rfl rfl) (by rfl) rfl (.inl rfl) (am_cons (e_P (p_F (f_lst (ad_cons (p_int) (ad_cons (p_neg (b_P (p_int))) (ad_cons (p_int) (ad_cons (p_int) ad_nil))))))) am_nil)) am_nil)))))) (s_cons (s_setCf rfl hN rfl rfl rfl (iG_seq (p_V rfl (.inl rfl))) (blkOk_by (own := [("line", 8)]) rfl) (fun _ _ _ _ _ => g_V hN rfl (by first | exact .inl rfl | exact .inr rfl) (by first | exact .inr rfl | exact .inl rfl)) (fun _ _ _ _ _ => ts_nil) (fun _ _ _ _ _ => p_fn (_law_at_ok V hS) bp__law_at hg (hr.mono (by decide : 3 ≤ 8)) (by rfl) (ad_cons (p_V rfl (.inl rfl)) (ad_cons (p_V rfl (by first | exact .inr (.inr rfl) | exact .inr (.inl rfl) | exact .inl rfl)) ad_nil))) (by decide)) (s_cons (s_set (i := 6) hN rfl (.inl rfl) (e_fnO (by_time_ok V hS) bp_by_time hg hr (takes_of rfl rfl rfl rfl) (by rfl) (am_cons (e_fnL (_law_given_ok V hS) bp__law_given hg (hr.mono (by decide : 2 ≤ 8)) (takes_of rfl rfl rfl rfl) (by rfl) rfl (.inl rfl) (am_cons (e_P (p_V rfl (.inl rfl))) am_nil)) (am_cons (e_P (p_tupC V.z_tuple (l_P (p_V rfl (.inr (.inl rfl)))))) am_nil)))) (s_cons (s_if (t_P (q_W (w_or (q_neT hr (b_P (p_repr2 V.z_repr hr hg hS (ab_cons (b_V rfl (.inl rfl)) ab_nil))) (b_P (p_repr2 V.z_repr hr hg hS (ab_cons (b_P (p_V rfl (.inl rfl))) ab_nil)))) (w_or (q_ne hr (b_P (p_fnK0 (js := [1, 0]) (by_time_ok V hS) (bk_by_time_line_curve) hg hr (by rfl) (kd_cons (p_V rfl (.inr (.inl rfl))) (kd_cons (p_V rfl (.inl rfl)) (kd_nil))) (hj := fun ds hl => match ds, hl with | [_, _], _ => rfl))) (b_P (p_V rfl (.inl rfl)))) (w_or1 (q_ne hr (b_P (p_fnB (curve_degree_ok V hS) bp_curve_degree hg hr (by rfl) (ab_cons (b_V rfl (.inl rfl)) ab_nil))) (b_P (p_mul (b_P (p_V rfl (.inl rfl))) (b_P (p_V rfl (.inl rfl))))))))))) (s_one (s_ret (e_P (p_bl)))) (s_nil)) (s_cons (s_set (i := 7) hN rfl (.inl rfl) (e_op (op_sub) pure_sub (e_fnL (_law_draw_ok V hS) bp__law_draw hg (hr.mono (by decide : 1 ≤ 8)) (takes_of rfl rfl rfl rfl) (by rfl) rfl (.inl rfl) (am_cons (e_P (p_int)) am_nil)) (e_P (p_int)))) (s_cons (s_if (t_P (q_W (w_or (q_ne hr (b_fnN (point_at_ok V hS) bp_point_at hg hr (by rfl) (ab_cons (b_V rfl (.inl rfl)) (ab_cons (b_P (p_V rfl (.inl rfl))) ab_nil))) (b_P (p_fn (point_at_ok V hS) bp_point_at hg hr (by rfl) (ad_cons (p_V rfl (.inl rfl)) (ad_cons (p_fn (_law_value_ok V hS) bp__law_value hg (hr.mono (by decide : 1 ≤ 8)) (by rfl) (ad_cons (p_V rfl (.inr (.inl rfl))) (ad_cons (p_V rfl (.inl rfl)) ad_nil))) ad_nil))))) (w_or1 (q_ne hr (b_fnN (point_after_ok V hS) bp_point_after hg hr (by rfl) (ab_cons (b_V rfl (.inl rfl)) ab_nil)) (b_P (p_fn (point_after_ok V hS) bp_point_after hg hr (by rfl) (ad_cons (p_V rfl (.inl rfl)) ad_nil)))))))) (s_one (s_ret (e_P (p_bl)))) (s_nil)) (s_cons (s_expr (e_app rfl (.inl rfl) (e_P (p_non)))) (s_cons (s_expr (e_appP (pa_ix (pa_V rfl (.inl rfl)) (b_P (p_int)) (fun _ _ => rfl)) (p_non))) (s_one (s_ret (e_P (p_eq hr (b_P (p_fn (by_time_ok V hS) bp_by_time hg hr (by rfl) (ad_cons (p_V rfl (.inl rfl)) (ad_cons (p_V rfl (.inr (.inl rfl))) ad_nil)))) (b_P (p_V rfl (.inl rfl)))))))))))))))))
theorem _law_time_right_ok (V : Txt K mg) (hS : SysD base) : FnM Pr w K mg base 9 "_law_time_right" st__law_time_right ["pot", "three"] _law_time_right_m := FnM.by V.d__law_time_right sc__law_time_right (_law_time_right_bd V hS)
theorem sc__law_right : FnScope ["pot", "three"] ["pot"] (defScope st__law_right) := ⟨rfl, rfl, rfl, by decide +kernel, rfl, by decide +kernel, by decide +kernel⟩
theorem _law_right_bd (V : Txt K mg) (hS : SysD base) : BdOk Pr w K mg base 9 "_law_right" st__law_right ["pot", "three"] [0] _law_right_b := fun fa cdv A outer s H E hg hr => by
  have hN := (sc__law_right).nd
  exact s_cons (s_set (i := 1) hN rfl (.inl rfl) (e_if (t_cmp (op_eqD hr.units) pure_eq (nomark _) (e_fnL (_law_draw_ok V hS) bp__law_draw hg (hr.mono (by decide : 1 ≤ 9)) (takes_of rfl rfl rfl rfl) (by rfl) rfl (.inl rfl) (am_cons (e_P (p_int)) am_nil)) (e_P (p_int))) (e_fnL (_law_curve_ok V hS) bp__law_curve hg (hr.mono (by decide : 4 ≤ 9)) (takes_of rfl rfl rfl rfl) (by rfl) rfl (.inl rfl) (am_cons (e_P (p_int)) am_nil)) (e_fnL (_law_led_curve_ok V hS) bp__law_led_curve hg (hr.mono (by decide : 5 ≤ 9)) (takes_of rfl rfl rfl rfl) (by rfl) rfl (.inl rfl) (am_cons (e_P (p_int)) am_nil)))) (s_one (s_ret (e_and (e_fnL (_law_curve_right_ok V hS) bp__law_curve_right hg hr (takes_of rfl rfl rfl rfl) (by rfl) rfl (.inl rfl) (am_cons (e_P (p_V rfl (.inl rfl))) am_nil)) (e_one (e_fnL (_law_time_right_ok V hS) bp__law_time_right hg hr (takes_of rfl rfl rfl rfl) (by rfl) rfl (.inl rfl) (am_cons (e_P (p_V rfl (.inl rfl))) am_nil))))))
theorem _law_right_ok (V : Txt K mg) (hS : SysD base) : FnM Pr w K mg base 10 "_law_right" st__law_right ["pot"] _law_right_m := FnM.by V.d__law_right sc__law_right (_law_right_bd V hS)
theorem sc_law : FnScope ["script"] ["script"] (defScope st_law) := ⟨rfl, rfl, rfl, by decide +kernel, rfl, by decide +kernel, by decide +kernel⟩
theorem law_bd (V : Txt K mg) (hS : SysD base) : BdOk Pr w K mg base 10 "law" st_law ["script"] [] law_b := fun fa cdv A outer s H E hg hr => by
  have hN := (sc_law).nd
  exact s_one (s_ret (e_fn (_law_right_ok V hS) bp__law_right hg hr (takes_of rfl rfl rfl rfl) (by rfl) (am_cons (e_fnO (_law_pot_ok V hS) bp__law_pot hg (hr.mono (by decide : 1 ≤ 10)) (takes_of rfl rfl rfl rfl) (by rfl) (am_cons (e_P (p_V rfl (.inl rfl))) (am_cons (e_P (p_int)) am_nil))) am_nil)))
theorem law_ok (V : Txt K mg) (hS : SysD base) : FnM Pr w K mg base 11 "law" st_law ["script"] law_m := FnM.by V.d_law sc_law (law_bd V hS)
end
end k71
namespace k71
open PySem PySem.Spec PyProof.Rows L2 PL
/-! ### lists of coefficients: values, sizes -/
def val : List Int → Int → Int
  | [], _ => 0
  | a :: l, x => val l x * x + a
def nrm : List Int → Nat
  | [] => 0
  | a :: l => a.natAbs + nrm l
def addL : List Int → List Int → List Int
  | [], m => m
  | a :: l, [] => a :: l
  | a :: l, b :: m => (a + b) :: addL l m
def Tr (l : List Int) : Prop := ∀ x, l.getLast? = some x → x ≠ 0
def Bd (k : Nat) (l : List Int) : Prop := ∀ x ∈ l, x.natAbs < 2 ^ k
theorem tr_nil : Tr [] := nofun
theorem tr_trim (l : List Int) : Tr (trimI l) := fun x h => trimI_last h
theorem tr_snoc {l : List Int} {x : Int} (h : x ≠ 0) : Tr (l ++ [x]) := fun y e => by simp at e; rw [← e]; exact h
theorem tr_cons {a b : Int} {l : List Int} (h : Tr (a :: b :: l)) : Tr (b :: l) := fun x e => h x (by rw [List.getLast?_cons_cons]; exact e)
theorem trim_cons (x : Int) (r : List Int) : trimI (x :: r) = if trimI r = [] ∧ x = 0 then [] else x :: trimI r := by
  rw [trimI]
  cases trimI r with
  | nil => by_cases h : x = 0 <;> simp [h]
  | cons y t => simp
theorem trim_id : ∀ {l : List Int}, Tr l → trimI l = l
  | [], _ => rfl
  | [a], h => by
    have := h a rfl
    simp [trimI, this]
  | a :: b :: l, h => by
    have ih := trim_id (tr_cons h)
    rw [trim_cons, ih]
    simp
theorem val_trim (x : Int) : ∀ l : List Int, val (trimI l) x = val l x
  | [] => rfl
  | a :: l => by
    have ih := val_trim x l
    rw [trim_cons]
    split
    · rename_i h
      rw [h.1] at ih
      simp only [val] at ih ⊢
      rw [← ih, h.2]; simp
    · simp only [val, ih]
theorem nrm_trim : ∀ l : List Int, nrm (trimI l) ≤ nrm l
  | [] => by simp [trimI]
  | a :: l => by
    have ih := nrm_trim l
    rw [trim_cons]
    split
    · simp [nrm]
    · simp only [nrm]; omega
theorem val_addL (x : Int) : ∀ l m : List Int, val (addL l m) x = val l x + val m x
  | [], m => by simp [addL, val]
  | a :: l, [] => by simp [addL, val]
  | a :: l, b :: m => by
    simp only [addL, val, val_addL x l m]
    grind
theorem nrm_addL : ∀ l m : List Int, nrm (addL l m) ≤ nrm l + nrm m
  | [], m => by simp [addL, nrm]
  | a :: l, [] => by simp [addL, nrm]
  | a :: l, b :: m => by
    have := nrm_addL l m
    simp only [addL, nrm]
    omega
theorem len_addL : ∀ l m : List Int, (addL l m).length = max l.length m.length
  | [], m => by simp [addL]
  | a :: l, [] => by simp [addL]
  | a :: l, b :: m => by
    simp only [addL, List.length_cons, len_addL l m]
    omega
theorem val_map (k x : Int) : ∀ l : List Int, val (l.map fun y => k * y) x = k * val l x
  | [] => by simp [val]
  | a :: l => by
    simp only [List.map_cons, val, val_map k x l]
    grind
theorem nrm_map (k : Int) : ∀ l : List Int, nrm (l.map fun y => k * y) = k.natAbs * nrm l
  | [] => by simp [nrm]
  | a :: l => by
    simp only [List.map_cons, nrm, nrm_map k l, Int.natAbs_mul, Nat.mul_add]
theorem val_app (x : Int) : ∀ l m : List Int, val (l ++ m) x = val l x + x ^ l.length * val m x
  | [], m => by simp [val]
  | a :: l, m => by
    simp only [List.cons_append, val, val_app x l m, List.length_cons, Int.pow_succ]
    grind
theorem nrm_app : ∀ l m : List Int, nrm (l ++ m) = nrm l + nrm m
  | [], m => by simp [nrm]
  | a :: l, m => by
    simp only [List.cons_append, nrm, nrm_app l m]
    omega
theorem val_zeros (x : Int) : ∀ n : Nat, val (List.replicate n 0) x = 0
  | 0 => rfl
  | n + 1 => by simp [List.replicate_succ, val, val_zeros x n]
theorem nrm_zeros : ∀ n : Nat, nrm (List.replicate n 0) = 0
  | 0 => rfl
  | n + 1 => by simp [List.replicate_succ, nrm, nrm_zeros n]
theorem mem_nrm : ∀ {l : List Int} {x : Int}, x ∈ l → x.natAbs ≤ nrm l
  | a :: l, x, h => by
    rcases List.mem_cons.mp h with rfl | h
    · simp [nrm]
    · have := mem_nrm h
      simp only [nrm]; omega
theorem bd_nrm {l : List Int} {k : Nat} (h : nrm l < 2 ^ k) : Bd k l := fun x hx => by
  have := mem_nrm hx
  omega
theorem bd_le {l : List Int} {j k : Nat} (h : Bd j l) (i : j ≤ k) : Bd k l := fun x hx => Nat.lt_of_lt_of_le (h x hx) (Nat.pow_le_pow_right (by decide) i)
theorem bd_trim {l : List Int} {k : Nat} (h : Bd k l) : Bd k (trimI l) := fun x hx => h x (trimI_mem hx)
/-- a line of two numbers and more grows beyond each bound -/
theorem grow : ∀ {l : List Int}, Tr l → 2 ≤ l.length → ∀ B : Nat, ∃ X : Int, ∀ x, X ≤ x → B < (val l x).natAbs
  | [], _, h, _ => by simp at h
  | [a], _, h, _ => by simp at h
  | [a, c], t, _, B => by
    have hc : c ≠ 0 := t c rfl
    refine ⟨(B + a.natAbs + 1 : Nat), fun x hx => ?_⟩
    have e : val [a, c] x = c * x + a := by simp [val]
    rw [e]
    have : (c * x).natAbs = c.natAbs * x.natAbs := Int.natAbs_mul ..
    have h2 : 1 * x.natAbs ≤ c.natAbs * x.natAbs := Nat.mul_le_mul_right _ (by omega)
    omega
  | a :: b :: c :: l, t, _, B => by
    obtain ⟨X, h⟩ := grow (tr_cons t) (by simp) (B + a.natAbs)
    refine ⟨max X 1, fun x hx => ?_⟩
    have h1 := h x (by omega)
    have e : val (a :: b :: c :: l) x = val (b :: c :: l) x * x + a := rfl
    rw [e]
    generalize val (b :: c :: l) x = v at *
    have : (v * x).natAbs = v.natAbs * x.natAbs := Int.natAbs_mul ..
    have h2 : v.natAbs * 1 ≤ v.natAbs * x.natAbs := Nat.mul_le_mul_left _ (by omega)
    omega
/-- lines with the same values are one -/
theorem val0 {l : List Int} (t : Tr l) (N : Int) (h : ∀ x, N ≤ x → val l x = 0) : l = [] := by
  match l, t, h with
  | [], _, _ => rfl
  | [a], t, h =>
    have := h N (by omega)
    simp [val] at this
    exact absurd this (t a rfl)
  | a :: b :: l, t, h =>
    obtain ⟨X, g⟩ := grow t (by simp) 0
    have := g (max X N) (by omega)
    rw [h _ (by omega)] at this
    simp at this
theorem val_ext' : ∀ {l m : List Int}, Tr l → Tr m → ∀ N : Int, (∀ x, N ≤ x → val l x = val m x) → l = m
  | [], m, _, t, N, h => (val0 t N fun x hx => (h x hx).symm).symm
  | a :: l, [], t, _, N, h => val0 t N h
  | a :: l, b :: m, t, u, N, h => by
    have t' : Tr l := by
      cases l with
      | nil => exact tr_nil
      | cons c l => exact tr_cons t
    have u' : Tr m := by
      cases m with
      | nil => exact tr_nil
      | cons c l => exact tr_cons u
    have hab : a = b := by
      have e := h (max N ((a - b).natAbs + 1 : Nat)) (by omega)
      have hx : ((a - b).natAbs + 1 : Nat) ≤ max N ((a - b).natAbs + 1 : Nat) := by omega
      generalize max N ((a - b).natAbs + 1 : Nat) = x at e hx
      simp only [val] at e
      have e2 : (val m x - val l x) * x = a - b := by rw [Int.sub_mul]; omega
      by_cases hd : val m x - val l x = 0
      · rw [hd] at e2; omega
      · have h3 : ((val m x - val l x) * x).natAbs = (val m x - val l x).natAbs * x.natAbs := Int.natAbs_mul ..
        have h4 : 1 * x.natAbs ≤ (val m x - val l x).natAbs * x.natAbs := Nat.mul_le_mul_right _ (by omega)
        omega
    subst hab
    have ih := val_ext' t' u' (max N 1) fun x hx => by
      have e := h x (by omega)
      simp only [val] at e
      have e2 : val l x * x = val m x * x := by omega
      exact Int.eq_of_mul_eq_mul_right (by omega) e2
    rw [ih]
theorem val_ext {l m : List Int} (t : Tr l) (u : Tr m) (h : ∀ x, val l x = val m x) : l = m := val_ext' t u 0 fun x _ => h x
/-! ### one step of the division, the rest -/
def lastI (l : List Int) : Int := l.getLast?.getD 0
def stepL (left far : List Int) : List Int := trimI (List.zipWith (fun a b => a * lastI far - lastI left * b) left (List.replicate (left.length - far.length) 0 ++ far))
theorem val_zip (p q x : Int) : ∀ {l m : List Int}, l.length = m.length → val (List.zipWith (fun a b => a * p - q * b) l m) x = p * val l x - q * val m x
  | [], [], _ => by simp [val]
  | a :: l, b :: m, h => by
    simp only [List.zipWith_cons_cons, val, val_zip p q x (Nat.succ.inj h)]
    grind
theorem snoc_of {l : List Int} (t : Tr l) (h : l ≠ []) : ∃ u c, l = u ++ [c] ∧ c ≠ 0 ∧ lastI l = c := by
  refine ⟨l.dropLast, l.getLast h, (List.dropLast_concat_getLast h).symm, t _ (List.getLast?_eq_some_getLast h), ?_⟩
  simp [lastI, List.getLast?_eq_some_getLast h]
theorem step_spec {left far : List Int} {A B : Nat} (tl : Tr left) (tf : Tr far) (hf : far ≠ []) (hl : far.length ≤ left.length) (ba : Bd A left) (bb : Bd B far) :
    Tr (stepL left far) ∧ (stepL left far).length < left.length ∧ Bd (A + (B + 1)) (stepL left far) ∧ lastI far ≠ 0 ∧ ∀ x, val (stepL left far) x = lastI far * val left x - lastI left * (x ^ (left.length - far.length) * val far x) := by
  have hl0 : left ≠ [] := by
    intro h
    rw [h] at hl
    exact hf (List.eq_nil_of_length_eq_zero (by simpa using hl))
  obtain ⟨u, M, e1, hM, l1⟩ := snoc_of tl hl0
  obtain ⟨v, L, e2, hL, l2⟩ := snoc_of tf hf
  have len : left.length = (List.replicate (left.length - far.length) (0 : Int) ++ far).length := by simp; omega
  refine ⟨tr_trim _, ?_, bd_trim fun x hx => ?_, by rw [l2]; exact hL, fun x => ?_⟩
  · unfold stepL
    rw [l1, l2]
    have e3 : List.zipWith (fun a b => a * L - M * b) left (List.replicate (left.length - far.length) 0 ++ far) = List.zipWith (fun a b => a * L - M * b) u (List.replicate (left.length - far.length) 0 ++ v) ++ [0] := by
      conv => lhs; rw [show List.replicate (left.length - far.length) (0 : Int) ++ far = (List.replicate (left.length - far.length) 0 ++ v) ++ [L] by rw [List.append_assoc, ← e2]]
      rw [show List.zipWith (fun a b => a * L - M * b) left = List.zipWith (fun a b => a * L - M * b) (u ++ [M]) by rw [← e1]]
      rw [List.zipWith_append (by have := congrArg List.length e1; have := congrArg List.length e2; simp at *; omega)]
      simp
    rw [e3, trimI_snoc0]
    refine Nat.lt_of_le_of_lt (trimI_len _) ?_
    have := congrArg List.length e1
    simp at this ⊢
    omega
  · obtain ⟨i, a, b, ha, hb, rfl⟩ : ∃ (i : Nat) (a b : Int), left[i]? = some a ∧ (List.replicate (left.length - far.length) 0 ++ far)[i]? = some b ∧ a * lastI far - lastI left * b = x := by
      obtain ⟨i, hi⟩ := List.mem_iff_getElem?.mp hx
      rw [List.getElem?_zipWith] at hi
      split at hi
      · rename_i a b h1 h2
        exact ⟨i, a, b, h1, h2, by simpa using hi⟩
      · cases hi
    have h1 : a.natAbs < 2 ^ A := ba a (List.mem_of_getElem? ha)
    have h2 : b.natAbs < 2 ^ B := by
      rcases List.mem_append.mp (List.mem_of_getElem? hb) with z | z
      · rw [(List.mem_replicate.mp z).2]; exact Nat.two_pow_pos B
      · exact bb b z
    have h3 : (lastI far).natAbs < 2 ^ B := bb _ (by rw [l2, e2]; simp)
    have h4 : (lastI left).natAbs < 2 ^ A := ba _ (by rw [l1, e1]; simp)
    have m1 : (a * lastI far).natAbs ≤ 2 ^ A * 2 ^ B := by rw [Int.natAbs_mul]; exact Nat.mul_le_mul (by omega) (by omega)
    have m2 : (lastI left * b).natAbs < 2 ^ A * 2 ^ B := by rw [Int.natAbs_mul]; exact Nat.mul_lt_mul'' h4 h2
    have : 2 ^ (A + (B + 1)) = 2 ^ A * 2 ^ B * 2 := by rw [← Nat.add_assoc, Nat.pow_succ, Nat.pow_add]
    omega
  · unfold stepL
    rw [val_trim, val_zip _ _ _ len, val_app, val_zeros]
    simp
def remL (far : List Int) : Nat → List Int → List Int
  | 0, l => l
  | k + 1, l => if far.length ≤ l.length then remL far k (stepL l far) else l
theorem rem_spec {far : List Int} {B : Nat} (tf : Tr far) (hf : far ≠ []) (bb : Bd B far) : ∀ (k : Nat) {l : List Int} {A : Nat}, Tr l → Bd A l → l.length ≤ k → Tr (remL far k l) ∧ (remL far k l).length < far.length ∧ Bd (A + (l.length + 1 - far.length) * (B + 1)) (remL far k l) ∧ ∃ α : Int, α ≠ 0 ∧ ∀ x, ∃ β, val (remL far k l) x = α * val l x + β * val far x
  | 0, l, A, t, b, h => by
    have : 0 < far.length := List.length_pos_iff.mpr hf
    refine ⟨t, ?_, bd_le b (by omega), 1, by decide, fun x => ⟨0, ?_⟩⟩
    · unfold remL; omega
    · unfold remL; omega
  | k + 1, l, A, t, b, h => by
    unfold remL
    split
    · rename_i hl
      obtain ⟨s1, s2, s3, s4, s5⟩ := step_spec t tf hf hl b bb
      obtain ⟨r1, r2, r3, α, r4, r5⟩ := rem_spec tf hf bb k s1 s3 (by omega)
      refine ⟨r1, r2, bd_le r3 ?_, α * lastI far, Int.mul_ne_zero r4 s4, fun x => ?_⟩
      · have : (stepL l far).length + 1 - far.length + 1 ≤ l.length + 1 - far.length := by omega
        have := Nat.mul_le_mul_right (B + 1) this
        rw [Nat.add_mul] at this
        omega
      · obtain ⟨β, e⟩ := r5 x
        refine ⟨β - α * lastI l * x ^ (l.length - far.length), ?_⟩
        rw [e, s5 x]
        grind
    · rename_i hl
      refine ⟨t, by omega, bd_le b (by omega), 1, by decide, fun x => ⟨0, by omega⟩⟩
end k71
namespace k71
open PySem PySem.Spec PyProof.Rows L2 PL
/-! ### greatest common divisors -/
def HUGE : Nat := 2 ^ 13000
def gcdF (g : Nat) (l : List Int) : Nat := l.foldl (fun g x => Int.gcd g x) g
theorem gcdF_cons (g : Nat) (x : Int) (l : List Int) : gcdF g (x :: l) = gcdF (Int.gcd g x) l := rfl
theorem gcdF_dvd : ∀ (l : List Int) (g : Nat), gcdF g l ∣ g ∧ ∀ x ∈ l, (gcdF g l : Int) ∣ x
  | [], g => ⟨Nat.dvd_refl g, nofun⟩
  | x :: l, g => by
    obtain ⟨h1, h2⟩ := gcdF_dvd l (Int.gcd g x)
    rw [gcdF_cons]
    have a1 : ((gcdF (Int.gcd g x) l : Nat) : Int) ∣ (Int.gcd g x : Nat) := Int.natCast_dvd_natCast.mpr h1
    refine ⟨Int.natCast_dvd_natCast.mp (Int.dvd_trans a1 (Int.gcd_dvd_left ..)), fun y hy => ?_⟩
    rcases List.mem_cons.mp hy with rfl | hy
    · exact Int.dvd_trans a1 (Int.gcd_dvd_right ..)
    · exact h2 y hy
theorem gcdF_zero {l : List Int} {g : Nat} (h : gcdF g l = 0) : g = 0 ∧ ∀ x ∈ l, x = 0 := by
  obtain ⟨h1, h2⟩ := gcdF_dvd l g
  rw [h] at h1 h2
  exact ⟨by simpa using h1, fun x hx => by simpa using h2 x hx⟩
theorem gcd_lt {g : Nat} {x : Int} {K : Nat} (h1 : g < K) (h2 : x.natAbs < K) : Int.gcd g x < K := by
  by_cases h : g = 0
  · subst h; simpa [Int.gcd] using h2
  · exact Nat.lt_of_le_of_lt (Nat.le_of_dvd (by omega) (Int.natCast_dvd_natCast.mp (Int.gcd_dvd_left ..))) h1
theorem gcdF_lt {K : Nat} : ∀ {l : List Int} {g : Nat}, g < K → (∀ x ∈ l, x.natAbs < K) → gcdF g l < K
  | [], g, h, _ => h
  | x :: l, g, h, hl => by
    rw [gcdF_cons]
    exact gcdF_lt (gcd_lt h (hl x (by simp))) fun y hy => hl y (by simp [hy])
def divL (l : List Int) (c : Int) : List Int := l.map fun y => y.fdiv c
theorem fdiv_dvd {y c : Int} (h : c ∣ y) : c * y.fdiv c = y := Int.mul_fdiv_cancel' h
theorem divL_spec {c : Int} (hc : c ≠ 0) {l : List Int} (h : ∀ y ∈ l, c ∣ y) : (∀ x, val l x = c * val (divL l c) x) ∧ (Tr l → Tr (divL l c)) ∧ (divL l c).length = l.length ∧ (∀ k, Bd k l → Bd k (divL l c)) := by
  have e : l = (divL l c).map fun y => c * y := by
    unfold divL
    rw [List.map_map]
    conv => lhs; rw [← List.map_id l]
    refine List.map_congr_left fun y hy => ?_
    exact (fdiv_dvd (h y hy)).symm
  refine ⟨fun x => ?_, fun t y hy => ?_, by simp [divL], fun k b y hy => ?_⟩
  · conv => lhs; rw [e]
    exact val_map ..
  · intro h0
    have : l.getLast? = some (c * y) := by
      conv => lhs; rw [e]
      rw [List.getLast?_map, hy]; rfl
    have := t _ this
    rw [h0] at this
    simp at this
  · have : c * y ∈ l := by
      rw [e]; exact List.mem_map_of_mem hy
    have h1 := b _ this
    rw [Int.natAbs_mul] at h1
    have : 1 * y.natAbs ≤ c.natAbs * y.natAbs := Nat.mul_le_mul_right _ (by omega)
    omega
/-- made plain, up to its sign -/
def Nrm (l l' : List Int) : Prop := (∃ c : Int, c ≠ 0 ∧ ∀ x, val l x = c * val l' x) ∧ Tr l' ∧ l'.length = l.length ∧ (∀ k, Bd k l → Bd k l') ∧ (l.length = 1 → Bd 1 l')
def bareL (l : List Int) : List Int := if 1 < gcdF 0 l then divL l (gcdF 0 l) else l
def plainP (l : List Int) : Int := if lastI l < 0 then 0 - (gcdF 0 l : Int) else gcdF 0 l
theorem one_of {l : List Int} (t : Tr l) (h : l.length = 1) : ∃ a, l = [a] ∧ a ≠ 0 ∧ gcdF 0 l = a.natAbs := by
  match l, h with
  | [a], _ => exact ⟨a, rfl, t a rfl, by simp [gcdF, Int.gcd]⟩
theorem bare_nrm {l : List Int} (t : Tr l) : Nrm l (bareL l) := by
  unfold bareL
  split
  · rename_i h
    obtain ⟨s1, s2, s3, s4⟩ := divL_spec (c := (gcdF 0 l : Nat)) (by omega) (gcdF_dvd l 0).2
    refine ⟨⟨(gcdF 0 l : Nat), by omega, s1⟩, s2 t, s3, s4, fun h1 y hy => ?_⟩
    obtain ⟨a, rfl, ha, hg⟩ := one_of t h1
    rw [hg] at hy
    simp only [divL, List.map_cons, List.map_nil, List.mem_singleton] at hy
    have e := fdiv_dvd (y := a) (c := (a.natAbs : Nat)) (Int.natAbs_dvd.mpr (Int.dvd_refl a))
    rw [← hy] at e
    have e2 := congrArg Int.natAbs e
    rw [Int.natAbs_mul, Int.natAbs_natCast] at e2
    have : a.natAbs * y.natAbs = a.natAbs * 1 := by omega
    have := Nat.eq_of_mul_eq_mul_left (by omega) this
    omega
  · rename_i h
    refine ⟨⟨1, by decide, fun x => by omega⟩, t, rfl, fun _ b => b, fun h1 y hy => ?_⟩
    obtain ⟨a, rfl, ha, hg⟩ := one_of t h1
    simp only [List.mem_singleton] at hy
    subst hy
    omega
theorem plain_nrm {l : List Int} (t : Tr l) (h0 : l ≠ []) : plainP l ≠ 0 ∧ (plainP l).natAbs = gcdF 0 l ∧ Nrm l (divL l (plainP l)) := by
  obtain ⟨u, c, e, hc, _⟩ := snoc_of t h0
  have g0 : gcdF 0 l ≠ 0 := fun z => hc ((gcdF_zero z).2 c (by rw [e]; simp))
  have p0 : plainP l ≠ 0 := by unfold plainP; split <;> omega
  have pa : (plainP l).natAbs = gcdF 0 l := by unfold plainP; split <;> omega
  have pd : ∀ y ∈ l, plainP l ∣ y := fun y hy => by
    have := (gcdF_dvd l 0).2 y hy
    rw [← pa] at this
    exact Int.natAbs_dvd.mp this
  obtain ⟨s1, s2, s3, s4⟩ := divL_spec p0 pd
  refine ⟨p0, pa, ⟨plainP l, p0, s1⟩, s2 t, s3, s4, fun h1 y hy => ?_⟩
  obtain ⟨a, e1, ha, hg⟩ := one_of t h1
  have hy' : y = a.fdiv (plainP l) := by
    rw [e1] at hy
    rw [e1]
    simpa [divL] using hy
  have e := fdiv_dvd (y := a) (c := plainP l) (pd a (by rw [e1]; simp))
  rw [← hy'] at e
  have e2 := congrArg Int.natAbs e
  rw [Int.natAbs_mul, pa, hg] at e2
  have : a.natAbs * y.natAbs = a.natAbs * 1 := by omega
  have := Nat.eq_of_mul_eq_mul_left (by omega) this
  omega
/-! ### what the last rest is -/
def Spec (near far g : List Int) : Prop := (∃ K : Int, K ≠ 0 ∧ ∀ x, ∃ u v : Int, u * val near x + v * val far x = K * val g x) ∧ ∃ M : Int, M ≠ 0 ∧ ∀ x, val g x ∣ M * val near x ∧ val g x ∣ M * val far x
theorem spec_nil (g : List Int) : Spec g [] g := ⟨⟨1, by decide, fun x => ⟨1, 0, by simp⟩⟩, 1, by decide, fun x => ⟨⟨1, by simp⟩, ⟨0, by simp [val]⟩⟩⟩
def Red (near far r : List Int) : Prop := ∃ α γ : Int, α ≠ 0 ∧ γ ≠ 0 ∧ ∀ x, ∃ β, γ * val r x = α * val near x + β * val far x
theorem spec_step {near far r g : List Int} (h : Red near far r) (s : Spec far r g) : Spec near far g := by
  obtain ⟨α, γ, ha, hg, hr⟩ := h
  obtain ⟨⟨K, hK, s1⟩, M, hM, s2⟩ := s
  refine ⟨⟨γ * K, Int.mul_ne_zero hg hK, fun x => ?_⟩, α * M, Int.mul_ne_zero ha hM, fun x => ⟨?_, ?_⟩⟩
  · obtain ⟨β, e⟩ := hr x
    obtain ⟨u, v, e2⟩ := s1 x
    exact ⟨v * α, γ * u + v * β, by grind⟩
  · obtain ⟨β, e⟩ := hr x
    obtain ⟨⟨p, hp⟩, ⟨q, hq⟩⟩ := s2 x
    exact ⟨γ * q - β * p, by grind⟩
  · obtain ⟨⟨p, hp⟩, _⟩ := s2 x
    exact ⟨α * p, by grind⟩
theorem spec_start {a b a' b' g : List Int} (h1 : ∃ c : Int, c ≠ 0 ∧ ∀ x, val a x = c * val a' x) (h2 : ∃ c : Int, c ≠ 0 ∧ ∀ x, val b x = c * val b' x) (s : Spec a' b' g) : Spec a b g := by
  obtain ⟨c, hc, e1⟩ := h1
  obtain ⟨d, hd, e2⟩ := h2
  obtain ⟨⟨K, hK, s1⟩, M, hM, s2⟩ := s
  refine ⟨⟨c * d * K, Int.mul_ne_zero (Int.mul_ne_zero hc hd) hK, fun x => ?_⟩, M, hM, fun x => ⟨?_, ?_⟩⟩
  · obtain ⟨u, v, e⟩ := s1 x
    refine ⟨d * u, c * v, ?_⟩
    rw [e1, e2]
    grind
  · obtain ⟨⟨p, hp⟩, _⟩ := s2 x
    refine ⟨c * p, ?_⟩
    rw [e1]; grind
  · obtain ⟨_, ⟨p, hp⟩⟩ := s2 x
    refine ⟨d * p, ?_⟩
    rw [e2]; grind
theorem red_of {near far r r' : List Int} (h : ∃ α : Int, α ≠ 0 ∧ ∀ x, ∃ β, val r x = α * val near x + β * val far x) (h2 : ∃ c : Int, c ≠ 0 ∧ ∀ x, val r x = c * val r' x) : Red near far r' := by
  obtain ⟨α, ha, e⟩ := h
  obtain ⟨c, hc, e2⟩ := h2
  exact ⟨α, c, ha, hc, fun x => let ⟨β, e3⟩ := e x; ⟨β, by rw [← e2]; exact e3⟩⟩
/-! ### how many bits there are on the way -/
def okB (fin : Nat → Nat → Bool) : Nat → Nat → Nat → Nat → Nat → Bool
  | 0, _, _, _, _ => false
  | k + 1, n, m, a, b => decide (a ≤ 13000) && decide (b ≤ 13000) && (if m = 0 then fin n a else if n < m then okB fin k m n b a else decide (a + (n + 1 - m) * (b + 1) ≤ 13000) && (List.range m).all fun j => okB fin k m j b (if j = 1 then 1 else a + (n + 1 - m) * (b + 1)))
def fin2 : Nat → Nat → Bool := fun n a => true
def fin1 : Nat → Nat → Bool := fun n a => (List.range 7).all fun m => okB fin2 8 n m a 22
theorem ok_all : ((List.range 7).all fun n => (List.range 7).all fun m => okB fin1 8 n m 22 22) = true := by decide +kernel
theorem ok_at {n m : Nat} (h1 : n < 7) (h2 : m < 7) : okB fin1 8 n m 22 22 = true := List.all_eq_true.mp (List.all_eq_true.mp ok_all n (List.mem_range.mpr h1)) m (List.mem_range.mpr h2)
theorem divOk_big {a b : Int} (hb : b ≠ 0) (ha : a.natAbs < HUGE) : divOk a b = true := by
  unfold divOk
  have : Builtin.divisionGoesByPylong a b = false := by
    unfold Builtin.divisionGoesByPylong
    have h1 : a.natAbs.log2 < 13000 := by
      rcases Nat.eq_zero_or_pos a.natAbs with z | z
      · rw [z]; decide
      · exact (Nat.log2_lt (by omega)).mpr ha
    have h3 : (if a == 0 then 0 else a.natAbs.log2 / 30 + 1) ≤ 434 := by split <;> omega
    simp only [Bool.and_eq_false_iff, decide_eq_false_iff_not]
    generalize (if a == 0 then 0 else a.natAbs.log2 / 30 + 1) = p at *
    generalize (if b == 0 then 0 else b.natAbs.log2 / 30 + 1) = q at *
    omega
  simp [hb, this]
theorem mulOk_big {a b : Int} (ha : a.natAbs < HUGE) (hb : b.natAbs < HUGE) : mulOk a b = true := by
  have lg : ∀ {a : Int}, a.natAbs < HUGE → a.natAbs.log2 < 13000 := fun {a} ha => by
    rcases Nat.eq_zero_or_pos a.natAbs with z | z
    · rw [z]; decide
    · exact (Nat.log2_lt (by omega)).mpr ha
  have := lg ha
  have := lg hb
  unfold mulOk
  rw [decide_eq_true (by omega)]
  simp
theorem huge_of {k : Nat} {x : Nat} (h : x < 2 ^ k) (hk : k ≤ 13000) : x < HUGE := Nat.lt_of_lt_of_le h (Nat.pow_le_pow_right (by decide) hk)
end k71
namespace k71
open PySem PySem.Spec PyProof.Rows L2 PL
/-! ### what the functions tell: divisors -/
theorem fmod_def' (x y : Int) : x - x.fdiv y * y = x.fmod y := by
  rw [Int.fmod_def, Int.mul_comm]
theorem gcd_fmod (x y : Int) : Int.gcd y (x.fmod y) = Int.gcd x y := by
  have h : x.fmod y = x + y * (-(x.fdiv y)) := by rw [Int.fmod_def]; simp only [Int.mul_neg]; omega
  rw [h, Int.gcd_add_mul_left_right, Int.gcd_comm]
theorem gcd_loop (A B : Option C) : ∀ (k : Nat) (x y : Nat), y < k → x < HUGE → y < HUGE → (sWhile (tP (qOf (pOp neV' (pV 3) (pK (.int 0))))) (sPar [2, 3] [eP (pV 3), eP (pOp subI (pV 2) (pOp mulI (pOp fdivI (pV 2) (pV 3)) (pV 3)))])) [A, B, some (.frz (.int x)), some (.frz (.int y))] = .nx [A, B, some (.frz (.int (Int.gcd x y))), some (.frz (.int 0))]
  | 0, x, y, h, _, _ => by omega
  | k + 1, x, y, h, hx, hy => by
    by_cases h0 : y = 0
    · subst h0
      rw [sWhile_eq]
      simp [tP, qOf, pOp, pV, C.toD, pK, neV', ofV, sOf]
    · have l := Int.fmod_lt_of_pos (x : Int) (b := (y : Int)) (by omega)
      have nn := Int.fmod_nonneg_of_pos (x : Int) (b := (y : Int)) (by omega)
      have hm : ((x : Int).fmod y) = (((x : Int).fmod y).toNat : Int) := by omega
      have ih := gcd_loop A B k y ((x : Int).fmod y).toNat (by omega) hy (by omega)
      rw [← hm, gcd_fmod] at ih
      have h0' : ((y : Int) == 0) = false := by rw [beq_eq_false_iff_ne]; omega
      have d1 : divOk x y = true := divOk_big (by omega) (by simpa using hx)
      have q1 : ((x : Int).fdiv y).natAbs < HUGE := by
        rw [Int.fdiv_eq_ediv_of_nonneg _ (by omega)]
        exact Nat.lt_of_le_of_lt (Int.natAbs_ediv_le_natAbs ..) (by simpa using hx)
      have m1 : mulOk ((x : Int).fdiv y) y = true := mulOk_big q1 (by simpa using hy)
      have hf := fmod_def' (x : Int) y
      have st : (sPar [2, 3] [eP (pV 3), eP (pOp subI (pV 2) (pOp mulI (pOp fdivI (pV 2) (pV 3)) (pV 3)))]) [A, B, some (.frz (.int x)), some (.frz (.int y))] = .nx [A, B, some (.frz (.int y)), some (.frz (.int ((x : Int).fmod y)))] := by
        simp [PL.bodyM, PL.startE, PL.outsE, PL.sSeq, PL.sNx, PL.sBk, PL.sCt, PL.sNo, PL.sOf, PL.sSet, PL.sRet, PL.sRetN, PL.sDrop, PL.sIf, PL.sAsg, PL.sAug, PL.sAugIx, PL.sPar, PL.sFor, PL.eP, PL.eF, PL.eFrz, PL.eV, PL.eMv, PL.eFn, PL.eFnO, PL.eFnL, PL.lentTo, PL.eLst, PL.eTup, PL.eCall, PL.eOp, PL.eBin, PL.eIx, PL.eIf, PL.eAnd, PL.eOr, PL.eApp, PL.eAppP, PL.ePop, PL.eExt, PL.eExtM, PL.eCat, PL.eRep, PL.catD, PL.repD, PL.eComp, PL.tP, PL.tOfE, PL.tAnd, PL.tOr, PL.tNot, PL.pV, PL.bV, PL.pK, PL.pOp, PL.pChain, PL.qOf, PL.qAnd, PL.qOr, PL.qNot, PL.pAnd, PL.pOr, PL.pNot, PL.pIf, PL.pNeg, PL.pCall, PL.pFn, PL.pFnB, PL.pFnK, PL.pick, PL.pDm, PL.dmD, PL.pIx, PL.ixD, L2.atI, L2.ixN, PL.pSl, PL.pTup, PL.pF, PL.lP, PL.lKf, PL.frzs, PL.kV, PL.kIx, PL.ixC, PL.pKf, PL.bKf, PL.evPs_n, PL.evPs_c, PL.evMs_n, PL.evMs_c, PL.fCat, PL.fRep, PL.fSl, PL.evO, PL.fRev, PL.fSq, PL.sqD, PL.fList, PL.pTupL, PL.fComp, PL.enumS, PL.enumP, PL.zipP, PL.rngP, PL.rngM, PL.rngL, PL.mSq, PL.mP, PL.gV, PL.gTupD, PL.gsCons, PL.gsNil, PL.gIx, PL.paV, PL.paIx, PL.ownAt, PL.setAt, PL.getP, PL.setP, PL.intOf, PL.isFree, PL.wipeE, PL.freeE, PL.C.toD, PL.C.toDs, PL.ofV, PL.addI, PL.subI, PL.mulI, PL.fdivI, PL.modI, PL.powI, PL.cmpI, PL.iLt, PL.iLe, PL.iGt, PL.iGe, PL.eqV', PL.neV', PL.isN, PL.notN, PL.isNonD, PL.lenF, PL.absF, PL.intF, PL.strF, PL.maxF, PL.minF, PL.sumF, PL.allF, PL.anyF, PL.isiF, PL.clsD, PL.tyN, PL.isSubN, PL.intsOf, PL.blsOf, PL.flatD, PL.Out.bind, d1, m1, hf]
      have c : (tP (qOf (pOp neV' (pV 3) (pK (.int 0))))) [A, B, some (.frz (.int x)), some (.frz (.int y))] = .ok true [A, B, some (.frz (.int x)), some (.frz (.int y))] := by
        simp [tP, qOf, pOp, pV, C.toD, pK, neV', ofV, h0']
      rw [sWhile_eq, c]
      simp only [sOf, if_true]
      rw [st]
      exact ih
theorem divisor_v {g : Nat} {x : Int} (hg : g < HUGE) (hx : x.natAbs < HUGE) : Gives divisor_of_m [.frz (.int g), .frz (.int x)] (.frz (.int (Int.gcd g x))) := by
  refine gives_rt ?_
  unfold divisor_of_b
  have r := gcd_loop (some (.frz (.int g))) (some (.frz (.int x))) (x.natAbs + 1) g x.natAbs (by omega) hg hx
  have gg : Int.gcd (g : Int) (x.natAbs : Int) = Int.gcd g x := by simp [Int.gcd]
  rw [gg] at r
  refine ⟨[some (.frz (.int g)), some (.frz (.int x)), some (.frz (.int (Int.gcd g x))), some (.frz (.int 0))], ?_⟩
  rw [seq_nx (e := [some (.frz (.int g)), some (.frz (.int x)), some (.frz (.int g)), some (.frz (.int x.natAbs))]) (by
    have : ¬ ((g : Int) < 0) := by omega
    simp [PL.bodyM, PL.startE, PL.outsE, PL.sSeq, PL.sNx, PL.sBk, PL.sCt, PL.sNo, PL.sOf, PL.sSet, PL.sRet, PL.sRetN, PL.sDrop, PL.sIf, PL.sAsg, PL.sAug, PL.sAugIx, PL.sPar, PL.sFor, PL.eP, PL.eF, PL.eFrz, PL.eV, PL.eMv, PL.eFn, PL.eFnO, PL.eFnL, PL.lentTo, PL.eLst, PL.eTup, PL.eCall, PL.eOp, PL.eBin, PL.eIx, PL.eIf, PL.eAnd, PL.eOr, PL.eApp, PL.eAppP, PL.ePop, PL.eExt, PL.eExtM, PL.eCat, PL.eRep, PL.catD, PL.repD, PL.eComp, PL.tP, PL.tOfE, PL.tAnd, PL.tOr, PL.tNot, PL.pV, PL.bV, PL.pK, PL.pOp, PL.pChain, PL.qOf, PL.qAnd, PL.qOr, PL.qNot, PL.pAnd, PL.pOr, PL.pNot, PL.pIf, PL.pNeg, PL.pCall, PL.pFn, PL.pFnB, PL.pFnK, PL.pick, PL.pDm, PL.dmD, PL.pIx, PL.ixD, L2.atI, L2.ixN, PL.pSl, PL.pTup, PL.pF, PL.lP, PL.lKf, PL.frzs, PL.kV, PL.kIx, PL.ixC, PL.pKf, PL.bKf, PL.evPs_n, PL.evPs_c, PL.evMs_n, PL.evMs_c, PL.fCat, PL.fRep, PL.fSl, PL.evO, PL.fRev, PL.fSq, PL.sqD, PL.fList, PL.pTupL, PL.fComp, PL.enumS, PL.enumP, PL.zipP, PL.rngP, PL.rngM, PL.rngL, PL.mSq, PL.mP, PL.gV, PL.gTupD, PL.gsCons, PL.gsNil, PL.gIx, PL.paV, PL.paIx, PL.ownAt, PL.setAt, PL.getP, PL.setP, PL.intOf, PL.isFree, PL.wipeE, PL.freeE, PL.C.toD, PL.C.toDs, PL.ofV, PL.addI, PL.subI, PL.mulI, PL.fdivI, PL.modI, PL.powI, PL.cmpI, PL.iLt, PL.iLe, PL.iGt, PL.iGe, PL.eqV', PL.neV', PL.isN, PL.notN, PL.isNonD, PL.lenF, PL.absF, PL.intF, PL.strF, PL.maxF, PL.minF, PL.sumF, PL.allF, PL.anyF, PL.isiF, PL.clsD, PL.tyN, PL.isSubN, PL.intsOf, PL.blsOf, PL.flatD, PL.Out.bind, this]
    split <;> omega), seq_nx r]
  simp [sRet, eP, pV, C.toD, sOf]
theorem gof_loop : ∀ (l : List Int) (g : Nat) (s o : Option C), g < HUGE → (∀ x ∈ l, x.natAbs < HUGE) → ∃ o', forL (gV false 2) (sSet 1 (eP (pFn divisor_of_m [pV 1, pV 2]))) (inD l) [s, some (.frz (.int g)), o] = .nx [s, some (.frz (.int (gcdF g l))), o']
  | [], g, s, o, _, _ => ⟨o, rfl⟩
  | x :: l, g, s, o, hg, hl => by
    obtain ⟨p, hp⟩ := divisor_v hg (hl x (by simp))
    obtain ⟨o', ih⟩ := gof_loop l (Int.gcd g x) s (some (.frz (.int x))) (gcd_lt hg (hl x (by simp))) fun y hy => hl y (by simp [hy])
    refine ⟨o', ?_⟩
    rw [gcdF_cons, ← ih]
    simp [inD, forL, gV, sSet, eP, pFn, evPs_n, evPs_c, pV, C.toD, hp, sOf, isFree]
theorem greatest_v {l : List Int} (h : ∀ x ∈ l, x.natAbs < HUGE) : Gives greatest_of_m [.frz (.lst (inD l))] (.frz (.int (gcdF 0 l))) := by
  obtain ⟨o', e⟩ := gof_loop l 0 (some (.frz (.lst (inD l)))) none (Nat.two_pow_pos _) h
  refine gives_rt ⟨[some (.frz (.lst (inD l))), some (.frz (.int (gcdF 0 l))), o'], ?_⟩
  unfold greatest_of_b
  rw [show startE 3 [.frz (.lst (inD l))] = [some (.frz (.lst (inD l))), none, none] from rfl]
  rw [seq_nx (set_ok (h := eP (pK (.int 0))) rfl)]
  simp only [List.set_cons_succ, List.set_cons_zero]
  rw [seq_nx ((for_ok (src := mSq (eP (pV 0))) (l := inD l) (e := [some (.frz (.lst (inD l))), some (.frz (.int 0)), none]) rfl).trans e)]
  exact ret_ok (eP_of rfl)
theorem ldiv_while (A B D0 : Option C) : ∀ (k : Nat) (x y : Nat), y < k → (sWhile (tP (qOf (pOp (cmpI iGt) (pV 4) (pK (.int 0))))) (sPar [3, 4] [eP (pV 4), eP (pOp modI (pCall intF [pV 3]) (pV 4))])) [A, B, D0, some (.frz (.int x)), some (.frz (.int y))] = .nx [A, B, D0, some (.frz (.int (Int.gcd x y))), some (.frz (.int 0))]
  | 0, x, y, h => by omega
  | k + 1, x, y, h => by
    by_cases h0 : y = 0
    · subst h0
      rw [sWhile_eq]
      simp [tP, qOf, pOp, pV, C.toD, pK, cmpI, iGt, ofV, sOf]
    · have l := Int.fmod_lt_of_pos (x : Int) (b := (y : Int)) (by omega)
      have nn := Int.fmod_nonneg_of_pos (x : Int) (b := (y : Int)) (by omega)
      have hm : ((x : Int).fmod y) = (((x : Int).fmod y).toNat : Int) := by omega
      have ih := ldiv_while A B D0 k y ((x : Int).fmod y).toNat (by omega)
      rw [← hm, gcd_fmod] at ih
      have h0' : (0 : Int) < y := by omega
      have h0'' : 0 < y := by omega
      have st : (sPar [3, 4] [eP (pV 4), eP (pOp modI (pCall intF [pV 3]) (pV 4))]) [A, B, D0, some (.frz (.int x)), some (.frz (.int y))] = .nx [A, B, D0, some (.frz (.int y)), some (.frz (.int ((x : Int).fmod y)))] := by
        have : ¬ y = 0 := h0
        simp [PL.bodyM, PL.startE, PL.outsE, PL.sSeq, PL.sNx, PL.sBk, PL.sCt, PL.sNo, PL.sOf, PL.sSet, PL.sRet, PL.sRetN, PL.sDrop, PL.sIf, PL.sAsg, PL.sAug, PL.sAugIx, PL.sPar, PL.sFor, PL.eP, PL.eF, PL.eFrz, PL.eV, PL.eMv, PL.eFn, PL.eFnO, PL.eFnL, PL.lentTo, PL.eLst, PL.eTup, PL.eCall, PL.eOp, PL.eBin, PL.eIx, PL.eIf, PL.eAnd, PL.eOr, PL.eApp, PL.eAppP, PL.ePop, PL.eExt, PL.eExtM, PL.eCat, PL.eRep, PL.catD, PL.repD, PL.eComp, PL.tP, PL.tOfE, PL.tAnd, PL.tOr, PL.tNot, PL.pV, PL.bV, PL.pK, PL.pOp, PL.pChain, PL.qOf, PL.qAnd, PL.qOr, PL.qNot, PL.pAnd, PL.pOr, PL.pNot, PL.pIf, PL.pNeg, PL.pCall, PL.pFn, PL.pFnB, PL.pFnK, PL.pick, PL.pDm, PL.dmD, PL.pIx, PL.ixD, L2.atI, L2.ixN, PL.pSl, PL.pTup, PL.pF, PL.lP, PL.lKf, PL.frzs, PL.kV, PL.kIx, PL.ixC, PL.pKf, PL.bKf, PL.evPs_n, PL.evPs_c, PL.evMs_n, PL.evMs_c, PL.fCat, PL.fRep, PL.fSl, PL.evO, PL.fRev, PL.fSq, PL.sqD, PL.fList, PL.pTupL, PL.fComp, PL.enumS, PL.enumP, PL.zipP, PL.rngP, PL.rngM, PL.rngL, PL.mSq, PL.mP, PL.gV, PL.gTupD, PL.gsCons, PL.gsNil, PL.gIx, PL.paV, PL.paIx, PL.ownAt, PL.setAt, PL.getP, PL.setP, PL.intOf, PL.isFree, PL.wipeE, PL.freeE, PL.C.toD, PL.C.toDs, PL.ofV, PL.addI, PL.subI, PL.mulI, PL.fdivI, PL.modI, PL.powI, PL.cmpI, PL.iLt, PL.iLe, PL.iGt, PL.iGe, PL.eqV', PL.neV', PL.isN, PL.notN, PL.isNonD, PL.lenF, PL.absF, PL.intF, PL.strF, PL.maxF, PL.minF, PL.sumF, PL.allF, PL.anyF, PL.isiF, PL.clsD, PL.tyN, PL.isSubN, PL.intsOf, PL.blsOf, PL.flatD, PL.Out.bind, this]
      have c : (tP (qOf (pOp (cmpI iGt) (pV 4) (pK (.int 0))))) [A, B, D0, some (.frz (.int x)), some (.frz (.int y))] = .ok true [A, B, D0, some (.frz (.int x)), some (.frz (.int y))] := by
        simp [tP, qOf, pOp, pV, C.toD, pK, cmpI, iGt, ofV, h0', h0'']
      rw [sWhile_eq, c]
      simp only [sOf, if_true]
      rw [st]
      exact ih
theorem ldiv_loop : ∀ (l : List Int) (g : Nat) (s o3 o4 o5 : Option C), ∃ o3' o4' o5', forL (gV false 2) (sSeq (sPar [3, 4] [eP (pV 1), eP (pCall absF [pV 2])]) (sSeq (sWhile (tP (qOf (pOp (cmpI iGt) (pV 4) (pK (.int 0))))) (sPar [3, 4] [eP (pV 4), eP (pOp modI (pCall intF [pV 3]) (pV 4))])) (sSet 1 (eP (pV 3))))) (inD l) [s, some (.frz (.int g)), o3, o4, o5] = .nx [s, some (.frz (.int (gcdF g l))), o3', o4', o5']
  | [], g, s, o3, o4, o5 => ⟨o3, o4, o5, rfl⟩
  | x :: l, g, s, o3, o4, o5 => by
    obtain ⟨o3', o4', o5', ih⟩ := ldiv_loop l (Int.gcd g x) s (some (.frz (.int x))) (some (.frz (.int (Int.gcd g x)))) (some (.frz (.int 0)))
    refine ⟨o3', o4', o5', ?_⟩
    rw [gcdF_cons, ← ih]
    have r := ldiv_while s (some (.frz (.int g))) (some (.frz (.int x))) (x.natAbs + 1) g x.natAbs (by omega)
    have gg : Int.gcd (g : Int) (x.natAbs : Int) = Int.gcd g x := by simp [Int.gcd]
    rw [gg] at r
    rw [show inD (x :: l) = .int x :: inD l from rfl, forL]
    rw [show gV false 2 (.int x) [s, some (.frz (.int g)), o3, o4, o5] = some [s, some (.frz (.int g)), some (.frz (.int x)), o4, o5] from rfl]
    simp only []
    rw [seq_nx (e := [s, some (.frz (.int g)), some (.frz (.int x)), some (.frz (.int g)), some (.frz (.int x.natAbs))]) (by
      simp [PL.bodyM, PL.startE, PL.outsE, PL.sSeq, PL.sNx, PL.sBk, PL.sCt, PL.sNo, PL.sOf, PL.sSet, PL.sRet, PL.sRetN, PL.sDrop, PL.sIf, PL.sAsg, PL.sAug, PL.sAugIx, PL.sPar, PL.sFor, PL.eP, PL.eF, PL.eFrz, PL.eV, PL.eMv, PL.eFn, PL.eFnO, PL.eFnL, PL.lentTo, PL.eLst, PL.eTup, PL.eCall, PL.eOp, PL.eBin, PL.eIx, PL.eIf, PL.eAnd, PL.eOr, PL.eApp, PL.eAppP, PL.ePop, PL.eExt, PL.eExtM, PL.eCat, PL.eRep, PL.catD, PL.repD, PL.eComp, PL.tP, PL.tOfE, PL.tAnd, PL.tOr, PL.tNot, PL.pV, PL.bV, PL.pK, PL.pOp, PL.pChain, PL.qOf, PL.qAnd, PL.qOr, PL.qNot, PL.pAnd, PL.pOr, PL.pNot, PL.pIf, PL.pNeg, PL.pCall, PL.pFn, PL.pFnB, PL.pFnK, PL.pick, PL.pDm, PL.dmD, PL.pIx, PL.ixD, L2.atI, L2.ixN, PL.pSl, PL.pTup, PL.pF, PL.lP, PL.lKf, PL.frzs, PL.kV, PL.kIx, PL.ixC, PL.pKf, PL.bKf, PL.evPs_n, PL.evPs_c, PL.evMs_n, PL.evMs_c, PL.fCat, PL.fRep, PL.fSl, PL.evO, PL.fRev, PL.fSq, PL.sqD, PL.fList, PL.pTupL, PL.fComp, PL.enumS, PL.enumP, PL.zipP, PL.rngP, PL.rngM, PL.rngL, PL.mSq, PL.mP, PL.gV, PL.gTupD, PL.gsCons, PL.gsNil, PL.gIx, PL.paV, PL.paIx, PL.ownAt, PL.setAt, PL.getP, PL.setP, PL.intOf, PL.isFree, PL.wipeE, PL.freeE, PL.C.toD, PL.C.toDs, PL.ofV, PL.addI, PL.subI, PL.mulI, PL.fdivI, PL.modI, PL.powI, PL.cmpI, PL.iLt, PL.iLe, PL.iGt, PL.iGe, PL.eqV', PL.neV', PL.isN, PL.notN, PL.isNonD, PL.lenF, PL.absF, PL.intF, PL.strF, PL.maxF, PL.minF, PL.sumF, PL.allF, PL.anyF, PL.isiF, PL.clsD, PL.tyN, PL.isSubN, PL.intsOf, PL.blsOf, PL.flatD, PL.Out.bind]
      split <;> omega), seq_nx r]
    simp [sSet, eP, pV, C.toD, sOf]
theorem ldivisor_v (l : List Int) : Gives _law_divisor_m [.frz (.lst (inD l))] (.frz (.int (gcdF 0 l))) := by
  obtain ⟨o3, o4, o5, e⟩ := ldiv_loop l 0 (some (.frz (.lst (inD l)))) none none none
  refine gives_rt ⟨[some (.frz (.lst (inD l))), some (.frz (.int (gcdF 0 l))), o3, o4, o5], ?_⟩
  unfold _law_divisor_b
  rw [show startE 5 [.frz (.lst (inD l))] = [some (.frz (.lst (inD l))), none, none, none, none] from rfl]
  rw [seq_nx (set_ok (h := eP (pK (.int 0))) rfl)]
  simp only [List.set_cons_succ, List.set_cons_zero]
  rw [seq_nx ((for_ok (src := mSq (eP (pV 0))) (l := inD l) (e := [some (.frz (.lst (inD l))), some (.frz (.int 0)), none, none, none]) rfl).trans e)]
  exact ret_ok (eP_of rfl)
/-! ### comprehensions over a list of numbers -/
theorem compF_int {t : Tg} {q : PB} {p : P} {env : Slots} {l : List Int} (f : Int → Int) (h : ∀ y ∈ l, ∃ e, t (.int y) env = some e ∧ q e = some true ∧ p e = some (.int (f y))) : compF t q p env (inD l) = some (inD (l.map f)) := by
  have := compF_map (t := t) (q := q) (p := p) (env := env) (l := inD l) (fun d => match d with | .int y => .int (f y) | d => d) fun d hd => by
    obtain ⟨y, hy, rfl⟩ := List.mem_map.mp hd
    exact h y hy
  rw [this]
  simp [inD, List.map_map, Function.comp_def]
/-- no more than a hundred numbers -/
def Sm (l : List Int) : Prop := l.length ≤ 100
theorem divcomp {i v : Nat} {c : Int} {l : List Int} {env : Slots} (hc : c ≠ 0) (hl : ∀ x ∈ l, x.natAbs < HUGE) (h1 : ∀ y : Int, ∃ e, gV true i (.int y) (wipeE env [i]) = some e ∧ pV i e = some (.int y) ∧ pV v e = some (.int c)) :
    compF (gV true i) (fun _ => some true) (pOp fdivI (pV i) (pV v)) (wipeE env [i]) (inD l) = some (inD (divL l c)) := by
  refine compF_int (fun y => y.fdiv c) fun y hy => ?_
  obtain ⟨e, e1, e2, e3⟩ := h1 y
  exact ⟨e, e1, rfl, by simp [pOp, e2, e3, fdivI, divOk_big hc (hl y hy), ofV]⟩
theorem bare_v {l : List Int} (hs : Sm l) (h : ∀ x ∈ l, x.natAbs < HUGE) : Gives _law_bare_m [.frz (.lst (inD l))] (.frz (.lst (inD (bareL l)))) := by
  obtain ⟨o, e⟩ := ldivisor_v l
  refine gives_rt ⟨[some (.frz (.lst (inD l))), some (.frz (.int (gcdF 0 l))), none], ?_⟩
  have hl : l.length ≤ 100000 := by unfold Sm at hs; omega
  by_cases hg : 1 < gcdF 0 l
  · have hg' : (1 : Int) < gcdF 0 l := by omega
    have dc := divcomp (i := 2) (v := 1) (env := [some (.frz (.lst (inD l))), some (.frz (.int (gcdF 0 l))), none]) (c := (gcdF 0 l : Nat)) (by omega) h fun y => ⟨_, rfl, rfl, rfl⟩
    have fc : fComp [2] (gV true 2) (fun _ => some true) (pOp fdivI (pV 2) (pV 1)) (fSq (pV 0)) [some (.frz (.lst (inD l))), some (.frz (.int (gcdF 0 l))), none] = some (inD (divL l (gcdF 0 l : Nat))) := by
      simp only [fComp, fSq, pV, List.getElem?_cons_zero, Option.bind_some, C.toD, sqD, inD_len, if_pos hl]
      exact dc
    simp [_law_bare_b, startE, sSeq, sSet, sRet, eP, pFn, evPs_n, evPs_c, pV, C.toD, e, sOf, pIf, qOf, pOp, pK, cmpI, iGt, hg', ofV, pF, fc, bareL, hg]
  · have hg' : ¬ (1 : Int) < gcdF 0 l := by omega
    simp [_law_bare_b, startE, sSeq, sSet, sRet, eP, pFn, evPs_n, evPs_c, pV, C.toD, e, sOf, pIf, qOf, pOp, pK, cmpI, iGt, hg', ofV, pF, fSq, sqD, bareL, hg]
theorem lowest_v {l : List Int} (hs : Sm l) (h : ∀ x ∈ l, x.natAbs < HUGE) : Gives lowest_m [.frz (.lst (inD l))] (.own (fz (inD (bareL l)))) := by
  obtain ⟨o, e⟩ := greatest_v h
  refine gives_rt ⟨[some (.frz (.lst (inD l))), some (.frz (.int (gcdF 0 l))), none], ?_⟩
  have hl : l.length ≤ 100000 := by unfold Sm at hs; omega
  by_cases hg : 1 < gcdF 0 l
  · have hg' : (1 : Int) < gcdF 0 l := by omega
    have dc := divcomp (i := 2) (v := 1) (env := [some (.frz (.lst (inD l))), some (.frz (.int (gcdF 0 l))), none]) (c := (gcdF 0 l : Nat)) (by omega) h fun y => ⟨_, rfl, rfl, rfl⟩
    have fc : fComp [2] (gV true 2) (fun _ => some true) (pOp fdivI (pV 2) (pV 1)) (fSq (pV 0)) [some (.frz (.lst (inD l))), some (.frz (.int (gcdF 0 l))), none] = some (inD (divL l (gcdF 0 l : Nat))) := by
      simp only [fComp, fSq, pV, List.getElem?_cons_zero, Option.bind_some, C.toD, sqD, inD_len, if_pos hl]
      exact dc
    simp [lowest_b, startE, sSeq, sSet, sRet, eP, pFn, evPs_n, evPs_c, pV, C.toD, e, sOf, eIf, tP, qOf, pOp, pK, cmpI, iGt, hg', ofV, eF, fc, bareL, hg, Out.bind]
  · have hg' : ¬ (1 : Int) < gcdF 0 l := by omega
    simp [lowest_b, startE, sSeq, sSet, sRet, eP, pFn, evPs_n, evPs_c, pV, C.toD, e, sOf, eIf, tP, qOf, pOp, pK, cmpI, iGt, hg', ofV, eF, fSq, sqD, bareL, hg, Out.bind]
theorem last_ix {l : List Int} (h : l ≠ []) : atI (inD l) (-1) = some (.int (lastI l)) := by
  have e : inD l = inD l.dropLast ++ [.int (l.getLast h)] := by
    rw [← inD_one, ← inD_app, List.dropLast_concat_getLast]
  rw [e, atI_snoc, lastI, List.getLast?_eq_some_getLast h]
  rfl
def plainL (l : List Int) : List Int := if l = [] then [] else divL l (plainP l)
theorem plain_v {l : List Int} (t : Tr l) (hs : Sm l) (h : ∀ x ∈ l, x.natAbs < HUGE) : Gives plain_of_m [.frz (.lst (inD l))] (.frz (.lst (inD (plainL l)))) := by
  by_cases h0 : l = []
  · subst h0
    refine gives_rt ⟨[some (.frz (.lst [])), none, none], ?_⟩
    simp [plain_of_b, startE, sSeq, sIf, tP, qOf, pOp, pCall, evPs_n, evPs_c, pV, C.toD, lenF, pK, eqV', ofV, sOf, sRet, eP, pF, plainL]
  · obtain ⟨o, e⟩ := greatest_v h
    obtain ⟨p0, _, _⟩ := plain_nrm t h0
    have hl : l.length ≤ 100000 := by unfold Sm at hs; omega
    refine gives_rt ⟨[some (.frz (.lst (inD l))), some (.frz (.int (plainP l))), none], ?_⟩
    have h0' : ¬ l.length = 0 := fun z => h0 (List.eq_nil_of_length_eq_zero z)
    have h0i : ((l.length : Int) == 0) = false := by rw [beq_eq_false_iff_ne]; omega
    have dc := divcomp (i := 2) (v := 1) (env := [some (.frz (.lst (inD l))), some (.frz (.int (plainP l))), none]) (c := plainP l) p0 h fun y => ⟨_, rfl, rfl, rfl⟩
    have fc : fComp [2] (gV true 2) (fun _ => some true) (pOp fdivI (pV 2) (pV 1)) (fSq (pV 0)) [some (.frz (.lst (inD l))), some (.frz (.int (plainP l))), none] = some (inD (divL l (plainP l))) := by
      simp only [fComp, fSq, pV, List.getElem?_cons_zero, List.getElem?_cons_succ, Option.bind_some, C.toD, sqD, inD_len, if_pos hl]
      exact dc
    have li := last_ix h0
    unfold plain_of_b
    rw [show startE 3 [.frz (.lst (inD l))] = [some (.frz (.lst (inD l))), none, none] from rfl]
    rw [seq_nx (e := [some (.frz (.lst (inD l))), none, none]) (by simp [sIf, tP, qOf, pOp, pCall, evPs_n, evPs_c, pV, C.toD, lenF, pK, eqV', ofV, sOf, sNx, h0i])]
    rw [seq_nx (e := [some (.frz (.lst (inD l))), some (.frz (.int (gcdF 0 l))), none]) (by simp [sSet, eP, pFn, evPs_n, evPs_c, pV, C.toD, e, sOf])]
    rw [seq_nx (e := [some (.frz (.lst (inD l))), some (.frz (.int (plainP l))), none]) (by
      unfold plainP
      by_cases hn : lastI l < 0 <;> simp [sIf, tP, qOf, pOp, pIx, pV, C.toD, ixD, pNeg, pK, li, cmpI, iLt, hn, ofV, sOf, sSet, eP, subI, sNx])]
    simp [sRet, eP, pF, fc, sOf, plainL, h0]
theorem plainL_nrm {l : List Int} (t : Tr l) : Nrm l (plainL l) := by
  unfold plainL
  split
  · rename_i h
    subst h
    exact ⟨⟨1, by decide, fun x => by simp [val]⟩, tr_nil, rfl, fun _ b => b, nofun⟩
  · rename_i h
    exact (plain_nrm t h).2.2
end k71
namespace k71
open PySem PySem.Spec PyProof.Rows L2 PL
/-! ### sums, multiples, trimming -/
theorem cut_take {α : Type} {l : List α} {k : Nat} (h : k ≤ l.length) : cutD l none (some (k : Int)) = l.take k := by
  unfold PL.cutD
  rw [HT.sIx_none, HT.sIx_nat]
  simp [Nat.min_eq_left h]
theorem cut_drop {α : Type} {l : List α} {k : Nat} (h : k ≤ l.length) : cutD l (some (k : Int)) none = l.drop k := by
  unfold PL.cutD
  rw [HT.sIx_none, HT.sIx_nat, Nat.min_eq_left h]
  exact List.take_of_length_le (by simp)
theorem cut_last {α : Type} (l : List α) (h : l ≠ []) : cutD l none (some (-1)) = l.dropLast := by
  unfold PL.cutD
  rw [HT.sIx_none]
  have : 0 < l.length := List.length_pos_iff.mpr h
  rw [show HT.sIx l.length l.length (some (-1)) = l.length - 1 by
    show (if (-1 : Int) < 0 then (-1 + (l.length : Int)).toNat else min (-1 : Int).toNat l.length) = _
    rw [if_pos (by decide)]; omega]
  simp [List.dropLast_eq_take]
theorem inD_take (l : List Int) (k : Nat) : (inD l).take k = inD (l.take k) := by simp [inD, List.map_take]
theorem inD_drop (l : List Int) (k : Nat) : (inD l).drop k = inD (l.drop k) := by simp [inD, List.map_drop]
theorem inD_dropLast (l : List Int) : (inD l).dropLast = inD l.dropLast := by simp [inD]
theorem inD_zeros (n : Nat) : (List.replicate n [D.int 0]).flatten = inD (List.replicate n 0) := by
  induction n with
  | zero => rfl
  | succ n ih => rw [List.replicate_succ, List.flatten_cons, ih, List.replicate_succ]; rfl
theorem atI_int {l : List Int} {k : Nat} (h : k < l.length) : atI (inD l) (k : Int) = some (.int l[k]) := by
  rw [atI_nat (by simpa using h)]
  simp [inD]
theorem trim_loop (l : List Int) : ∀ k : Nat, k ≤ l.length → ∃ j : Nat, j ≤ k ∧ l.take j = trimI (l.take k) ∧ (sWhile (tP (qAnd (qOf (pOp (cmpI iGt) (pV 1) (pK (.int 0)))) (qOf (pOp eqV' (pIx (pV 0) (pOp subI (pV 1) (pK (.int 1)))) (pK (.int 0)))))) (sSet 1 (eP (pOp subI (pV 1) (pK (.int 1)))))) [some (.frz (.lst (inD l))), some (.frz (.int (k : Int)))] = .nx [some (.frz (.lst (inD l))), some (.frz (.int (j : Int)))]
  | 0, _ => by
    refine ⟨0, Nat.le_refl 0, by simp [trimI], ?_⟩
    rw [sWhile_eq]
    simp [tP, qAnd, qOf, pOp, pV, C.toD, pK, cmpI, iGt, ofV, sOf]
  | k + 1, h => by
    have hk : k < l.length := by omega
    have e : l.take (k + 1) = l.take k ++ [l[k]] := List.take_succ_eq_append_getElem hk
    have ix := atI_int hk
    have p1 : (0 : Int) < (k : Int) + 1 := by omega
    have p2 : ((k : Int) + 1 - 1) = k := by omega
    by_cases h0 : l[k] = 0
    · obtain ⟨j, j1, j2, j3⟩ := trim_loop l k (by omega)
      refine ⟨j, by omega, by rw [j2, e, h0, trimI_snoc0], ?_⟩
      rw [← j3, sWhile_eq]
      simp [tP, qAnd, qOf, pOp, pV, C.toD, pK, cmpI, iGt, ofV, sOf, pIx, ixD, subI, p1, p2, ix, eqV', h0, sSet, eP]
    · refine ⟨k + 1, Nat.le_refl _, by rw [e, trimI_snoc h0], ?_⟩
      rw [sWhile_eq]
      simp [tP, qAnd, qOf, pOp, pV, C.toD, pK, cmpI, iGt, ofV, sOf, pIx, ixD, subI, p1, p2, ix, eqV', h0]
theorem trimmed_v (l : List Int) : Gives trimmed_m [.frz (.lst (inD l))] (.own (fz (inD (trimI l)))) := by
  obtain ⟨j, j1, j2, j3⟩ := trim_loop l l.length (Nat.le_refl _)
  rw [List.take_length] at j2
  refine gives_rt ⟨[some (.frz (.lst (inD l))), some (.frz (.int (j : Int)))], ?_⟩
  unfold trimmed_b
  rw [show startE 2 [.frz (.lst (inD l))] = [some (.frz (.lst (inD l))), none] from rfl]
  rw [seq_nx (e := [some (.frz (.lst (inD l))), some (.frz (.int (l.length : Int)))]) (by simp [sSet, eP, pCall, evPs_n, evPs_c, pV, C.toD, lenF, ofV, sOf])]
  rw [seq_nx j3]
  have c := cut_take (l := inD l) (k := j) (by simpa using j1)
  simp [sRet, eF, fSq, pF, fSl, lP, pV, C.toD, evO, sqD, sOf, c, inD_take, j2]
theorem ltrim_loop (s : Option C) : ∀ (k : Nat) (l : List Int), l.length ≤ k → (sWhile (tP (qAnd (qOf (pOp neV' (pV 1) (pF (evPs [])))) (qOf (pOp eqV' (pIx (pV 1) (pNeg (pK (.int 1)))) (pK (.int 0)))))) (sSet 1 (eP (pF (fSl (lP (pV 1)) none (some (pNeg (pK (.int 1))))))))) [s, some (.frz (.lst (inD l)))] = .nx [s, some (.frz (.lst (inD (trimI l))))]
  | k, l, h => by
    rcases List.eq_nil_or_concat l with rfl | ⟨u, x, rfl⟩
    · rw [sWhile_eq]
      simp [tP, qAnd, qOf, pOp, pV, C.toD, pF, evPs_n, neV', show eqD (.lst []) (.lst []) = some true from eqD_ints0 [], ofV, sOf, trimI]
    · cases k with
      | zero => simp at h
      | succ k =>
        have li := last_ix (l := u ++ [x]) (by simp)
        have lx : lastI (u ++ [x]) = x := by simp [lastI]
        rw [lx] at li
        have ne : eqD (.lst (inD (u ++ [x]))) (.lst []) = some false := by rw [eqD_ints0]; simp
        by_cases h0 : x = 0
        · subst h0
          rw [List.concat_eq_append] at *
          have ih := ltrim_loop s k u (by simp at h; omega)
          rw [trimI_snoc0, ← ih, sWhile_eq]
          have c := cut_last (inD (u ++ [0])) (by simp [inD])
          rw [inD_dropLast, List.dropLast_concat] at c
          simp [tP, qAnd, qOf, pOp, pV, C.toD, pF, evPs_n, neV', ne, ofV, sOf, pIx, ixD, pNeg, pK, li, eqV', sSet, eP, fSl, lP, evO, c]
        · rw [List.concat_eq_append] at *
          rw [trimI_snoc h0, sWhile_eq]
          simp [tP, qAnd, qOf, pOp, pV, C.toD, pF, evPs_n, neV', ne, ofV, sOf, pIx, ixD, pNeg, pK, li, eqV', h0]
theorem ltrim_v (l : List Int) : Gives _law_trim_m [.frz (.lst (inD l))] (.frz (.lst (inD (trimI l)))) := by
  refine gives_rt ⟨[some (.frz (.lst (inD l))), some (.frz (.lst (inD (trimI l))))], ?_⟩
  unfold _law_trim_b
  rw [show startE 2 [.frz (.lst (inD l))] = [some (.frz (.lst (inD l))), none] from rfl]
  rw [seq_nx (e := [some (.frz (.lst (inD l))), some (.frz (.lst (inD l)))]) (by simp [sSet, eP, pF, fSq, pV, C.toD, sqD, sOf])]
  rw [seq_nx (ltrim_loop _ l.length l (Nat.le_refl _))]
  exact ret_ok (eP_of rfl)
theorem scaled_v {l : List Int} {k : Int} (hk : k ≠ 0) (hs : Sm l) (hk2 : k.natAbs < HUGE) (h : ∀ x ∈ l, x.natAbs < HUGE) : Gives scaled_line_m [.frz (.lst (inD l)), .frz (.int k)] (.own (fz (inD (l.map fun y => k * y)))) := by
  refine gives_rt ⟨[some (.frz (.lst (inD l))), some (.frz (.int k)), none], ?_⟩
  have hl : l.length ≤ 100000 := by unfold Sm at hs; omega
  have cf := compF_int (t := gV true 2) (q := fun _ => some true) (p := pOp mulI (pV 1) (pV 2)) (env := [some (.frz (.lst (inD l))), some (.frz (.int k)), none]) (l := l) (fun y => k * y) fun y hy => ⟨[some (.frz (.lst (inD l))), some (.frz (.int k)), some (.frz (.int y))], rfl, rfl, by simp [pOp, pV, C.toD, mulI, mulOk_big hk2 (h y hy), ofV]⟩
  have fc : fComp [2] (gV true 2) (fun _ => some true) (pOp mulI (pV 1) (pV 2)) (fSq (pV 0)) [some (.frz (.lst (inD l))), some (.frz (.int k)), none] = some (inD (l.map fun y => k * y)) := by
    simp only [fComp, fSq, pV, List.getElem?_cons_zero, Option.bind_some, C.toD, sqD, inD_len, if_pos hl]
    exact cf
  simp [scaled_line_b, startE, sRet, eIf, tP, qOf, pOp, pV, C.toD, pK, neV', hk, ofV, Out.bind, eF, fc, sOf]
theorem lby_v {l : List Int} (hs : Sm l) (h : ∀ x ∈ l, x.natAbs < HUGE) : Gives _law_by_m [.frz (.lst (inD l)), .frz (.int (-1))] (.frz (.lst (inD (trimI (l.map fun y => -1 * y))))) := by
  obtain ⟨o, e⟩ := ltrim_v (l.map fun y => -1 * y)
  refine gives_rt ⟨[some (.frz (.lst (inD l))), some (.frz (.int (-1))), none], ?_⟩
  have hl : l.length ≤ 100000 := by unfold Sm at hs; omega
  have cf := compF_int (t := gV true 2) (q := fun _ => some true) (p := pOp mulI (pV 1) (pV 2)) (env := [some (.frz (.lst (inD l))), some (.frz (.int (-1))), none]) (l := l) (fun y => -1 * y) fun y hy => ⟨[some (.frz (.lst (inD l))), some (.frz (.int (-1))), some (.frz (.int y))], rfl, rfl, by simp [pOp, pV, C.toD, mulI, mulOk_l, ofV]⟩
  have fc : fComp [2] (gV true 2) (fun _ => some true) (pOp mulI (pV 1) (pV 2)) (fSq (pV 0)) [some (.frz (.lst (inD l))), some (.frz (.int (-1))), none] = some (inD (l.map fun y => -1 * y)) := by
    simp only [fComp, fSq, pV, List.getElem?_cons_zero, Option.bind_some, C.toD, sqD, inD_len, if_pos hl]
    exact cf
  rw [show startE 3 [.frz (.lst (inD l)), .frz (.int (-1))] = [some (.frz (.lst (inD l))), some (.frz (.int (-1))), none] from rfl]
  simp only [_law_by_b, sRet, eP, pFn, pF, evPs_n, evPs_c, fc, Option.map_some, List.map_cons, List.map_nil, e, sOf, C.toD]
theorem addL_nil (l : List Int) : addL l [] = l := by cases l <;> rfl
theorem addL_comm : ∀ l m : List Int, addL l m = addL m l
  | [], m => by rw [addL_nil]; rfl
  | a :: l, [] => rfl
  | a :: l, b :: m => by simp only [addL, addL_comm l m, Int.add_comm]
theorem sum_pre : ∀ (near far : List Int), far.length ≤ near.length → (List.range far.length).map (fun i => near.getD i 0 + far.getD i 0) ++ near.drop far.length = addL near far
  | near, [], _ => by simp [addL_nil]
  | [], b :: m, h => by simp at h
  | a :: l, b :: m, h => by
    have ih := sum_pre l m (by simpa using h)
    simp only [List.length_cons, List.range_succ_eq_map, List.map_cons, List.map_map, List.cons_append, List.drop_succ_cons, addL, List.getD_cons_zero]
    congr 1
theorem rngP_0 {p : P} {env : Slots} {j : Int} (h : p env = some (.int j)) (h1 : 0 ≤ j) (h2 : j < 1073741824) : rngP [p] env = some ((List.range j.toNat).map fun (i : Nat) => .int (0 + (i : Int))) := by
  have e : -(2 ^ 62) ≤ j ∧ j < 2 ^ 62 := by constructor <;> omega
  unfold rngP
  simp only [evPs_c, evPs_n, h, Option.bind_some, rngL]
  rw [if_pos e]
theorem rngP_1 {p : P} {env : Slots} {n : Nat} (h : p env = some (.int (n : Int))) (h2 : n ≤ 1000) : rngP [p] env = some ((List.range n).map fun (i : Nat) => .int (0 + (i : Int))) :=
  rngP_0 h (by omega) (by omega)
theorem fCat_ok {p q : PLs} {env : Slots} {a b : List D} (h1 : p env = some a) (h2 : q env = some b) (h : a.length + b.length ≤ 1000) : fCat p q env = some (a ++ b) := by
  unfold fCat
  rw [h1, h2]
  simp only []
  rw [if_pos (by omega)]
theorem fComp_ok {vs : List Nat} {t : Tg} {q : PB} {p : P} {src : PLs} {env : Slots} {l r : List D} (h1 : src env = some l) (h2 : l.length ≤ 1000) (h3 : compF t q p (wipeE env vs) l = some r) : fComp vs t q p src env = some r := by
  unfold fComp
  rw [h1]
  simp only [Option.bind_some]
  rw [if_pos (by omega)]
  exact h3
theorem pF_ok {p : PLs} {env : Slots} {l : List D} (h : p env = some l) : pF p env = some (.lst l) := by
  unfold pF
  rw [h]
  rfl
theorem eFnO_1 {m : List C → Out C} {f : M C} {env e1 : Slots} {a c : C} {o : Slots} (h1 : f env = .ok a e1) (h2 : m [a] = .ok c o) : eFnO m [f] env = .ok c e1 := by
  unfold eFnO
  simp only [evMs_c, evMs_n, h1, Out.bind, h2]
theorem plus_v {a b : List Int} (ha : Sm a) (hb : Sm b) : Gives plus_lines_m [.frz (.lst (inD a)), .frz (.lst (inD b))] (.own (fz (inD (trimI (addL a b))))) := by
  unfold Sm at ha hb
  have main : ∀ near far : List Int, near.length ≤ 100 → far.length ≤ near.length → ∃ e, (sRet (eFnO trimmed_m [eP (pF (fCat (fComp [4] (gV true 4) (fun _ => some true) (pOp addI (pIx (pV 2) (pV 4)) (pIx (pV 3) (pV 4))) (rngP [pCall lenF [pV 3]])) (fSq (pF (fSl (lP (pV 2)) (some (pCall lenF [pV 3])) none)))))])) [some (.frz (.lst (inD a))), some (.frz (.lst (inD b))), some (.frz (.lst (inD near))), some (.frz (.lst (inD far))), none] = .rt (.own (fz (inD (trimI (addL near far))))) e := fun near far hn hf => by
    obtain ⟨o, e⟩ := trimmed_v (addL near far)
    have cf : compF (gV true 4) (fun _ => some true) (pOp addI (pIx (pV 2) (pV 4)) (pIx (pV 3) (pV 4))) [some (.frz (.lst (inD a))), some (.frz (.lst (inD b))), some (.frz (.lst (inD near))), some (.frz (.lst (inD far))), none] ((List.range far.length).map fun (i : Nat) => .int (0 + (i : Int))) = some (inD ((List.range far.length).map (fun i => near.getD i 0 + far.getD i 0))) := by
      rw [compF_map (fun d => match d with | .int i => .int (near.getD i.toNat 0 + far.getD i.toNat 0) | d => d) fun d hd => ?_]
      · simp [inD, List.map_map, Function.comp_def]
      · obtain ⟨i, hi, rfl⟩ := List.mem_map.mp hd
        have hi' := List.mem_range.mp hi
        refine ⟨[some (.frz (.lst (inD a))), some (.frz (.lst (inD b))), some (.frz (.lst (inD near))), some (.frz (.lst (inD far))), some (.frz (.int (0 + (i : Int))))], rfl, rfl, ?_⟩
        have i1 := atI_int (l := near) (k := i) (by omega)
        have i2 := atI_int (l := far) (k := i) (by omega)
        have n1 : i < near.length := by omega
        simp [pOp, pIx, pV, C.toD, ixD, i1, i2, addI, ofV, hi', n1]
    have rg : rngP [pCall lenF [pV 3]] [some (.frz (.lst (inD a))), some (.frz (.lst (inD b))), some (.frz (.lst (inD near))), some (.frz (.lst (inD far))), none] = some ((List.range far.length).map fun (i : Nat) => .int (0 + (i : Int))) := by
      exact rngP_1 (by simp [pCall, evPs_n, evPs_c, pV, C.toD, lenF, ofV]) (by omega)
    have fc : fComp [4] (gV true 4) (fun _ => some true) (pOp addI (pIx (pV 2) (pV 4)) (pIx (pV 3) (pV 4))) (rngP [pCall lenF [pV 3]]) [some (.frz (.lst (inD a))), some (.frz (.lst (inD b))), some (.frz (.lst (inD near))), some (.frz (.lst (inD far))), none] = some (inD ((List.range far.length).map (fun i => near.getD i 0 + far.getD i 0))) := by
      exact fComp_ok rg (by rw [List.length_map, List.length_range]; omega) cf
    have c := cut_drop (l := inD near) (k := far.length) (by simpa using hf)
    have fs : fSq (pF (fSl (lP (pV 2)) (some (pCall lenF [pV 3])) none)) [some (.frz (.lst (inD a))), some (.frz (.lst (inD b))), some (.frz (.lst (inD near))), some (.frz (.lst (inD far))), none] = some (inD (near.drop far.length)) := by
      simp [fSq, pF, fSl, lP, pV, C.toD, evO, pCall, evPs_n, evPs_c, lenF, ofV, sqD, c, inD_drop]
    have sp := sum_pre near far hf
    have ct : fCat (fComp [4] (gV true 4) (fun _ => some true) (pOp addI (pIx (pV 2) (pV 4)) (pIx (pV 3) (pV 4))) (rngP [pCall lenF [pV 3]])) (fSq (pF (fSl (lP (pV 2)) (some (pCall lenF [pV 3])) none))) [some (.frz (.lst (inD a))), some (.frz (.lst (inD b))), some (.frz (.lst (inD near))), some (.frz (.lst (inD far))), none] = some (inD (addL near far)) := by
      rw [fCat_ok fc fs (by rw [inD_len, inD_len, List.length_map, List.length_range, List.length_drop]; omega), ← inD_app, sp]
    refine ⟨[some (.frz (.lst (inD a))), some (.frz (.lst (inD b))), some (.frz (.lst (inD near))), some (.frz (.lst (inD far))), none], ret_ok ?_⟩
    exact eFnO_1 (eP_of (pF_ok ct)) e
  by_cases h : b.length ≤ a.length
  · obtain ⟨e, he⟩ := main a b (by omega) h
    refine gives_rt ⟨e, ?_⟩
    unfold plus_lines_b
    rw [show startE 5 [.frz (.lst (inD a)), .frz (.lst (inD b))] = [some (.frz (.lst (inD a))), some (.frz (.lst (inD b))), none, none, none] from rfl]
    rw [seq_nx (e := [some (.frz (.lst (inD a))), some (.frz (.lst (inD b))), some (.frz (.lst (inD a))), some (.frz (.lst (inD b))), none]) (by
      have : (b.length : Int) ≤ a.length := by omega
      simp [PL.bodyM, PL.startE, PL.outsE, PL.sSeq, PL.sNx, PL.sBk, PL.sCt, PL.sNo, PL.sOf, PL.sSet, PL.sRet, PL.sRetN, PL.sDrop, PL.sIf, PL.sAsg, PL.sAug, PL.sAugIx, PL.sPar, PL.sFor, PL.eP, PL.eF, PL.eFrz, PL.eV, PL.eMv, PL.eFn, PL.eFnO, PL.eFnL, PL.lentTo, PL.eLst, PL.eTup, PL.eCall, PL.eOp, PL.eBin, PL.eIx, PL.eIf, PL.eAnd, PL.eOr, PL.eApp, PL.eAppP, PL.ePop, PL.eExt, PL.eExtM, PL.eCat, PL.eRep, PL.catD, PL.repD, PL.eComp, PL.tP, PL.tOfE, PL.tAnd, PL.tOr, PL.tNot, PL.pV, PL.bV, PL.pK, PL.pOp, PL.pChain, PL.qOf, PL.qAnd, PL.qOr, PL.qNot, PL.pAnd, PL.pOr, PL.pNot, PL.pIf, PL.pNeg, PL.pCall, PL.pFn, PL.pFnB, PL.pFnK, PL.pick, PL.pDm, PL.dmD, PL.pIx, PL.ixD, L2.atI, L2.ixN, PL.pSl, PL.pTup, PL.pF, PL.lP, PL.lKf, PL.frzs, PL.kV, PL.kIx, PL.ixC, PL.pKf, PL.bKf, PL.evPs_n, PL.evPs_c, PL.evMs_n, PL.evMs_c, PL.fCat, PL.fRep, PL.fSl, PL.evO, PL.fRev, PL.fSq, PL.sqD, PL.fList, PL.pTupL, PL.fComp, PL.enumS, PL.enumP, PL.zipP, PL.rngP, PL.rngM, PL.rngL, PL.mSq, PL.mP, PL.gV, PL.gTupD, PL.gsCons, PL.gsNil, PL.gIx, PL.paV, PL.paIx, PL.ownAt, PL.setAt, PL.getP, PL.setP, PL.intOf, PL.isFree, PL.wipeE, PL.freeE, PL.C.toD, PL.C.toDs, PL.ofV, PL.addI, PL.subI, PL.mulI, PL.fdivI, PL.modI, PL.powI, PL.cmpI, PL.iLt, PL.iLe, PL.iGt, PL.iGe, PL.eqV', PL.neV', PL.isN, PL.notN, PL.isNonD, PL.lenF, PL.absF, PL.intF, PL.strF, PL.maxF, PL.minF, PL.sumF, PL.allF, PL.anyF, PL.isiF, PL.clsD, PL.tyN, PL.isSubN, PL.intsOf, PL.blsOf, PL.flatD, PL.Out.bind, h])]
    exact he
  · obtain ⟨e, he⟩ := main b a (by omega) (by omega)
    refine gives_rt ⟨e, ?_⟩
    unfold plus_lines_b
    rw [show startE 5 [.frz (.lst (inD a)), .frz (.lst (inD b))] = [some (.frz (.lst (inD a))), some (.frz (.lst (inD b))), none, none, none] from rfl]
    rw [seq_nx (e := [some (.frz (.lst (inD a))), some (.frz (.lst (inD b))), some (.frz (.lst (inD b))), some (.frz (.lst (inD a))), none]) (by
      have : ¬ (b.length : Int) ≤ a.length := by omega
      simp [PL.bodyM, PL.startE, PL.outsE, PL.sSeq, PL.sNx, PL.sBk, PL.sCt, PL.sNo, PL.sOf, PL.sSet, PL.sRet, PL.sRetN, PL.sDrop, PL.sIf, PL.sAsg, PL.sAug, PL.sAugIx, PL.sPar, PL.sFor, PL.eP, PL.eF, PL.eFrz, PL.eV, PL.eMv, PL.eFn, PL.eFnO, PL.eFnL, PL.lentTo, PL.eLst, PL.eTup, PL.eCall, PL.eOp, PL.eBin, PL.eIx, PL.eIf, PL.eAnd, PL.eOr, PL.eApp, PL.eAppP, PL.ePop, PL.eExt, PL.eExtM, PL.eCat, PL.eRep, PL.catD, PL.repD, PL.eComp, PL.tP, PL.tOfE, PL.tAnd, PL.tOr, PL.tNot, PL.pV, PL.bV, PL.pK, PL.pOp, PL.pChain, PL.qOf, PL.qAnd, PL.qOr, PL.qNot, PL.pAnd, PL.pOr, PL.pNot, PL.pIf, PL.pNeg, PL.pCall, PL.pFn, PL.pFnB, PL.pFnK, PL.pick, PL.pDm, PL.dmD, PL.pIx, PL.ixD, L2.atI, L2.ixN, PL.pSl, PL.pTup, PL.pF, PL.lP, PL.lKf, PL.frzs, PL.kV, PL.kIx, PL.ixC, PL.pKf, PL.bKf, PL.evPs_n, PL.evPs_c, PL.evMs_n, PL.evMs_c, PL.fCat, PL.fRep, PL.fSl, PL.evO, PL.fRev, PL.fSq, PL.sqD, PL.fList, PL.pTupL, PL.fComp, PL.enumS, PL.enumP, PL.zipP, PL.rngP, PL.rngM, PL.rngL, PL.mSq, PL.mP, PL.gV, PL.gTupD, PL.gsCons, PL.gsNil, PL.gIx, PL.paV, PL.paIx, PL.ownAt, PL.setAt, PL.getP, PL.setP, PL.intOf, PL.isFree, PL.wipeE, PL.freeE, PL.C.toD, PL.C.toDs, PL.ofV, PL.addI, PL.subI, PL.mulI, PL.fdivI, PL.modI, PL.powI, PL.cmpI, PL.iLt, PL.iLe, PL.iGt, PL.iGe, PL.eqV', PL.neV', PL.isN, PL.notN, PL.isNonD, PL.lenF, PL.absF, PL.intF, PL.strF, PL.maxF, PL.minF, PL.sumF, PL.allF, PL.anyF, PL.isiF, PL.clsD, PL.tyN, PL.isSubN, PL.intsOf, PL.blsOf, PL.flatD, PL.Out.bind, h])]
    rw [addL_comm]
    exact he
end k71
namespace k71
open PySem PySem.Spec PyProof.Rows L2 PL
/-! ### the division with rest, the common part -/
theorem evMs_2 {f g : M C} {env e1 e2 : Slots} {c d : C} (h1 : f env = .ok c e1) (h2 : g e1 = .ok d e2) : evMs [f, g] env = .ok [c, d] e2 := by
  simp only [evMs_c, evMs_n, h1, h2, Out.bind]
theorem eFnO_2 {m : List C → Out C} {f g : M C} {env e1 e2 : Slots} {a b c : C} {o : Slots} (h1 : f env = .ok a e1) (h3 : g e1 = .ok b e2) (h2 : m [a, b] = .ok c o) : eFnO m [f, g] env = .ok c e2 := by
  unfold eFnO
  rw [evMs_2 h1 h3]
  simp only [Out.bind, h2]
theorem evPs_1 {p : P} {env : Slots} {a : D} (h1 : p env = some a) : evPs [p] env = some [a] := by
  rw [evPs_c, h1, evPs_n]
theorem evPs_2 {p q : P} {env : Slots} {a b : D} (h1 : p env = some a) (h2 : q env = some b) : evPs [p, q] env = some [a, b] := by
  rw [evPs_c, h1, evPs_1 h2]
theorem pFn_1 {m : List C → Out C} {p : P} {env : Slots} {a : D} {c : C} (h1 : p env = some a) (h : Gives m [.frz a] c) : pFn m [p] env = some c.toD := pFn_gives (evPs_1 h1) h
theorem pFn_2 {m : List C → Out C} {p q : P} {env : Slots} {a b : D} {c : C} (h1 : p env = some a) (h2 : q env = some b) (h : Gives m [.frz a, .frz b] c) : pFn m [p, q] env = some c.toD := pFn_gives (evPs_2 h1 h2) h
theorem lP_ok {p : P} {env : Slots} {l : List D} (h : p env = some (.lst l)) : lP p env = some l := by
  unfold lP
  rw [h]
theorem fSq_ok {p : P} {env : Slots} {l : List D} (h : p env = some (.lst l)) : fSq p env = some l := by
  unfold fSq
  rw [h]
  rfl
theorem pIx_ok {p q : P} {env : Slots} {d k r : D} (h1 : p env = some d) (h2 : q env = some k) (h3 : ixD d k = some r) : pIx p q env = some r := by
  unfold pIx
  rw [h1, h2]
  exact h3
theorem fz_set (q : List Int) (s : Nat) (v : Int) : (fz (inD q)).set s (.frz (.int v)) = fz (inD (q.set s v)) := by
  simp [fz, inD, List.map_set]
theorem aug_ok {i s : Nat} {q : List Int} {M : Int} {pS pM : P} {env : Slots} (h0 : env[i]? = some (some (.own (fz (inD q))))) (h1 : pS env = some (.int (s : Int))) (h2 : pM env = some (.int M)) (hs : s < q.length) :
    sAugIx addI i (paV i) pS pM env = .nx (env.set i (some (.own (fz (inD (q.set s (q[s] + M))))))) := by
  have g : (fz (inD q))[s]? = some (.frz (.int q[s])) := by simp [fz, inD, hs]
  have ix : ixN (fz (inD q)).length (s : Int) = some s := ixN_nat (by simpa using hs)
  unfold sAugIx
  simp only [paV, h0, Option.bind_some, ownAt, getP, h1, intOf, ix, g, h2, C.toD, addI, Option.map_some, setAt, setP, ofV, fz_set]
theorem rep0 {p : P} {env : Slots} {n : Nat} (h : p env = some (.int (n : Int))) (hn : n ≤ 1000) : fRep (evPs [pK (.int 0)]) p env = some (inD (List.replicate n 0)) := by
  unfold fRep
  rw [evPs_1 (p := pK (.int 0)) (a := .int 0) rfl, h]
  simp only []
  have e : ((n : Int)).toNat = n := by omega
  rw [if_pos (by rw [e]; simp; omega), e, inD_zeros]
theorem step_eq {l far : List Int} {L M : Int} (h : far.length ≤ l.length) (hL : lastI far = L) (hM : lastI l = M) : trimI (addL (l.map fun y => L * y) ((List.replicate (l.length - far.length) 0 ++ far.map fun y => M * y).map fun y => -1 * y)) = stepL l far := by
  unfold stepL
  rw [hL, hM]
  congr 1
  have e : (List.replicate (l.length - far.length) (0 : Int) ++ far.map fun y => M * y) = (List.replicate (l.length - far.length) 0 ++ far).map fun y => M * y := by simp
  rw [e]
  have len : l.length = (List.replicate (l.length - far.length) (0 : Int) ++ far).length := by simp; omega
  generalize List.replicate (l.length - far.length) (0 : Int) ++ far = v at len
  clear hL hM h e
  induction l generalizing v with
  | nil => cases v with
    | nil => rfl
    | cons b v => simp at len
  | cons a l ih => cases v with
    | nil => simp at len
    | cons b v =>
      simp only [List.map_cons, addL, List.zipWith_cons_cons, ih v (by simpa using len)]
      congr 1
      grind
theorem minus_v {a b : List Int} (ha : Sm a) (hb : Sm b) (h : ∀ x ∈ b, x.natAbs < HUGE) : Gives minus_lines_m [.frz (.lst (inD a)), .frz (.lst (inD b))] (.frz (.lst (inD (trimI (addL a (b.map fun y => -1 * y)))))) := by
  have h1 : (1 : Nat) < HUGE := Nat.one_lt_two_pow (by decide)
  have s := scaled_v (l := b) (k := -1) (by decide) hb (by simpa using h1) h
  have p := plus_v (a := a) (b := b.map fun y => -1 * y) ha (by unfold Sm at *; simpa using hb)
  refine gives_rt ⟨[some (.frz (.lst (inD a))), some (.frz (.lst (inD b)))], ?_⟩
  rw [show startE 2 [.frz (.lst (inD a)), .frz (.lst (inD b))] = [some (.frz (.lst (inD a))), some (.frz (.lst (inD b)))] from rfl]
  unfold minus_lines_b
  have e1 := pFn_2 (p := pV 1) (q := pNeg (pK (.int 1))) (env := [some (.frz (.lst (inD a))), some (.frz (.lst (inD b)))]) (a := .lst (inD b)) (b := .int (-1)) rfl rfl s
  simp only [C.toD, toDs_fz] at e1
  have e2 := pFn_2 (p := pV 0) (q := pFn scaled_line_m [pV 1, pNeg (pK (.int 1))]) (env := [some (.frz (.lst (inD a))), some (.frz (.lst (inD b)))]) (a := .lst (inD a)) rfl e1 p
  simp only [C.toD, toDs_fz] at e2
  exact ret_ok (eP_of e2)
theorem huge_bd {l : List Int} {A : Nat} (h : Bd A l) (hA : A ≤ 13000) : ∀ x ∈ l, x.natAbs < HUGE := fun x hx => huge_of (h x hx) hA
theorem last_mem {l : List Int} (h : l ≠ []) : lastI l ∈ l := by
  rw [lastI, List.getLast?_eq_some_getLast h]
  exact List.getLast_mem h
theorem parted_step {a0 o5 o6 o7 o8 : Option C} {far rest q : List Int} {num : Int} {A B : Nat} (tf : Tr far) (hf : far ≠ []) (bb : Bd B far) (tr : Tr rest) (hl : far.length ≤ rest.length) (ba : Bd A rest) (bq : Bd A q) (bn : num.natAbs < 2 ^ A) (hn : num ≠ 0)
    (h7 : rest.length ≤ 50) (hq : q.length ≤ 50) (hs : rest.length - far.length < q.length) (hA : A + (B + 1) ≤ 13000) : ∃ q1 : List Int, ∃ o6' o7' o8',
    (sSeq (sPar [6, 7] [eP (pOp subI (pCall lenF [pV 3]) (pCall lenF [pV 1])), eP (pIx (pV 3) (pNeg (pK (.int 1))))]) (sSeq (sPar [2, 4] [eP (pOp mulI (pV 2) (pIx (pV 1) (pNeg (pK (.int 1))))), eFnO scaled_line_m [eV 4, eP (pIx (pV 1) (pNeg (pK (.int 1))))]]) (sSeq (sAugIx addI 4 (paV 4) (pV 6) (pV 7)) (sSeq (sSet 8 (eP (pF (fCat (fRep (evPs [pK (.int 0)]) (pV 6)) (lP (pFn scaled_line_m [pV 1, pV 7])))))) (sSet 3 (eP (pFn minus_lines_m [pFn scaled_line_m [pV 3, pIx (pV 1) (pNeg (pK (.int 1)))], pV 8]))))))) [a0, some (.frz (.lst (inD far))), some (.frz (.int num)), some (.frz (.lst (inD rest))), some (.own (fz (inD q))), o5, o6, o7, o8, none] =
      .nx [a0, some (.frz (.lst (inD far))), some (.frz (.int (num * lastI far))), some (.frz (.lst (inD (stepL rest far)))), some (.own (fz (inD q1))), o5, o6', o7', o8', none] ∧ q1.length = q.length ∧ Bd (A + (B + 1)) q1 ∧ num * lastI far ≠ 0 ∧ (num * lastI far).natAbs < 2 ^ (A + (B + 1)) := by
  have hr : rest ≠ [] := by
    intro h
    rw [h] at hl
    exact hf (List.eq_nil_of_length_eq_zero (by simpa using hl))
  obtain ⟨_, L, _, hL, l2⟩ := snoc_of tf hf
  obtain ⟨_, M, _, hM, l1⟩ := snoc_of tr hr
  have bL : L.natAbs < 2 ^ B := by rw [← l2]; exact bb _ (last_mem hf)
  have bM : M.natAbs < 2 ^ A := by rw [← l1]; exact ba _ (last_mem hr)
  have iL := last_ix hf
  have iM := last_ix hr
  rw [l2] at iL
  rw [l1] at iM
  have hgL : L.natAbs < HUGE := huge_of bL (by omega)
  have hgM : M.natAbs < HUGE := huge_of bM (by omega)
  have hgn : num.natAbs < HUGE := huge_of bn (by omega)
  have pw : 2 ^ (A + (B + 1)) = 2 ^ A * 2 ^ B * 2 := by rw [← Nat.add_assoc, Nat.pow_succ, Nat.pow_add]
  have pA : 0 < 2 ^ A := Nat.two_pow_pos A
  have pB : 0 < 2 ^ B := Nat.two_pow_pos B
  have pAB : 2 ^ A * 1 ≤ 2 ^ A * 2 ^ B := Nat.mul_le_mul_left _ pB
  have Sr : Sm rest := by unfold Sm; omega
  have Sf : Sm far := by unfold Sm; omega
  have Sq : Sm q := by unfold Sm; omega
  generalize hsh : rest.length - far.length = s at hs
  have hq1 : s < (q.map fun y => L * y).length := by simpa using hs
  have bq0 : ∀ y ∈ q.map (fun y => L * y), y.natAbs < 2 ^ A * 2 ^ B := fun y hy => by
    obtain ⟨z, hz, rfl⟩ := List.mem_map.mp hy
    rw [Int.natAbs_mul, Nat.mul_comm]
    exact Nat.mul_lt_mul'' (bq z hz) bL
  refine ⟨(q.map fun y => L * y).set s ((q.map fun y => L * y)[s] + M), some (.frz (.int (s : Int))), some (.frz (.int M)), some (.frz (.lst (inD (List.replicate s 0 ++ far.map fun y => M * y)))), ?_, by simp, fun y hy => ?_, by rw [l2]; exact Int.mul_ne_zero hn hL, ?_⟩
  · rw [l2]
    obtain ⟨so, sc⟩ := scaled_v hL Sq hgL (huge_bd bq (by omega))
    have s1 : (sPar [6, 7] [eP (pOp subI (pCall lenF [pV 3]) (pCall lenF [pV 1])), eP (pIx (pV 3) (pNeg (pK (.int 1))))]) [a0, some (.frz (.lst (inD far))), some (.frz (.int num)), some (.frz (.lst (inD rest))), some (.own (fz (inD q))), o5, o6, o7, o8, none] = .nx [a0, some (.frz (.lst (inD far))), some (.frz (.int num)), some (.frz (.lst (inD rest))), some (.own (fz (inD q))), o5, some (.frz (.int (s : Int))), some (.frz (.int M)), o8, none] := by
      have e1 : ((rest.length : Int) - far.length) = s := by omega
      unfold sPar
      rw [evMs_2 (eP_of (pOp_v (a := .int rest.length) (b := .int far.length) (v := .int s) (by simp [pCall, evPs_n, evPs_c, pV, C.toD, lenF, ofV]) (by simp [pCall, evPs_n, evPs_c, pV, C.toD, lenF, ofV]) (by simp [subI, e1]))) (eP_of (pIx_ok (d := .lst (inD rest)) (k := .int (-1)) (r := .int M) rfl rfl iM))]
      rfl
    have s2 : (sPar [2, 4] [eP (pOp mulI (pV 2) (pIx (pV 1) (pNeg (pK (.int 1))))), eFnO scaled_line_m [eV 4, eP (pIx (pV 1) (pNeg (pK (.int 1))))]]) [a0, some (.frz (.lst (inD far))), some (.frz (.int num)), some (.frz (.lst (inD rest))), some (.own (fz (inD q))), o5, some (.frz (.int (s : Int))), some (.frz (.int M)), o8, none] = .nx [a0, some (.frz (.lst (inD far))), some (.frz (.int (num * L))), some (.frz (.lst (inD rest))), some (.own (fz (inD (q.map fun y => L * y)))), o5, some (.frz (.int (s : Int))), some (.frz (.int M)), o8, none] := by
      unfold sPar
      have ev : eV 4 [a0, some (.frz (.lst (inD far))), some (.frz (.int num)), some (.frz (.lst (inD rest))), some (.own (fz (inD q))), o5, some (.frz (.int (s : Int))), some (.frz (.int M)), o8, none] = .ok (.frz (.lst (inD q))) [a0, some (.frz (.lst (inD far))), some (.frz (.int num)), some (.frz (.lst (inD rest))), some (.frz (.lst (inD q))), o5, some (.frz (.int (s : Int))), some (.frz (.int M)), o8, none] := by
        simp [eV, C.toD]
      rw [evMs_2 (eP_of (pOp_v (a := .int num) (b := .int L) (v := .int (num * L)) rfl (pIx_ok (d := .lst (inD far)) (k := .int (-1)) (r := .int L) rfl rfl iL) (by simp [mulI, mulOk_big hgn hgL]))) (eFnO_2 ev (eP_of (pIx_ok (d := .lst (inD far)) (k := .int (-1)) (r := .int L) rfl rfl iL)) sc)]
      rfl
    have s3 := aug_ok (i := 4) (q := q.map fun y => L * y) (s := s) (M := M) (pS := pV 6) (pM := pV 7) (env := [a0, some (.frz (.lst (inD far))), some (.frz (.int (num * L))), some (.frz (.lst (inD rest))), some (.own (fz (inD (q.map fun y => L * y)))), o5, some (.frz (.int (s : Int))), some (.frz (.int M)), o8, none]) rfl rfl rfl hq1
    rw [seq_nx s1, seq_nx s2, seq_nx s3]
    simp only [List.set_cons_succ, List.set_cons_zero]
    generalize (q.map fun y => L * y).set s ((q.map fun y => L * y)[s] + M) = q2
    have t1 := pFn_2 (p := pV 1) (q := pV 7) (env := [a0, some (.frz (.lst (inD far))), some (.frz (.int (num * L))), some (.frz (.lst (inD rest))), some (.own (fz (inD q2))), o5, some (.frz (.int (s : Int))), some (.frz (.int M)), o8, none]) (a := .lst (inD far)) (b := .int M) rfl rfl (scaled_v hM Sf hgM (huge_bd bb (by omega)))
    simp only [C.toD, toDs_fz] at t1
    have t2 := fCat_ok (rep0 (p := pV 6) (env := [a0, some (.frz (.lst (inD far))), some (.frz (.int (num * L))), some (.frz (.lst (inD rest))), some (.own (fz (inD q2))), o5, some (.frz (.int (s : Int))), some (.frz (.int M)), o8, none]) (n := s) rfl (by omega)) (lP_ok t1) (by rw [inD_len, inD_len, List.length_map, List.length_replicate]; omega)
    rw [← inD_app] at t2
    rw [seq_nx (set_ok (eP_of (pF_ok t2)))]
    simp only [List.set_cons_succ, List.set_cons_zero]
    have u1 := pFn_2 (p := pV 3) (q := pIx (pV 1) (pNeg (pK (.int 1)))) (env := [a0, some (.frz (.lst (inD far))), some (.frz (.int (num * L))), some (.frz (.lst (inD rest))), some (.own (fz (inD q2))), o5, some (.frz (.int (s : Int))), some (.frz (.int M)), some (.frz (.lst (inD (List.replicate s 0 ++ far.map fun y => M * y)))), none]) (a := .lst (inD rest)) (b := .int L) rfl (pIx_ok (d := .lst (inD far)) (k := .int (-1)) (r := .int L) rfl rfl iL) (scaled_v hL Sr hgL (huge_bd ba (by omega)))
    simp only [C.toD, toDs_fz] at u1
    have bt : ∀ x ∈ List.replicate s 0 ++ far.map (fun y => M * y), x.natAbs < HUGE := fun x hx => by
      rcases List.mem_append.mp hx with z | z
      · rw [(List.mem_replicate.mp z).2]; exact Nat.two_pow_pos _
      · obtain ⟨y, hy, rfl⟩ := List.mem_map.mp z
        refine huge_of (k := A + (B + 1)) ?_ hA
        rw [pw, Int.natAbs_mul]
        have := Nat.mul_lt_mul'' bM (bb y hy)
        omega
    have u2 := pFn_2 (p := pFn scaled_line_m [pV 3, pIx (pV 1) (pNeg (pK (.int 1)))]) (q := pV 8) u1 (b := .lst (inD (List.replicate s 0 ++ far.map fun y => M * y))) rfl (minus_v (by unfold Sm at *; simpa using Sr) (by unfold Sm at *; simp; omega) bt)
    simp only [C.toD, toDs_fz] at u2
    rw [set_ok (eP_of u2)]
    simp only [List.set_cons_succ, List.set_cons_zero]
    rw [← hsh, step_eq hl l2 l1]
  · rcases List.mem_or_eq_of_mem_set hy with z | z
    · have := bq0 y z
      omega
    · have h1 := bq0 _ (List.getElem_mem hq1)
      rw [z]
      omega
  · rw [l2, Int.natAbs_mul, pw]
    have := Nat.mul_lt_mul'' bn bL
    omega
theorem parted_loop {a0 o5 : Option C} {far : List Int} {B : Nat} (tf : Tr far) (hf : far ≠ []) (bb : Bd B far) : ∀ (k : Nat) (rest q : List Int) (num : Int) (A : Nat) (o6 o7 o8 : Option C), Tr rest → rest.length ≤ k → rest.length ≤ 50 → q.length ≤ 50 → rest.length + 1 ≤ far.length + q.length → num ≠ 0 → num.natAbs < 2 ^ A → Bd A q → Bd A rest → A + (rest.length + 1 - far.length) * (B + 1) ≤ 13000 →
    ∃ (num' : Int) (q' : List Int) (o6' o7' o8' : Option C), sWhile (tP (qOf (pOp (cmpI iGe) (pCall lenF [pV 3]) (pCall lenF [pV 1])))) (sSeq (sPar [6, 7] [eP (pOp subI (pCall lenF [pV 3]) (pCall lenF [pV 1])), eP (pIx (pV 3) (pNeg (pK (.int 1))))]) (sSeq (sPar [2, 4] [eP (pOp mulI (pV 2) (pIx (pV 1) (pNeg (pK (.int 1))))), eFnO scaled_line_m [eV 4, eP (pIx (pV 1) (pNeg (pK (.int 1))))]]) (sSeq (sAugIx addI 4 (paV 4) (pV 6) (pV 7)) (sSeq (sSet 8 (eP (pF (fCat (fRep (evPs [pK (.int 0)]) (pV 6)) (lP (pFn scaled_line_m [pV 1, pV 7])))))) (sSet 3 (eP (pFn minus_lines_m [pFn scaled_line_m [pV 3, pIx (pV 1) (pNeg (pK (.int 1)))], pV 8]))))))) [a0, some (.frz (.lst (inD far))), some (.frz (.int num)), some (.frz (.lst (inD rest))), some (.own (fz (inD q))), o5, o6, o7, o8, none] =
      .nx [a0, some (.frz (.lst (inD far))), some (.frz (.int num')), some (.frz (.lst (inD (remL far k rest)))), some (.own (fz (inD q'))), o5, o6', o7', o8', none] ∧ q'.length = q.length ∧ num' ≠ 0 ∧ num'.natAbs < 2 ^ (A + (rest.length + 1 - far.length) * (B + 1)) ∧ Bd (A + (rest.length + 1 - far.length) * (B + 1)) q'
  | k, rest, q, num, A, o6, o7, o8, tr, hk, h7, hq, hs, hn, bn, bq, br, hA => by
    by_cases hl : far.length ≤ rest.length
    · cases k with
      | zero =>
        have : 0 < far.length := List.length_pos_iff.mpr hf
        omega
      | succ k =>
        obtain ⟨s1, s2, s3, s4, s5⟩ := step_spec tr tf hf hl br bb
        have hAB : (stepL rest far).length + 1 - far.length + 1 ≤ rest.length + 1 - far.length := by omega
        have hm := Nat.mul_le_mul_right (B + 1) hAB
        rw [Nat.add_mul, Nat.one_mul] at hm
        obtain ⟨q1, p6, p7, p8, e1, e2, e3, e4, e5⟩ := parted_step (a0 := a0) (o5 := o5) (o6 := o6) (o7 := o7) (o8 := o8) tf hf bb tr hl br bq bn hn h7 hq (by omega) (by omega)
        obtain ⟨num', q', o6', o7', o8', i1, i2, i3, i4, i5⟩ := parted_loop tf hf bb k (stepL rest far) q1 (num * lastI far) (A + (B + 1)) p6 p7 p8 s1 (by omega) (by omega) (by omega) (by omega) e4 e5 e3 s3 (by omega)
        refine ⟨num', q', o6', o7', o8', ?_, by omega, i3, Nat.lt_of_lt_of_le i4 (Nat.pow_le_pow_right (by decide) (by omega)), bd_le i5 (by omega)⟩
        rw [sWhile_eq]
        have c : (tP (qOf (pOp (cmpI iGe) (pCall lenF [pV 3]) (pCall lenF [pV 1])))) [a0, some (.frz (.lst (inD far))), some (.frz (.int num)), some (.frz (.lst (inD rest))), some (.own (fz (inD q))), o5, o6, o7, o8, none] = .ok true [a0, some (.frz (.lst (inD far))), some (.frz (.int num)), some (.frz (.lst (inD rest))), some (.own (fz (inD q))), o5, o6, o7, o8, none] := by
          simp [tP, qOf, pOp, pCall, evPs_n, evPs_c, pV, C.toD, lenF, ofV, cmpI, iGe, hl]
        rw [c]
        simp only [sOf, if_true]
        rw [e1]
        simp only []
        rw [i1, remL, if_pos hl]
    · have r0 : remL far k rest = rest := by
        cases k with
        | zero => rfl
        | succ k => rw [remL, if_neg hl]
      refine ⟨num, q, o6, o7, o8, ?_, rfl, hn, Nat.lt_of_lt_of_le bn (Nat.pow_le_pow_right (by decide) (by omega)), bd_le bq (by omega)⟩
      rw [sWhile_eq, r0]
      simp [tP, qOf, pOp, pCall, evPs_n, evPs_c, pV, C.toD, lenF, ofV, cmpI, iGe, hl, sOf]
end k71
namespace k71
open PySem PySem.Spec PyProof.Rows L2 PL
theorem bd_one {A : Nat} (h : 1 ≤ A) : (1 : Int).natAbs < 2 ^ A := by
  have : 2 ^ 1 ≤ 2 ^ A := Nat.pow_le_pow_right (by decide) h
  have : (1 : Int).natAbs = 1 := rfl
  omega
theorem bd_zeros (A n : Nat) : Bd A (List.replicate n 0) := fun x hx => by
  rw [(List.mem_replicate.mp hx).2]; exact Nat.two_pow_pos _
theorem inD_cons (x : Int) (l : List Int) : inD (x :: l) = .int x :: inD l := rfl
theorem parted_v {near far : List Int} {A B : Nat} (tn : Tr near) (tf : Tr far) (hf : far ≠ []) (ba : Bd A near) (bb : Bd B far) (h1 : 1 ≤ A) (ln : near.length ≤ 20) (hA : A + (near.length + 1 - far.length) * (B + 1) ≤ 13000) :
    ∃ (x y : D) (c : Int), c ≠ 0 ∧ (∀ z ∈ remL far near.length near, c ∣ z) ∧ Gives parted_m [.frz (.lst (inD near)), .frz (.lst (inD far))] (.frz (.tup [x, y, .lst (inD (divL (remL far near.length near) c))])) := by
  obtain ⟨q0, hq0, l0, s1⟩ : ∃ q0 : List Int, Bd A q0 ∧ (near.length + 1 ≤ far.length + q0.length ∧ q0.length ≤ 50) ∧ (sIf (tP (qOf (pOp (cmpI iGe) (pCall lenF [pV 0]) (pCall lenF [pV 1])))) (sSet 4 (eF (fRep (evPs [pK (.int 0)]) (pOp addI (pOp subI (pCall lenF [pV 0]) (pCall lenF [pV 1])) (pK (.int 1)))))) (sNx)) [some (.frz (.lst (inD near))), some (.frz (.lst (inD far))), some (.frz (.int 1)), some (.frz (.lst (inD near))), some (.own []), none, none, none, none, none] = .nx [some (.frz (.lst (inD near))), some (.frz (.lst (inD far))), some (.frz (.int 1)), some (.frz (.lst (inD near))), some (.own (fz (inD q0))), none, none, none, none, none] := by
    by_cases hl : far.length ≤ near.length
    · refine ⟨List.replicate (near.length - far.length + 1) 0, bd_zeros A _, by simp; omega, ?_⟩
      have c : (tP (qOf (pOp (cmpI iGe) (pCall lenF [pV 0]) (pCall lenF [pV 1])))) [some (.frz (.lst (inD near))), some (.frz (.lst (inD far))), some (.frz (.int 1)), some (.frz (.lst (inD near))), some (.own []), none, none, none, none, none] = .ok true [some (.frz (.lst (inD near))), some (.frz (.lst (inD far))), some (.frz (.int 1)), some (.frz (.lst (inD near))), some (.own []), none, none, none, none, none] := by
        simp [tP, qOf, pOp, pCall, evPs_n, evPs_c, pV, C.toD, lenF, ofV, cmpI, iGe, hl]
      rw [if_t c]
      have e1 : ((near.length : Int) - far.length + 1) = (near.length - far.length + 1 : Nat) := by omega
      have r := rep0 (p := pOp addI (pOp subI (pCall lenF [pV 0]) (pCall lenF [pV 1])) (pK (.int 1))) (env := [some (.frz (.lst (inD near))), some (.frz (.lst (inD far))), some (.frz (.int 1)), some (.frz (.lst (inD near))), some (.own []), none, none, none, none, none]) (n := near.length - far.length + 1) (by
        rw [← e1]
        simp [pCall, evPs_n, evPs_c, pV, C.toD, lenF, ofV, pOp, subI, addI, pK]) (by omega)
      refine (set_ok (h := eF (fRep (evPs [pK (.int 0)]) (pOp addI (pOp subI (pCall lenF [pV 0]) (pCall lenF [pV 1])) (pK (.int 1))))) (c := .own (fz (inD (List.replicate (near.length - far.length + 1) 0)))) (e := [some (.frz (.lst (inD near))), some (.frz (.lst (inD far))), some (.frz (.int 1)), some (.frz (.lst (inD near))), some (.own []), none, none, none, none, none]) (by unfold eF; rw [r]; rfl)).trans ?_
      rfl
    · refine ⟨[], nofun, by simp; omega, ?_⟩
      have c : (tP (qOf (pOp (cmpI iGe) (pCall lenF [pV 0]) (pCall lenF [pV 1])))) [some (.frz (.lst (inD near))), some (.frz (.lst (inD far))), some (.frz (.int 1)), some (.frz (.lst (inD near))), some (.own []), none, none, none, none, none] = .ok false [some (.frz (.lst (inD near))), some (.frz (.lst (inD far))), some (.frz (.int 1)), some (.frz (.lst (inD near))), some (.own []), none, none, none, none, none] := by
        simp [tP, qOf, pOp, pCall, evPs_n, evPs_c, pV, C.toD, lenF, ofV, cmpI, iGe, hl]
      exact if_f c
  obtain ⟨num, q, o6, o7, o8, i1, i2, i3, i4, i5⟩ := parted_loop (a0 := some (.frz (.lst (inD near)))) (o5 := none) tf hf bb near.length near q0 1 A none none none tn (Nat.le_refl _) (by omega) l0.2 l0.1 (by decide) (bd_one h1) hq0 ba hA
  obtain ⟨r1, r2, r3, r4⟩ := rem_spec tf hf bb near.length tn ba (Nat.le_refl _)
  generalize hA' : A + (near.length + 1 - far.length) * (B + 1) = A' at *
  generalize hR : remL far near.length near = R at *
  have hall : ∀ x ∈ (num :: q) ++ R, x.natAbs < HUGE := fun x hx => by
    rcases List.mem_append.mp hx with z | z
    · rcases List.mem_cons.mp z with rfl | z
      · exact huge_of i4 hA
      · exact huge_of (i5 x z) hA
    · exact huge_of (r3 x z) hA
  have gd := gcdF_dvd ((num :: q) ++ R) 0
  have g0 : gcdF 0 ((num :: q) ++ R) ≠ 0 := fun z => i3 ((gcdF_zero z).2 num (by simp))
  obtain ⟨og, ge⟩ := greatest_v hall
  generalize hg : gcdF 0 ((num :: q) ++ R) = g at *
  obtain ⟨part, hp, pd, s6⟩ : ∃ part : Int, part ≠ 0 ∧ (∀ x ∈ (num :: q) ++ R, part ∣ x) ∧ (sIf (tP (qOf (pOp (cmpI iLt) (pV 2) (pK (.int 0))))) (sSet 5 (eP (pOp subI (pK (.int 0)) (pV 5)))) (sNx)) [some (.frz (.lst (inD near))), some (.frz (.lst (inD far))), some (.frz (.int num)), some (.frz (.lst (inD R))), some (.own (fz (inD q))), some (.frz (.int (g : Int))), o6, o7, o8, none] = .nx [some (.frz (.lst (inD near))), some (.frz (.lst (inD far))), some (.frz (.int num)), some (.frz (.lst (inD R))), some (.own (fz (inD q))), some (.frz (.int part)), o6, o7, o8, none] := by
    by_cases hn : num < 0
    · refine ⟨0 - (g : Int), by omega, fun x hx => ?_, ?_⟩
      · rw [Int.zero_sub]; exact Int.neg_dvd.mpr (gd.2 x hx)
      · simp [sIf, tP, qOf, pOp, pV, pK, C.toD, cmpI, iLt, hn, ofV, sOf, sSet, eP, subI]
    · refine ⟨g, by omega, gd.2, ?_⟩
      simp [sIf, tP, qOf, pOp, pV, pK, C.toD, cmpI, iLt, hn, ofV, sOf, sNx]
  refine ⟨.int (num.fdiv part), .lst (inD (divL q part)), part, hp, fun z hz => pd z (by simp [hz]), gives_rt ?_⟩
  rw [show startE 10 [.frz (.lst (inD near)), .frz (.lst (inD far))] = [some (.frz (.lst (inD near))), some (.frz (.lst (inD far))), none, none, none, none, none, none, none, none] from rfl]
  unfold parted_b
  rw [seq_nx (e := [some (.frz (.lst (inD near))), some (.frz (.lst (inD far))), some (.frz (.int 1)), some (.frz (.lst (inD near))), some (.own []), none, none, none, none, none]) (by simp [sPar, evMs_c, evMs_n, eP, pK, pF, fSq, pV, C.toD, sqD, eF, evPs_n, Out.bind, sOf])]
  rw [seq_nx s1, seq_nx i1]
  have f1 : lKf (kV 4) [some (.frz (.lst (inD near))), some (.frz (.lst (inD far))), some (.frz (.int num)), some (.frz (.lst (inD R))), some (.own (fz (inD q))), none, o6, o7, o8, none] = some (inD q) := by simp [lKf, PL.kV]
  have f2 := fCat_ok (fCat_ok (p := evPs [pV 2]) (a := [.int num]) (env := [some (.frz (.lst (inD near))), some (.frz (.lst (inD far))), some (.frz (.int num)), some (.frz (.lst (inD R))), some (.own (fz (inD q))), none, o6, o7, o8, none]) (evPs_1 rfl) f1 (by simp; omega)) (lP_ok (p := pV 3) (l := inD R) rfl) (by
    simp only [List.length_append, inD_len, List.length_singleton]
    have := i2
    have : R.length < far.length ∨ R.length ≤ 20 := by omega
    have hR2 : R.length ≤ 20 := by
      rw [← hR]
      have : ∀ (k : Nat) (l : List Int), l.length ≤ 20 → (remL far k l).length ≤ 20 := by
        intro k
        induction k with
        | zero => intro l h; exact h
        | succ k ih =>
          intro l h
          unfold remL
          split
          · refine ih _ ?_
            refine Nat.le_trans (trimI_len _) ?_
            simp; omega
          · exact h
      exact this _ _ ln
    omega)
  have f3 : [D.int num] ++ inD q ++ inD R = inD ((num :: q) ++ R) := by rw [inD_app]; rfl
  rw [f3] at f2
  rw [seq_nx (set_ok (eP_of (pFn_1 (pF_ok f2) ⟨og, ge⟩)))]
  simp only [List.set_cons_succ, List.set_cons_zero, C.toD]
  rw [seq_nx s6]
  have hq' : ∀ x ∈ q, x.natAbs < HUGE := fun x hx => hall x (by simp [hx])
  have hR' : ∀ x ∈ R, x.natAbs < HUGE := fun x hx => hall x (by simp [hx])
  have hn' : num.natAbs < HUGE := hall num (by simp)
  have lR : R.length ≤ 100 := by
    rw [← hR]
    have : ∀ (k : Nat) (l : List Int), l.length ≤ 20 → (remL far k l).length ≤ 20 := by
      intro k
      induction k with
      | zero => intro l h; exact h
      | succ k ih =>
        intro l h
        unfold remL
        split
        · refine ih _ ?_
          refine Nat.le_trans (trimI_len _) ?_
          simp; omega
        · exact h
    have := this near.length near ln
    omega
  have c1 := divcomp (i := 9) (v := 5) (env := [some (.frz (.lst (inD near))), some (.frz (.lst (inD far))), some (.frz (.int num)), some (.frz (.lst (inD R))), some (.own (fz (inD q))), some (.frz (.int part)), o6, o7, o8, none]) hp hq' fun y => ⟨_, rfl, rfl, rfl⟩
  have c2 := divcomp (i := 9) (v := 5) (env := [some (.frz (.lst (inD near))), some (.frz (.lst (inD far))), some (.frz (.int num)), some (.frz (.lst (inD R))), some (.own (fz (inD q))), some (.frz (.int part)), o6, o7, o8, none]) hp hR' fun y => ⟨_, rfl, rfl, rfl⟩
  have d1 := fComp_ok (src := lKf (kV 4)) (l := inD q) (by simp [lKf, PL.kV]) (by rw [inD_len]; omega) c1
  have d2 := fComp_ok (src := fSq (pV 3)) (l := inD R) (fSq_ok rfl) (by rw [inD_len]; omega) c2
  refine ⟨[some (.frz (.lst (inD near))), some (.frz (.lst (inD far))), some (.frz (.int num)), some (.frz (.lst (inD R))), some (.own (fz (inD q))), some (.frz (.int part)), o6, o7, o8, none], ret_ok (eP_of ?_)⟩
  unfold pTup
  rw [evPs_c, pOp_v (a := .int num) (b := .int part) (v := .int (num.fdiv part)) rfl rfl (by simp [fdivI, divOk_big hp hn']), evPs_2 (pF_ok d1) (pF_ok d2)]
  rfl
end k71
namespace k71
open PySem PySem.Spec PyProof.Rows L2 PL
/-! ### the loop of the common part -/
theorem rem_short {far l : List Int} (k : Nat) (h : l.length < far.length) : remL far k l = l := by
  cases k with
  | zero => rfl
  | succ k => rw [remL, if_neg (by omega)]
theorem ok_next {fin : Nat → Nat → Bool} {k n m a b : Nat} (h : okB fin (k + 1) n m a b = true) (hm : m ≠ 0) : a ≤ 13000 ∧ b ≤ 13000 ∧ a + (n + 1 - m) * (b + 1) ≤ 13000 ∧ ((n < m ∧ okB fin k m n b a = true) ∨ (m ≤ n ∧ ∀ j < m, okB fin k m j b (if j = 1 then 1 else a + (n + 1 - m) * (b + 1)) = true)) := by
  unfold okB at h
  rw [if_neg hm] at h
  simp only [Bool.and_eq_true, decide_eq_true_eq] at h
  obtain ⟨⟨h1, h2⟩, h3⟩ := h
  split at h3
  · rename_i hl
    have : n + 1 - m = 0 := by omega
    exact ⟨h1, h2, by rw [this]; omega, .inl ⟨hl, h3⟩⟩
  · rename_i hl
    simp only [Bool.and_eq_true, decide_eq_true_eq] at h3
    refine ⟨h1, h2, h3.1, .inr ⟨by omega, fun j hj => List.all_eq_true.mp h3.2 j (List.mem_range.mpr hj)⟩⟩
/-- one turn of the loop: what the next far is -/
theorem turn {fin : Nat → Nat → Bool} {k a b : Nat} {near far R r : List Int} (h : okB fin (k + 1) near.length far.length a b = true) (tn : Tr near) (tf : Tr far) (hf : far ≠ []) (bn : Bd a near) (bf : Bd b far) (h1 : 1 ≤ a) (hR : R = remL far near.length near) (hr : Nrm R r) :
    ∃ b', 1 ≤ b' ∧ okB fin k far.length r.length b b' = true ∧ Bd b' r ∧ Red near far r ∧ Tr r ∧ r.length ≤ max near.length far.length := by
  have hm : far.length ≠ 0 := fun z => hf (List.eq_nil_of_length_eq_zero z)
  obtain ⟨k1, k2, k3, k4⟩ := ok_next h hm
  obtain ⟨r1, r2, r3, r4⟩ := rem_spec tf hf bf near.length tn bn (Nat.le_refl _)
  rw [← hR] at r1 r2 r3 r4
  obtain ⟨n1, n2, n3, n4, n5⟩ := hr
  have red := red_of r4 n1
  rcases k4 with ⟨q1, q2⟩ | ⟨q1, q2⟩
  · rw [rem_short _ q1] at hR
    subst hR
    exact ⟨a, h1, by rw [n3]; exact q2, n4 _ bn, red, n2, by omega⟩
  · have := q2 r.length (by omega)
    refine ⟨_, ?_, this, ?_, red, n2, by omega⟩
    · split <;> omega
    · split
      · rename_i h1
        exact n5 (by omega)
      · exact n4 _ r3
theorem while_f {c : M Bool} {b : SS} {env e : Slots} (h : c env = .ok false e) : sWhile c b env = .nx e := by
  rw [sWhile_eq, h]
  rfl
theorem while_t {c : M Bool} {b : SS} {env e e1 : Slots} (h : c env = .ok true e) (h2 : b e = .nx e1) : sWhile c b env = sWhile c b e1 := by
  rw [sWhile_eq, h]
  simp only [sOf, if_true]
  rw [h2]
theorem common_stop {a0 a1 o : Option C} : (tP (qOf (pOp (cmpI iGt) (pCall lenF [pV 3]) (pK (.int 0))))) [a0, a1, o, some (.frz (.lst (inD [])))] = .ok false [a0, a1, o, some (.frz (.lst []))] := by
  simp [tP, qOf, pOp, pCall, evPs_n, evPs_c, pV, C.toD, lenF, ofV, pK, cmpI, iGt]
theorem common_cond {a0 a1 : Option C} {near far : List Int} (hf : far ≠ []) : (tP (qOf (pOp (cmpI iGt) (pCall lenF [pV 3]) (pK (.int 0))))) [a0, a1, some (.frz (.lst (inD near))), some (.frz (.lst (inD far)))] = .ok true [a0, a1, some (.frz (.lst (inD near))), some (.frz (.lst (inD far)))] := by
  have hp' : 0 < far.length := List.length_pos_iff.mpr hf
  simp [tP, qOf, pOp, pCall, evPs_n, evPs_c, pV, C.toD, lenF, ofV, pK, cmpI, iGt, hp']
theorem common_st {a0 a1 : Option C} {near far r r2 : List Int} {x y : D} (h1 : Gives parted_m [.frz (.lst (inD near)), .frz (.lst (inD far))] (.frz (.tup [x, y, .lst (inD r)]))) (h2 : Gives plain_of_m [.frz (.lst (inD r))] (.frz (.lst (inD r2)))) :
    (sPar [2, 3] [eP (pV 3), eP (pFn plain_of_m [pIx (pFn parted_m [pV 2, pV 3]) (pK (.int 2))])]) [a0, a1, some (.frz (.lst (inD near))), some (.frz (.lst (inD far)))] = .nx [a0, a1, some (.frz (.lst (inD far))), some (.frz (.lst (inD r2)))] := by
  have b1 := pFn_2 (p := pV 2) (q := pV 3) (env := [a0, a1, some (.frz (.lst (inD near))), some (.frz (.lst (inD far)))]) (a := .lst (inD near)) (b := .lst (inD far)) rfl rfl h1
  have b2 := pFn_1 (pIx_ok (q := pK (.int 2)) (k := .int 2) b1 rfl (r := .lst (inD r)) rfl) h2
  unfold sPar
  rw [evMs_2 (eP_of (d := .lst (inD far)) rfl) (eP_of b2)]
  rfl
theorem common_turn {fin : Nat → Nat → Bool} {k a b : Nat} {near far : List Int} (h : okB fin (k + 1) near.length far.length a b = true) (tn : Tr near) (tf : Tr far) (hf : far ≠ []) (bn : Bd a near) (bf : Bd b far) (h1 : 1 ≤ a) (l1 : near.length ≤ 20) (l2 : far.length ≤ 20) :
    ∃ (x y : D) (r r2 : List Int), Gives parted_m [.frz (.lst (inD near)), .frz (.lst (inD far))] (.frz (.tup [x, y, .lst (inD r)])) ∧ Gives plain_of_m [.frz (.lst (inD r))] (.frz (.lst (inD r2))) ∧ ∃ b', 1 ≤ b' ∧ okB fin k far.length r2.length b b' = true ∧ Bd b' r2 ∧ Red near far r2 ∧ Tr r2 ∧ r2.length ≤ 20 := by
  have hm : far.length ≠ 0 := fun z => hf (List.eq_nil_of_length_eq_zero z)
  obtain ⟨k1, k2, k3, _⟩ := ok_next h hm
  obtain ⟨x, y, c, hc, cd, pe⟩ := parted_v tn tf hf bn bf h1 l1 k3
  obtain ⟨r1, r2, r3, r4⟩ := rem_spec tf hf bf near.length tn bn (Nat.le_refl _)
  obtain ⟨d1, d2, d3, d4⟩ := divL_spec hc cd
  have ld : (divL (remL far near.length near) c).length < far.length := by omega
  have pn := plainL_nrm (d2 r1)
  have ple := plain_v (d2 r1) (by unfold Sm; omega) (huge_bd (d4 _ r3) k3)
  have nr : Nrm (remL far near.length near) (plainL (divL (remL far near.length near) c)) := by
    obtain ⟨⟨c2, hc2, n1⟩, n2, n3, n4, n5⟩ := pn
    refine ⟨⟨c * c2, Int.mul_ne_zero hc hc2, fun x => ?_⟩, n2, by omega, fun k bk => n4 k (d4 k bk), fun h1 => n5 (by omega)⟩
    rw [d1 x, n1 x, Int.mul_assoc]
  obtain ⟨b', t1, t2, t3, t4, t5, t6⟩ := turn h tn tf hf bn bf h1 rfl nr
  exact ⟨x, y, _, _, pe, ple, b', t1, t2, t3, t4, t5, by omega⟩
theorem common_loop (fin : Nat → Nat → Bool) (a0 a1 : Option C) : ∀ (k : Nat) (near far : List Int) (a b : Nat), okB fin k near.length far.length a b = true → Tr near → Tr far → Bd a near → Bd b far → 1 ≤ a → 1 ≤ b → near.length ≤ 20 → far.length ≤ 20 →
    ∃ (g : List Int) (a' : Nat), sWhile (tP (qOf (pOp (cmpI iGt) (pCall lenF [pV 3]) (pK (.int 0))))) (sPar [2, 3] [eP (pV 3), eP (pFn plain_of_m [pIx (pFn parted_m [pV 2, pV 3]) (pK (.int 2))])]) [a0, a1, some (.frz (.lst (inD near))), some (.frz (.lst (inD far)))] = .nx [a0, a1, some (.frz (.lst (inD g))), some (.frz (.lst []))] ∧ Spec near far g ∧ Tr g ∧ Bd a' g ∧ fin g.length a' = true ∧ g.length ≤ 20 ∧ 1 ≤ a' := by
  intro k
  induction k with
  | zero => intro near far a b h; cases h
  | succ k ih =>
    intro near far a b h tn tf bn bf h1 h2 l1 l2
    by_cases hf : far = []
    · subst hf
      refine ⟨near, a, ?_, spec_nil near, tn, bn, ?_, l1, h1⟩
      · exact while_f common_stop
      · unfold okB at h
        simp only [List.length_nil, if_true, Bool.and_eq_true] at h
        exact h.2
    · obtain ⟨x, y, r, r2, pe, ple, b', t1, t2, t3, t4, t5, t6⟩ := common_turn h tn tf hf bn bf h1 l1 l2
      obtain ⟨g, a', i1, i2, i3⟩ := ih far r2 b b' t2 tf t5 bf t3 h2 t1 l2 t6
      refine ⟨g, a', ?_, spec_step t4 i2, i3⟩
      exact (while_t (common_cond hf) (common_st pe ple)).trans i1
theorem common_v (fin : Nat → Nat → Bool) {k a b : Nat} {one two : List Int} (h : okB fin k one.length two.length a b = true) (t1 : Tr one) (t2 : Tr two) (b1 : Bd a one) (b2 : Bd b two) (h1 : 1 ≤ a) (h2 : 1 ≤ b) (l1 : one.length ≤ 20) (l2 : two.length ≤ 20) (ha : a ≤ 13000) (hb : b ≤ 13000) :
    ∃ (g : List Int) (a' : Nat), Gives common_of_m [.frz (.lst (inD one)), .frz (.lst (inD two))] (.frz (.lst (inD g))) ∧ Spec one two g ∧ Tr g ∧ Bd a' g ∧ fin g.length a' = true ∧ g.length ≤ 20 ∧ 1 ≤ a' := by
  obtain ⟨p1, p2, p3, p4, p5⟩ := plainL_nrm t1
  obtain ⟨q1, q2, q3, q4, q5⟩ := plainL_nrm t2
  obtain ⟨g, a', i1, i2, i3⟩ := common_loop fin (some (.frz (.lst (inD one)))) (some (.frz (.lst (inD two)))) k (plainL one) (plainL two) a b (by rw [p3, q3]; exact h) p2 q2 (p4 _ b1) (q4 _ b2) h1 h2 (by omega) (by omega)
  refine ⟨g, a', gives_rt ⟨[some (.frz (.lst (inD one))), some (.frz (.lst (inD two))), some (.frz (.lst (inD g))), some (.frz (.lst []))], ?_⟩, spec_start p1 q1 i2, i3⟩
  rw [show startE 4 [.frz (.lst (inD one)), .frz (.lst (inD two))] = [some (.frz (.lst (inD one))), some (.frz (.lst (inD two))), none, none] from rfl]
  unfold common_of_b
  have e1 := pFn_1 (p := pV 0) (env := [some (.frz (.lst (inD one))), some (.frz (.lst (inD two))), none, none]) (a := .lst (inD one)) rfl (plain_v t1 (by unfold Sm; omega) (huge_bd b1 ha))
  have e2 := pFn_1 (p := pV 1) (env := [some (.frz (.lst (inD one))), some (.frz (.lst (inD two))), none, none]) (a := .lst (inD two)) rfl (plain_v t2 (by unfold Sm; omega) (huge_bd b2 hb))
  have s1 : (sPar [2, 3] [eP (pFn plain_of_m [pV 0]), eP (pFn plain_of_m [pV 1])]) [some (.frz (.lst (inD one))), some (.frz (.lst (inD two))), none, none] = .nx [some (.frz (.lst (inD one))), some (.frz (.lst (inD two))), some (.frz (.lst (inD (plainL one)))), some (.frz (.lst (inD (plainL two))))] := by
    unfold sPar
    rw [evMs_2 (eP_of e1) (eP_of e2)]
    rfl
  rw [seq_nx s1, seq_nx i1]
  exact ret_ok (eP_of rfl)
end k71
namespace k71
open PySem PySem.Spec PyProof.Rows L2 PL
/-! ### the common part, as the law finds it -/
theorem zipcomp {i j : Nat} {p : P} {env : Slots} (f : Int → Int → Int) : ∀ {u v : List Int}, (∀ a ∈ u, ∀ b ∈ v, ∃ e, gTupD 2 (gsCons (gV true i) (gsCons (gV true j) gsNil)) (.tup [.int a, .int b]) env = some e ∧ p e = some (.int (f a b))) →
    compF (gTupD 2 (gsCons (gV true i) (gsCons (gV true j) gsNil))) (fun _ => some true) p env (zipD (inD u) (inD v)) = some (inD (List.zipWith f u v))
  | [], v, _ => by cases v <;> rfl
  | a :: u, [], _ => rfl
  | a :: u, b :: v, h => by
    obtain ⟨e, e1, e2⟩ := h a (by simp) b (by simp)
    have ih := zipcomp f (u := u) (v := v) fun x hx y hy => h x (by simp [hx]) y (by simp [hy])
    rw [show zipD (inD (a :: u)) (inD (b :: v)) = .tup [.int a, .int b] :: zipD (inD u) (inD v) from rfl]
    unfold compF
    rw [e1]
    simp only [e2, ih]
    rfl
theorem zipS_ok {p q : P} {env : Slots} {l m : List D} (h1 : p env = some (.lst l)) (h2 : q env = some (.lst m)) : zipS p q env = some (zipD l m) := by
  unfold zipS
  rw [h1, h2]
  rfl
theorem lcom_step {a0 a1 near o5 : Option C} {far left : List Int} {A B : Nat} (tf : Tr far) (hf : far ≠ []) (bb : Bd B far) (tl : Tr left) (hl : far.length ≤ left.length) (ba : Bd A left) (l1 : left.length ≤ 50) (hA : A + (B + 1) ≤ 13000) : ∃ o5',
    (sSeq (sSet 5 (eP (pF (fCat (fRep (evPs [pK (.int 0)]) (pOp subI (pCall lenF [pV 4]) (pCall lenF [pV 3]))) (lP (pV 3)))))) (sSet 4 (eP (pFn _law_trim_m [pF (fComp [6, 7] (gTupD 2 (gsCons (gV true 6) (gsCons (gV true 7) gsNil))) (fun _ => some true) (pOp subI (pOp mulI (pV 6) (pIx (pV 3) (pNeg (pK (.int 1))))) (pOp mulI (pIx (pV 4) (pNeg (pK (.int 1)))) (pV 7))) (zipS (pV 4) (pV 5)))])))) [a0, a1, near, some (.frz (.lst (inD far))), some (.frz (.lst (inD left))), o5, none, none] =
      .nx [a0, a1, near, some (.frz (.lst (inD far))), some (.frz (.lst (inD (stepL left far)))), o5', none, none] := by
  have hr : left ≠ [] := by
    intro h
    rw [h] at hl
    exact hf (List.eq_nil_of_length_eq_zero (by simpa using hl))
  have iL := last_ix hf
  have iM := last_ix hr
  have bL : (lastI far).natAbs < 2 ^ B := bb _ (last_mem hf)
  have bM : (lastI left).natAbs < 2 ^ A := ba _ (last_mem hr)
  have e1 : ((left.length : Int) - far.length) = (left.length - far.length : Nat) := by omega
  have r := rep0 (p := pOp subI (pCall lenF [pV 4]) (pCall lenF [pV 3])) (env := [a0, a1, near, some (.frz (.lst (inD far))), some (.frz (.lst (inD left))), o5, none, none]) (n := left.length - far.length) (by
    rw [← e1]
    simp [pCall, evPs_n, evPs_c, pV, C.toD, lenF, ofV, pOp, subI]) (by omega)
  have c := fCat_ok r (lP_ok (p := pV 3) (l := inD far) rfl) (by rw [inD_len, inD_len, List.length_replicate]; omega)
  rw [← inD_app] at c
  refine ⟨some (.frz (.lst (inD (List.replicate (left.length - far.length) 0 ++ far)))), ?_⟩
  rw [seq_nx (set_ok (eP_of (pF_ok c)))]
  simp only [List.set_cons_succ, List.set_cons_zero]
  have len : left.length = (List.replicate (left.length - far.length) (0 : Int) ++ far).length := by simp; omega
  have bv : ∀ y ∈ List.replicate (left.length - far.length) (0 : Int) ++ far, y.natAbs < 2 ^ B := fun y hy => by
    rcases List.mem_append.mp hy with z | z
    · rw [(List.mem_replicate.mp z).2]; exact Nat.two_pow_pos B
    · exact bb y z
  obtain ⟨ot, te⟩ := ltrim_v (List.zipWith (fun a b => a * lastI far - lastI left * b) left (List.replicate (left.length - far.length) 0 ++ far))
  have ste : trimI (List.zipWith (fun a b => a * lastI far - lastI left * b) left (List.replicate (left.length - far.length) 0 ++ far)) = stepL left far := rfl
  rw [ste] at te
  generalize List.replicate (left.length - far.length) (0 : Int) ++ far = v at *
  have zc := zipcomp (i := 6) (j := 7) (p := pOp subI (pOp mulI (pV 6) (pIx (pV 3) (pNeg (pK (.int 1))))) (pOp mulI (pIx (pV 4) (pNeg (pK (.int 1)))) (pV 7))) (env := [a0, a1, near, some (.frz (.lst (inD far))), some (.frz (.lst (inD left))), some (.frz (.lst (inD v))), none, none]) (fun a b => a * lastI far - lastI left * b) (u := left) (v := v) fun x hx y hy => by
    refine ⟨[a0, a1, near, some (.frz (.lst (inD far))), some (.frz (.lst (inD left))), some (.frz (.lst (inD v))), some (.frz (.int x)), some (.frz (.int y))], rfl, ?_⟩
    have m1 := mulOk_big (huge_of (ba x hx) (by omega)) (huge_of bL (by omega))
    have m2 := mulOk_big (huge_of bM (by omega)) (huge_of (bv y hy) (by omega))
    refine pOp_v (a := .int (x * lastI far)) (b := .int (lastI left * y)) (v := .int (x * lastI far - lastI left * y)) ?_ ?_ rfl
    · exact pOp_v (a := .int x) (b := .int (lastI far)) (v := .int (x * lastI far)) rfl (pIx_ok (d := .lst (inD far)) (k := .int (-1)) rfl rfl iL) (by simp [mulI, m1])
    · exact pOp_v (a := .int (lastI left)) (b := .int y) (v := .int (lastI left * y)) (pIx_ok (d := .lst (inD left)) (k := .int (-1)) rfl rfl iM) rfl (by simp [mulI, m2])
  have fc := fComp_ok (vs := [6, 7]) (env := [a0, a1, near, some (.frz (.lst (inD far))), some (.frz (.lst (inD left))), some (.frz (.lst (inD v))), none, none]) (zipS_ok (p := pV 4) (q := pV 5) (l := inD left) (m := inD v) rfl rfl) (by rw [zipD_length, inD_len, inD_len]; omega) zc
  rw [set_ok (eP_of (pFn_1 (pF_ok fc) ⟨ot, te⟩))]
  rfl
theorem lcom_inner {a0 a1 near : Option C} {far : List Int} {B : Nat} (tf : Tr far) (hf : far ≠ []) (bb : Bd B far) : ∀ (k : Nat) (left : List Int) (A : Nat) (o5 : Option C), Tr left → left.length ≤ k → Bd A left → left.length ≤ 50 → A + (left.length + 1 - far.length) * (B + 1) ≤ 13000 → ∃ o5',
    sWhile (tP (qOf (pOp (cmpI iGe) (pCall lenF [pV 4]) (pCall lenF [pV 3])))) (sSeq (sSet 5 (eP (pF (fCat (fRep (evPs [pK (.int 0)]) (pOp subI (pCall lenF [pV 4]) (pCall lenF [pV 3]))) (lP (pV 3)))))) (sSet 4 (eP (pFn _law_trim_m [pF (fComp [6, 7] (gTupD 2 (gsCons (gV true 6) (gsCons (gV true 7) gsNil))) (fun _ => some true) (pOp subI (pOp mulI (pV 6) (pIx (pV 3) (pNeg (pK (.int 1))))) (pOp mulI (pIx (pV 4) (pNeg (pK (.int 1)))) (pV 7))) (zipS (pV 4) (pV 5)))])))) [a0, a1, near, some (.frz (.lst (inD far))), some (.frz (.lst (inD left))), o5, none, none] =
      .nx [a0, a1, near, some (.frz (.lst (inD far))), some (.frz (.lst (inD (remL far k left)))), o5', none, none] := by
  intro k
  induction k with
  | zero =>
    intro left A o5 tl hk ba l1 hA
    have : 0 < far.length := List.length_pos_iff.mpr hf
    refine ⟨o5, while_f ?_⟩
    have hl : ¬ far.length ≤ left.length := by omega
    simp [tP, qOf, pOp, pCall, evPs_n, evPs_c, pV, C.toD, lenF, ofV, cmpI, iGe, hl, remL]
  | succ k ih =>
    intro left A o5 tl hk ba l1 hA
    by_cases hl : far.length ≤ left.length
    · obtain ⟨s1, s2, s3, s4, s5⟩ := step_spec tl tf hf hl ba bb
      have hAB : (stepL left far).length + 1 - far.length + 1 ≤ left.length + 1 - far.length := by omega
      have hm := Nat.mul_le_mul_right (B + 1) hAB
      rw [Nat.add_mul, Nat.one_mul] at hm
      obtain ⟨p5, e⟩ := lcom_step (a0 := a0) (a1 := a1) (near := near) (o5 := o5) tf hf bb tl hl ba l1 (by omega)
      obtain ⟨o5', i⟩ := ih (stepL left far) (A + (B + 1)) p5 s1 (by omega) s3 (by omega) (by omega)
      refine ⟨o5', ?_⟩
      rw [remL, if_pos hl, ← i]
      refine while_t ?_ e
      simp [tP, qOf, pOp, pCall, evPs_n, evPs_c, pV, C.toD, lenF, ofV, cmpI, iGe, hl]
    · refine ⟨o5, ?_⟩
      rw [remL, if_neg hl]
      refine while_f ?_
      simp [tP, qOf, pOp, pCall, evPs_n, evPs_c, pV, C.toD, lenF, ofV, cmpI, iGe, hl]
theorem lcom_turn {fin : Nat → Nat → Bool} {k a b : Nat} {near far : List Int} (h : okB fin (k + 1) near.length far.length a b = true) (tn : Tr near) (tf : Tr far) (hf : far ≠ []) (bn : Bd a near) (bf : Bd b far) (h1 : 1 ≤ a) (l1 : near.length ≤ 20) (l2 : far.length ≤ 20) {a0 a1 o4 o5 : Option C} :
    ∃ (r2 : List Int) (o4' o5' : Option C), (sSeq (sSet 4 (eP (pV 2))) (sSeq (sWhile (tP (qOf (pOp (cmpI iGe) (pCall lenF [pV 4]) (pCall lenF [pV 3])))) (sSeq (sSet 5 (eP (pF (fCat (fRep (evPs [pK (.int 0)]) (pOp subI (pCall lenF [pV 4]) (pCall lenF [pV 3]))) (lP (pV 3)))))) (sSet 4 (eP (pFn _law_trim_m [pF (fComp [6, 7] (gTupD 2 (gsCons (gV true 6) (gsCons (gV true 7) gsNil))) (fun _ => some true) (pOp subI (pOp mulI (pV 6) (pIx (pV 3) (pNeg (pK (.int 1))))) (pOp mulI (pIx (pV 4) (pNeg (pK (.int 1)))) (pV 7))) (zipS (pV 4) (pV 5)))]))))) (sAsg (eP (pTup [pV 3, pFn _law_bare_m [pV 4]])) (gTupD 2 (gsCons (gV false 2) (gsCons (gV false 3) gsNil)))))) [a0, a1, some (.frz (.lst (inD near))), some (.frz (.lst (inD far))), o4, o5, none, none] =
      .nx [a0, a1, some (.frz (.lst (inD far))), some (.frz (.lst (inD r2))), o4', o5', none, none] ∧ ∃ b', 1 ≤ b' ∧ okB fin k far.length r2.length b b' = true ∧ Bd b' r2 ∧ Red near far r2 ∧ Tr r2 ∧ r2.length ≤ 20 := by
  have hm : far.length ≠ 0 := fun z => hf (List.eq_nil_of_length_eq_zero z)
  obtain ⟨k1, k2, k3, _⟩ := ok_next h hm
  obtain ⟨r1, r2, r3, r4⟩ := rem_spec tf hf bf near.length tn bn (Nat.le_refl _)
  obtain ⟨o5', i⟩ := lcom_inner (a0 := a0) (a1 := a1) (near := some (.frz (.lst (inD near)))) tf hf bf near.length near a o5 tn (Nat.le_refl _) bn (by omega) k3
  obtain ⟨b', t1, t2, t3, t4, t5, t6⟩ := turn h tn tf hf bn bf h1 rfl (bare_nrm r1)
  have bv := bare_v (l := remL far near.length near) (by unfold Sm; omega) (huge_bd r3 k3)
  refine ⟨bareL (remL far near.length near), some (.frz (.lst (inD (remL far near.length near)))), o5', ?_, b', t1, t2, t3, t4, t5, by omega⟩
  rw [seq_nx (set_ok (eP_of (d := .lst (inD near)) rfl))]
  simp only [List.set_cons_succ, List.set_cons_zero]
  rw [seq_nx i]
  have e := pFn_1 (p := pV 4) (env := [a0, a1, some (.frz (.lst (inD near))), some (.frz (.lst (inD far))), some (.frz (.lst (inD (remL far near.length near)))), o5', none, none]) (a := .lst (inD (remL far near.length near))) rfl bv
  refine asg_ok (eP_of (d := .tup [.lst (inD far), .lst (inD (bareL (remL far near.length near)))]) ?_) rfl
  unfold pTup
  rw [evPs_2 (p := pV 3) (a := .lst (inD far)) rfl e]
  rfl
theorem lcom_loop (fin : Nat → Nat → Bool) (a0 a1 : Option C) : ∀ (k : Nat) (near far : List Int) (a b : Nat) (o4 o5 : Option C), okB fin k near.length far.length a b = true → Tr near → Tr far → Bd a near → Bd b far → 1 ≤ a → 1 ≤ b → near.length ≤ 20 → far.length ≤ 20 →
    ∃ (g : List Int) (a' : Nat) (o4' o5' : Option C), sWhile (tP (qOf (pOp neV' (pV 3) (pF (evPs []))))) (sSeq (sSet 4 (eP (pV 2))) (sSeq (sWhile (tP (qOf (pOp (cmpI iGe) (pCall lenF [pV 4]) (pCall lenF [pV 3])))) (sSeq (sSet 5 (eP (pF (fCat (fRep (evPs [pK (.int 0)]) (pOp subI (pCall lenF [pV 4]) (pCall lenF [pV 3]))) (lP (pV 3)))))) (sSet 4 (eP (pFn _law_trim_m [pF (fComp [6, 7] (gTupD 2 (gsCons (gV true 6) (gsCons (gV true 7) gsNil))) (fun _ => some true) (pOp subI (pOp mulI (pV 6) (pIx (pV 3) (pNeg (pK (.int 1))))) (pOp mulI (pIx (pV 4) (pNeg (pK (.int 1)))) (pV 7))) (zipS (pV 4) (pV 5)))]))))) (sAsg (eP (pTup [pV 3, pFn _law_bare_m [pV 4]])) (gTupD 2 (gsCons (gV false 2) (gsCons (gV false 3) gsNil)))))) [a0, a1, some (.frz (.lst (inD near))), some (.frz (.lst (inD far))), o4, o5, none, none] =
      .nx [a0, a1, some (.frz (.lst (inD g))), some (.frz (.lst [])), o4', o5', none, none] ∧ Spec near far g ∧ Tr g ∧ Bd a' g ∧ fin g.length a' = true ∧ g.length ≤ 20 ∧ 1 ≤ a' := by
  intro k
  induction k with
  | zero => intro near far a b o4 o5 h; cases h
  | succ k ih =>
    intro near far a b o4 o5 h tn tf bn bf h1 h2 l1 l2
    by_cases hf : far = []
    · subst hf
      refine ⟨near, a, o4, o5, ?_, spec_nil near, tn, bn, ?_, l1, h1⟩
      · refine while_f (tP_of (qOf_b (pOp_v (a := .lst []) (b := .lst []) (v := .bl false) rfl rfl ?_)))
        simp [neV', show eqD (.lst []) (.lst []) = some true from eqD_ints0 []]
      · unfold okB at h
        simp only [List.length_nil, if_true, Bool.and_eq_true] at h
        exact h.2
    · obtain ⟨r2, p4, p5, e, b', t1, t2, t3, t4, t5, t6⟩ := lcom_turn h tn tf hf bn bf h1 l1 l2 (a0 := a0) (a1 := a1) (o4 := o4) (o5 := o5)
      obtain ⟨g, a', o4', o5', i1, i2, i3⟩ := ih far r2 b b' p4 p5 t2 tf t5 bf t3 h2 t1 l2 t6
      refine ⟨g, a', o4', o5', (while_t (tP_of (qOf_b (pOp_v (a := .lst (inD far)) (b := .lst []) (v := .bl true) rfl rfl ?_))) e).trans i1, spec_step t4 i2, i3⟩
      have : far.isEmpty = false := by simpa using hf
      simp [neV', eqD_ints0, this]
theorem lcom_v (fin : Nat → Nat → Bool) {k a b : Nat} {one two : List Int} (h : okB fin k one.length two.length a b = true) (t1 : Tr one) (t2 : Tr two) (b1 : Bd a one) (b2 : Bd b two) (h1 : 1 ≤ a) (h2 : 1 ≤ b) (l1 : one.length ≤ 20) (l2 : two.length ≤ 20) (ha : a ≤ 13000) (hb : b ≤ 13000) :
    ∃ (g : List Int) (a' : Nat), Gives _law_common_m [.frz (.lst (inD one)), .frz (.lst (inD two))] (.frz (.lst (inD g))) ∧ Spec one two g ∧ Tr g ∧ Bd a' g ∧ fin g.length a' = true ∧ g.length ≤ 20 ∧ 1 ≤ a' := by
  obtain ⟨p1, p2, p3, p4, p5⟩ := bare_nrm t1
  obtain ⟨q1, q2, q3, q4, q5⟩ := bare_nrm t2
  obtain ⟨g, a', o4, o5, i1, i2, i3⟩ := lcom_loop fin (some (.frz (.lst (inD one)))) (some (.frz (.lst (inD two)))) k (bareL one) (bareL two) a b none none (by rw [p3, q3]; exact h) p2 q2 (p4 _ b1) (q4 _ b2) h1 h2 (by omega) (by omega)
  refine ⟨g, a', gives_rt ⟨[some (.frz (.lst (inD one))), some (.frz (.lst (inD two))), some (.frz (.lst (inD g))), some (.frz (.lst [])), o4, o5, none, none], ?_⟩, spec_start p1 q1 i2, i3⟩
  rw [show startE 8 [.frz (.lst (inD one)), .frz (.lst (inD two))] = [some (.frz (.lst (inD one))), some (.frz (.lst (inD two))), none, none, none, none, none, none] from rfl]
  unfold _law_common_b
  have e1 := pFn_1 (p := pV 0) (env := [some (.frz (.lst (inD one))), some (.frz (.lst (inD two))), none, none, none, none, none, none]) (a := .lst (inD one)) rfl (bare_v (by unfold Sm; omega) (huge_bd b1 ha))
  have e2 := pFn_1 (p := pV 1) (env := [some (.frz (.lst (inD one))), some (.frz (.lst (inD two))), none, none, none, none, none, none]) (a := .lst (inD two)) rfl (bare_v (by unfold Sm; omega) (huge_bd b2 hb))
  rw [seq_nx (asg_ok (t := gTupD 2 (gsCons (gV false 2) (gsCons (gV false 3) gsNil))) (eP_of (d := .tup [.lst (inD (bareL one)), .lst (inD (bareL two))]) (by
    unfold pTup
    rw [evPs_2 e1 e2]
    rfl)) rfl)]
  exact (seq_nx i1).trans (ret_ok (eP_of rfl))
end k71
namespace k71
open PySem PySem.Spec PyProof.Rows L2 PL
/-! ### products -/
def rowL (c : Int) : List Int → Nat → List Int → List Int
  | F, _, [] => F
  | F, s, y :: b => rowL c (F.set s (F.getD s 0 + c * y)) (s + 1) b
def mulF (b : List Int) : List Int → Nat → List Int → List Int
  | F, _, [] => F
  | F, s, c :: a => mulF b (rowL c F s b) (s + 1) a
theorem val_set (v x : Int) : ∀ (F : List Int) (s : Nat), s < F.length → val (F.set s (F.getD s 0 + v)) x = val F x + v * x ^ s
  | a :: F, 0, _ => by simp only [List.set_cons_zero, List.getD_cons_zero, val]; grind
  | a :: F, s + 1, h => by
    simp only [List.set_cons_succ, List.getD_cons_succ, val, val_set v x F s (by simpa using h), Int.pow_succ]
    grind
theorem nrm_set (v : Int) : ∀ (F : List Int) (s : Nat), nrm (F.set s (F.getD s 0 + v)) ≤ nrm F + v.natAbs
  | [], s => by simp [nrm]
  | a :: F, 0 => by simp only [List.set_cons_zero, List.getD_cons_zero, nrm]; omega
  | a :: F, s + 1 => by
    have := nrm_set v F s
    simp only [List.set_cons_succ, List.getD_cons_succ, nrm]
    omega
theorem row_len (c : Int) : ∀ (b F : List Int) (s : Nat), (rowL c F s b).length = F.length
  | [], F, s => rfl
  | y :: b, F, s => by rw [rowL, row_len c b]; simp
theorem mul_len (b : List Int) : ∀ (a F : List Int) (s : Nat), (mulF b F s a).length = F.length
  | [], F, s => rfl
  | c :: a, F, s => by rw [mulF, mul_len b a, row_len]
theorem row_val (c x : Int) : ∀ (b F : List Int) (s : Nat), s + b.length ≤ F.length → val (rowL c F s b) x = val F x + c * x ^ s * val b x
  | [], F, s, _ => by simp [rowL, val]
  | y :: b, F, s, h => by
    simp only [List.length_cons] at h
    rw [rowL, row_val c x b _ _ (by simp; omega), val_set _ _ _ _ (by omega)]
    simp only [val, Int.pow_succ]
    grind
theorem row_nrm (c : Int) : ∀ (b F : List Int) (s : Nat), nrm (rowL c F s b) ≤ nrm F + c.natAbs * nrm b
  | [], F, s => by simp [rowL, nrm]
  | y :: b, F, s => by
    have h1 := row_nrm c b (F.set s (F.getD s 0 + c * y)) (s + 1)
    have h2 := nrm_set (c * y) F s
    rw [Int.natAbs_mul] at h2
    rw [rowL]
    simp only [nrm, Nat.mul_add]
    omega
theorem mul_val (b : List Int) (x : Int) : ∀ (a F : List Int) (s : Nat), (a ≠ [] → s + a.length + b.length ≤ F.length + 1) → val (mulF b F s a) x = val F x + x ^ s * (val a x * val b x)
  | [], F, s, _ => by simp [mulF, val]
  | c :: a, F, s, h => by
    have h := h (by simp)
    simp only [List.length_cons] at h
    rw [mulF, mul_val b x a _ _ (by intro _; rw [row_len]; omega), row_val _ _ _ _ _ (by omega)]
    simp only [val, Int.pow_succ]
    grind
theorem mul_nrm (b : List Int) : ∀ (a F : List Int) (s : Nat), nrm (mulF b F s a) ≤ nrm F + nrm a * nrm b
  | [], F, s => by simp [mulF, nrm]
  | c :: a, F, s => by
    have h1 := mul_nrm b a (rowL c F s b) (s + 1)
    have h2 := row_nrm c b F s
    rw [mulF]
    simp only [nrm, Nat.add_mul]
    omega
theorem row_zero : ∀ (b F : List Int) (s : Nat), rowL 0 F s b = F
  | [], F, s => rfl
  | y :: b, F, s => by
    rw [rowL]
    have : F.set s (F.getD s 0 + 0 * y) = F := by
      by_cases h : s < F.length
      · simp [List.getD_eq_getElem?_getD, h]
      · rw [List.set_eq_of_length_le (by omega)]
    rw [this]
    exact row_zero b F (s + 1)
theorem row_get (c : Int) (i : Nat) : ∀ (b F : List Int) (s : Nat), s + b.length ≤ i → (rowL c F s b).getD i 0 = F.getD i 0
  | [], F, s, _ => rfl
  | y :: b, F, s, h => by
    simp only [List.length_cons] at h
    rw [rowL, row_get c i b _ _ (by omega)]
    simp only [List.getD_eq_getElem?_getD]
    rw [List.getElem?_set_ne (by omega)]
theorem mul_get (b : List Int) (i : Nat) : ∀ (a F : List Int) (s : Nat), s + a.length + b.length ≤ i + 1 → (mulF b F s a).getD i 0 = F.getD i 0
  | [], F, s, _ => rfl
  | c :: a, F, s, h => by
    simp only [List.length_cons] at h
    rw [mulF, mul_get b i a _ _ (by omega), row_get c i b F s (by omega)]
theorem row_app (c y : Int) : ∀ (b F : List Int) (s : Nat), rowL c F s (b ++ [y]) = (rowL c F s b).set (s + b.length) ((rowL c F s b).getD (s + b.length) 0 + c * y)
  | [], F, s => rfl
  | z :: b, F, s => by
    have := row_app c y b (F.set s (F.getD s 0 + c * z)) (s + 1)
    rw [show s + 1 + b.length = s + (z :: b).length by simp; omega] at this
    exact this
theorem mul_app (b : List Int) (c : Int) : ∀ (a F : List Int) (s : Nat), mulF b F s (a ++ [c]) = rowL c (mulF b F s a) (s + a.length) b
  | [], F, s => rfl
  | z :: a, F, s => by
    have := mul_app b c a (rowL z F s b) (s + 1)
    rw [show s + 1 + a.length = s + (z :: a).length by simp; omega] at this
    exact this
def mulL (a b : List Int) : List Int := if a = [] ∨ b = [] then [] else mulF b (List.replicate (a.length + b.length - 1) 0) 0 a
theorem mulL_val {a b : List Int} (x : Int) : val (mulL a b) x = val a x * val b x := by
  unfold mulL
  split
  · rename_i h
    rcases h with rfl | rfl <;> simp [val]
  · rename_i h
    have : b ≠ [] := fun z => h (.inr z)
    have : 0 < b.length := List.length_pos_iff.mpr this
    rw [mul_val _ _ _ _ _ (by intro _; simp; omega), val_zeros]
    simp
theorem mulL_nrm (a b : List Int) : nrm (mulL a b) ≤ nrm a * nrm b := by
  unfold mulL
  split
  · simp [nrm]
  · have := mul_nrm b a (List.replicate (a.length + b.length - 1) 0) 0
    rw [nrm_zeros] at this
    omega
theorem mulL_len {a b : List Int} (ha : a ≠ []) (hb : b ≠ []) : (mulL a b).length = a.length + b.length - 1 := by
  unfold mulL
  rw [if_neg (by simp [ha, hb]), mul_len]
  simp
theorem mulL_last {a b : List Int} (ta : Tr a) (tb : Tr b) (ha : a ≠ []) (hb : b ≠ []) : lastI (mulL a b) = lastI a * lastI b ∧ lastI a * lastI b ≠ 0 := by
  obtain ⟨u, M, e1, hM, l1⟩ := snoc_of ta ha
  obtain ⟨w, L, e2, hL, l2⟩ := snoc_of tb hb
  refine ⟨?_, by rw [l1, l2]; exact Int.mul_ne_zero hM hL⟩
  have len := mulL_len ha hb
  have n1 : a.length = u.length + 1 := by rw [e1]; simp
  have n2 : b.length = w.length + 1 := by rw [e2]; simp
  have hne : mulL a b ≠ [] := fun z => by rw [z] at len; simp at len; omega
  have gl : lastI (mulL a b) = (mulL a b).getD (u.length + w.length) 0 := by
    rw [lastI, List.getLast?_eq_getElem?, len, List.getD_eq_getElem?_getD]
    congr 2
    omega
  rw [gl, l1, l2]
  unfold mulL
  rw [if_neg (by simp [ha, hb])]
  generalize hF : List.replicate (a.length + b.length - 1) (0 : Int) = F
  have hFl : F.length = u.length + w.length + 1 := by rw [← hF]; simp; omega
  rw [e1, mul_app, Nat.zero_add]
  conv => lhs; rw [show rowL M (mulF b F 0 u) u.length b = rowL M (mulF b F 0 u) u.length (w ++ [L]) by rw [← e2]]
  rw [row_app]
  have z : (rowL M (mulF b F 0 u) u.length w).getD (u.length + w.length) 0 = 0 := by
    rw [row_get _ _ _ _ _ (by omega), mul_get _ _ _ _ _ (by omega), ← hF]
    simp [List.getD_eq_getElem?_getD, List.getElem?_replicate]
    split <;> rfl
  rw [z]
  simp only [List.getD_eq_getElem?_getD]
  rw [List.getElem?_set_self (by rw [row_len, mul_len]; omega)]
  simp
theorem mulL_tr {a b : List Int} (ta : Tr a) (tb : Tr b) : Tr (mulL a b) := by
  by_cases h : a = [] ∨ b = []
  · unfold mulL; rw [if_pos h]; exact tr_nil
  · have ha : a ≠ [] := fun z => h (.inl z)
    have hb : b ≠ [] := fun z => h (.inr z)
    obtain ⟨h1, h2⟩ := mulL_last ta tb ha hb
    intro x hx
    rw [lastI, hx] at h1
    simp at h1
    rw [h1]
    exact h2
theorem mulT {a b : List Int} (ta : Tr a) (tb : Tr b) : trimI (mulF b (List.replicate (a.length + b.length) 0) 0 a) = mulL a b :=
  val_ext (tr_trim _) (mulL_tr ta tb) fun x => by
    rw [val_trim, mul_val _ _ _ _ _ (by intro _; simp), val_zeros, mulL_val]
    simp
/-! the code of products -/
theorem getD_eq {F : List Int} {i : Nat} (h : i < F.length) : F.getD i 0 = F[i] := by simp [List.getD_eq_getElem?_getD, h]
theorem asg_set {i s : Nat} {q : List Int} {M : Int} {pS pM : P} {env : Slots} (h0 : env[i]? = some (some (.own (fz (inD q))))) (h1 : pS env = some (.int (s : Int))) (h2 : pM env = some (.int M)) (hs : s < q.length) :
    sAsg (eP (pOp addI (bKf (kIx (PL.kV i) pS)) pM)) (gIx i (paV i) pS) env = .nx (env.set i (some (.own (fz (inD (q.set s (q[s] + M))))))) := by
  have g : (fz (inD q))[s]? = some (.frz (.int q[s])) := by simp [fz, inD, hs]
  have ix : ixN (fz (inD q)).length (s : Int) = some s := ixN_nat (by simpa using hs)
  have ix2 : atI (fz (inD q)) (s : Int) = some (.frz (.int q[s])) := by
    rw [atI_nat (by simpa using hs)]
    simp [fz, inD]
  refine asg_ok (c := .frz (.int (q[s] + M))) (e := env) (eP_of (pOp_v (a := .int q[s]) (b := .int M) (v := .int (q[s] + M)) ?_ h2 rfl)) ?_
  · simp only [bKf, kIx, PL.kV, h0, h1, ixC, ix2, Option.map_some, C.toD]
  · simp only [gIx, paV, h0, Option.bind_some, ownAt, getP, h1, intOf, ix, Option.map_some, setAt, setP, C.toD, fz_set]
def enF (s : Nat) (l : List Int) : List D := ((inD l).zipIdx s).map fun p => D.tup [.int (p.2 : Int), p.1]
theorem enF_cons (s : Nat) (y : Int) (l : List Int) : enF s (y :: l) = .tup [.int (s : Int), .int y] :: enF (s + 1) l := rfl
theorem enumS_ok {p : P} {env : Slots} {l : List Int} (h : p env = some (.lst (inD l))) : mP (enumS p) env = .ok (enF 0 l) env := by
  unfold mP enumS
  rw [fSq_ok h]
  rfl
theorem inner_gen {A B : Option C} {at_ : Nat} {c : Int} (bd : SS) (hbd : ∀ (F : List Int) (t : Nat) (y : Int), at_ + t < F.length → y.natAbs < HUGE → bd [A, B, some (.own (fz (inD F))), some (.frz (.int (at_ : Int))), some (.frz (.int c)), some (.frz (.int (t : Int))), some (.frz (.int y))] = .nx [A, B, some (.own (fz (inD (F.set (at_ + t) (F.getD (at_ + t) 0 + c * y))))), some (.frz (.int (at_ : Int))), some (.frz (.int c)), some (.frz (.int (t : Int))), some (.frz (.int y))]) :
    ∀ (b : List Int) (t : Nat) (F : List Int) (o5 o6 : Option C), at_ + t + b.length ≤ F.length → (∀ y ∈ b, y.natAbs < HUGE) → ∃ o5' o6', forL (gTupD 2 (gsCons (gV false 5) (gsCons (gV false 6) gsNil))) bd (enF t b) [A, B, some (.own (fz (inD F))), some (.frz (.int (at_ : Int))), some (.frz (.int c)), o5, o6] = .nx [A, B, some (.own (fz (inD (rowL c F (at_ + t) b)))), some (.frz (.int (at_ : Int))), some (.frz (.int c)), o5', o6']
  | [], t, F, o5, o6, _, _ => ⟨o5, o6, rfl⟩
  | y :: b, t, F, o5, o6, h, hy => by
    simp only [List.length_cons] at h
    obtain ⟨o5', o6', ih⟩ := inner_gen bd hbd b (t + 1) (F.set (at_ + t) (F.getD (at_ + t) 0 + c * y)) (some (.frz (.int (t : Int)))) (some (.frz (.int y))) (by simp; omega) fun z hz => hy z (by simp [hz])
    refine ⟨o5', o6', ?_⟩
    rw [rowL, Nat.add_assoc, ← ih, enF_cons, forL]
    rw [show gTupD 2 (gsCons (gV false 5) (gsCons (gV false 6) gsNil)) (.tup [.int (t : Int), .int y]) [A, B, some (.own (fz (inD F))), some (.frz (.int (at_ : Int))), some (.frz (.int c)), o5, o6] = some [A, B, some (.own (fz (inD F))), some (.frz (.int (at_ : Int))), some (.frz (.int c)), some (.frz (.int (t : Int))), some (.frz (.int y))] from rfl]
    simp only [hbd F t y (by omega) (hy y (by simp))]
theorem outer_gen {A : Option C} {b : List Int} (row : SS) (hrow : ∀ (F : List Int) (t : Nat) (c : Int) (o5 o6 : Option C), t + b.length ≤ F.length → c.natAbs < HUGE → ∃ o5' o6', row [A, some (.frz (.lst (inD b))), some (.own (fz (inD F))), some (.frz (.int (t : Int))), some (.frz (.int c)), o5, o6] = .nx [A, some (.frz (.lst (inD b))), some (.own (fz (inD (rowL c F t b)))), some (.frz (.int (t : Int))), some (.frz (.int c)), o5', o6']) :
    ∀ (a : List Int) (t : Nat) (F : List Int) (o3 o4 o5 o6 : Option C), (a ≠ [] → t + a.length + b.length ≤ F.length + 1) → (∀ y ∈ a, y.natAbs < HUGE) → ∃ o3' o4' o5' o6', forL (gTupD 2 (gsCons (gV false 3) (gsCons (gV false 4) gsNil))) row (enF t a) [A, some (.frz (.lst (inD b))), some (.own (fz (inD F))), o3, o4, o5, o6] = .nx [A, some (.frz (.lst (inD b))), some (.own (fz (inD (mulF b F t a)))), o3', o4', o5', o6']
  | [], t, F, o3, o4, o5, o6, _, _ => ⟨o3, o4, o5, o6, rfl⟩
  | c :: a, t, F, o3, o4, o5, o6, h, hy => by
    have h := h (by simp)
    simp only [List.length_cons] at h
    obtain ⟨p5, p6, e⟩ := hrow F t c o5 o6 (by omega) (hy c (by simp))
    obtain ⟨o3', o4', o5', o6', ih⟩ := outer_gen row hrow a (t + 1) (rowL c F t b) (some (.frz (.int (t : Int)))) (some (.frz (.int c))) p5 p6 (by intro _; rw [row_len]; omega) fun z hz => hy z (by simp [hz])
    refine ⟨o3', o4', o5', o6', ?_⟩
    rw [mulF, ← ih, enF_cons, forL]
    rw [show gTupD 2 (gsCons (gV false 3) (gsCons (gV false 4) gsNil)) (.tup [.int (t : Int), .int c]) [A, some (.frz (.lst (inD b))), some (.own (fz (inD F))), o3, o4, o5, o6] = some [A, some (.frz (.lst (inD b))), some (.own (fz (inD F))), some (.frz (.int (t : Int))), some (.frz (.int c)), o5, o6] from rfl]
    simp only [e]
theorem eF_ok {f : PLs} {env : Slots} {l : List D} (h : f env = some l) : eF f env = .ok (.own (fz l)) env := by
  unfold eF
  rw [h]
  rfl
theorem if_no {q : M Bool} {f : SS} {env e : Slots} (h : q env = .ok false e) : sIf q f sNx env = .nx e := if_f h
theorem times_v {a b : List Int} (ha : a.length ≤ 40) (hb : b.length ≤ 40) (ba : ∀ y ∈ a, y.natAbs < HUGE) (bb : ∀ y ∈ b, y.natAbs < HUGE) : Gives times_lines_m [.frz (.lst (inD a)), .frz (.lst (inD b))] (.frz (.lst (inD (mulL a b)))) := by
  by_cases h : a = [] ∨ b = []
  · refine gives_rt ⟨[some (.frz (.lst (inD a))), some (.frz (.lst (inD b))), none, none, none, none, none], seq_rt ?_⟩
    rw [show startE 7 [.frz (.lst (inD a)), .frz (.lst (inD b))] = [some (.frz (.lst (inD a))), some (.frz (.lst (inD b))), none, none, none, none, none] from rfl]
    have c : (tP (qOr (qOf (pOp eqV' (pCall lenF [pV 0]) (pK (.int 0)))) (qOf (pOp eqV' (pCall lenF [pV 1]) (pK (.int 0)))))) [some (.frz (.lst (inD a))), some (.frz (.lst (inD b))), none, none, none, none, none] = .ok true [some (.frz (.lst (inD a))), some (.frz (.lst (inD b))), none, none, none, none, none] := by
      rcases h with rfl | rfl
      · simp [tP, qOr, qOf, pOp, pCall, evPs_n, evPs_c, pV, C.toD, lenF, ofV, pK, eqV']
      · cases a with
        | nil => simp [tP, qOr, qOf, pOp, pCall, evPs_n, evPs_c, pV, C.toD, lenF, ofV, pK, eqV']
        | cons x a =>
          have : ((a.length : Int) + 1 == 0) = false := by rw [beq_eq_false_iff_ne]; omega
          simp [tP, qOr, qOf, pOp, pCall, evPs_n, evPs_c, pV, C.toD, lenF, ofV, pK, eqV', this]
    rw [if_t c]
    unfold mulL
    rw [if_pos h]
    exact ret_ok (eP_of rfl)
  · have hae : a ≠ [] := fun z => h (.inl z)
    have hbe : b ≠ [] := fun z => h (.inr z)
    have la : 0 < a.length := List.length_pos_iff.mpr hae
    have lb : 0 < b.length := List.length_pos_iff.mpr hbe
    obtain ⟨o3, o4, o5, o6, L⟩ := outer_gen (A := some (.frz (.lst (inD a)))) (b := b) (sIf (tP (qOf (pOp neV' (pV 4) (pK (.int 0))))) (sFor (mP (enumS (pV 1))) (gTupD 2 (gsCons (gV false 5) (gsCons (gV false 6) gsNil))) (sAugIx addI 2 (paV 2) (pOp addI (pV 3) (pV 5)) (pOp mulI (pV 4) (pV 6)))) (sNx)) (fun F t c o5 o6 hF hc => by
      by_cases hz : c = 0
      · subst hz
        refine ⟨o5, o6, (if_f (tP_of (qOf_b (pOp_v (a := .int 0) (b := .int 0) (v := .bl false) rfl rfl (by simp [neV']))))).trans ?_⟩
        rw [row_zero]
        rfl
      · obtain ⟨p5, p6, e⟩ := inner_gen (A := some (.frz (.lst (inD a)))) (B := some (.frz (.lst (inD b)))) (at_ := t) (c := c) (sAugIx addI 2 (paV 2) (pOp addI (pV 3) (pV 5)) (pOp mulI (pV 4) (pV 6))) (fun F t2 y hF hy => by
          have := aug_ok (i := 2) (s := t + t2) (q := F) (M := c * y) (pS := pOp addI (pV 3) (pV 5)) (pM := pOp mulI (pV 4) (pV 6)) (env := [some (.frz (.lst (inD a))), some (.frz (.lst (inD b))), some (.own (fz (inD F))), some (.frz (.int (t : Int))), some (.frz (.int c)), some (.frz (.int (t2 : Int))), some (.frz (.int y))]) rfl rfl (pOp_v (a := .int c) (b := .int y) (v := .int (c * y)) rfl rfl (by simp [mulI, mulOk_big hc hy])) hF
          rw [this, getD_eq hF]
          rfl) b 0 F o5 o6 hF bb
        refine ⟨p5, p6, (if_t (tP_of (qOf_b (pOp_v (a := .int c) (b := .int 0) (v := .bl true) rfl rfl (by simp [neV', hz]))))).trans ?_⟩
        exact (for_ok (enumS_ok rfl)).trans e) a 0 (List.replicate (a.length + b.length - 1) 0) none none none none (by intro _; simp; omega) ba
    refine gives_rt ⟨[some (.frz (.lst (inD a))), some (.frz (.lst (inD b))), some (.frz (.lst (inD (mulL a b)))), o3, o4, o5, o6], ?_⟩
    rw [show startE 7 [.frz (.lst (inD a)), .frz (.lst (inD b))] = [some (.frz (.lst (inD a))), some (.frz (.lst (inD b))), none, none, none, none, none] from rfl]
    unfold times_lines_b
    have c : (tP (qOr (qOf (pOp eqV' (pCall lenF [pV 0]) (pK (.int 0)))) (qOf (pOp eqV' (pCall lenF [pV 1]) (pK (.int 0)))))) [some (.frz (.lst (inD a))), some (.frz (.lst (inD b))), none, none, none, none, none] = .ok false [some (.frz (.lst (inD a))), some (.frz (.lst (inD b))), none, none, none, none, none] := by
      have h1 : ((a.length : Int) == 0) = false := by rw [beq_eq_false_iff_ne]; omega
      have h2 : ((b.length : Int) == 0) = false := by rw [beq_eq_false_iff_ne]; omega
      simp [tP, qOr, qOf, pOp, pCall, evPs_n, evPs_c, pV, C.toD, lenF, ofV, pK, eqV', h1, h2]
    rw [seq_nx (if_no c)]
    have e1 : ((a.length : Int) + b.length - 1) = (a.length + b.length - 1 : Nat) := by omega
    have r := rep0 (p := pOp subI (pOp addI (pCall lenF [pV 0]) (pCall lenF [pV 1])) (pK (.int 1))) (env := [some (.frz (.lst (inD a))), some (.frz (.lst (inD b))), none, none, none, none, none]) (n := a.length + b.length - 1) (by
      rw [← e1]
      simp [pCall, evPs_n, evPs_c, pV, C.toD, lenF, ofV, pOp, subI, addI, pK]) (by omega)
    rw [seq_nx (set_ok (h := eF (fRep (evPs [pK (.int 0)]) (pOp subI (pOp addI (pCall lenF [pV 0]) (pCall lenF [pV 1])) (pK (.int 1))))) (c := .own (fz (inD (List.replicate (a.length + b.length - 1) 0)))) (eF_ok r))]
    simp only [List.set_cons_succ, List.set_cons_zero]
    rw [seq_nx ((for_ok (enumS_ok (l := a) rfl)).trans L)]
    have hm : mulL a b = mulF b (List.replicate (a.length + b.length - 1) 0) 0 a := by unfold mulL; rw [if_neg h]
    rw [hm]
    refine ret_ok ?_
    simp [eV, C.toD]
theorem len_p {p : P} {env : Slots} {l : List Int} (h : p env = some (.lst (inD l))) : pCall lenF [p] env = some (.int (l.length : Int)) := by
  have := pCall_1 (fn := lenF) (v := .int (l.length : Int)) h (by simp [lenF])
  exact this
theorem ltimes_v {a b : List Int} (ta : Tr a) (tb : Tr b) (ha : a.length ≤ 40) (hb : b.length ≤ 40) (ba : ∀ y ∈ a, y.natAbs < HUGE) (bb : ∀ y ∈ b, y.natAbs < HUGE) : Gives _law_times_m [.frz (.lst (inD a)), .frz (.lst (inD b))] (.frz (.lst (inD (mulL a b)))) := by
  obtain ⟨o3, o4, o5, o6, L⟩ := outer_gen (A := some (.frz (.lst (inD a)))) (b := b) (sFor (mP (enumS (pV 1))) (gTupD 2 (gsCons (gV false 5) (gsCons (gV false 6) gsNil))) (sAsg (eP (pOp addI (bKf (kIx (PL.kV 2) (pOp addI (pV 3) (pV 5)))) (pOp mulI (pV 4) (pV 6)))) (gIx 2 (paV 2) (pOp addI (pV 3) (pV 5))))) (fun F t c o5 o6 hF hc => by
      obtain ⟨p5, p6, e⟩ := inner_gen (A := some (.frz (.lst (inD a)))) (B := some (.frz (.lst (inD b)))) (at_ := t) (c := c) (sAsg (eP (pOp addI (bKf (kIx (PL.kV 2) (pOp addI (pV 3) (pV 5)))) (pOp mulI (pV 4) (pV 6)))) (gIx 2 (paV 2) (pOp addI (pV 3) (pV 5)))) (fun F t2 y hF hy => by
          have := asg_set (i := 2) (s := t + t2) (q := F) (M := c * y) (pS := pOp addI (pV 3) (pV 5)) (pM := pOp mulI (pV 4) (pV 6)) (env := [some (.frz (.lst (inD a))), some (.frz (.lst (inD b))), some (.own (fz (inD F))), some (.frz (.int (t : Int))), some (.frz (.int c)), some (.frz (.int (t2 : Int))), some (.frz (.int y))]) rfl rfl (pOp_v (a := .int c) (b := .int y) (v := .int (c * y)) rfl rfl (by simp [mulI, mulOk_big hc hy])) hF
          rw [this, getD_eq hF]
          rfl) b 0 F o5 o6 hF bb
      exact ⟨p5, p6, (for_ok (enumS_ok rfl)).trans e⟩) a 0 (List.replicate (a.length + b.length) 0) none none none none (by intro _; simp) ba
  have tv := ltrim_v (mulF b (List.replicate (a.length + b.length) 0) 0 a)
  rw [mulT ta tb] at tv
  generalize hF : mulF b (List.replicate (a.length + b.length) 0) 0 a = F at *
  refine gives_rt ⟨[some (.frz (.lst (inD a))), some (.frz (.lst (inD b))), some (.frz (.lst (inD F))), o3, o4, o5, o6], ?_⟩
  rw [show startE 7 [.frz (.lst (inD a)), .frz (.lst (inD b))] = [some (.frz (.lst (inD a))), some (.frz (.lst (inD b))), none, none, none, none, none] from rfl]
  unfold _law_times_b
  have r := rep0 (p := pOp addI (pCall lenF [pV 0]) (pCall lenF [pV 1])) (env := [some (.frz (.lst (inD a))), some (.frz (.lst (inD b))), none, none, none, none, none]) (n := a.length + b.length) (pOp_v (a := .int a.length) (b := .int b.length) (v := .int ((a.length + b.length : Nat) : Int)) (len_p rfl) (len_p rfl) (by simp only [addI, Int.natCast_add])) (by omega)
  rw [seq_nx (set_ok (h := eF (fRep (evPs [pK (.int 0)]) (pOp addI (pCall lenF [pV 0]) (pCall lenF [pV 1])))) (c := .own (fz (inD (List.replicate (a.length + b.length) 0)))) (eF_ok r))]
  simp only [List.set_cons_succ, List.set_cons_zero]
  rw [seq_nx ((for_ok (enumS_ok (l := a) rfl)).trans L)]
  refine ret_ok ?_
  have ev : eV 2 [some (.frz (.lst (inD a))), some (.frz (.lst (inD b))), some (.own (fz (inD F))), o3, o4, o5, o6] = .ok (.frz (.lst (inD F))) [some (.frz (.lst (inD a))), some (.frz (.lst (inD b))), some (.frz (.lst (inD F))), o3, o4, o5, o6] := by
    simp [eV, C.toD]
  have z := eFn_1 ev tv
  rw [C.toD] at z
  exact z
end k71
namespace k71
open PySem PySem.Spec PyProof.Rows L2 PL
/-! ### values at a number, lines put in lines, degrees -/
theorem val_fold (x : Int) : ∀ l : List Int, l.reverse.foldl (fun v a => v * x + a) 0 = val l x
  | [] => rfl
  | a :: l => by
    rw [List.reverse_cons, List.foldl_append, val_fold x l]
    rfl
theorem val_loop {A : Option C} {x : Int} (hx : -(2 ^ 64) < x) (hx2 : x < 2 ^ 64) : ∀ (r : List Int) (v : Int) (o : Option C), ∃ o', forL (gV false 3) (sSet 2 (eP (pOp addI (pOp mulI (pV 2) (pV 1)) (pV 3)))) (inD r) [A, some (.frz (.int x)), some (.frz (.int v)), o] = .nx [A, some (.frz (.int x)), some (.frz (.int (r.foldl (fun v a => v * x + a) v))), o']
  | [], v, o => ⟨o, rfl⟩
  | a :: r, v, o => by
    obtain ⟨o', ih⟩ := val_loop hx hx2 r (v * x + a) (some (.frz (.int a)))
    refine ⟨o', ?_⟩
    rw [List.foldl_cons, ← ih, inD_cons, forL]
    rw [show gV false 3 (.int a) [A, some (.frz (.int x)), some (.frz (.int v)), o] = some [A, some (.frz (.int x)), some (.frz (.int v)), some (.frz (.int a))] from rfl]
    have e : (sSet 2 (eP (pOp addI (pOp mulI (pV 2) (pV 1)) (pV 3)))) [A, some (.frz (.int x)), some (.frz (.int v)), some (.frz (.int a))] = .nx [A, some (.frz (.int x)), some (.frz (.int (v * x + a))), some (.frz (.int a))] :=
      set_ok (eP_of (pOp_v (a := .int (v * x)) (b := .int a) (v := .int (v * x + a)) (pOp_v (a := .int v) (b := .int x) (v := .int (v * x)) rfl rfl (by simp [mulI, mulOk_r hx hx2])) rfl rfl))
    simp only [e]
theorem inD_rev (l : List Int) : (inD l).reverse = inD l.reverse := by simp [inD]
theorem src_rev {env : Slots} {l : List Int} (h : pV 0 env = some (.lst (inD l))) : mSq (eP (pF (fRev (lP (pV 0))))) env = .ok (inD l.reverse) env := by
  have e : fRev (lP (pV 0)) env = some (inD l.reverse) := by
    unfold fRev
    rw [lP_ok h, ← inD_rev]
    rfl
  unfold mSq
  rw [eP_of (pF_ok e)]
  rfl
theorem value_v {l : List Int} {x : Int} (hx : -(2 ^ 64) < x) (hx2 : x < 2 ^ 64) : Gives value_at_m [.frz (.lst (inD l)), .frz (.int x)] (.frz (.int (val l x))) ∧ Gives _law_value_m [.frz (.lst (inD l)), .frz (.int x)] (.frz (.int (val l x))) := by
  obtain ⟨o', e⟩ := val_loop (A := some (.frz (.lst (inD l)))) hx hx2 l.reverse 0 none
  rw [val_fold] at e
  constructor <;>
  · refine gives_rt ⟨[some (.frz (.lst (inD l))), some (.frz (.int x)), some (.frz (.int (val l x))), o'], ?_⟩
    rw [show startE 4 [.frz (.lst (inD l)), .frz (.int x)] = [some (.frz (.lst (inD l))), some (.frz (.int x)), none, none] from rfl]
    first | unfold value_at_b | unfold _law_value_b
    rw [seq_nx (set_ok (h := eP (pK (.int 0))) rfl)]
    simp only [List.set_cons_succ, List.set_cons_zero]
    rw [seq_nx ((for_ok (src_rev rfl)).trans e)]
    exact ret_ok (eP_of rfl)
def cst (a : Int) : List Int := if a ≠ 0 then [a] else []
def ledL (τ : List Int) : List Int → List Int
  | [] => []
  | a :: l => trimI (addL (mulL (ledL τ l) τ) (cst a))
theorem led_tr (τ : List Int) : ∀ l, Tr (ledL τ l)
  | [] => tr_nil
  | a :: l => tr_trim _
theorem val_cst (a x : Int) : val (cst a) x = a := by
  unfold cst
  split
  · simp [val]
  · rename_i h; simp only [val]; omega
theorem led_val (τ : List Int) (x : Int) : ∀ l, val (ledL τ l) x = val l (val τ x)
  | [] => rfl
  | a :: l => by
    rw [ledL, val_trim, val_addL, mulL_val, led_val τ x l, val_cst]
    rfl
theorem nrm_cst (a : Int) : nrm (cst a) ≤ a.natAbs := by
  unfold cst
  split <;> simp [nrm]
theorem led_nrm {τ : List Int} {N : Nat} (h : nrm τ ≤ N) (h1 : 1 ≤ N) : ∀ l, nrm (ledL τ l) ≤ nrm l * N ^ (l.length - 1)
  | [] => by simp [ledL, nrm]
  | [a] => by
    have : ledL τ [a] = trimI (addL (mulL [] τ) (cst a)) := rfl
    rw [this]
    have h2 := nrm_trim (addL (mulL [] τ) (cst a))
    have h3 := nrm_addL (mulL [] τ) (cst a)
    have h4 := nrm_cst a
    have : mulL [] τ = [] := by unfold mulL; simp
    rw [this] at h2 h3 ⊢
    simp only [nrm] at *
    simp
    omega
  | a :: b :: l => by
    have ih := led_nrm h h1 (b :: l)
    have h2 := nrm_trim (addL (mulL (ledL τ (b :: l)) τ) (cst a))
    have h3 := nrm_addL (mulL (ledL τ (b :: l)) τ) (cst a)
    have h4 := nrm_cst a
    have h5 := mulL_nrm (ledL τ (b :: l)) τ
    have h6 := Nat.mul_le_mul ih h
    rw [ledL]
    have e : (a :: b :: l).length - 1 = ((b :: l).length - 1) + 1 := by simp
    rw [e, Nat.pow_succ]
    generalize ((b :: l).length - 1) = k at *
    have hp : 1 ≤ N ^ k * N := Nat.mul_pos (Nat.pow_pos h1) h1
    have : nrm (a :: b :: l) * (N ^ k * N) = a.natAbs * (N ^ k * N) + nrm (b :: l) * N ^ k * N := by
      rw [show nrm (a :: b :: l) = a.natAbs + nrm (b :: l) from rfl, Nat.add_mul, Nat.mul_assoc (nrm (b :: l))]
    rw [this]
    have : a.natAbs * 1 ≤ a.natAbs * (N ^ k * N) := Nat.mul_le_mul_left _ hp
    omega
theorem cst_len (a : Int) : (cst a).length ≤ 1 := by
  unfold cst
  split <;> simp
/-- how long a line put in a line is -/
theorem led_len {τ : List Int} (ht : Tr τ) (h2 : 2 ≤ τ.length) : ∀ l, Tr l → l ≠ [] → (ledL τ l).length = (l.length - 1) * (τ.length - 1) + 1 ∧ lastI (ledL τ l) = lastI l * lastI τ ^ (l.length - 1)
  | [a], t, _ => by
    have ha : a ≠ 0 := t a rfl
    have : ledL τ [a] = [a] := by
      show trimI (addL (mulL [] τ) (cst a)) = [a]
      have e : mulL [] τ = [] := by unfold mulL; simp
      rw [e, cst, if_pos ha]
      exact trim_id t
    rw [this]
    exact ⟨by simp, by simp [lastI]⟩
  | a :: b :: l, t, _ => by
    obtain ⟨i1, i2⟩ := led_len ht h2 (b :: l) (tr_cons t) (by simp)
    have tne : τ ≠ [] := by intro z; rw [z] at h2; simp at h2
    have lne : ledL τ (b :: l) ≠ [] := by intro z; rw [z] at i1; simp at i1
    have m1 := mulL_len lne tne
    obtain ⟨m2, m3⟩ := mulL_last (led_tr τ (b :: l)) ht lne tne
    have mt := mulL_tr (led_tr τ (b :: l)) ht
    rw [ledL]
    generalize hP : mulL (ledL τ (b :: l)) τ = P at *
    have lP : 2 ≤ P.length := by omega
    have key : (addL P (cst a)).length = P.length ∧ lastI (addL P (cst a)) = lastI P ∧ Tr (addL P (cst a)) := by
      obtain ⟨p, q, r, rfl⟩ : ∃ p q r, P = p :: q :: r := by
        match P, lP with
        | p :: q :: r, _ => exact ⟨p, q, r, rfl⟩
      unfold cst
      split
      · simp only [addL]
        refine ⟨rfl, by simp [lastI, List.getLast?_cons_cons], fun x hx => mt x ?_⟩
        rw [List.getLast?_cons_cons] at hx ⊢
        exact hx
      · exact ⟨rfl, rfl, mt⟩
    obtain ⟨k1, k2, k3⟩ := key
    rw [trim_id k3, k1, k2, m1, m2, i1, i2]
    constructor
    · have e : (a :: b :: l).length - 1 = ((b :: l).length - 1) + 1 := by simp
      rw [e, Nat.add_mul]
      omega
    · have e : (a :: b :: l).length - 1 = ((b :: l).length - 1) + 1 := by simp
      have e3 : lastI (a :: b :: l) = lastI (b :: l) := by simp [lastI, List.getLast?_cons_cons]
      rw [e, Int.pow_succ, e3, Int.mul_assoc]
theorem led_len_le (τ : List Int) (ht : Tr τ) (h2 : 2 ≤ τ.length) {l : List Int} (t : Tr l) : (ledL τ l).length ≤ (l.length - 1) * (τ.length - 1) + 1 := by
  by_cases h : l = []
  · subst h; simp [ledL]
  · exact Nat.le_of_eq (led_len ht h2 l t h).1
/-! the code of them -/
theorem pad_sum : ∀ (a b : List Int) (n : Nat), n = max a.length b.length → List.zipWith (fun x y => x + y) (a ++ List.replicate (n - a.length) 0) (b ++ List.replicate (n - b.length) 0) = addL a b
  | [], [], n, h => by simp at h; subst h; rfl
  | [], y :: b, n, h => by
    have ih := pad_sum [] b (n - 1) (by simp at h ⊢; omega)
    simp only [List.length_cons, List.length_nil] at h
    obtain ⟨m, rfl⟩ : ∃ m, n = m + 1 := ⟨n - 1, by omega⟩
    simp only [Nat.add_sub_cancel, List.length_nil, Nat.sub_zero, List.nil_append, List.length_cons, Nat.add_sub_add_right, List.replicate_succ, List.cons_append, List.zipWith_cons_cons, addL] at ih ⊢
    rw [ih]
    cases b <;> simp [addL]
  | x :: a, [], n, h => by
    have ih := pad_sum a [] (n - 1) (by simp at h ⊢; omega)
    simp only [List.length_cons, List.length_nil] at h
    obtain ⟨m, rfl⟩ : ∃ m, n = m + 1 := ⟨n - 1, by omega⟩
    simp only [Nat.add_sub_cancel, List.length_nil, Nat.sub_zero, List.nil_append, List.length_cons, Nat.add_sub_add_right, List.replicate_succ, List.cons_append, List.zipWith_cons_cons, addL] at ih ⊢
    rw [ih, addL_nil]
    simp
  | x :: a, y :: b, n, h => by
    have ih := pad_sum a b (n - 1) (by simp at h ⊢; omega)
    simp only [List.length_cons] at h
    obtain ⟨m, rfl⟩ : ∃ m, n = m + 1 := ⟨n - 1, by omega⟩
    simp only [Nat.add_sub_cancel, List.length_cons, Nat.add_sub_add_right, List.cons_append, List.zipWith_cons_cons, addL] at ih ⊢
    rw [ih]
theorem rep0' {p : P} {env : Slots} {n : Nat} {j : Int} (h : p env = some (.int j)) (hj : j = (n : Int)) (hn : n ≤ 1000) : fRep (evPs [pK (.int 0)]) p env = some (inD (List.replicate n 0)) := rep0 (hj ▸ h) hn
theorem max_p {p q : P} {env : Slots} {i j n : Int} (h1 : p env = some (.int i)) (h2 : q env = some (.int j)) (h : (if j > i then j else i) = n) : pCall maxF [p, q] env = some (.int n) := by
  unfold pCall
  rw [evPs_2 h1 h2]
  subst h
  rfl
theorem lplus_v {a b : List Int} (ha : a.length ≤ 100) (hb : b.length ≤ 100) : Gives _law_plus_m [.frz (.lst (inD a)), .frz (.lst (inD b))] (.frz (.lst (inD (trimI (addL a b))))) := by
  have tv := ltrim_v (addL a b)
  obtain ⟨n, hn⟩ : ∃ n : Nat, n = max a.length b.length := ⟨_, rfl⟩
  refine gives_rt ⟨[some (.frz (.lst (inD a))), some (.frz (.lst (inD b))), some (.frz (.int (n : Int))), some (.frz (.lst (inD (a ++ List.replicate (n - a.length) 0)))), some (.frz (.lst (inD (b ++ List.replicate (n - b.length) 0)))), none, none], ?_⟩
  rw [show startE 7 [.frz (.lst (inD a)), .frz (.lst (inD b))] = [some (.frz (.lst (inD a))), some (.frz (.lst (inD b))), none, none, none, none, none] from rfl]
  unfold _law_plus_b
  have s1 : eP (pCall maxF [pCall lenF [pV 0], pCall lenF [pV 1]]) [some (.frz (.lst (inD a))), some (.frz (.lst (inD b))), none, none, none, none, none] = .ok (.frz (.int (n : Int))) [some (.frz (.lst (inD a))), some (.frz (.lst (inD b))), none, none, none, none, none] := by
    have h1 := len_p (p := pV 0) (env := [some (.frz (.lst (inD a))), some (.frz (.lst (inD b))), none, none, none, none, none]) (l := a) rfl
    have h2 := len_p (p := pV 1) (env := [some (.frz (.lst (inD a))), some (.frz (.lst (inD b))), none, none, none, none, none]) (l := b) rfl
    have this : (if (b.length : Int) > a.length then (b.length : Int) else a.length) = n := by split <;> omega
    exact eP_of (max_p h1 h2 this)
  rw [seq_nx (set_ok s1)]
  simp only [List.set_cons_succ, List.set_cons_zero]
  have r1 := fCat_ok (fSq_ok (p := pV 0) (env := [some (.frz (.lst (inD a))), some (.frz (.lst (inD b))), some (.frz (.int (n : Int))), none, none, none, none]) (l := inD a) rfl) (rep0' (p := pOp subI (pV 2) (pCall lenF [pV 0])) (n := n - a.length) (pOp_v (a := .int n) (b := .int a.length) (v := .int (n - a.length)) rfl (len_p rfl) rfl) (by omega) (by omega)) (by rw [inD_len, inD_len, List.length_replicate]; omega)
  have r2 := fCat_ok (fSq_ok (p := pV 1) (env := [some (.frz (.lst (inD a))), some (.frz (.lst (inD b))), some (.frz (.int (n : Int))), none, none, none, none]) (l := inD b) rfl) (rep0' (p := pOp subI (pV 2) (pCall lenF [pV 1])) (n := n - b.length) (pOp_v (a := .int n) (b := .int b.length) (v := .int (n - b.length)) rfl (len_p rfl) rfl) (by omega) (by omega)) (by rw [inD_len, inD_len, List.length_replicate]; omega)
  rw [← inD_app] at r1 r2
  have sp := pad_sum a b n hn
  have lu : (a ++ List.replicate (n - a.length) (0 : Int)).length ≤ 200 := by simp; omega
  generalize a ++ List.replicate (n - a.length) (0 : Int) = u at *
  generalize b ++ List.replicate (n - b.length) (0 : Int) = v at *
  have s2 : (sPar [3, 4] [eP (pF (fCat (fSq (pV 0)) (fRep (evPs [pK (.int 0)]) (pOp subI (pV 2) (pCall lenF [pV 0]))))), eP (pF (fCat (fSq (pV 1)) (fRep (evPs [pK (.int 0)]) (pOp subI (pV 2) (pCall lenF [pV 1])))))]) [some (.frz (.lst (inD a))), some (.frz (.lst (inD b))), some (.frz (.int (n : Int))), none, none, none, none] = .nx [some (.frz (.lst (inD a))), some (.frz (.lst (inD b))), some (.frz (.int (n : Int))), some (.frz (.lst (inD u))), some (.frz (.lst (inD v))), none, none] := by
    unfold sPar
    rw [evMs_2 (eP_of (pF_ok r1)) (eP_of (pF_ok r2))]
    rfl
  rw [seq_nx s2]
  have zc := zipcomp (i := 5) (j := 6) (p := pOp addI (pV 5) (pV 6)) (env := [some (.frz (.lst (inD a))), some (.frz (.lst (inD b))), some (.frz (.int (n : Int))), some (.frz (.lst (inD u))), some (.frz (.lst (inD v))), none, none]) (fun x y => x + y) (u := u) (v := v) fun x hx y hy => ⟨[some (.frz (.lst (inD a))), some (.frz (.lst (inD b))), some (.frz (.int (n : Int))), some (.frz (.lst (inD u))), some (.frz (.lst (inD v))), some (.frz (.int x)), some (.frz (.int y))], rfl, rfl⟩
  rw [sp] at zc
  have fc := fComp_ok (vs := [5, 6]) (env := [some (.frz (.lst (inD a))), some (.frz (.lst (inD b))), some (.frz (.int (n : Int))), some (.frz (.lst (inD u))), some (.frz (.lst (inD v))), none, none]) (zipS_ok (p := pV 3) (q := pV 4) (l := inD u) (m := inD v) rfl rfl) (by rw [zipD_length, inD_len, inD_len]; omega) zc
  have z := pFn_1 (pF_ok fc) tv
  rw [C.toD] at z
  exact ret_ok (eP_of z)
end k71
namespace k71
open PySem PySem.Spec PyProof.Rows L2 PL
/-! ### a line put in a line: the code -/
theorem forL_app {t : Tg} {b : SS} (nb : ∀ e e1, b e ≠ .bk e1) : ∀ {l1 l2 : List D} {e e1 : Slots}, forL t b l1 e = .nx e1 → forL t b (l1 ++ l2) e = forL t b l2 e1
  | [], l2, e, e1, h => by cases h; rfl
  | d :: r, l2, e, e1, h => by
    rw [List.cons_append, forL]
    rw [forL] at h
    cases e2 : t d e with
    | none => rw [e2] at h; cases h
    | some e3 =>
      rw [e2] at h
      simp only [] at h ⊢
      cases e4 : b e3 with
      | nx e5 => rw [e4] at h; exact forL_app nb h
      | ct e5 => rw [e4] at h; exact forL_app nb h
      | bk e5 => exact absurd e4 (nb _ _)
      | rt _ _ => rw [e4] at h; cases h
      | err _ _ => rw [e4] at h; cases h
      | no => rw [e4] at h; cases h
theorem forL_snoc {t : Tg} {b : SS} (nb : ∀ e e1, b e ≠ .bk e1) {l : List D} {d : D} {e e1 e2 e3 : Slots} (h1 : forL t b l e = .nx e1) (h2 : t d e1 = some e2) (h3 : b e2 = .nx e3) : forL t b (l ++ [d]) e = .nx e3 := by
  rw [forL_app nb h1, forL, h2]
  simp only [h3]
  rfl
theorem rev_snoc (a : Int) (l : List Int) : inD (a :: l).reverse = inD l.reverse ++ [.int a] := by
  rw [List.reverse_cons, inD_app, inD_one]
theorem set_nb {i : Nat} {f : M C} (e e1 : Slots) : sSet i f e ≠ .bk e1 := by
  unfold sSet sOf
  split <;> intro h <;> cases h
/-- small enough to be put in -/
structure Lsm (τ l : List Int) : Prop where
  t1 : Tr τ
  l1 : 2 ≤ τ.length
  l2 : τ.length ≤ 7
  n1 : nrm τ ≤ 20
  t2 : Tr l
  l3 : l.length ≤ 6
  n2 : nrm l ≤ 300
theorem Lsm.tail {τ : List Int} {a : Int} {l : List Int} (h : Lsm τ (a :: l)) : Lsm τ l := by
  refine ⟨h.t1, h.l1, h.l2, h.n1, ?_, ?_, ?_⟩
  · cases l with
    | nil => exact tr_nil
    | cons b l => exact tr_cons h.t2
  · have := h.l3; simp at this; omega
  · have := h.n2; simp only [nrm] at this; omega
theorem nrm_pos {l : List Int} (t : Tr l) (h : l ≠ []) : 1 ≤ nrm l := by
  obtain ⟨u, c, e, hc, _⟩ := snoc_of t h
  have := mem_nrm (l := l) (x := c) (by rw [e]; simp)
  omega
theorem Lsm.nz {τ l : List Int} (h : Lsm τ l) : 1 ≤ nrm τ := nrm_pos h.t1 fun z => by have := h.l1; rw [z] at this; simp at this
theorem Lsm.len {τ l : List Int} (h : Lsm τ l) : (ledL τ l).length ≤ 31 := by
  have h1 := led_len_le τ h.t1 h.l1 h.t2
  have h2 : (l.length - 1) * (τ.length - 1) ≤ 5 * 6 := Nat.mul_le_mul (by have := h.l3; omega) (by have := h.l2; omega)
  omega
theorem Lsm.nrm {τ l : List Int} (h : Lsm τ l) : nrm (ledL τ l) ≤ 960000000 := by
  have h1 := led_nrm h.n1 (by decide) l
  have h2 : 20 ^ (l.length - 1) ≤ 20 ^ 5 := Nat.pow_le_pow_right (by decide) (by have := h.l3; omega)
  have h3 := Nat.mul_le_mul h.n2 h2
  omega
theorem huge_nrm {l : List Int} {N : Nat} (h : nrm l ≤ N) (hN : N ≤ 2 ^ 40) : ∀ x ∈ l, x.natAbs < HUGE := fun x hx => by
  have := mem_nrm hx
  exact huge_of (k := 41) (by omega) (by decide)
theorem Lsm.big {τ l : List Int} (h : Lsm τ l) : ∀ x ∈ ledL τ l, x.natAbs < HUGE := huge_nrm h.nrm (by decide)
theorem Lsm.bigt {τ l : List Int} (h : Lsm τ l) : ∀ x ∈ τ, x.natAbs < HUGE := huge_nrm h.n1 (by decide)
theorem cst_p {env : Slots} {a : Int} (h : pV 3 env = some (.int a)) : pIf (qOf (pOp neV' (pV 3) (pK (.int 0)))) (pF (evPs [pV 3])) (pF (evPs [])) env = some (.lst (inD (cst a))) := by
  unfold pIf
  by_cases ha : a = 0
  · rw [qOf_b (b := false) (pOp_v (a := .int a) (b := .int 0) (v := .bl false) h rfl (by simp [neV', ha]))]
    subst ha
    rfl
  · rw [qOf_b (b := true) (pOp_v (a := .int a) (b := .int 0) (v := .bl true) h rfl (by simp [neV', ha]))]
    simp only [cst, ha, ne_eq, not_false_eq_true, if_true]
    exact pF_ok (evPs_1 h)
theorem led_loop {A : Option C} {τ : List Int} : ∀ l : List Int, Lsm τ l → ∀ o : Option C, ∃ o', forL (gV false 3) (sSet 2 (eFnO plus_lines_m [eFn times_lines_m [eV 2, eP (pV 1)], eP (pIf (qOf (pOp neV' (pV 3) (pK (.int 0)))) (pF (evPs [pV 3])) (pF (evPs [])))])) (inD l.reverse) [A, some (.frz (.lst (inD τ))), some (.own (fz (inD []))), o] = .nx [A, some (.frz (.lst (inD τ))), some (.own (fz (inD (ledL τ l)))), o']
  | [], h, o => ⟨o, rfl⟩
  | a :: l, h, o => by
    obtain ⟨o', ih⟩ := led_loop (A := A) l h.tail o
    refine ⟨some (.frz (.int a)), ?_⟩
    rw [List.reverse_cons, inD_app, forL_app set_nb ih, inD_one, forL]
    rw [show gV false 3 (.int a) [A, some (.frz (.lst (inD τ))), some (.own (fz (inD (ledL τ l)))), o'] = some [A, some (.frz (.lst (inD τ))), some (.own (fz (inD (ledL τ l)))), some (.frz (.int a))] from rfl]
    have ev : eV 2 [A, some (.frz (.lst (inD τ))), some (.own (fz (inD (ledL τ l)))), some (.frz (.int a))] = .ok (.frz (.lst (inD (ledL τ l)))) [A, some (.frz (.lst (inD τ))), some (.frz (.lst (inD (ledL τ l)))), some (.frz (.int a))] := by
      simp [eV, C.toD]
    have l1 := h.tail.len
    obtain ⟨o1, tv⟩ := times_v (a := ledL τ l) (b := τ) (by omega) (by have := h.l2; omega) h.tail.big h.bigt
    have ml : (mulL (ledL τ l) τ).length ≤ 60 := by
      unfold mulL
      split
      · simp
      · rw [mul_len]; simp; have := h.l2; omega
    have pv := plus_v (a := mulL (ledL τ l) τ) (b := cst a) (by unfold Sm; omega) (by unfold Sm; have := cst_len a; omega)
    obtain ⟨o2, pv⟩ := pv
    have e1 : eFn times_lines_m [eV 2, eP (pV 1)] [A, some (.frz (.lst (inD τ))), some (.own (fz (inD (ledL τ l)))), some (.frz (.int a))] = .ok (.frz (.lst (inD (mulL (ledL τ l) τ)))) [A, some (.frz (.lst (inD τ))), some (.frz (.lst (inD (ledL τ l)))), some (.frz (.int a))] := by
      unfold eFn
      rw [evMs_2 ev (eP_of (d := .lst (inD τ)) rfl)]
      simp only [Out.bind, tv, C.toD]
    have e2 := eFnO_2 e1 (eP_of (cst_p (env := [A, some (.frz (.lst (inD τ))), some (.frz (.lst (inD (ledL τ l)))), some (.frz (.int a))]) (a := a) rfl)) pv
    rw [ledL]
    simp only [set_ok e2, forL, List.set_cons_succ, List.set_cons_zero]
theorem led_v {τ l : List Int} (h : Lsm τ l) : ∃ o, led_line_m [.frz (.lst (inD l)), .frz (.lst (inD τ))] = .ok (.own (fz (inD (ledL τ l)))) o := by
  obtain ⟨o', e⟩ := led_loop (A := some (.frz (.lst (inD l)))) l h none
  refine gives_rt ⟨[some (.frz (.lst (inD l))), some (.frz (.lst (inD τ))), none, o'], ?_⟩
  rw [show startE 4 [.frz (.lst (inD l)), .frz (.lst (inD τ))] = [some (.frz (.lst (inD l))), some (.frz (.lst (inD τ))), none, none] from rfl]
  unfold led_line_b
  rw [seq_nx (set_ok (h := eF (evPs [])) (c := .own (fz (inD []))) rfl)]
  simp only [List.set_cons_succ, List.set_cons_zero]
  rw [seq_nx ((for_ok (src_rev rfl)).trans e)]
  exact ret_ok rfl
theorem lat_e1 {A o3 : Option C} {τ l : List Int} (h : Lsm τ l) : pFn _law_times_m [pV 2, pV 1] [A, some (.frz (.lst (inD τ))), some (.frz (.lst (inD (ledL τ l)))), o3] = some (.lst (inD (mulL (ledL τ l) τ))) := by
  have l1 := h.len
  have tv := ltimes_v (a := ledL τ l) (b := τ) (led_tr τ l) h.t1 (by omega) (by have := h.l2; omega) h.big h.bigt
  have e1 := pFn_2 (p := pV 2) (q := pV 1) (env := [A, some (.frz (.lst (inD τ))), some (.frz (.lst (inD (ledL τ l)))), o3]) rfl rfl tv
  rw [C.toD] at e1
  exact e1
theorem lat_step {A : Option C} {τ l : List Int} {a : Int} (h : Lsm τ l) : (sSet 2 (eP (pFn _law_plus_m [pFn _law_times_m [pV 2, pV 1], pIf (qOf (pOp neV' (pV 3) (pK (.int 0)))) (pF (evPs [pV 3])) (pF (evPs []))]))) [A, some (.frz (.lst (inD τ))), some (.frz (.lst (inD (ledL τ l)))), some (.frz (.int a))] = .nx [A, some (.frz (.lst (inD τ))), some (.frz (.lst (inD (ledL τ (a :: l))))), some (.frz (.int a))] := by
  have l1 := h.len
  have ml : (mulL (ledL τ l) τ).length ≤ 60 := by
    unfold mulL
    split
    · simp
    · rw [mul_len]; simp; have := h.l2; omega
  have pv := lplus_v (a := mulL (ledL τ l) τ) (b := cst a) (by omega) (by have := cst_len a; omega)
  have e2 := pFn_2 (lat_e1 (A := A) (o3 := some (.frz (.int a))) h) (cst_p (env := [A, some (.frz (.lst (inD τ))), some (.frz (.lst (inD (ledL τ l)))), some (.frz (.int a))]) (a := a) rfl) pv
  rw [C.toD] at e2
  rw [ledL, set_ok (eP_of e2)]
  simp only [List.set_cons_succ, List.set_cons_zero]
theorem lat_loop {A : Option C} {τ : List Int} : ∀ l : List Int, Lsm τ l → ∀ o : Option C, ∃ o', forL (gV false 3) (sSet 2 (eP (pFn _law_plus_m [pFn _law_times_m [pV 2, pV 1], pIf (qOf (pOp neV' (pV 3) (pK (.int 0)))) (pF (evPs [pV 3])) (pF (evPs []))]))) (inD l.reverse) [A, some (.frz (.lst (inD τ))), some (.frz (.lst (inD []))), o] = .nx [A, some (.frz (.lst (inD τ))), some (.frz (.lst (inD (ledL τ l)))), o'] := by
  intro l
  induction l with
  | nil => exact fun h o => ⟨o, rfl⟩
  | cons a l ih =>
    intro h o
    obtain ⟨o', ih⟩ := ih h.tail o
    refine ⟨some (.frz (.int a)), ?_⟩
    rw [rev_snoc]
    exact forL_snoc set_nb ih (e2 := [A, some (.frz (.lst (inD τ))), some (.frz (.lst (inD (ledL τ l)))), some (.frz (.int a))]) rfl (lat_step h.tail)
theorem lat_v {τ l : List Int} (h : Lsm τ l) : Gives _law_at_m [.frz (.lst (inD l)), .frz (.lst (inD τ))] (.frz (.lst (inD (ledL τ l)))) := by
  obtain ⟨o', e⟩ := lat_loop (A := some (.frz (.lst (inD l)))) l h none
  refine gives_rt ⟨[some (.frz (.lst (inD l))), some (.frz (.lst (inD τ))), some (.frz (.lst (inD (ledL τ l)))), o'], ?_⟩
  rw [show startE 4 [.frz (.lst (inD l)), .frz (.lst (inD τ))] = [some (.frz (.lst (inD l))), some (.frz (.lst (inD τ))), none, none] from rfl]
  unfold _law_at_b
  rw [seq_nx (set_ok (h := eP (pF (evPs []))) (c := .frz (.lst (inD []))) rfl)]
  simp only [List.set_cons_succ, List.set_cons_zero]
  rw [seq_nx ((for_ok (src_rev rfl)).trans e)]
  exact ret_ok (eP_of rfl)
/-! ### three lines: degree, what they are -/
def deg3 (l0 l1 l2 : List Int) : Int := max (max (l0.length : Int) l1.length) l2.length - 1
def L3 (l0 l1 l2 : List Int) : D := .lst [.lst (inD l0), .lst (inD l1), .lst (inD l2)]
theorem degree_v (l0 l1 l2 : List Int) : Gives degree_of_m [.frz (L3 l0 l1 l2)] (.frz (.int (deg3 l0 l1 l2))) ∧ Gives _law_degree_m [.frz (L3 l0 l1 l2)] (.frz (.int (deg3 l0 l1 l2))) := by
  have cf : compF (gV true 1) (fun _ => some true) (pCall lenF [pV 1]) [some (.frz (L3 l0 l1 l2)), none] [.lst (inD l0), .lst (inD l1), .lst (inD l2)] = some (inD [(l0.length : Int), l1.length, l2.length]) := by
    rw [compF_map (fun d => match d with | .lst l => .int l.length | d => d) fun d hd => ?_]
    · simp [inD]
    · simp only [List.mem_cons, List.not_mem_nil, or_false] at hd
      rcases hd with rfl | rfl | rfl <;> exact ⟨[some (.frz (L3 l0 l1 l2)), some _], rfl, rfl, by simp [pCall, evPs_n, evPs_c, pV, C.toD, lenF, ofV]⟩
  have fc := fComp_ok (vs := [1]) (env := [some (.frz (L3 l0 l1 l2)), none]) (src := fSq (pV 0)) (fSq_ok rfl) (by simp) cf
  have mx : pCall maxF [pF (fComp [1] (gV true 1) (fun _ => some true) (pCall lenF [pV 1]) (fSq (pV 0)))] [some (.frz (L3 l0 l1 l2)), none] = some (.int (max (max (l0.length : Int) l1.length) l2.length)) := by
    refine pCall_1 (v := .int (max (max (l0.length : Int) l1.length) l2.length)) (pF_ok fc) ?_
    simp only [maxF, intsOf_inD, Option.bind_some, maxL, Option.map_some, List.foldl_cons, List.foldl_nil]
  constructor <;>
  · refine gives_rt ⟨[some (.frz (L3 l0 l1 l2)), none], ?_⟩
    rw [show startE 2 [.frz (L3 l0 l1 l2)] = [some (.frz (L3 l0 l1 l2)), none] from rfl]
    exact ret_ok (eP_of (pOp_v (v := .int (deg3 l0 l1 l2)) mx rfl rfl))
def gv (b : Bool) (l : List D) : D := if b then .tup l else .lst l
theorem gv_sq (b : Bool) (l : List D) : sqD (gv b l) = some l := by cases b <;> rfl
theorem gv_len (b : Bool) (l : List D) : lenF [gv b l] = some (.int l.length) := by cases b <;> rfl
theorem gv_ix (b : Bool) (l : List D) (i : Int) : ixD (gv b l) (.int i) = atI l i := by cases b <;> rfl
theorem is_integer_v (n : Int) : is_integer_m [.frz (.int n)] = .ok (.frz (.bl true)) [none] := by
  simp [is_integer_m, is_integer_b, PL.bodyM, PL.startE, PL.outsE, PL.sSeq, PL.sNx, PL.sBk, PL.sCt, PL.sNo, PL.sOf, PL.sSet, PL.sRet, PL.sRetN, PL.sDrop, PL.sIf, PL.sAsg, PL.sAug, PL.sAugIx, PL.sPar, PL.sFor, PL.eP, PL.eF, PL.eFrz, PL.eV, PL.eMv, PL.eFn, PL.eFnO, PL.eFnL, PL.lentTo, PL.eLst, PL.eTup, PL.eCall, PL.eOp, PL.eBin, PL.eIx, PL.eIf, PL.eAnd, PL.eOr, PL.eApp, PL.eAppP, PL.ePop, PL.eExt, PL.eExtM, PL.eCat, PL.eRep, PL.catD, PL.repD, PL.eComp, PL.tP, PL.tOfE, PL.tAnd, PL.tOr, PL.tNot, PL.pV, PL.bV, PL.pK, PL.pOp, PL.pChain, PL.qOf, PL.qAnd, PL.qOr, PL.qNot, PL.pAnd, PL.pOr, PL.pNot, PL.pIf, PL.pNeg, PL.pCall, PL.pFn, PL.pFnB, PL.pFnK, PL.pick, PL.pDm, PL.dmD, PL.pIx, PL.ixD, L2.atI, L2.ixN, PL.pSl, PL.pTup, PL.pF, PL.lP, PL.lKf, PL.frzs, PL.kV, PL.kIx, PL.ixC, PL.pKf, PL.bKf, PL.evPs_n, PL.evPs_c, PL.evMs_n, PL.evMs_c, PL.fCat, PL.fRep, PL.fSl, PL.evO, PL.fRev, PL.fSq, PL.sqD, PL.fList, PL.pTupL, PL.fComp, PL.enumS, PL.enumP, PL.zipP, PL.rngP, PL.rngM, PL.rngL, PL.mSq, PL.mP, PL.gV, PL.gTupD, PL.gsCons, PL.gsNil, PL.gIx, PL.paV, PL.paIx, PL.ownAt, PL.setAt, PL.getP, PL.setP, PL.intOf, PL.isFree, PL.wipeE, PL.freeE, PL.C.toD, PL.C.toDs, PL.ofV, PL.addI, PL.subI, PL.mulI, PL.fdivI, PL.modI, PL.powI, PL.cmpI, PL.iLt, PL.iLe, PL.iGt, PL.iGe, PL.eqV', PL.neV', PL.isN, PL.notN, PL.isNonD, PL.lenF, PL.absF, PL.intF, PL.strF, PL.maxF, PL.minF, PL.sumF, PL.allF, PL.anyF, PL.isiF, PL.clsD, PL.tyN, PL.isSubN, PL.intsOf, PL.blsOf, PL.flatD, PL.Out.bind]
theorem is_list_v (b : Bool) (l : List D) : is_list_m [.frz (gv b l)] = .ok (.frz (.bl true)) [none] := by
  cases b <;> simp [gv, is_list_m, is_list_b, PL.bodyM, PL.startE, PL.outsE, PL.sSeq, PL.sNx, PL.sBk, PL.sCt, PL.sNo, PL.sOf, PL.sSet, PL.sRet, PL.sRetN, PL.sDrop, PL.sIf, PL.sAsg, PL.sAug, PL.sAugIx, PL.sPar, PL.sFor, PL.eP, PL.eF, PL.eFrz, PL.eV, PL.eMv, PL.eFn, PL.eFnO, PL.eFnL, PL.lentTo, PL.eLst, PL.eTup, PL.eCall, PL.eOp, PL.eBin, PL.eIx, PL.eIf, PL.eAnd, PL.eOr, PL.eApp, PL.eAppP, PL.ePop, PL.eExt, PL.eExtM, PL.eCat, PL.eRep, PL.catD, PL.repD, PL.eComp, PL.tP, PL.tOfE, PL.tAnd, PL.tOr, PL.tNot, PL.pV, PL.bV, PL.pK, PL.pOp, PL.pChain, PL.qOf, PL.qAnd, PL.qOr, PL.qNot, PL.pAnd, PL.pOr, PL.pNot, PL.pIf, PL.pNeg, PL.pCall, PL.pFn, PL.pFnB, PL.pFnK, PL.pick, PL.pDm, PL.dmD, PL.pIx, PL.ixD, L2.atI, L2.ixN, PL.pSl, PL.pTup, PL.pF, PL.lP, PL.lKf, PL.frzs, PL.kV, PL.kIx, PL.ixC, PL.pKf, PL.bKf, PL.evPs_n, PL.evPs_c, PL.evMs_n, PL.evMs_c, PL.fCat, PL.fRep, PL.fSl, PL.evO, PL.fRev, PL.fSq, PL.sqD, PL.fList, PL.pTupL, PL.fComp, PL.enumS, PL.enumP, PL.zipP, PL.rngP, PL.rngM, PL.rngL, PL.mSq, PL.mP, PL.gV, PL.gTupD, PL.gsCons, PL.gsNil, PL.gIx, PL.paV, PL.paIx, PL.ownAt, PL.setAt, PL.getP, PL.setP, PL.intOf, PL.isFree, PL.wipeE, PL.freeE, PL.C.toD, PL.C.toDs, PL.ofV, PL.addI, PL.subI, PL.mulI, PL.fdivI, PL.modI, PL.powI, PL.cmpI, PL.iLt, PL.iLe, PL.iGt, PL.iGe, PL.eqV', PL.neV', PL.isN, PL.notN, PL.isNonD, PL.lenF, PL.absF, PL.intF, PL.strF, PL.maxF, PL.minF, PL.sumF, PL.allF, PL.anyF, PL.isiF, PL.clsD, PL.tyN, PL.isSubN, PL.intsOf, PL.blsOf, PL.flatD, PL.Out.bind]
theorem line_in_v {b : Bool} {l : List Int} (t : Tr l) (hl : l.length ≤ 13) : Gives line_in_m [.frz (gv b (inD l))] (.frz (.lst (inD l))) := by
  refine gives_rt ⟨[some (.frz (gv b (inD l))), none], ?_⟩
  rw [show startE 2 [.frz (gv b (inD l))] = [some (.frz (gv b (inD l))), none] from rfl]
  unfold line_in_b
  have v0 : pV 0 [some (.frz (gv b (inD l))), none] = some (gv b (inD l)) := rfl
  have q1 : qOf (pFn is_list_m [pV 0]) [some (.frz (gv b (inD l))), none] = some true := qOf_b (pFn_1 v0 ⟨_, is_list_v b _⟩)
  have ln : pCall lenF [pV 0] [some (.frz (gv b (inD l))), none] = some (.int l.length) := pCall_1 (v := .int (l.length : Int)) v0 (by rw [gv_len, inD_len])
  have q2 : qOf (pOp (cmpI iGt) (pCall lenF [pV 0]) (pOp addI (pK (.int 12)) (pK (.int 1)))) [some (.frz (gv b (inD l))), none] = some false :=
    qOf_b (pOp_v (b := .int 13) (v := .bl false) ln rfl (by
      have : ¬ ((13 : Int) < l.length) := by omega
      simp [cmpI, iGt, this]))
  have cf : compF (gV true 1) (fun _ => some true) (pFn is_integer_m [pV 1]) [some (.frz (gv b (inD l))), none] (inD l) = some ((inD l).map fun _ => .bl true) := compF_map _ fun d hd => by
    obtain ⟨y, hy, rfl⟩ := List.mem_map.mp hd
    exact ⟨[some (.frz (gv b (inD l))), some (.frz (.int y))], rfl, rfl, pFn_1 (c := .frz (.bl true)) rfl ⟨_, is_integer_v y⟩⟩
  have fc := fComp_ok (vs := [1]) (env := [some (.frz (gv b (inD l))), none]) (src := fSq (pV 0)) (l := inD l) (by unfold fSq; rw [v0]; exact gv_sq b _) (by rw [inD_len]; omega) cf
  have q3 : qOf (pCall allF [pF (fComp [1] (gV true 1) (fun _ => some true) (pFn is_integer_m [pV 1]) (fSq (pV 0)))]) [some (.frz (gv b (inD l))), none] = some true :=
    qOf_b (pCall_1 (v := .bl true) (pF_ok fc) (by
      have : blsOf ((inD l).map fun _ => D.bl true) = some ((inD l).map fun _ => true) := by
        rw [show ((inD l).map fun _ => D.bl true) = ((inD l).map fun _ => true).map D.bl by rw [List.map_map]; rfl]
        exact blsOf_map _
      simp only [allF, this, Option.map_some]
      simp))
  have cnd : (tP (qOr (qNot (qOf (pFn is_list_m [pV 0]))) (qOr (qOf (pOp (cmpI iGt) (pCall lenF [pV 0]) (pOp addI (pK (.int 12)) (pK (.int 1))))) (qNot (qOf (pCall allF [pF (fComp [1] (gV true 1) (fun _ => some true) (pFn is_integer_m [pV 1]) (fSq (pV 0)))])))))) [some (.frz (gv b (inD l))), none] = .ok false [some (.frz (gv b (inD l))), none] :=
    tP_of (by simp only [qOr, qNot, q1, q2, q3, Option.map_some, Bool.not_true])
  rw [seq_nx (if_no cnd)]
  refine ret_ok (eP_of ?_)
  have fs : pF (fSq (pV 0)) [some (.frz (gv b (inD l))), none] = some (.lst (inD l)) := pF_ok (by unfold fSq; rw [v0]; exact gv_sq b _)
  have q4 : qOr (qOf (pOp eqV' (pCall lenF [pV 0]) (pK (.int 0)))) (qOf (pOp neV' (pIx (pV 0) (pNeg (pK (.int 1)))) (pK (.int 0)))) [some (.frz (gv b (inD l))), none] = some true := by
    by_cases h0 : l = []
    · subst h0
      have : qOf (pOp eqV' (pCall lenF [pV 0]) (pK (.int 0))) [some (.frz (gv b (inD []))), none] = some true := qOf_b (pOp_v (v := .bl true) ln rfl (by simp [eqV']))
      simp only [qOr, this]
    · have h1 : ((l.length : Int) == 0) = false := by
        have := List.length_pos_iff.mpr h0
        rw [beq_eq_false_iff_ne]; omega
      have e1 : qOf (pOp eqV' (pCall lenF [pV 0]) (pK (.int 0))) [some (.frz (gv b (inD l))), none] = some false := qOf_b (pOp_v (b := .int 0) (v := .bl false) ln rfl (by simp [eqV', h1]))
      have hl : lastI l ≠ 0 := by
        obtain ⟨u, c, _, hc, e⟩ := snoc_of t h0
        rw [e]; exact hc
      have e2 : qOf (pOp neV' (pIx (pV 0) (pNeg (pK (.int 1)))) (pK (.int 0))) [some (.frz (gv b (inD l))), none] = some true := qOf_b (pOp_v (a := .int (lastI l)) (b := .int 0) (v := .bl true) (pIx_ok (k := .int (-1)) v0 rfl (by rw [gv_ix]; exact last_ix h0)) rfl (by simp [neV', hl]))
      simp only [qOr, e1, e2]
  unfold pIf
  rw [q4]
  exact fs
end k71
namespace k71
open PySem PySem.Spec PyProof.Rows L2 PL
/-! ### curves -/
structure Crv (l0 l1 l2 : List Int) : Prop where
  t0 : Tr l0
  t1 : Tr l1
  t2 : Tr l2
  n0 : l0.length ≤ 6
  n1 : l1.length ≤ 6
  n2 : l2.length ≤ 6
  b0 : nrm l0 ≤ 2000000
  b1 : nrm l1 ≤ 2000000
  b2 : nrm l2 ≤ 2000000
  d1 : 1 ≤ deg3 l0 l1 l2
  cop : ∃ K : Int, K ≠ 0 ∧ ∀ x, ∃ u v w : Int, u * val l0 x + v * val l1 x + w * val l2 x = K
def G3 (b b0 b1 b2 : Bool) (l0 l1 l2 : List Int) : D := gv b [gv b0 (inD l0), gv b1 (inD l1), gv b2 (inD l2)]
theorem Crv.d5 {l0 l1 l2 : List Int} (h : Crv l0 l1 l2) : deg3 l0 l1 l2 ≤ 5 := by
  have := h.n0
  have := h.n1
  have := h.n2
  unfold deg3
  omega
theorem three_v {b b0 b1 b2 : Bool} {l0 l1 l2 : List Int} (h : Crv l0 l1 l2) : Gives three_lines_m [.frz (G3 b b0 b1 b2 l0 l1 l2)] (.frz (L3 l0 l1 l2)) := by
  generalize hE : [some (C.frz (G3 b b0 b1 b2 l0 l1 l2)), none, none] = env0
  have v0 : pV 0 env0 = some (G3 b b0 b1 b2 l0 l1 l2) := by rw [← hE]; rfl
  refine gives_rt ⟨[some (.frz (G3 b b0 b1 b2 l0 l1 l2)), some (.frz (L3 l0 l1 l2)), none], ?_⟩
  rw [show startE 3 [.frz (G3 b b0 b1 b2 l0 l1 l2)] = env0 from hE]
  unfold three_lines_b
  have q1 : qOf (pFn is_list_m [pV 0]) env0 = some true := qOf_b (pFn_1 v0 ⟨_, is_list_v b _⟩)
  have ln : pCall lenF [pV 0] env0 = some (.int 3) := pCall_1 (v := .int 3) v0 (gv_len b _)
  have cnd : (tP (qOr (qNot (qOf (pFn is_list_m [pV 0]))) (qOf (pOp neV' (pCall lenF [pV 0]) (pK (.int 3)))))) env0 = .ok false env0 := tP_of (by
    have : qOf (pOp neV' (pCall lenF [pV 0]) (pK (.int 3))) env0 = some false := qOf_b (pOp_v (v := .bl false) ln rfl (by simp [neV']))
    simp only [qOr, qNot, q1, this, Option.map_some, Bool.not_true])
  rw [seq_nx (if_no cnd)]
  have cf : compF (gV true 2) (fun _ => some true) (pFn line_in_m [pV 2]) (wipeE env0 [2]) [gv b0 (inD l0), gv b1 (inD l1), gv b2 (inD l2)] = some [.lst (inD l0), .lst (inD l1), .lst (inD l2)] := by
    have st : ∀ (c : Bool) (l : List Int), Tr l → l.length ≤ 6 → ∃ e, gV true 2 (gv c (inD l)) (wipeE env0 [2]) = some e ∧ pFn line_in_m [pV 2] e = some (.lst (inD l)) := fun c l t hl => by
      refine ⟨[some (C.frz (G3 b b0 b1 b2 l0 l1 l2)), none, some (.frz (gv c (inD l)))], by rw [← hE]; rfl, ?_⟩
      have z := pFn_1 (p := pV 2) (env := [some (C.frz (G3 b b0 b1 b2 l0 l1 l2)), none, some (.frz (gv c (inD l)))]) rfl (line_in_v (b := c) t (by omega))
      rw [C.toD] at z
      exact z
    obtain ⟨e0, g0, p0⟩ := st b0 l0 h.t0 h.n0
    obtain ⟨e1, g1, p1⟩ := st b1 l1 h.t1 h.n1
    obtain ⟨e2, g2, p2⟩ := st b2 l2 h.t2 h.n2
    simp only [compF, g0, g1, g2, p0, p1, p2]
  have fc := fComp_ok (vs := [2]) (src := fSq (pV 0)) (env := env0) (by unfold fSq; rw [v0]; exact gv_sq b _) (by simp) cf
  have s1 : (eFrz (eF (fComp [2] (gV true 2) (fun _ => some true) (pFn line_in_m [pV 2]) (fSq (pV 0))))) env0 = .ok (.frz (L3 l0 l1 l2)) env0 := by
    have := eFrz_ok (eF_ok fc)
    rw [C.toD, toDs_fz] at this
    exact this
  rw [seq_nx (set_ok s1)]
  have e2 : env0.set 1 (some (C.frz (L3 l0 l1 l2))) = [some (.frz (G3 b b0 b1 b2 l0 l1 l2)), some (.frz (L3 l0 l1 l2)), none] := by rw [← hE]; rfl
  rw [e2]
  have cf2 : compF (gV true 2) (fun _ => some true) (pOp isN (pV 2) (pK .non)) [some (.frz (G3 b b0 b1 b2 l0 l1 l2)), some (.frz (L3 l0 l1 l2)), none] [.lst (inD l0), .lst (inD l1), .lst (inD l2)] = some [.bl false, .bl false, .bl false] := rfl
  have fc2 := fComp_ok (vs := [2]) (src := fSq (pV 1)) (env := [some (.frz (G3 b b0 b1 b2 l0 l1 l2)), some (.frz (L3 l0 l1 l2)), none]) (fSq_ok rfl) (by simp) cf2
  have q5 := qOf_b (b := false) (pCall_1 (fn := anyF) (v := .bl false) (pF_ok fc2) rfl)
  refine ret_ok (eP_of ?_)
  unfold pIf
  rw [q5]
  rfl
theorem fin1_ok {n a : Nat} (h : fin1 n a = true) {m : Nat} (hm : m ≤ 6) : okB fin2 8 n m a 22 = true := List.all_eq_true.mp h m (List.mem_range.mpr (by omega))
theorem ok_a {fin : Nat → Nat → Bool} {k n m a b : Nat} (h : okB fin (k + 1) n m a b = true) : a ≤ 13000 := by
  unfold okB at h
  simp only [Bool.and_eq_true, decide_eq_true_eq] at h
  exact h.1.1
theorem bd22 {l : List Int} (h : nrm l ≤ 2000000) : Bd 22 l := bd_nrm (by omega)
/-- what divides a number at every place is a number -/
theorem len_one {g : List Int} (t : Tr g) {N : Int} (hN : N ≠ 0) (h : ∀ x, val g x ∣ N) : g.length = 1 := by
  by_cases h0 : g = []
  · subst h0
    obtain ⟨p, hp⟩ := h 0
    simp [val] at hp
    exact absurd hp hN
  · have h1 := List.length_pos_iff.mpr h0
    by_cases h2 : 2 ≤ g.length
    · obtain ⟨X, hX⟩ := grow t h2 N.natAbs
      have := hX X (by omega)
      have := Nat.le_of_dvd (by omega) (Int.natAbs_dvd_natAbs.mpr (h X))
      omega
    · omega
theorem cop_one {l0 l1 l2 g1 g2 : List Int} (h : ∃ K : Int, K ≠ 0 ∧ ∀ x, ∃ u v w : Int, u * val l0 x + v * val l1 x + w * val l2 x = K) (s1 : Spec l0 l1 g1) (s2 : Spec g1 l2 g2) (t : Tr g2) : g2.length = 1 := by
  obtain ⟨K, hK, hk⟩ := h
  obtain ⟨_, M, hM, m⟩ := s1
  obtain ⟨_, N, hN, n⟩ := s2
  refine len_one t (N := N * M * K) (Int.mul_ne_zero (Int.mul_ne_zero hN hM) hK) fun x => ?_
  obtain ⟨u, v, w, e⟩ := hk x
  obtain ⟨⟨p, hp⟩, ⟨q, hq⟩⟩ := m x
  obtain ⟨⟨r, hr⟩, ⟨s, hs⟩⟩ := n x
  refine ⟨u * p * r + v * q * r + w * M * s, ?_⟩
  generalize val g2 x = g2x at *
  generalize val g1 x = g1x at *
  generalize val l0 x = a at *
  generalize val l1 x = b at *
  generalize val l2 x = c at *
  have e1 : N * (M * a) = g2x * r * p := by rw [hp, ← hr]; grind
  have e2 : N * (M * b) = g2x * r * q := by rw [hq, ← hr]; grind
  have e3 : M * (N * c) = M * (g2x * s) := by rw [hs]
  rw [← e]
  grind
theorem len_eqP {p : P} {env : Slots} {l : List Int} (h : p env = some (.lst (inD l))) : qOf (pOp neV' (pCall lenF [p]) (pK (.int 1))) env = some (!decide (l.length = 1)) ∧ qOf (pOp eqV' (pCall lenF [p]) (pK (.int 1))) env = some (decide (l.length = 1)) := by
  have hb : ((l.length : Int) == 1) = decide (l.length = 1) := by
    by_cases h1 : l.length = 1
    · rw [h1]; rfl
    · rw [decide_eq_false h1, beq_eq_false_iff_ne]; omega
  constructor
  · exact qOf_b (pOp_v (v := .bl (!decide (l.length = 1))) (len_p h) rfl (by simp only [neV', eqD_int, hb, Option.map_some]))
  · exact qOf_b (pOp_v (v := .bl (decide (l.length = 1))) (len_p h) rfl (by simp only [eqV', eqD_int, hb, Option.map_some]))
theorem L3_ix (l0 l1 l2 : List Int) : ixD (L3 l0 l1 l2) (.int 0) = some (.lst (inD l0)) ∧ ixD (L3 l0 l1 l2) (.int 1) = some (.lst (inD l1)) ∧ ixD (L3 l0 l1 l2) (.int 2) = some (.lst (inD l2)) := ⟨rfl, rfl, rfl⟩
theorem curve_in_v {b b0 b1 b2 : Bool} {l0 l1 l2 : List Int} (h : Crv l0 l1 l2) : Gives curve_in_m [.frz (G3 b b0 b1 b2 l0 l1 l2)] (.frz (L3 l0 l1 l2)) := by
  obtain ⟨i0, i1, i2⟩ := L3_ix l0 l1 l2
  obtain ⟨g1, a', c1, sp1, tg1, bg1, f1, lg1, ag1⟩ := common_v fin1 (k := 8) (a := 22) (b := 22) (ok_at (by have := h.n0; omega) (by have := h.n1; omega)) h.t0 h.t1 (bd22 h.b0) (bd22 h.b1) (by decide) (by decide) (by have := h.n0; omega) (by have := h.n1; omega) (by decide) (by decide)
  have fk := fin1_ok f1 h.n2
  obtain ⟨g2, a2, c2, sp2, tg2, _⟩ := common_v fin2 (k := 8) (a := a') (b := 22) fk tg1 h.t2 bg1 (bd22 h.b2) ag1 (by decide) lg1 (by have := h.n2; omega) (ok_a fk) (by decide)
  have one := cop_one h.cop sp1 sp2 tg2
  have dg := (degree_v l0 l1 l2).1
  generalize hD : G3 b b0 b1 b2 l0 l1 l2 = dd
  have tv := three_v (b := b) (b0 := b0) (b1 := b1) (b2 := b2) h
  rw [hD] at tv
  suffices hh : ∃ g : List Int, curve_in_b [some (.frz dd), none, none] = .rt (.frz (L3 l0 l1 l2)) [some (.frz dd), some (.frz (L3 l0 l1 l2)), some (.frz (.lst (inD g)))] by
    obtain ⟨g, hh⟩ := hh
    exact gives_rt ⟨_, hh⟩
  have s1 : (sSet 1 (eP (pFn three_lines_m [pV 0]))) [some (.frz dd), none, none] = .nx [some (.frz dd), some (.frz (L3 l0 l1 l2)), none] := by
    have z := pFn_1 (p := pV 0) (env := [some (.frz dd), none, none]) rfl tv
    rw [C.toD] at z
    exact set_ok (eP_of z)
  have s2 : (tP (qOr (qOf (pOp isN (pV 1) (pK .non))) (qNot (qOf (pChain (cmpI iLe) (cmpI iLe) (pK (.int 1)) (pFn degree_of_m [pV 1]) (pK (.int 5))))))) [some (.frz dd), some (.frz (L3 l0 l1 l2)), none] = .ok false [some (.frz dd), some (.frz (L3 l0 l1 l2)), none] := by
    have z := pFn_1 (p := pV 1) (env := [some (.frz dd), some (.frz (L3 l0 l1 l2)), none]) rfl dg
    rw [C.toD] at z
    have q1 : qOf (pOp isN (pV 1) (pK .non)) [some (.frz dd), some (.frz (L3 l0 l1 l2)), none] = some false := rfl
    have d1 := h.d1
    have d5 := h.d5
    have ch : pChain (cmpI iLe) (cmpI iLe) (pK (.int 1)) (pFn degree_of_m [pV 1]) (pK (.int 5)) [some (.frz dd), some (.frz (L3 l0 l1 l2)), none] = some (.bl true) := by
      unfold pChain
      rw [z]
      simp [pK, cmpI, iLe, d1, d5, ofV]
    exact tP_of (by simp only [qOr, q1, qNot, qOf_b ch, Option.map_some, Bool.not_true])
  have s3 : (sSet 2 (eP (pFn common_of_m [pIx (pV 1) (pK (.int 0)), pIx (pV 1) (pK (.int 1))]))) [some (.frz dd), some (.frz (L3 l0 l1 l2)), none] = .nx [some (.frz dd), some (.frz (L3 l0 l1 l2)), some (.frz (.lst (inD g1)))] := by
    have z := pFn_2 (p := pIx (pV 1) (pK (.int 0))) (q := pIx (pV 1) (pK (.int 1))) (env := [some (.frz dd), some (.frz (L3 l0 l1 l2)), none]) (pIx_ok (d := L3 l0 l1 l2) (k := .int 0) rfl rfl i0) (pIx_ok (d := L3 l0 l1 l2) (k := .int 1) rfl rfl i1) c1
    rw [C.toD] at z
    exact set_ok (eP_of z)
  have fin : ∀ g : List Int, g.length = 1 → (sRet (eP (pIf (qOf (pOp eqV' (pCall lenF [pV 2]) (pK (.int 1)))) (pV 1) (pK .non)))) [some (.frz dd), some (.frz (L3 l0 l1 l2)), some (.frz (.lst (inD g)))] = .rt (.frz (L3 l0 l1 l2)) [some (.frz dd), some (.frz (L3 l0 l1 l2)), some (.frz (.lst (inD g)))] := fun g hg => by
    refine ret_ok (eP_of ?_)
    have q := (len_eqP (p := pV 2) (env := [some (.frz dd), some (.frz (L3 l0 l1 l2)), some (.frz (.lst (inD g)))]) (l := g) rfl).2
    rw [decide_eq_true hg] at q
    unfold pIf
    rw [q]
    rfl
  have q := (len_eqP (p := pV 2) (env := [some (.frz dd), some (.frz (L3 l0 l1 l2)), some (.frz (.lst (inD g1)))]) (l := g1) rfl).1
  unfold curve_in_b
  by_cases hg : g1.length = 1
  · rw [decide_eq_true hg] at q
    refine ⟨g1, ?_⟩
    rw [seq_nx s1, seq_nx (if_no s2), seq_nx s3, seq_nx (if_no (tP_of q))]
    exact fin g1 hg
  · rw [decide_eq_false hg] at q
    refine ⟨g2, ?_⟩
    have s4 : (sSet 2 (eP (pFn common_of_m [pV 2, pIx (pV 1) (pK (.int 2))]))) [some (.frz dd), some (.frz (L3 l0 l1 l2)), some (.frz (.lst (inD g1)))] = .nx [some (.frz dd), some (.frz (L3 l0 l1 l2)), some (.frz (.lst (inD g2)))] := by
      have z := pFn_2 (p := pV 2) (q := pIx (pV 1) (pK (.int 2))) (env := [some (.frz dd), some (.frz (L3 l0 l1 l2)), some (.frz (.lst (inD g1)))]) (a := .lst (inD g1)) rfl (pIx_ok (d := L3 l0 l1 l2) (k := .int 2) rfl rfl i2) c2
      rw [C.toD] at z
      exact set_ok (eP_of z)
    rw [seq_nx s1, seq_nx (if_no s2), seq_nx s3, seq_nx ((if_t (tP_of q)).trans s4)]
    exact fin g2 one
theorem want_curve_v {b b0 b1 b2 : Bool} {l0 l1 l2 : List Int} (h : Crv l0 l1 l2) : Gives want_curve_m [.frz (G3 b b0 b1 b2 l0 l1 l2)] (.frz (L3 l0 l1 l2)) := by
  have cv := curve_in_v (b := b) (b0 := b0) (b1 := b1) (b2 := b2) h
  generalize G3 b b0 b1 b2 l0 l1 l2 = dd at *
  refine gives_rt ⟨[some (.frz dd), some (.frz (L3 l0 l1 l2))], ?_⟩
  have z := pFn_1 (p := pV 0) (env := [some (.frz dd), none]) rfl cv
  rw [C.toD] at z
  have s1 : (sSet 1 (eP (pFn curve_in_m [pV 0]))) [some (.frz dd), none] = .nx [some (.frz dd), some (.frz (L3 l0 l1 l2))] := set_ok (eP_of z)
  have q1 : qOf (pOp isN (pV 1) (pK .non)) [some (.frz dd), some (.frz (L3 l0 l1 l2))] = some false := rfl
  rw [show startE 2 [.frz dd] = [some (.frz dd), none] from rfl]
  unfold want_curve_b
  rw [seq_nx s1, seq_nx (if_no (tP_of q1))]
  exact ret_ok (eP_of rfl)
theorem is_curve_v {b b0 b1 b2 : Bool} {l0 l1 l2 : List Int} (h : Crv l0 l1 l2) : Gives is_curve_m [.frz (G3 b b0 b1 b2 l0 l1 l2)] (.frz (.bl true)) := by
  have cv := curve_in_v (b := b) (b0 := b0) (b1 := b1) (b2 := b2) h
  generalize G3 b b0 b1 b2 l0 l1 l2 = dd at *
  refine gives_rt ⟨[some (.frz dd)], ?_⟩
  have z := pFn_1 (p := pV 0) (env := [some (.frz dd)]) rfl cv
  rw [C.toD] at z
  exact ret_ok (eP_of (pOp_v (b := .non) (v := .bl true) z rfl rfl))
theorem curve_degree_v {b b0 b1 b2 : Bool} {l0 l1 l2 : List Int} (h : Crv l0 l1 l2) : Gives curve_degree_m [.frz (G3 b b0 b1 b2 l0 l1 l2)] (.frz (.int (deg3 l0 l1 l2))) := by
  have cv := want_curve_v (b := b) (b0 := b0) (b1 := b1) (b2 := b2) h
  have dg := (degree_v l0 l1 l2).1
  generalize G3 b b0 b1 b2 l0 l1 l2 = dd at *
  refine gives_rt ⟨[some (.frz dd)], ?_⟩
  have z := pFn_1 (p := pV 0) (env := [some (.frz dd)]) rfl cv
  rw [C.toD] at z
  have z2 := pFn_1 z dg
  rw [C.toD] at z2
  exact ret_ok (eP_of z2)
end k71
namespace k71
open PySem PySem.Spec PyProof.Rows L2 PL
/-! ### points -/
def nzL (f : List Int) : List Int := f.filter fun y => y ≠ 0
def hdI (f : List Int) : Int := (nzL f).headD 0
def pointI (v : List Int) : List Int := if 0 < hdI (bareL v) then bareL v else (bareL v).map fun y => -y
theorem comp_nz {i : Nat} {env : Slots} (h : ∀ y : Int, ∃ e, gV true i (.int y) env = some e ∧ pV i e = some (.int y)) : ∀ f : List Int, compF (gV true i) (qOf (pOp neV' (pV i) (pK (.int 0)))) (pV i) env (inD f) = some (inD (nzL f))
  | [] => rfl
  | y :: f => by
    have ih := comp_nz h f
    obtain ⟨e, e1, e2⟩ := h y
    rw [inD_cons]
    unfold compF
    rw [e1]
    by_cases hy : y = 0
    · have q : qOf (pOp neV' (pV i) (pK (.int 0))) e = some false := qOf_b (pOp_v (v := .bl false) e2 rfl (by simp [neV', hy]))
      simp only [q, ih]
      simp [nzL, hy]
    · have q : qOf (pOp neV' (pV i) (pK (.int 0))) e = some true := qOf_b (pOp_v (v := .bl true) e2 rfl (by simp [neV', hy]))
      simp only [q, e2, ih]
      simp [nzL, hy, inD]
theorem hd_ix {f : List Int} (h : ∃ y ∈ f, y ≠ 0) : atI (inD (nzL f)) 0 = some (.int (hdI f)) ∧ hdI f ≠ 0 ∧ hdI f ∈ f := by
  obtain ⟨y, hy, h0⟩ := h
  have hm : y ∈ nzL f := List.mem_filter.mpr ⟨hy, by simpa using h0⟩
  unfold hdI
  cases e : nzL f with
  | nil => rw [e] at hm; cases hm
  | cons z r =>
    have hz : z ∈ nzL f := by rw [e]; simp
    have hz := List.mem_filter.mp hz
    refine ⟨?_, by simpa using hz.2, hz.1⟩
    have := atI_int (l := z :: r) (k := 0) (by simp)
    simpa using this
theorem bare_nz {v : List Int} (h : ∃ y ∈ v, y ≠ 0) : ∃ y ∈ bareL v, y ≠ 0 := by
  unfold bareL
  split
  · obtain ⟨y, hy, h0⟩ := h
    refine ⟨y.fdiv (gcdF 0 v), List.mem_map_of_mem hy, fun z => h0 ?_⟩
    have := fdiv_dvd ((gcdF_dvd v 0).2 y hy)
    rw [z] at this
    omega
  · exact h
theorem bare_len (v : List Int) : (bareL v).length = v.length := by
  unfold bareL
  split
  · simp [divL]
  · rfl
theorem neg_comp {A : Option C} {p : P} {src : PLs} {f : List Int} {e1 e2 : Option C} (hs : src [A, e1, e2, none] = some (inD f)) (hl : f.length ≤ 100) (hp : ∀ y : Int, p [A, e1, e2, some (.frz (.int y))] = some (.int (-y))) : fComp [3] (gV true 3) (fun _ => some true) p src [A, e1, e2, none] = some (inD (f.map fun y => -y)) :=
  fComp_ok hs (by rw [inD_len]; omega) (compF_int (fun y => -y) fun y _ => ⟨[A, e1, e2, some (.frz (.int y))], rfl, rfl, hp y⟩)
theorem pos_q {A e1 e3 : Option C} {f : List Int} (h : ∃ y ∈ f, y ≠ 0) : qOf (pOp (cmpI iGt) (pIx (pV 2) (pK (.int 0))) (pK (.int 0))) [A, e1, some (.frz (.lst (inD (nzL f)))), e3] = some (decide (0 < hdI f)) := by
  obtain ⟨h1, h2, h3⟩ := hd_ix h
  exact qOf_b (pOp_v (a := .int (hdI f)) (b := .int 0) (v := .bl (decide (0 < hdI f))) (pIx_ok (d := .lst (inD (nzL f))) (k := .int 0) rfl rfl h1) rfl rfl)
theorem bare_three_v {v : List Int} (hs : v.length ≤ 100) (hb : ∀ x ∈ v, x.natAbs < HUGE) (h : ∃ y ∈ v, y ≠ 0) : Gives bare_three_m [.frz (.lst (inD v))] (.own (fz (inD (pointI v)))) := by
  obtain ⟨o, lo⟩ := lowest_v (l := v) hs hb
  have hn := bare_nz h
  have lf : (bareL v).length ≤ 100 := by rw [bare_len]; exact hs
  unfold pointI
  generalize bareL v = f at *
  have s1 : (sSet 1 (eFnO lowest_m [eP (pV 0)])) [some (.frz (.lst (inD v))), none, none, none] = .nx [some (.frz (.lst (inD v))), some (.own (fz (inD f))), none, none] := set_ok (eFnO_1 (a := .frz (.lst (inD v))) (eP_of rfl) lo)
  have src : lKf (PL.kV 1) [some (.frz (.lst (inD v))), some (.own (fz (inD f))), none, none] = some (inD f) := by
    unfold lKf PL.kV
    simp
  have src2 : lKf (PL.kV 1) [some (.frz (.lst (inD v))), some (.own (fz (inD f))), some (.frz (.lst (inD (nzL f)))), none] = some (inD f) := by
    unfold lKf PL.kV
    simp
  have fc := fComp_ok (vs := [3]) src (by rw [inD_len]; omega) (comp_nz (i := 3) (fun y => ⟨_, rfl, rfl⟩) f)
  have s2 : (sSet 2 (eFrz (eF (fComp [3] (gV true 3) (qOf (pOp neV' (pV 3) (pK (.int 0)))) (pV 3) (lKf (PL.kV 1)))))) [some (.frz (.lst (inD v))), some (.own (fz (inD f))), none, none] = .nx [some (.frz (.lst (inD v))), some (.own (fz (inD f))), some (.frz (.lst (inD (nzL f)))), none] := by
    have := eFrz_ok (eF_ok fc)
    rw [C.toD, toDs_fz] at this
    exact set_ok this
  have q := pos_q (A := some (.frz (.lst (inD v)))) (e1 := some (.own (fz (inD f)))) (e3 := none) hn
  have nc := neg_comp (p := pNeg (pV 3)) src2 lf fun y => rfl
  suffices hh : ∃ e, bare_three_b [some (.frz (.lst (inD v))), none, none, none] = .rt (.own (fz (inD (if 0 < hdI f then f else f.map fun y => -y)))) e from gives_rt hh
  unfold bare_three_b
  rw [seq_nx s1, seq_nx s2]
  by_cases hp : 0 < hdI f
  · rw [decide_eq_true hp] at q
    rw [if_pos hp]
    refine ⟨[some (.frz (.lst (inD v))), none, some (.frz (.lst (inD (nzL f)))), none], ret_ok ?_⟩
    unfold eIf
    rw [tP_of q]
    rfl
  · rw [decide_eq_false hp] at q
    rw [if_neg hp]
    refine ⟨[some (.frz (.lst (inD v))), some (.own (fz (inD f))), some (.frz (.lst (inD (nzL f)))), none], ret_ok ?_⟩
    unfold eIf
    rw [tP_of q]
    exact eF_ok nc
theorem law_point_v {v : List Int} (hs : v.length ≤ 100) (hb : ∀ x ∈ v, x.natAbs < HUGE) (h : ∃ y ∈ v, y ≠ 0) : Gives _law_point_m [.frz (.lst (inD v))] (.frz (.lst (inD (pointI v)))) := by
  have lo := bare_v (l := v) hs hb
  have hn := bare_nz h
  have lf : (bareL v).length ≤ 100 := by rw [bare_len]; exact hs
  unfold pointI
  generalize bareL v = f at *
  have z := pFn_1 (p := pV 0) (env := [some (.frz (.lst (inD v))), none, none, none]) rfl lo
  rw [C.toD] at z
  have s1 : (sSet 1 (eP (pFn _law_bare_m [pV 0]))) [some (.frz (.lst (inD v))), none, none, none] = .nx [some (.frz (.lst (inD v))), some (.frz (.lst (inD f))), none, none] := set_ok (eP_of z)
  have fc := fComp_ok (vs := [3]) (src := fSq (pV 1)) (env := [some (.frz (.lst (inD v))), some (.frz (.lst (inD f))), none, none]) (fSq_ok rfl) (by rw [inD_len]; omega) (comp_nz (i := 3) (fun y => ⟨_, rfl, rfl⟩) f)
  have s2 : (sSet 2 (eFrz (eF (fComp [3] (gV true 3) (qOf (pOp neV' (pV 3) (pK (.int 0)))) (pV 3) (fSq (pV 1)))))) [some (.frz (.lst (inD v))), some (.frz (.lst (inD f))), none, none] = .nx [some (.frz (.lst (inD v))), some (.frz (.lst (inD f))), some (.frz (.lst (inD (nzL f)))), none] := by
    have := eFrz_ok (eF_ok fc)
    rw [C.toD, toDs_fz] at this
    exact set_ok this
  have q := pos_q (A := some (.frz (.lst (inD v)))) (e1 := some (.frz (.lst (inD f)))) (e3 := none) hn
  have nc := neg_comp (A := some (.frz (.lst (inD v)))) (e1 := some (.frz (.lst (inD f)))) (e2 := some (.frz (.lst (inD (nzL f))))) (p := pOp subI (pK (.int 0)) (pV 3)) (src := fSq (pV 1)) (fSq_ok rfl) lf fun y => pOp_v (a := .int 0) (b := .int y) (v := .int (-y)) rfl rfl (by simp [subI])
  refine gives_rt ⟨[some (.frz (.lst (inD v))), some (.frz (.lst (inD f))), some (.frz (.lst (inD (nzL f)))), none], ?_⟩
  rw [show startE 4 [.frz (.lst (inD v))] = [some (.frz (.lst (inD v))), none, none, none] from rfl]
  unfold _law_point_b
  rw [seq_nx s1, seq_nx s2]
  refine ret_ok (eP_of ?_)
  unfold pIf
  rw [q]
  by_cases hp : 0 < hdI f
  · rw [decide_eq_true hp, if_pos hp]
    rfl
  · rw [decide_eq_false hp, if_neg hp]
    exact pF_ok nc
/-! scaling a point -/
theorem gcdF_scale (T : Int) : ∀ (v : List Int) (g : Nat), gcdF (T.natAbs * g) (v.map fun y => y * T) = T.natAbs * gcdF g v
  | [], g => rfl
  | x :: v, g => by
    rw [List.map_cons, gcdF_cons, gcdF_cons, ← gcdF_scale T v]
    congr 1
    have := Int.gcd_mul_left T g x
    rw [← this, Int.mul_comm x T]
    simp [Int.gcd, Int.natAbs_mul]
theorem bare_div {v : List Int} (h : ∃ y ∈ v, y ≠ 0) : gcdF 0 v ≠ 0 ∧ bareL v = divL v (gcdF 0 v) := by
  have h0 : gcdF 0 v ≠ 0 := fun z => by
    obtain ⟨y, hy, h1⟩ := h
    exact h1 ((gcdF_zero z).2 y hy)
  refine ⟨h0, ?_⟩
  unfold bareL
  split
  · rfl
  · have e : gcdF 0 v = 1 := by omega
    rw [e]
    unfold divL
    conv => lhs; rw [← List.map_id v]
    exact List.map_congr_left fun y _ => by simp
theorem hd_neg (f : List Int) : hdI (f.map fun y => -y) = -hdI f := by
  unfold hdI nzL
  rw [List.filter_map]
  have : ((fun y : Int => decide (y ≠ 0)) ∘ fun y => -y) = fun y => decide (y ≠ 0) := by
    funext y
    simp
  rw [this]
  cases List.filter (fun y : Int => decide (y ≠ 0)) f <;> simp
theorem point_scale {v : List Int} {T : Int} (hT : T ≠ 0) (h : ∃ y ∈ v, y ≠ 0) : pointI (v.map fun y => y * T) = pointI v := by
  obtain ⟨g0, e1⟩ := bare_div h
  have h2 : ∃ y ∈ v.map (fun y => y * T), y ≠ 0 := by
    obtain ⟨y, hy, h1⟩ := h
    exact ⟨y * T, List.mem_map_of_mem hy, Int.mul_ne_zero h1 hT⟩
  obtain ⟨g2, e2⟩ := bare_div h2
  have gs := gcdF_scale T v 0
  rw [Nat.mul_zero] at gs
  have hd := hd_ix (bare_nz h)
  have dv := (gcdF_dvd v 0).2
  rw [gs] at e2
  have key : bareL (v.map fun y => y * T) = if 0 < T then bareL v else (bareL v).map fun y => -y := by
    rw [e2, e1]
    unfold divL
    rw [List.map_map]
    split
    · rename_i hp
      refine List.map_congr_left fun y hy => ?_
      have hTn : ((T.natAbs * gcdF 0 v : Nat) : Int) = T * gcdF 0 v := by push_cast; rw [show (T.natAbs : Int) = T by omega]
      have := fdiv_dvd (dv y hy)
      refine Int.eq_of_mul_eq_mul_left (a := T * gcdF 0 v) (Int.mul_ne_zero hT (by omega)) ?_
      rw [show ((fun y => y.fdiv ((T.natAbs * gcdF 0 v : Nat) : Int)) ∘ fun y => y * T) y = (y * T).fdiv (T * gcdF 0 v) by simp only [Function.comp, hTn]]
      rw [fdiv_dvd (by rw [Int.mul_comm y T]; exact Int.mul_dvd_mul_left T (dv y hy)), Int.mul_assoc, this, Int.mul_comm]
    · rename_i hp
      rw [List.map_map]
      refine List.map_congr_left fun y hy => ?_
      have hTn : ((T.natAbs * gcdF 0 v : Nat) : Int) = -T * gcdF 0 v := by push_cast; rw [show (T.natAbs : Int) = -T by omega]
      have := fdiv_dvd (dv y hy)
      refine Int.eq_of_mul_eq_mul_left (a := -T * gcdF 0 v) (Int.mul_ne_zero (by omega) (by omega)) ?_
      rw [show ((fun y => y.fdiv ((T.natAbs * gcdF 0 v : Nat) : Int)) ∘ fun y => y * T) y = (y * T).fdiv (-T * gcdF 0 v) by simp only [Function.comp, hTn]]
      have d2 : -T * (gcdF 0 v : Int) ∣ y * T := by
        rw [Int.neg_mul, Int.neg_dvd, Int.mul_comm y T]
        exact Int.mul_dvd_mul_left T (dv y hy)
      rw [fdiv_dvd d2]
      show y * T = -T * (gcdF 0 v : Int) * -(y.fdiv (gcdF 0 v))
      have e : -T * (gcdF 0 v : Int) * -(y.fdiv (gcdF 0 v)) = T * ((gcdF 0 v : Int) * y.fdiv (gcdF 0 v)) := by grind
      rw [e, this, Int.mul_comm]
  unfold pointI
  rw [key]
  split
  · rfl
  · rename_i hp
    rw [hd_neg]
    by_cases h3 : 0 < hdI (bareL v)
    · rw [if_neg (by omega), if_pos h3, List.map_map]
      conv => rhs; rw [← List.map_id (bareL v)]
      exact List.map_congr_left fun y _ => by simp
    · rw [if_pos (by omega), if_neg h3]
/-! how great values are -/
theorem val_bound {X : Nat} (hX : 1 ≤ X) {x : Int} (hx : x.natAbs ≤ X) : ∀ l : List Int, (val l x).natAbs ≤ nrm l * X ^ l.length
  | [] => by simp [val, nrm]
  | a :: l => by
    have ih := val_bound hX hx l
    simp only [val, nrm, List.length_cons, Nat.pow_succ]
    have h1 : (val l x * x + a).natAbs ≤ (val l x * x).natAbs + a.natAbs := Int.natAbs_add_le ..
    rw [Int.natAbs_mul] at h1
    have h2 := Nat.mul_le_mul ih hx
    have hp : 1 ≤ X ^ l.length * X := Nat.mul_pos (Nat.pow_pos hX) hX
    have h3 : a.natAbs * 1 ≤ a.natAbs * (X ^ l.length * X) := Nat.mul_le_mul_left _ hp
    have h4 : (a.natAbs + nrm l) * (X ^ l.length * X) = a.natAbs * (X ^ l.length * X) + nrm l * X ^ l.length * X := by
      rw [Nat.add_mul, Nat.mul_assoc (nrm l)]
    omega
theorem val_big {l : List Int} {x : Int} (h : nrm l ≤ 2000000) (hl : l.length ≤ 6) (hx : x.natAbs < 2 ^ 40) : (val l x).natAbs < 2 ^ 300 := by
  have h1 := val_bound (X := 2 ^ 40) (by decide) (x := x) (by omega) l
  have h2 : (2 ^ 40) ^ l.length ≤ (2 ^ 40) ^ 6 := Nat.pow_le_pow_right (by decide) hl
  have h3 := Nat.mul_le_mul h h2
  have : 2000000 * (2 ^ 40) ^ 6 < 2 ^ 300 := by decide
  omega
def V3 (l0 l1 l2 : List Int) (x : Int) : List Int := [val l0 x, val l1 x, val l2 x]
theorem Crv.vnz {l0 l1 l2 : List Int} (h : Crv l0 l1 l2) (x : Int) : ∃ y ∈ V3 l0 l1 l2 x, y ≠ 0 := by
  obtain ⟨K, hK, hk⟩ := h.cop
  obtain ⟨u, v, w, e⟩ := hk x
  by_cases a : val l0 x = 0
  · by_cases b : val l1 x = 0
    · by_cases c : val l2 x = 0
      · rw [a, b, c] at e
        omega
      · exact ⟨_, by simp [V3], c⟩
    · exact ⟨_, by simp [V3], b⟩
  · exact ⟨_, by simp [V3], a⟩
theorem Crv.vbig {l0 l1 l2 : List Int} (h : Crv l0 l1 l2) {x : Int} (hx : x.natAbs < 2 ^ 40) : ∀ y ∈ V3 l0 l1 l2 x, y.natAbs < 2 ^ 300 := fun y hy => by
  simp only [V3, List.mem_cons, List.not_mem_nil, or_false] at hy
  rcases hy with rfl | rfl | rfl
  · exact val_big h.b0 h.n0 hx
  · exact val_big h.b1 h.n1 hx
  · exact val_big h.b2 h.n2 hx
theorem huge300 {x : Nat} (h : x < 2 ^ 300) : x < HUGE := huge_of h (by decide)
theorem comp3 {t : Tg} {p : P} {env : Slots} {a b c : D} {x y z : D} (h0 : ∃ e, t a env = some e ∧ p e = some x) (h1 : ∃ e, t b env = some e ∧ p e = some y) (h2 : ∃ e, t c env = some e ∧ p e = some z) : compF t (fun _ => some true) p env [a, b, c] = some [x, y, z] := by
  obtain ⟨e0, g0, p0⟩ := h0
  obtain ⟨e1, g1, p1⟩ := h1
  obtain ⟨e2, g2, p2⟩ := h2
  simp only [compF, g0, g1, g2, p0, p1, p2]
theorem b64 {x : Int} (h : x.natAbs < 2 ^ 40) : -(2 ^ 64) < x ∧ x < 2 ^ 64 := by omega
theorem want_number_v (x : Int) : want_number_m [.frz (.int x)] = .ok (.frz .non) [none] := by
  have q := qOf_b (p := pFn is_integer_m [pV 0]) (env := [some (.frz (.int x))]) (b := true) (pFn_1 (c := .frz (.bl true)) rfl ⟨_, is_integer_v x⟩)
  have t : (tP (qNot (qOf (pFn is_integer_m [pV 0])))) [some (.frz (.int x))] = .ok false [some (.frz (.int x))] := tP_of (by simp only [qNot, q, Option.map_some, Bool.not_true])
  exact body_nx (N := 1) (pn := []) (a := 1) (cs := [.frz (.int x)]) (f := want_number_b) (if_no t)
theorem point_at_v {b b0 b1 b2 : Bool} {l0 l1 l2 : List Int} (h : Crv l0 l1 l2) {x : Int} (hx : x.natAbs < 2 ^ 40) : Gives point_at_m [.frz (G3 b b0 b1 b2 l0 l1 l2), .frz (.int x)] (.frz (.lst (inD (pointI (V3 l0 l1 l2 x))))) := by
  have cv := want_curve_v (b := b) (b0 := b0) (b1 := b1) (b2 := b2) h
  obtain ⟨x1, x2⟩ := b64 hx
  have bt := bare_three_v (v := V3 l0 l1 l2 x) (by simp [V3]) (fun y hy => huge300 (h.vbig hx y hy)) (h.vnz x)
  generalize G3 b b0 b1 b2 l0 l1 l2 = dd at *
  have z := pFn_1 (p := pV 0) (env := [some (.frz dd), some (.frz (.int x)), none, none]) rfl cv
  rw [C.toD] at z
  have s1 : (sSet 2 (eP (pFn want_curve_m [pV 0]))) [some (.frz dd), some (.frz (.int x)), none, none] = .nx [some (.frz dd), some (.frz (.int x)), some (.frz (L3 l0 l1 l2)), none] := set_ok (eP_of z)
  have s2 : (sDrop (eP (pFn want_number_m [pV 1]))) [some (.frz dd), some (.frz (.int x)), some (.frz (L3 l0 l1 l2)), none] = .nx [some (.frz dd), some (.frz (.int x)), some (.frz (L3 l0 l1 l2)), none] := drop_ok (eP_of (pFn_1 (c := .frz .non) rfl ⟨_, want_number_v x⟩))
  have st : ∀ l : List Int, ∃ e, gV true 3 (.lst (inD l)) [some (.frz dd), some (.frz (.int x)), some (.frz (L3 l0 l1 l2)), none] = some e ∧ pFn value_at_m [pV 3, pV 1] e = some (.int (val l x)) := fun l => by
    refine ⟨[some (.frz dd), some (.frz (.int x)), some (.frz (L3 l0 l1 l2)), some (.frz (.lst (inD l)))], rfl, ?_⟩
    have z := pFn_2 (p := pV 3) (q := pV 1) (env := [some (.frz dd), some (.frz (.int x)), some (.frz (L3 l0 l1 l2)), some (.frz (.lst (inD l)))]) rfl rfl (value_v (l := l) x1 x2).1
    rw [C.toD] at z
    exact z
  have fc := fComp_ok (vs := [3]) (env := [some (.frz dd), some (.frz (.int x)), some (.frz (L3 l0 l1 l2)), none]) (src := fSq (pV 2)) (l := [.lst (inD l0), .lst (inD l1), .lst (inD l2)]) (fSq_ok rfl) (by simp) (comp3 (st l0) (st l1) (st l2))
  have z2 := pFn_1 (pF_ok fc) bt
  rw [C.toD, toDs_fz] at z2
  refine gives_rt ⟨[some (.frz dd), some (.frz (.int x)), some (.frz (L3 l0 l1 l2)), none], ?_⟩
  rw [show startE 4 [.frz dd, .frz (.int x)] = [some (.frz dd), some (.frz (.int x)), none, none] from rfl]
  unfold point_at_b
  rw [seq_nx s1, seq_nx s2]
  exact ret_ok (eP_of z2)
/-! the point at infinite time -/
def tipI (n : Int) (l : List Int) : Int := if (l.length : Int) = n then lastI l else 0
def T3 (l0 l1 l2 : List Int) : List Int := [tipI (deg3 l0 l1 l2 + 1) l0, tipI (deg3 l0 l1 l2 + 1) l1, tipI (deg3 l0 l1 l2 + 1) l2]
theorem top_big {l : List Int} (n : Int) (h : nrm l ≤ 2000000) : (tipI n l).natAbs < 2 ^ 300 := by
  unfold tipI
  split
  · by_cases h0 : l = []
    · subst h0; decide
    · have := mem_nrm (last_mem h0)
      have : 2000000 < 2 ^ 300 := by decide
      omega
  · decide
theorem Crv.tbig {l0 l1 l2 : List Int} (h : Crv l0 l1 l2) : ∀ y ∈ T3 l0 l1 l2, y.natAbs < 2 ^ 300 := fun y hy => by
  simp only [T3, List.mem_cons, List.not_mem_nil, or_false] at hy
  rcases hy with rfl | rfl | rfl
  · exact top_big _ h.b0
  · exact top_big _ h.b1
  · exact top_big _ h.b2
theorem top_nz {l : List Int} {n : Int} (t : Tr l) (h : (l.length : Int) = n) (hn : 0 < n) : tipI n l ≠ 0 := by
  unfold tipI
  rw [if_pos h]
  obtain ⟨u, c, _, hc, e⟩ := snoc_of t (by intro z; rw [z] at h; simp at h; omega)
  rw [e]; exact hc
theorem Crv.tnz {l0 l1 l2 : List Int} (h : Crv l0 l1 l2) : ∃ y ∈ T3 l0 l1 l2, y ≠ 0 := by
  have d := h.d1
  by_cases a : (l0.length : Int) = deg3 l0 l1 l2 + 1
  · exact ⟨_, by simp [T3], top_nz h.t0 a (by omega)⟩
  · by_cases b : (l1.length : Int) = deg3 l0 l1 l2 + 1
    · exact ⟨_, by simp [T3], top_nz h.t1 b (by omega)⟩
    · exact ⟨_, by simp [T3], top_nz (l := l2) (n := deg3 l0 l1 l2 + 1) h.t2 (by unfold deg3 at *; omega) (by omega)⟩
theorem point_after_v {b b0 b1 b2 : Bool} {l0 l1 l2 : List Int} (h : Crv l0 l1 l2) : Gives point_after_m [.frz (G3 b b0 b1 b2 l0 l1 l2)] (.own (fz (inD (pointI (T3 l0 l1 l2))))) := by
  have cv := want_curve_v (b := b) (b0 := b0) (b1 := b1) (b2 := b2) h
  obtain ⟨ob, bt⟩ := bare_three_v (v := T3 l0 l1 l2) (by simp [T3]) (fun y hy => huge300 (h.tbig y hy)) h.tnz
  have dg := (degree_v l0 l1 l2).1
  generalize G3 b b0 b1 b2 l0 l1 l2 = dd at *
  have z := pFn_1 (p := pV 0) (env := [some (.frz dd), none, none, none]) rfl cv
  rw [C.toD] at z
  have s1 : (sSet 1 (eP (pFn want_curve_m [pV 0]))) [some (.frz dd), none, none, none] = .nx [some (.frz dd), some (.frz (L3 l0 l1 l2)), none, none] := set_ok (eP_of z)
  have z1 := pFn_1 (p := pV 1) (env := [some (.frz dd), some (.frz (L3 l0 l1 l2)), none, none]) rfl dg
  rw [C.toD] at z1
  have s2 : (sSet 2 (eP (pOp addI (pFn degree_of_m [pV 1]) (pK (.int 1))))) [some (.frz dd), some (.frz (L3 l0 l1 l2)), none, none] = .nx [some (.frz dd), some (.frz (L3 l0 l1 l2)), some (.frz (.int (deg3 l0 l1 l2 + 1))), none] := set_ok (eP_of (pOp_v (v := .int (deg3 l0 l1 l2 + 1)) z1 rfl rfl))
  have hd := h.d1
  generalize hn : deg3 l0 l1 l2 + 1 = n at *
  have st : ∀ l : List Int, ∃ e, gV true 3 (.lst (inD l)) [some (.frz dd), some (.frz (L3 l0 l1 l2)), some (.frz (.int n)), none] = some e ∧ pIf (qOf (pOp eqV' (pCall lenF [pV 3]) (pV 2))) (pIx (pV 3) (pNeg (pK (.int 1)))) (pK (.int 0)) e = some (.int (tipI n l)) := fun l => by
    refine ⟨[some (.frz dd), some (.frz (L3 l0 l1 l2)), some (.frz (.int n)), some (.frz (.lst (inD l)))], rfl, ?_⟩
    have q := qOf_b (b := ((l.length : Int) == n)) (pOp_v (op := eqV') (v := .bl ((l.length : Int) == n)) (len_p (p := pV 3) (env := [some (.frz dd), some (.frz (L3 l0 l1 l2)), some (.frz (.int n)), some (.frz (.lst (inD l)))]) (l := l) rfl) (show pV 2 _ = some (.int n) from rfl) (by simp only [eqV', eqD_int, Option.map_some]))
    unfold pIf tipI
    rw [q]
    by_cases e : (l.length : Int) = n
    · rw [if_pos e]
      have : ((l.length : Int) == n) = true := by rw [e]; simp
      rw [this]
      exact pIx_ok (d := .lst (inD l)) (k := .int (-1)) rfl rfl (last_ix (by intro z; rw [z] at e; simp at e; omega))
    · rw [if_neg e]
      have : ((l.length : Int) == n) = false := by rw [beq_eq_false_iff_ne]; exact e
      rw [this]
      rfl
  have fc := fComp_ok (vs := [3]) (env := [some (.frz dd), some (.frz (L3 l0 l1 l2)), some (.frz (.int n)), none]) (src := fSq (pV 1)) (l := [.lst (inD l0), .lst (inD l1), .lst (inD l2)]) (fSq_ok rfl) (by simp) (comp3 (st l0) (st l1) (st l2))
  have te : [D.int (tipI n l0), .int (tipI n l1), .int (tipI n l2)] = inD (T3 l0 l1 l2) := by unfold T3; rw [hn]; rfl
  rw [te] at fc
  refine gives_rt ⟨[some (.frz dd), some (.frz (L3 l0 l1 l2)), some (.frz (.int n)), none], ?_⟩
  rw [show startE 4 [.frz dd] = [some (.frz dd), none, none, none] from rfl]
  unfold point_after_b
  rw [seq_nx s1, seq_nx s2]
  exact ret_ok (eFnO_1 (eP_of (pF_ok fc)) bt)
end k71
namespace k71
open PySem PySem.Spec PyProof.Rows L2 PL
/-! ### draws -/
theorem draw_ok : DrawOk _law_draw_m := by
  rintro c s ⟨a, b, rfl, hb, hb2⟩ hs hs2
  by_cases ha : 0 < a
  · refine ⟨a % s, pot (a / s) b, ?_, Int.emod_nonneg _ (by omega), Int.emod_lt_of_pos _ hs, _, _, rfl, hb, hb2⟩
    have hp : Builtin.divisionGoesByPylong a s = false := PyProof.noPylong_small (by omega)
    simp [_law_draw_m, _law_draw_b, pot, PL.bodyM, PL.startE, PL.outsE, PL.sSeq, PL.sNx, PL.sBk, PL.sCt, PL.sNo, PL.sOf, PL.sSet, PL.sRet, PL.sRetN, PL.sDrop, PL.sIf, PL.sAsg, PL.sAug, PL.sAugIx, PL.sPar, PL.sFor, PL.eP, PL.eF, PL.eFrz, PL.eV, PL.eMv, PL.eFn, PL.eFnO, PL.eFnL, PL.lentTo, PL.eLst, PL.eTup, PL.eCall, PL.eOp, PL.eBin, PL.eIx, PL.eIf, PL.eAnd, PL.eOr, PL.eApp, PL.eAppP, PL.ePop, PL.eExt, PL.eExtM, PL.eCat, PL.eRep, PL.catD, PL.repD, PL.eComp, PL.tP, PL.tOfE, PL.tAnd, PL.tOr, PL.tNot, PL.pV, PL.bV, PL.pK, PL.pOp, PL.pChain, PL.qOf, PL.qAnd, PL.qOr, PL.qNot, PL.pAnd, PL.pOr, PL.pNot, PL.pIf, PL.pNeg, PL.pCall, PL.pFn, PL.pFnB, PL.pFnK, PL.pick, PL.pDm, PL.dmD, PL.pIx, PL.ixD, L2.atI, L2.ixN, PL.pSl, PL.pTup, PL.pF, PL.lP, PL.lKf, PL.frzs, PL.kV, PL.kIx, PL.ixC, PL.pKf, PL.bKf, PL.evPs_n, PL.evPs_c, PL.evMs_n, PL.evMs_c, PL.fCat, PL.fRep, PL.fSl, PL.evO, PL.fRev, PL.fSq, PL.sqD, PL.fList, PL.pTupL, PL.fComp, PL.enumS, PL.enumP, PL.zipP, PL.rngP, PL.rngM, PL.rngL, PL.mSq, PL.mP, PL.gV, PL.gTupD, PL.gsCons, PL.gsNil, PL.gIx, PL.paV, PL.paIx, PL.ownAt, PL.setAt, PL.getP, PL.setP, PL.intOf, PL.isFree, PL.wipeE, PL.freeE, PL.C.toD, PL.C.toDs, PL.ofV, PL.addI, PL.subI, PL.mulI, PL.fdivI, PL.modI, PL.powI, PL.cmpI, PL.iLt, PL.iLe, PL.iGt, PL.iGe, PL.eqV', PL.neV', PL.isN, PL.notN, PL.isNonD, PL.lenF, PL.absF, PL.intF, PL.strF, PL.maxF, PL.minF, PL.sumF, PL.allF, PL.anyF, PL.isiF, PL.clsD, PL.tyN, PL.isSubN, PL.intsOf, PL.blsOf, PL.flatD, PL.Out.bind, ha, hs, hp]
  · have n0 : (0 : Int) ≤ (b * 39373 + 607) % 2147483587 := Int.emod_nonneg _ (by decide)
    have n1 : (b * 39373 + 607) % 2147483587 < 2147483587 := Int.emod_lt_of_pos _ (by decide)
    generalize hn : (b * 39373 + 607) % 2147483587 = n at n0 n1
    refine ⟨(n * n).fmod 2147483563 |>.fdiv 17 |>.fmod s, pot a n, ?_, ?_, ?_, _, _, rfl, n0, by omega⟩
    · have m1 : mulOk b 39373 = true := mulOk_r (by decide) (by decide)
      have m2 : mulOk n n = true := mulOk_r (by omega) (by omega)
      have d1 : divOk ((n * n).fmod 2147483563) 17 = true := divOk_small (by decide) (by decide)
      have f1 : (b * 39373 + 607).fmod 2147483587 = n := by rw [Int.fmod_eq_emod_of_nonneg _ (by decide), hn]
      have s0 : s ≠ 0 := by omega
      simp [_law_draw_m, _law_draw_b, pot, PL.bodyM, PL.startE, PL.outsE, PL.sSeq, PL.sNx, PL.sBk, PL.sCt, PL.sNo, PL.sOf, PL.sSet, PL.sRet, PL.sRetN, PL.sDrop, PL.sIf, PL.sAsg, PL.sAug, PL.sAugIx, PL.sPar, PL.sFor, PL.eP, PL.eF, PL.eFrz, PL.eV, PL.eMv, PL.eFn, PL.eFnO, PL.eFnL, PL.lentTo, PL.eLst, PL.eTup, PL.eCall, PL.eOp, PL.eBin, PL.eIx, PL.eIf, PL.eAnd, PL.eOr, PL.eApp, PL.eAppP, PL.ePop, PL.eExt, PL.eExtM, PL.eCat, PL.eRep, PL.catD, PL.repD, PL.eComp, PL.tP, PL.tOfE, PL.tAnd, PL.tOr, PL.tNot, PL.pV, PL.bV, PL.pK, PL.pOp, PL.pChain, PL.qOf, PL.qAnd, PL.qOr, PL.qNot, PL.pAnd, PL.pOr, PL.pNot, PL.pIf, PL.pNeg, PL.pCall, PL.pFn, PL.pFnB, PL.pFnK, PL.pick, PL.pDm, PL.dmD, PL.pIx, PL.ixD, L2.atI, L2.ixN, PL.pSl, PL.pTup, PL.pF, PL.lP, PL.lKf, PL.frzs, PL.kV, PL.kIx, PL.ixC, PL.pKf, PL.bKf, PL.evPs_n, PL.evPs_c, PL.evMs_n, PL.evMs_c, PL.fCat, PL.fRep, PL.fSl, PL.evO, PL.fRev, PL.fSq, PL.sqD, PL.fList, PL.pTupL, PL.fComp, PL.enumS, PL.enumP, PL.zipP, PL.rngP, PL.rngM, PL.rngL, PL.mSq, PL.mP, PL.gV, PL.gTupD, PL.gsCons, PL.gsNil, PL.gIx, PL.paV, PL.paIx, PL.ownAt, PL.setAt, PL.getP, PL.setP, PL.intOf, PL.isFree, PL.wipeE, PL.freeE, PL.C.toD, PL.C.toDs, PL.ofV, PL.addI, PL.subI, PL.mulI, PL.fdivI, PL.modI, PL.powI, PL.cmpI, PL.iLt, PL.iLe, PL.iGt, PL.iGe, PL.eqV', PL.neV', PL.isN, PL.notN, PL.isNonD, PL.lenF, PL.absF, PL.intF, PL.strF, PL.maxF, PL.minF, PL.sumF, PL.allF, PL.anyF, PL.isiF, PL.clsD, PL.tyN, PL.isSubN, PL.intsOf, PL.blsOf, PL.flatD, PL.Out.bind, ha, hs, f1, m1, m2, d1, s0]
    · rw [Int.fmod_eq_emod_of_nonneg _ (by omega)]; exact Int.emod_nonneg _ (by omega)
    · rw [Int.fmod_eq_emod_of_nonneg _ (by omega)]; exact Int.emod_lt_of_pos _ hs
theorem lend_E {m : List C → Out C} {fs : List (M C)} {env : Slots} {c c' : C} {ds : List D} {v : D} {o : List (Option C)} (h0 : env[0]? = some (some c)) (h1 : evMs fs env = .ok (fz ds) env) (h2 : m (c :: fz ds) = .ok (.frz v) (some c' :: o)) : eFnL m 0 fs env = .ok (.frz v) (env.set 0 (some c')) := by
  unfold eFnL
  rw [h0]
  simp only [h1, Out.bind, lentTo, h0, h2, C.toD]
theorem evM_1 {p : P} {env : Slots} {d : D} (h : p env = some d) : evMs [eP p] env = .ok (fz [d]) env := by
  simp only [evMs_c, eP_of h, evMs_n, Out.bind]
  rfl
theorem draw_p {env : Slots} {c : C} {p : P} {s : Int} (h0 : env[0]? = some (some c)) (hp : p env = some (.int s)) (hc : PotOk c) (hs : 0 < s) (hs2 : s < 1073741824) :
    ∃ r c', eFnL _law_draw_m 0 [eP p] env = .ok (.frz (.int r)) (env.set 0 (some c')) ∧ 0 ≤ r ∧ r < s ∧ PotOk c' := by
  obtain ⟨r, c', h1, h2, h3, h4⟩ := draw_ok c s hc hs hs2
  exact ⟨r, c', lend_E (ds := [.int s]) h0 (evM_1 hp) h1, h2, h3, h4⟩
theorem pick_v {c : C} {l : List D} (hc : PotOk c) (h : l ≠ []) (hl : l.length < 1073741824) : ∃ x c', x ∈ l ∧ _law_pick_m [c, .frz (.lst l)] = .ok (.frz x) [some c', none] ∧ PotOk c' := by
  have hp : 0 < l.length := List.length_pos_iff.mpr h
  obtain ⟨r, c', h1, h2, h3, h4⟩ := draw_p (env := [some c, some (.frz (.lst l))]) (p := pCall lenF [pV 1]) (s := l.length) rfl (pCall_1 (v := .int (l.length : Int)) (d := .lst l) rfl rfl) hc (by omega) (by omega)
  have hr : r.toNat < l.length := by omega
  have ha : atI l r = some l[r.toNat] := by
    have := atI_nat hr
    rwa [show ((r.toNat : Nat) : Int) = r by omega] at this
  refine ⟨l[r.toNat], c', List.getElem_mem _, body_rt (e := [some c', some (.frz (.lst l))]) ?_, h4⟩
  rw [show startE 2 [c, .frz (.lst l)] = [some c, some (.frz (.lst l))] from rfl]
  unfold _law_pick_b
  refine ret_ok ?_
  unfold eIx eBin
  simp only [eP, pV, List.getElem?_cons_succ, List.getElem?_cons_zero, Out.bind, h1]
  simp [C.toD, ixD, ha]
theorem pick_E {env : Slots} {c : C} {p : P} {l : List D} (h0 : env[0]? = some (some c)) (hp : p env = some (.lst l)) (hc : PotOk c) (h : l ≠ []) (hl : l.length < 1073741824) :
    ∃ x c', x ∈ l ∧ eFnL _law_pick_m 0 [eP p] env = .ok (.frz x) (env.set 0 (some c')) ∧ PotOk c' := by
  obtain ⟨x, c', h1, h2, h3⟩ := pick_v hc h hl
  exact ⟨x, c', h1, lend_E (ds := [.lst l]) h0 (evM_1 hp) h2, h3⟩
/-- a list of n small numbers -/
def Few (k : Nat) (l : List Int) : Prop := l.length ≤ k ∧ ∀ x ∈ l, x.natAbs ≤ 3
theorem few_nrm : ∀ {l : List Int} {k : Nat}, Few k l → nrm l ≤ 3 * k
  | [], k, h => by simp [nrm]
  | a :: l, k, h => by
    have h1 := h.1
    simp only [List.length_cons] at h1
    have := few_nrm (l := l) (k := k - 1) ⟨by omega, fun x hx => h.2 x (by simp [hx])⟩
    have := h.2 a (by simp)
    simp only [nrm]
    omega
theorem few_trim {l : List Int} {k : Nat} (h : Few k l) : Few k (trimI l) := ⟨Nat.le_trans (trimI_len l) h.1, fun x hx => h.2 x (trimI_mem hx)⟩
theorem line_loop (j : Int) : ∀ (l : List D) (c : C) (ns : List Int) (o : Option C), PotOk c → l.length + ns.length ≤ 1000 → (∀ d ∈ l, ∃ i : Int, d = .int i) → (∀ n ∈ ns, n.natAbs ≤ 3) →
    ∃ c' ms o', forL (gV false 3) (sDrop (eApp 2 (eFnL _law_pick_m 0 [eP (pF (evPs [pK (.int 0), pK (.int 1), pNeg (pK (.int 1)), pK (.int 2), pK (.int 0), pNeg (pK (.int 2)), pK (.int 1), pK (.int 3)]))]))) l [some c, some (.frz (.int j)), some (.own (fz (inD ns))), o] = .nx [some c', some (.frz (.int j)), some (.own (fz (inD ms))), o'] ∧ PotOk c' ∧ ms.length = ns.length + l.length ∧ ∀ n ∈ ms, n.natAbs ≤ 3
  | [], c, ns, o, hc, _, _, hn => ⟨c, ns, o, rfl, hc, by simp, hn⟩
  | d :: r, c, ns, o, hc, hl, hd, hn => by
    obtain ⟨i, rfl⟩ := hd d (by simp)
    obtain ⟨x, c1, hx, e1, e2⟩ := pick_E (env := [some c, some (.frz (.int j)), some (.own (fz (inD ns))), some (.frz (.int i))]) (p := pF (evPs [pK (.int 0), pK (.int 1), pNeg (pK (.int 1)), pK (.int 2), pK (.int 0), pNeg (pK (.int 2)), pK (.int 1), pK (.int 3)])) (l := [.int 0, .int 1, .int (-1), .int 2, .int 0, .int (-2), .int 1, .int 3]) rfl rfl hc (by simp) (by decide)
    obtain ⟨z, rfl, hz⟩ : ∃ z : Int, x = .int z ∧ z.natAbs ≤ 3 := by
      simp only [List.mem_cons, List.not_mem_nil, or_false] at hx
      rcases hx with rfl | rfl | rfl | rfl | rfl | rfl | rfl | rfl <;> exact ⟨_, rfl, by decide⟩
    simp only [List.set_cons_zero] at e1
    simp only [List.length_cons] at hl
    have s1 := eApp_ok (i := 2) (l0 := fz (inD ns)) (l := fz (inD ns)) rfl e1 rfl (by rw [fz_len, inD_len]; omega)
    have fe : fz (inD ns) ++ [C.frz (D.int z)] = fz (inD (ns ++ [z])) := by rw [inD_app, fz_app]; rfl
    rw [fe] at s1
    obtain ⟨c2, ms, o2, k1, k2, k3, k4⟩ := line_loop j r c1 (ns ++ [z]) (some (.frz (.int i))) e2 (by simp; omega) (fun d hd' => hd d (List.mem_cons_of_mem _ hd')) (fun n hn' => by
      rcases List.mem_append.mp hn' with q | q
      · exact hn n q
      · rw [List.mem_singleton.mp q]; exact hz)
    refine ⟨c2, ms, o2, ?_, k2, by simp at k3 ⊢; omega, k4⟩
    rw [← k1, forL]
    rw [show gV false 3 (.int i) [some c, some (.frz (.int j)), some (.own (fz (inD ns))), o] = some [some c, some (.frz (.int j)), some (.own (fz (inD ns))), some (.frz (.int i))] from rfl]
    simp only [drop_ok s1, List.set_cons_succ, List.set_cons_zero]
theorem line_v {c : C} {j : Nat} (hc : PotOk c) (h1 : j ≤ 20) : ∃ c' ns, _law_line_m [c, .frz (.int (j : Int))] = .ok (.frz (.lst (inD ns))) [some c', none] ∧ PotOk c' ∧ Few (j + 1) ns ∧ Tr ns := by
  obtain ⟨c1, ms, o1, k1, k2, k3, k4⟩ := line_loop j ((List.range (j + 1 : Int).toNat).map fun (i : Nat) => .int (0 + (i : Int))) c [] none hc (by simp; omega) (fun d hd => by
    obtain ⟨i, _, rfl⟩ := List.mem_map.mp hd
    exact ⟨_, rfl⟩) nofun
  have lm : ms.length = j + 1 := by simp at k3; omega
  have tv := ltrim_v ms
  have ev : eV 2 [some c1, some (.frz (.int (j : Int))), some (.own (fz (inD ms))), o1] = .ok (.frz (.lst (inD ms))) [some c1, some (.frz (.int (j : Int))), some (.frz (.lst (inD ms))), o1] := by
    simp [eV, C.toD]
  have z := eFn_1 ev tv
  rw [C.toD] at z
  refine ⟨c1, trimI ms, body_rt (e := [some c1, some (.frz (.int (j : Int))), some (.frz (.lst (inD ms))), o1]) ?_, k2, few_trim ⟨by omega, k4⟩, tr_trim _⟩
  rw [show startE 4 [c, .frz (.int (j : Int))] = [some c, some (.frz (.int (j : Int))), none, none] from rfl]
  unfold _law_line_b
  rw [seq_nx (set_ok (h := eF (evPs [])) (c := .own (fz (inD []))) (e := [some c, some (.frz (.int (j : Int))), none, none]) rfl)]
  simp only [List.set_cons_succ, List.set_cons_zero]
  rw [seq_nx ((for_ok (rngM_1 (j := (j : Int) + 1) (eP_of (pOp_v (a := .int j) (b := .int 1) (v := .int (j + 1)) rfl rfl rfl)) (by omega) (by omega))).trans k1)]
  exact ret_ok z
/-- the same as a value in a def whose first name is the pot -/
theorem line_E {env : Slots} {c : C} {p : P} {j : Nat} (h0 : env[0]? = some (some c)) (hp : p env = some (.int (j : Int))) (hc : PotOk c) (h1 : j ≤ 20) : ∃ c' ns, eFnL _law_line_m 0 [eP p] env = .ok (.frz (.lst (inD ns))) (env.set 0 (some c')) ∧ PotOk c' ∧ Few (j + 1) ns ∧ Tr ns := by
  obtain ⟨c', ns, a, b⟩ := line_v hc h1
  exact ⟨c', ns, lend_E (ds := [.int (j : Int)]) h0 (evM_1 hp) a, b⟩
/-! ### a curve given as lists and tuples -/
theorem tossed {env : Slots} {c : C} (h0 : env[0]? = some (some c)) (hc : PotOk c) : ∃ (t : Bool) (c' : C), tOfE (eOp eqV' (eFnL _law_draw_m 0 [eP (pK (.int 3))]) (eP (pK (.int 0)))) env = .ok t (env.set 0 (some c')) ∧ PotOk c' := by
  obtain ⟨r, c', e, _, _, h⟩ := draw_p (p := pK (.int 3)) (s := 3) h0 rfl hc (by decide) (by decide)
  refine ⟨r == 0, c', ?_, h⟩
  have := eOp_ok (op := eqV') (g := eP (pK (.int 0))) (b := .frz (.int 0)) (e2 := env.set 0 (some c')) (v := .bl (r == 0)) e rfl (by simp only [C.toD, eqV', eqD_int, Option.map_some])
  unfold tOfE
  rw [this]
  rfl
theorem tup_or {env : Slots} {i : Nat} {c : C} {l : List D} (h0 : env[0]? = some (some c)) (hi : env[i]? = some (some (.frz (.lst l)))) (hi0 : i ≠ 0) (hl : l.length ≤ 1000) (hc : PotOk c) {q : P} (hq : ∀ c', q (env.set 0 (some c')) = some (.lst l)) : ∃ (b : Bool) (c' : C), eIf (tOfE (eOp eqV' (eFnL _law_draw_m 0 [eP (pK (.int 3))]) (eP (pK (.int 0))))) (eP (pTupL (lP (pV i)))) (eP q) env = .ok (.frz (gv b l)) (env.set 0 (some c')) ∧ PotOk c' := by
  obtain ⟨t, c', e, h⟩ := tossed h0 hc
  refine ⟨t, c', ?_, h⟩
  unfold eIf
  rw [e]
  cases t with
  | true =>
    have v : pV i (env.set 0 (some c')) = some (.lst l) := by
      unfold pV
      rw [List.getElem?_set_ne (by omega), hi]
    have : pTupL (lP (pV i)) (env.set 0 (some c')) = some (.tup l) := by
      unfold pTupL
      rw [lP_ok v]
      rfl
    exact eP_of this
  | false => exact eP_of (hq c')
theorem compM3 {vs : List Nat} {t : Tg} {f : M C} {a b c : D} {x y z : C} {e0 e1 e2 e3 : Slots} (h0 : ∃ e e', t a e0 = some e ∧ f e = .ok x e' ∧ wipeE e' vs = e1) (h1 : ∃ e e', t b e1 = some e ∧ f e = .ok y e' ∧ wipeE e' vs = e2) (h2 : ∃ e e', t c e2 = some e ∧ f e = .ok z e' ∧ wipeE e' vs = e3) : compM vs t (fun _ => some true) f [a, b, c] e0 = some ([x, y, z], e3) := by
  obtain ⟨p0, q0, g0, k0, w0⟩ := h0
  obtain ⟨p1, q1, g1, k1, w1⟩ := h1
  obtain ⟨p2, q2, g2, k2, w2⟩ := h2
  simp only [compM, g0, k0, w0, g1, k1, w1, g2, k2, w2]
theorem given_v {c : C} {l0 l1 l2 : List Int} (hc : PotOk c) (n0 : l0.length ≤ 100) (n1 : l1.length ≤ 100) (n2 : l2.length ≤ 100) : ∃ (b b0 b1 b2 : Bool) (c' : C), _law_given_m [c, .frz (L3 l0 l1 l2)] = .ok (.frz (G3 b b0 b1 b2 l0 l1 l2)) [some c', none] ∧ PotOk c' := by
  have step : ∀ (c : C) (l : List Int), PotOk c → l.length ≤ 100 → ∃ (b : Bool) (c' : C), PotOk c' ∧ ∃ e e', gV true 3 (.lst (inD l)) [some c, some (.frz (L3 l0 l1 l2)), none, none] = some e ∧ eIf (tOfE (eOp eqV' (eFnL _law_draw_m 0 [eP (pK (.int 3))]) (eP (pK (.int 0))))) (eP (pTupL (lP (pV 3)))) (eP (pF (fSq (pV 3)))) e = .ok (.frz (gv b (inD l))) e' ∧ wipeE e' [3] = [some c', some (.frz (L3 l0 l1 l2)), none, none] := fun c l hc hl => by
    obtain ⟨b, c', e, h⟩ := tup_or (env := [some c, some (.frz (L3 l0 l1 l2)), none, some (.frz (.lst (inD l)))]) (i := 3) (c := c) (l := inD l) (q := pF (fSq (pV 3))) rfl rfl (by decide) (by rw [inD_len]; omega) hc fun c' => pF_ok (fSq_ok rfl)
    exact ⟨b, c', h, _, _, rfl, e, rfl⟩
  obtain ⟨b0, c0, h0, x0⟩ := step c l0 hc n0
  obtain ⟨b1, c1, h1, x1⟩ := step c0 l1 h0 n1
  obtain ⟨b2, c2, h2, x2⟩ := step c1 l2 h1 n2
  have cm := compM3 (vs := [3]) x0 x1 x2
  have ec := eComp_ok (vs := [3]) (t := gV true 3) (q := fun _ => some true) (src := mSq (eP (pV 1))) (env := [some c, some (.frz (L3 l0 l1 l2)), none, none]) (e1 := [some c, some (.frz (L3 l0 l1 l2)), none, none]) (l := [.lst (inD l0), .lst (inD l1), .lst (inD l2)]) rfl rfl (by simp) cm
  have ef := eFrz_ok ec
  obtain ⟨b, c3, e, h3⟩ := tup_or (env := [some c2, some (.frz (L3 l0 l1 l2)), some (.frz (.lst [gv b0 (inD l0), gv b1 (inD l1), gv b2 (inD l2)])), none]) (i := 2) (c := c2) (l := [gv b0 (inD l0), gv b1 (inD l1), gv b2 (inD l2)]) (q := pV 2) rfl rfl (by decide) (by simp) h2 fun c' => rfl
  refine ⟨b, b0, b1, b2, c3, body_rt (e := [some c3, some (.frz (L3 l0 l1 l2)), some (.frz (.lst [gv b0 (inD l0), gv b1 (inD l1), gv b2 (inD l2)])), none]) ?_, h3⟩
  rw [show startE 4 [c, .frz (L3 l0 l1 l2)] = [some c, some (.frz (L3 l0 l1 l2)), none, none] from rfl]
  unfold _law_given_b
  have td : (C.own [.frz (gv b0 (inD l0)), .frz (gv b1 (inD l1)), .frz (gv b2 (inD l2))]).toD = .lst [gv b0 (inD l0), gv b1 (inD l1), gv b2 (inD l2)] := by
    simp [C.toD, C.toDs]
  rw [td] at ef
  rw [seq_nx (set_ok ef)]
  simp only [List.set_cons_succ, List.set_cons_zero]
  exact ret_ok e
/-! ### by another time -/
theorem want_line_v {b : Bool} {l : List Int} (t : Tr l) (hl : l.length ≤ 13) : Gives want_line_m [.frz (gv b (inD l))] (.frz (.lst (inD l))) := by
  have lv := line_in_v (b := b) t hl
  generalize gv b (inD l) = dd at *
  refine gives_rt ⟨[some (.frz dd), some (.frz (.lst (inD l)))], ?_⟩
  have z := pFn_1 (p := pV 0) (env := [some (.frz dd), none]) rfl lv
  rw [C.toD] at z
  have s1 : (sSet 1 (eP (pFn line_in_m [pV 0]))) [some (.frz dd), none] = .nx [some (.frz dd), some (.frz (.lst (inD l)))] := set_ok (eP_of z)
  have q1 : qOf (pOp isN (pV 1) (pK .non)) [some (.frz dd), some (.frz (.lst (inD l)))] = some false := rfl
  rw [show startE 2 [.frz dd] = [some (.frz dd), none] from rfl]
  unfold want_line_b
  rw [seq_nx s1, seq_nx (if_no (tP_of q1))]
  exact ret_ok (eP_of rfl)
theorem at_most_v {s : Str} {a b : Int} (h : ¬ a < b) : want_at_most_m [.frz (.str s), .frz (.int a), .frz (.int b)] = .ok (.frz .non) [none, none, none] := by
  have q := qOf_b (p := pOp (cmpI iGt) (pV 2) (pV 1)) (env := [some (.frz (.str s)), some (.frz (.int a)), some (.frz (.int b))]) (b := false) (pOp_v (a := .int b) (b := .int a) (v := .bl false) rfl rfl (by simp [cmpI, iGt, h]))
  exact body_nx (N := 3) (pn := []) (a := 3) (cs := [.frz (.str s), .frz (.int a), .frz (.int b)]) (f := want_at_most_b) (if_no (tP_of q))
theorem by_time_v {b b0 b1 b2 bt : Bool} {l0 l1 l2 τ : List Int} (h : Crv l0 l1 l2) (s0 : Lsm τ l0) (s1 : Lsm τ l1) (s2 : Lsm τ l2) (hd : deg3 l0 l1 l2 * (τ.length - 1) ≤ 5) :
    Gives by_time_m [.frz (G3 b b0 b1 b2 l0 l1 l2), .frz (gv bt (inD τ))] (.own [.own (fz (inD (ledL τ l0))), .own (fz (inD (ledL τ l1))), .own (fz (inD (ledL τ l2)))]) := by
  have cv := want_curve_v (b := b) (b0 := b0) (b1 := b1) (b2 := b2) h
  have wl := want_line_v (b := bt) s0.t1 (by have := s0.l2; omega)
  have dg := (degree_v l0 l1 l2).1
  have l1' := s0.l1
  generalize G3 b b0 b1 b2 l0 l1 l2 = dd at *
  generalize gv bt (inD τ) = tt at *
  have z := pFn_1 (p := pV 0) (env := [some (.frz dd), some (.frz tt), none, none, none]) rfl cv
  rw [C.toD] at z
  have z1 := pFn_1 (p := pV 1) (env := [some (.frz dd), some (.frz tt), some (.frz (L3 l0 l1 l2)), none, none]) rfl wl
  rw [C.toD] at z1
  generalize hE : [some (C.frz dd), some (C.frz tt), some (C.frz (L3 l0 l1 l2)), some (C.frz (.lst (inD τ))), none] = env
  have v2 : pV 2 env = some (L3 l0 l1 l2) := by rw [← hE]; rfl
  have v3 : pV 3 env = some (.lst (inD τ)) := by rw [← hE]; rfl
  have z2 := pFn_1 v2 dg
  rw [C.toD] at z2
  have q := qOf_b (b := false) (pOp_v (op := cmpI iLt) (q := pK (.int 2)) (b := .int 2) (v := .bl false) (len_p v3) rfl (by
    have : ¬ ((τ.length : Int) < 2) := by omega
    simp [cmpI, iLt, this]))
  have wm := at_most_v (s := "degree") (a := 5) (b := deg3 l0 l1 l2 * (τ.length - 1)) (by omega)
  have d5 := h.d5
  have d1 := h.d1
  have pm : pOp mulI (pFn degree_of_m [pV 2]) (pOp subI (pCall lenF [pV 3]) (pK (.int 1))) env = some (.int (deg3 l0 l1 l2 * (τ.length - 1))) :=
    pOp_v (v := .int (deg3 l0 l1 l2 * (τ.length - 1))) z2 (pOp_v (a := .int τ.length) (b := .int 1) (v := .int (τ.length - 1)) (len_p v3) rfl rfl) (by
      have : mulOk (deg3 l0 l1 l2) ((τ.length : Int) - 1) = true := mulOk_l (by omega) (by omega)
      simp [mulI, this, ofV])
  have wd : pFn want_at_most_m [pK (.str "degree"), pK (.int 5), pOp mulI (pFn degree_of_m [pV 2]) (pOp subI (pCall lenF [pV 3]) (pK (.int 1)))] env = some .non := by
    have e3 : evPs [pK (.str "degree"), pK (.int 5), pOp mulI (pFn degree_of_m [pV 2]) (pOp subI (pCall lenF [pV 3]) (pK (.int 1)))] env = some [.str "degree", .int 5, .int (deg3 l0 l1 l2 * (τ.length - 1))] := by
      rw [evPs_c, evPs_2 (p := pK (.int 5)) (a := .int 5) rfl pm]
      rfl
    exact pFn_gives (c := .frz .non) e3 ⟨_, wm⟩
  have st : ∀ l : List Int, Lsm τ l → ∃ e e', gV true 4 (.lst (inD l)) env = some e ∧ eFnO led_line_m [eP (pV 4), eP (pV 3)] e = .ok (.own (fz (inD (ledL τ l)))) e' ∧ wipeE e' [4] = env := fun l hl => by
    obtain ⟨o, lv⟩ := led_v hl
    refine ⟨[some (.frz dd), some (.frz tt), some (.frz (L3 l0 l1 l2)), some (.frz (.lst (inD τ))), some (.frz (.lst (inD l)))], [some (.frz dd), some (.frz tt), some (.frz (L3 l0 l1 l2)), some (.frz (.lst (inD τ))), some (.frz (.lst (inD l)))], by rw [← hE]; rfl, ?_, by rw [← hE]; rfl⟩
    exact eFnO_2 (a := .frz (.lst (inD l))) (b := .frz (.lst (inD τ))) (eP_of rfl) (eP_of rfl) lv
  have cm := compM3 (vs := [4]) (st l0 s0) (st l1 s1) (st l2 s2)
  have src : mSq (eP (pV 2)) env = .ok [.lst (inD l0), .lst (inD l1), .lst (inD l2)] env := by
    unfold mSq
    rw [eP_of v2]
    rfl
  have ec := eComp_ok (vs := [4]) (t := gV true 4) (q := fun _ => some true) src (by rw [← hE]; rfl) (by simp) cm
  refine gives_rt ⟨env, ?_⟩
  rw [show startE 5 [.frz dd, .frz tt] = [some (.frz dd), some (.frz tt), none, none, none] from rfl]
  unfold by_time_b
  rw [seq_nx (set_ok (eP_of z))]
  simp only [List.set_cons_succ, List.set_cons_zero]
  rw [seq_nx (set_ok (eP_of z1))]
  simp only [List.set_cons_succ, List.set_cons_zero]
  rw [hE, seq_nx (if_no (tP_of q)), seq_nx (drop_ok (eP_of wd))]
  exact ret_ok ec
end k71
namespace k71
open PySem PySem.Spec PyProof.Rows L2 PL
/-! ### drawn curves -/
structure Good (l0 l1 l2 : List Int) : Prop where
  t0 : Tr l0
  t1 : Tr l1
  t2 : Tr l2
  n0 : l0.length ≤ 6
  n1 : l1.length ≤ 6
  n2 : l2.length ≤ 6
  b0 : nrm l0 ≤ 216
  b1 : nrm l1 ≤ 216
  b2 : nrm l2 ≤ 216
def Cop (l0 l1 l2 : List Int) : Prop := ∃ K : Int, K ≠ 0 ∧ ∀ x, ∃ u v w : Int, u * val l0 x + v * val l1 x + w * val l2 x = K
structure Cv (l0 l1 l2 : List Int) : Prop where
  g : Good l0 l1 l2
  d : 1 ≤ deg3 l0 l1 l2
  c : Cop l0 l1 l2
theorem Cv.crv {l0 l1 l2 : List Int} (h : Cv l0 l1 l2) : Crv l0 l1 l2 := by
  obtain ⟨⟨a1, a2, a3, a4, a5, a6, a7, a8, a9⟩, d, c⟩ := h
  exact ⟨a1, a2, a3, a4, a5, a6, by omega, by omega, by omega, d, c⟩
theorem cop_of {l0 l1 l2 g1 g2 : List Int} (s1 : Spec l0 l1 g1) (s2 : Spec g1 l2 g2) (t : Tr g2) (h : g2.length = 1) : Cop l0 l1 l2 := by
  obtain ⟨k, rfl, hk, _⟩ := one_of t h
  obtain ⟨⟨K1, h1, e1⟩, _⟩ := s1
  obtain ⟨⟨K2, h2, e2⟩, _⟩ := s2
  refine ⟨K1 * K2 * k, Int.mul_ne_zero (Int.mul_ne_zero h1 h2) hk, fun x => ?_⟩
  obtain ⟨u, v, f1⟩ := e1 x
  obtain ⟨u', v', f2⟩ := e2 x
  have f3 : val [k] x = k := by simp [val]
  rw [f3] at f2
  refine ⟨u' * u, u' * v, K1 * v', ?_⟩
  generalize val g1 x = g at *
  generalize val l0 x = a at *
  generalize val l1 x = b at *
  generalize val l2 x = c at *
  have : K1 * (u' * g + v' * c) = K1 * (K2 * k) := by rw [f2]
  grind
theorem lcom_test {l0 l1 l2 : List Int} (h : Good l0 l1 l2) : ∃ g1 g2 : List Int, Gives _law_common_m [.frz (.lst (inD l0)), .frz (.lst (inD l1))] (.frz (.lst (inD g1))) ∧ Gives _law_common_m [.frz (.lst (inD g1)), .frz (.lst (inD l2))] (.frz (.lst (inD g2))) ∧ (g2.length = 1 → Cop l0 l1 l2) := by
  have b22 : ∀ {l : List Int}, nrm l ≤ 216 → Bd 22 l := fun h => bd_nrm (by omega)
  obtain ⟨g1, a', c1, sp1, tg1, bg1, f1, lg1, ag1⟩ := lcom_v fin1 (k := 8) (a := 22) (b := 22) (ok_at (by have := h.n0; omega) (by have := h.n1; omega)) h.t0 h.t1 (b22 h.b0) (b22 h.b1) (by decide) (by decide) (by have := h.n0; omega) (by have := h.n1; omega) (by decide) (by decide)
  have fk := fin1_ok f1 h.n2
  obtain ⟨g2, a2, c2, sp2, tg2, _⟩ := lcom_v fin2 (k := 8) (a := a') (b := 22) fk tg1 h.t2 bg1 (b22 h.b2) ag1 (by decide) lg1 (by have := h.n2; omega) (ok_a fk) (by decide)
  exact ⟨g1, g2, c1, c2, cop_of sp1 sp2 tg2⟩
theorem pFnB_1 {m : List C → Out C} {p : P} {env : Slots} {a : D} {n : Int} (h1 : p env = some a) (h : Gives m [.frz a] (.frz (.int n))) : pFnB m [p] env = some (.int n) := by
  obtain ⟨o, h⟩ := h
  unfold pFnB
  rw [evPs_1 h1]
  simp only [List.map_cons, List.map_nil, h, C.toD, flatD, if_true]
def O3 (l0 l1 l2 : List Int) : C := .own [.frz (.lst (inD l0)), .frz (.lst (inD l1)), .frz (.lst (inD l2))]
theorem O3_toD (l0 l1 l2 : List Int) : (O3 l0 l1 l2).toD = L3 l0 l1 l2 := by simp [O3, C.toD, C.toDs, L3]
theorem evMs_3 {f g h : M C} {env e1 e2 e3 : Slots} {c d k : C} (h1 : f env = .ok c e1) (h2 : g e1 = .ok d e2) (h3 : h e2 = .ok k e3) : evMs [f, g, h] env = .ok [c, d, k] e3 := by
  simp only [evMs_c, evMs_n, h1, h2, h3, Out.bind]
theorem eLst_3 {f g h : M C} {env e1 e2 e3 : Slots} {c d k : C} (h1 : f env = .ok c e1) (h2 : g e1 = .ok d e2) (h3 : h e2 = .ok k e3) : eLst [f, g, h] env = .ok (.own [c, d, k]) e3 := by
  unfold eLst
  rw [evMs_3 h1 h2 h3]
  simp [Out.bind]
def Zl (n : Nat) : List Int := List.replicate n 0 ++ [1]
theorem Zl_tr (n : Nat) : Tr (Zl n) := tr_snoc (by decide)
theorem Zl_nrm (n : Nat) : nrm (Zl n) = 1 := by
  unfold Zl
  rw [nrm_app, nrm_zeros]
  rfl
theorem Zl_len (n : Nat) : (Zl n).length = n + 1 := by simp [Zl]
theorem Zl_p {p : P} {env : Slots} {n : Nat} (h : p env = some (.int (n : Int))) (hn : n ≤ 100) : pF (fCat (fRep (evPs [pK (.int 0)]) p) (evPs [pK (.int 1)])) env = some (.lst (inD (Zl n))) := by
  have := fCat_ok (rep0 h (by omega)) (evPs_1 (p := pK (.int 1)) (env := env) (a := .int 1) rfl) (by simp; omega)
  rw [← inD_one, ← inD_app] at this
  exact pF_ok this
theorem fix_step {c m : Option C} {n : Nat} {l0 l1 l2 : List Int} (h : Good l0 l1 l2) (h1 : 1 ≤ n) (h5 : n ≤ 5) : ∃ l0', (sIf (tP (qOf (pOp (cmpI iLt) (pFnB _law_degree_m [bV 3]) (pK (.int 1))))) (sAsg (eP (pF (fCat (fRep (evPs [pK (.int 0)]) (pV 2)) (evPs [pK (.int 1)])))) (gIx 3 (paV 3) (pK (.int 0)))) (sNx)) [c, m, some (.frz (.int (n : Int))), some (O3 l0 l1 l2)] = .nx [c, m, some (.frz (.int (n : Int))), some (O3 l0' l1 l2)] ∧ Good l0' l1 l2 ∧ 1 ≤ deg3 l0' l1 l2 := by
  have dg := pFnB_1 (p := bV 3) (env := [c, m, some (.frz (.int (n : Int))), some (O3 l0 l1 l2)]) (a := L3 l0 l1 l2) (by rw [← O3_toD]; rfl) (degree_v l0 l1 l2).2
  have q := qOf_b (b := decide (deg3 l0 l1 l2 < 1)) (pOp_v (op := cmpI iLt) (q := pK (.int 1)) (b := .int 1) (v := .bl (decide (deg3 l0 l1 l2 < 1))) dg rfl rfl)
  by_cases hd : deg3 l0 l1 l2 < 1
  · rw [decide_eq_true hd] at q
    refine ⟨Zl n, ?_, ⟨Zl_tr n, h.t1, h.t2, by rw [Zl_len]; omega, h.n1, h.n2, by rw [Zl_nrm]; decide, h.b1, h.b2⟩, by unfold deg3; rw [Zl_len]; omega⟩
    rw [if_t (tP_of q)]
    exact asg_ok (eP_of (Zl_p (p := pV 2) (n := n) rfl (by omega))) rfl
  · rw [decide_eq_false hd] at q
    exact ⟨l0, if_no (tP_of q), h, by omega⟩
theorem com_q {p0 p1 p2 : P} {env : Slots} {l0 l1 l2 g1 g2 : List Int} (h0 : p0 env = some (.lst (inD l0))) (h1 : p1 env = some (.lst (inD l1))) (h2 : p2 env = some (.lst (inD l2))) (c1 : Gives _law_common_m [.frz (.lst (inD l0)), .frz (.lst (inD l1))] (.frz (.lst (inD g1)))) (c2 : Gives _law_common_m [.frz (.lst (inD g1)), .frz (.lst (inD l2))] (.frz (.lst (inD g2)))) :
    qOf (pOp neV' (pCall lenF [pFn _law_common_m [pFn _law_common_m [p0, p1], p2]]) (pK (.int 1))) env = some (!decide (g2.length = 1)) := by
  have z1 := pFn_2 h0 h1 c1
  rw [C.toD] at z1
  have z2 := pFn_2 z1 h2 c2
  rw [C.toD] at z2
  exact (len_eqP z2).1
theorem law_curve_v {c : C} (hc : PotOk c) : ∃ (c' : C) (l0 l1 l2 : List Int), _law_curve_m [c, .frz (.int 5)] = .ok (.frz (L3 l0 l1 l2)) [some c', none] ∧ PotOk c' ∧ Cv l0 l1 l2 := by
  obtain ⟨r, c1, e1, r0, r1, p1⟩ := draw_p (env := [some c, some (.frz (.int 5)), none, none]) (p := pV 1) (s := 5) rfl rfl hc (by decide) (by decide)
  obtain ⟨n, hn⟩ : ∃ n : Nat, 1 + r = (n : Int) := ⟨(1 + r).toNat, by omega⟩
  have n1 : 1 ≤ n := by omega
  have n5 : n ≤ 5 := by omega
  have s1 := eOp_ok (op := addI) (f := eP (pK (.int 1))) (env := [some c, some (.frz (.int 5)), none, none]) (a := .frz (.int 1)) (v := .int (n : Int)) rfl e1 (by simp only [C.toD, addI, hn])
  simp only [List.set_cons_zero] at s1
  have ln : ∀ c : C, PotOk c → ∃ c' ns, eFnL _law_line_m 0 [eP (pV 2)] [some c, some (.frz (.int 5)), some (.frz (.int (n : Int))), none] = .ok (.frz (.lst (inD ns))) [some c', some (.frz (.int 5)), some (.frz (.int (n : Int))), none] ∧ PotOk c' ∧ Few (n + 1) ns ∧ Tr ns := fun c hc => by
    have := line_E (env := [some c, some (.frz (.int 5)), some (.frz (.int (n : Int))), none]) (p := pV 2) (j := n) rfl rfl hc (by omega)
    simpa only [List.set_cons_zero] using this
  obtain ⟨c2, a0, x0, p2, f0, t0⟩ := ln c1 p1
  obtain ⟨c3, a1, x1, p3, f1, t1⟩ := ln c2 p2
  obtain ⟨c4, a2, x2, p4, f2, t2⟩ := ln c3 p3
  have el := eLst_3 x0 x1 x2
  have gd : Good a0 a1 a2 := by
    have h0 := few_nrm f0
    have h1 := few_nrm f1
    have h2 := few_nrm f2
    exact ⟨t0, t1, t2, by have := f0.1; omega, by have := f1.1; omega, by have := f2.1; omega, by omega, by omega, by omega⟩
  obtain ⟨b0, y1, g1, d1⟩ := fix_step (c := some c4) (m := some (.frz (.int 5))) (n := n) gd n1 n5
  obtain ⟨k1, k2, m1, m2, hcop⟩ := lcom_test g1
  have cq := com_q (p0 := pKf (kIx (PL.kV 3) (pK (.int 0)))) (p1 := pKf (kIx (PL.kV 3) (pK (.int 1)))) (p2 := pKf (kIx (PL.kV 3) (pK (.int 2)))) (env := [some c4, some (.frz (.int 5)), some (.frz (.int (n : Int))), some (O3 b0 a1 a2)]) rfl rfl rfl m1 m2
  have fin : ∀ l0 l1 l2 : List Int, eV 3 [some c4, some (.frz (.int 5)), some (.frz (.int (n : Int))), some (O3 l0 l1 l2)] = .ok (.frz (L3 l0 l1 l2)) [some c4, some (.frz (.int 5)), some (.frz (.int (n : Int))), some (.frz (L3 l0 l1 l2))] := fun l0 l1 l2 => by
    rw [← O3_toD]
    rfl
  suffices hh : ∃ l0 l1 l2, _law_curve_b [some c, some (.frz (.int 5)), none, none] = .rt (.frz (L3 l0 l1 l2)) [some c4, some (.frz (.int 5)), some (.frz (.int (n : Int))), some (.frz (L3 l0 l1 l2))] ∧ Cv l0 l1 l2 by
    obtain ⟨l0, l1, l2, h1, h2⟩ := hh
    exact ⟨c4, l0, l1, l2, body_rt (N := 4) (pn := [0]) (a := 2) (cs := [c, .frz (.int 5)]) (f := _law_curve_b) h1, p4, h2⟩
  unfold _law_curve_b
  rw [seq_nx (set_ok s1)]
  simp only [List.set_cons_succ, List.set_cons_zero, ofV]
  rw [seq_nx (set_ok el)]
  simp only [List.set_cons_succ, List.set_cons_zero]
  have yy := y1
  unfold O3 at yy
  rw [seq_nx yy]
  rw [show C.own [.frz (.lst (inD b0)), .frz (.lst (inD a1)), .frz (.lst (inD a2))] = O3 b0 a1 a2 from rfl]
  by_cases h1 : k2.length = 1
  · rw [decide_eq_true h1] at cq
    refine ⟨b0, a1, a2, ?_, g1, d1, hcop h1⟩
    rw [seq_nx (if_no (tP_of cq))]
    exact ret_ok (fin b0 a1 a2)
  · rw [decide_eq_false h1] at cq
    have g2 : Good b0 a1 [1] := ⟨g1.t0, g1.t1, fun x hx => by simp at hx; omega, g1.n0, g1.n1, by decide, g1.b0, g1.b1, by decide⟩
    obtain ⟨b0', y2, g3, d3⟩ := fix_step (c := some c4) (m := some (.frz (.int 5))) (n := n) g2 n1 n5
    refine ⟨b0', a1, [1], ?_, g3, d3, 1, by decide, fun x => ⟨0, 0, 1, by simp [val]⟩⟩
    have z1 : sAsg (eP (pF (evPs [pK (.int 1)]))) (gIx 3 (paV 3) (pK (.int 2))) [some c4, some (.frz (.int 5)), some (.frz (.int (n : Int))), some (O3 b0 a1 a2)] = .nx [some c4, some (.frz (.int 5)), some (.frz (.int (n : Int))), some (O3 b0 a1 [1])] := asg_ok (eP_of (d := .lst (inD [1])) rfl) rfl
    rw [seq_nx ((if_t (tP_of cq)).trans ((seq_nx z1).trans y2))]
    exact ret_ok (fin b0' a1 [1])
/-! crosses -/
def cr (p q r s : List Int) : List Int := trimI (addL (mulL p q) (trimI ((mulL r s).map fun y => -1 * y)))
theorem mulL_len_le {a b : List Int} {m n : Nat} (ha : a.length ≤ m) (hb : b.length ≤ n) : (mulL a b).length ≤ m + n - 1 := by
  unfold mulL
  split
  · simp
  · rw [mul_len]; simp; omega
theorem cr_good {p q r s : List Int} (hp : p.length ≤ 3) (hq : q.length ≤ 4) (hr : r.length ≤ 3) (hs : s.length ≤ 4) (np : nrm p ≤ 9) (nq : nrm q ≤ 12) (nr : nrm r ≤ 9) (ns : nrm s ≤ 12) : Tr (cr p q r s) ∧ (cr p q r s).length ≤ 6 ∧ nrm (cr p q r s) ≤ 216 := by
  refine ⟨tr_trim _, ?_, ?_⟩
  · refine Nat.le_trans (trimI_len _) ?_
    rw [len_addL]
    have h1 := mulL_len_le hp hq
    have h2 := mulL_len_le hr hs
    have h3 := trimI_len ((mulL r s).map fun y => -1 * y)
    rw [List.length_map] at h3
    omega
  · have h1 := nrm_trim (addL (mulL p q) (trimI ((mulL r s).map fun y => -1 * y)))
    have h2 := nrm_addL (mulL p q) (trimI ((mulL r s).map fun y => -1 * y))
    have h3 := nrm_trim ((mulL r s).map fun y => -1 * y)
    rw [nrm_map] at h3
    have h4 := mulL_nrm p q
    have h5 := mulL_nrm r s
    have h6 : nrm p * nrm q ≤ 9 * 12 := Nat.mul_le_mul np nq
    have h7 : nrm r * nrm s ≤ 9 * 12 := Nat.mul_le_mul nr ns
    have h8 : (-1 : Int).natAbs = 1 := rfl
    rw [h8] at h3
    unfold cr
    omega
structure Pc (k m : Nat) (w : List Int) : Prop where
  t : Tr w
  l : w.length ≤ k
  n : nrm w ≤ m
theorem Pc.big {k n : Nat} {l : List Int} (h : Pc k n l) (hn : n ≤ 1000) : ∀ x ∈ l, x.natAbs < HUGE := huge_nrm (N := 1000) (by have := h.n; omega) (by decide)
theorem cross_step {A B : D} {F : List D} {i j : Int} {p q r s : List Int} (hp : ixD A (.int i) = some (.lst (inD p))) (hq : ixD B (.int j) = some (.lst (inD q))) (hr : ixD A (.int j) = some (.lst (inD r))) (hs : ixD B (.int i) = some (.lst (inD s))) (cp : Pc 3 9 p) (cq : Pc 4 12 q) (crr : Pc 3 9 r) (cs : Pc 4 12 s) (hF : F.length ≤ 10) :
    (sDrop (eApp 2 (eP (pFn _law_plus_m [pFn _law_times_m [pIx (pV 0) (pV 3), pIx (pV 1) (pV 4)], pFn _law_by_m [pFn _law_times_m [pIx (pV 0) (pV 4), pIx (pV 1) (pV 3)], pNeg (pK (.int 1))]])))) [some (.frz A), some (.frz B), some (.own (fz F)), some (.frz (.int i)), some (.frz (.int j))] = .nx [some (.frz A), some (.frz B), some (.own (fz (F ++ [.lst (inD (cr p q r s))]))), some (.frz (.int i)), some (.frz (.int j))] := by
  generalize hE : [some (C.frz A), some (C.frz B), some (C.own (fz F)), some (C.frz (.int i)), some (C.frz (.int j))] = env
  have v0 : pV 0 env = some A := by rw [← hE]; rfl
  have v1 : pV 1 env = some B := by rw [← hE]; rfl
  have v3 : pV 3 env = some (.int i) := by rw [← hE]; rfl
  have v4 : pV 4 env = some (.int j) := by rw [← hE]; rfl
  have z1 := pFn_2 (pIx_ok v0 v3 hp) (pIx_ok v1 v4 hq) (ltimes_v cp.t cq.t (by have := cp.l; omega) (by have := cq.l; omega) (cp.big (by decide)) (cq.big (by decide)))
  rw [C.toD] at z1
  have z2 := pFn_2 (pIx_ok v0 v4 hr) (pIx_ok v1 v3 hs) (ltimes_v crr.t cs.t (by have := crr.l; omega) (by have := cs.l; omega) (crr.big (by decide)) (cs.big (by decide)))
  rw [C.toD] at z2
  have m1 := mulL_len_le cp.l cq.l
  have m2 := mulL_len_le crr.l cs.l
  have m3 := mulL_nrm r s
  have m4 : nrm r * nrm s ≤ 9 * 12 := Nat.mul_le_mul crr.n cs.n
  have z3 := pFn_2 z2 (q := pNeg (pK (.int 1))) (b := .int (-1)) rfl (lby_v (l := mulL r s) (by unfold Sm; omega) (huge_nrm (N := 1000) (by omega) (by decide)))
  rw [C.toD] at z3
  have m5 := trimI_len ((mulL r s).map fun y => -1 * y)
  rw [List.length_map] at m5
  have z4 := pFn_2 z1 z3 (lplus_v (by omega) (by omega))
  rw [C.toD] at z4
  have h2 : env[2]? = some (some (.own (fz F))) := by rw [← hE]; rfl
  have ap := eApp_ok (i := 2) (l0 := fz F) (l := fz F) h2 (eP_of z4) h2 (by rw [fz_len]; omega)
  rw [drop_ok ap, ← hE]
  simp only [List.set_cons_succ, List.set_cons_zero, fz_app, fz_one]
  rfl
theorem forL_3 {t : Tg} {b : SS} {d0 d1 d2 : D} {e0 e1 e2 e3 f0 f1 f2 : Slots} (a0 : t d0 e0 = some f0) (b0 : b f0 = .nx e1) (a1 : t d1 e1 = some f1) (b1 : b f1 = .nx e2) (a2 : t d2 e2 = some f2) (b2 : b f2 = .nx e3) : forL t b [d0, d1, d2] e0 = .nx e3 := by
  simp only [forL, a0, b0, a1, b1, a2, b2]
theorem cross_v {a0 a1 a2 b0 b1 b2 : List Int} (p0 : Pc 3 9 a0) (p1 : Pc 3 9 a1) (p2 : Pc 3 9 a2) (q0 : Pc 4 12 b0) (q1 : Pc 4 12 b1) (q2 : Pc 4 12 b2) : Gives _law_cross_m [.frz (L3 a0 a1 a2), .frz (L3 b0 b1 b2)] (.frz (L3 (cr a1 b2 a2 b1) (cr a2 b0 a0 b2) (cr a0 b1 a1 b0))) := by
  obtain ⟨i0, i1, i2⟩ := L3_ix a0 a1 a2
  obtain ⟨j0, j1, j2⟩ := L3_ix b0 b1 b2
  generalize L3 a0 a1 a2 = A at *
  generalize L3 b0 b1 b2 = B at *
  have s0 := cross_step (F := []) i1 j2 i2 j1 p1 q2 p2 q1 (by decide)
  have s1 := cross_step (F := [.lst (inD (cr a1 b2 a2 b1))]) i2 j0 i0 j2 p2 q0 p0 q2 (by simp)
  have s2 := cross_step (F := [.lst (inD (cr a1 b2 a2 b1)), .lst (inD (cr a2 b0 a0 b2))]) i0 j1 i1 j0 p0 q1 p1 q0 (by simp)
  have lp := forL_3 (t := gTupD 2 (gsCons (gV false 3) (gsCons (gV false 4) gsNil))) (d0 := .tup [.int 1, .int 2]) (d1 := .tup [.int 2, .int 0]) (d2 := .tup [.int 0, .int 1]) (e0 := [some (.frz A), some (.frz B), some (.own (fz [])), none, none]) rfl s0 rfl s1 rfl s2
  refine gives_rt ⟨[some (.frz A), some (.frz B), some (.frz (L3 (cr a1 b2 a2 b1) (cr a2 b0 a0 b2) (cr a0 b1 a1 b0))), some (.frz (.int 0)), some (.frz (.int 1))], ?_⟩
  rw [show startE 5 [.frz A, .frz B] = [some (.frz A), some (.frz B), none, none, none] from rfl]
  unfold _law_cross_b
  rw [seq_nx (set_ok (h := eF (evPs [])) (c := .own (fz [])) (e := [some (.frz A), some (.frz B), none, none, none]) rfl)]
  simp only [List.set_cons_succ, List.set_cons_zero]
  rw [seq_nx ((for_ok (src := mSq (eP (pF (evPs [pTup [pK (.int 1), pK (.int 2)], pTup [pK (.int 2), pK (.int 0)], pTup [pK (.int 0), pK (.int 1)]])))) (l := [.tup [.int 1, .int 2], .tup [.int 2, .int 0], .tup [.int 0, .int 1]]) (e := [some (.frz A), some (.frz B), some (.own (fz [])), none, none]) rfl).trans lp)]
  refine ret_ok ?_
  have td : ∀ l : List D, (C.own (fz l)).toD = .lst l := fun l => by simp [C.toD]
  have := td ([D.lst (inD (cr a1 b2 a2 b1)), .lst (inD (cr a2 b0 a0 b2))] ++ [.lst (inD (cr a0 b1 a1 b0))])
  unfold eV
  simp only [List.getElem?_cons_succ, List.getElem?_cons_zero, this]
  rfl
theorem pc_few {k : Nat} {l : List Int} (h : Few k l) (t : Tr l) {m n : Nat} (hm : k ≤ m) (hn : 3 * k ≤ n) : Pc m n l := ⟨t, Nat.le_trans h.1 hm, Nat.le_trans (few_nrm h) hn⟩
theorem led_curve_v {c : C} (hc : PotOk c) : ∃ (c' : C) (l0 l1 l2 : List Int), _law_led_curve_m [c, .frz (.int 5)] = .ok (.frz (L3 l0 l1 l2)) [some c', none] ∧ PotOk c' ∧ Cv l0 l1 l2 := by
  obtain ⟨r, c1, e1, r0, r1, p1⟩ := draw_p (env := [some c, some (.frz (.int 5)), none, none, none, none, none]) (p := pK (.int 3)) (s := 3) rfl rfl hc (by decide) (by decide)
  simp only [List.set_cons_zero] at e1
  obtain ⟨r', c2, e2, r0', r1', p2⟩ := draw_p (env := [some c1, some (.frz (.int 5)), none, none, none, none, none]) (p := pK (.int 3)) (s := 3) rfl rfl p1 (by decide) (by decide)
  obtain ⟨m, hm⟩ : ∃ m : Nat, r = (m : Int) := ⟨r.toNat, by omega⟩
  obtain ⟨n, hn⟩ : ∃ n : Nat, 1 + r' = (n : Int) := ⟨(1 + r').toNat, by omega⟩
  subst hm
  have s1 := eOp_ok (op := addI) (f := eP (pK (.int 1))) (env := [some c1, some (.frz (.int 5)), none, none, none, none, none]) (a := .frz (.int 1)) (v := .int (n : Int)) rfl e2 (by simp only [C.toD, addI, hn])
  simp only [List.set_cons_zero] at s1
  have sp : sPar [2, 3] [eFnL _law_draw_m 0 [eP (pK (.int 3))], eOp addI (eP (pK (.int 1))) (eFnL _law_draw_m 0 [eP (pK (.int 3))])] [some c, some (.frz (.int 5)), none, none, none, none, none] = .nx [some c2, some (.frz (.int 5)), some (.frz (.int (m : Int))), some (.frz (.int (n : Int))), none, none, none] := by
    unfold sPar
    rw [evMs_2 e1 s1]
    rfl
  have ln : ∀ (i k : Nat) (c : C) (o4 o5 : Option C), PotOk c → k ≤ 5 → pV i [some c, some (.frz (.int 5)), some (.frz (.int (m : Int))), some (.frz (.int (n : Int))), o4, o5, none] = some (.int (k : Int)) → ∃ c' ns, eFnL _law_line_m 0 [eP (pV i)] [some c, some (.frz (.int 5)), some (.frz (.int (m : Int))), some (.frz (.int (n : Int))), o4, o5, none] = .ok (.frz (.lst (inD ns))) [some c', some (.frz (.int 5)), some (.frz (.int (m : Int))), some (.frz (.int (n : Int))), o4, o5, none] ∧ PotOk c' ∧ Few (k + 1) ns ∧ Tr ns := fun i k c o4 o5 hc hk hv => by
    have := line_E (env := [some c, some (.frz (.int 5)), some (.frz (.int (m : Int))), some (.frz (.int (n : Int))), o4, o5, none]) (p := pV i) (j := k) rfl hv hc (by omega)
    simpa only [List.set_cons_zero] using this
  obtain ⟨c3, a0, x0, p3, f0, t0⟩ := ln 2 m c2 none none p2 (by omega) rfl
  obtain ⟨c4, a1, x1, p4, f1, t1⟩ := ln 2 m c3 none none p3 (by omega) rfl
  obtain ⟨c5, a2, x2, p5, f2, t2⟩ := ln 2 m c4 none none p4 (by omega) rfl
  have l3 := O3_toD a0 a1 a2
  have el1 := eFrz_ok (eLst_3 x0 x1 x2)
  rw [show (C.own [.frz (.lst (inD a0)), .frz (.lst (inD a1)), .frz (.lst (inD a2))]).toD = L3 a0 a1 a2 from l3] at el1
  obtain ⟨c6, b0, y0, p6, g0, u0⟩ := ln 3 n c5 (some (.frz (L3 a0 a1 a2))) none p5 (by omega) rfl
  obtain ⟨c7, b1, y1, p7, g1, u1⟩ := ln 3 n c6 (some (.frz (L3 a0 a1 a2))) none p6 (by omega) rfl
  obtain ⟨c8, b2, y2, p8, g2, u2⟩ := ln 3 n c7 (some (.frz (L3 a0 a1 a2))) none p7 (by omega) rfl
  have l3b := O3_toD b0 b1 b2
  have el2 := eFrz_ok (eLst_3 y0 y1 y2)
  rw [show (C.own [.frz (.lst (inD b0)), .frz (.lst (inD b1)), .frz (.lst (inD b2))]).toD = L3 b0 b1 b2 from l3b] at el2
  have P : ∀ {l : List Int}, Few (m + 1) l → Tr l → Pc 3 9 l := fun f t => pc_few f t (by omega) (by omega)
  have Q : ∀ {l : List Int}, Few (n + 1) l → Tr l → Pc 4 12 l := fun f t => pc_few f t (by omega) (by omega)
  have cv := cross_v (P f0 t0) (P f1 t1) (P f2 t2) (Q g0 u0) (Q g1 u1) (Q g2 u2)
  have gg : ∀ {p q r s : List Int}, Pc 3 9 p → Pc 4 12 q → Pc 3 9 r → Pc 4 12 s → Tr (cr p q r s) ∧ (cr p q r s).length ≤ 6 ∧ nrm (cr p q r s) ≤ 216 := fun a b c d => cr_good a.l b.l c.l d.l a.n b.n c.n d.n
  obtain ⟨A1, A2, A3⟩ := gg (P f1 t1) (Q g2 u2) (P f2 t2) (Q g1 u1)
  obtain ⟨B1, B2, B3⟩ := gg (P f2 t2) (Q g0 u0) (P f0 t0) (Q g2 u2)
  obtain ⟨C1, C2, C3⟩ := gg (P f0 t0) (Q g1 u1) (P f1 t1) (Q g0 u0)
  generalize cr a1 b2 a2 b1 = k0 at *
  generalize cr a2 b0 a0 b2 = k1 at *
  generalize cr a0 b1 a1 b0 = k2 at *
  have gd : Good k0 k1 k2 := ⟨A1, B1, C1, A2, B2, C2, A3, B3, C3⟩
  generalize L3 a0 a1 a2 = A at *
  generalize L3 b0 b1 b2 = B at *
  have zc := pFn_2 (p := pV 4) (q := pV 5) (env := [some c8, some (.frz (.int 5)), some (.frz (.int (m : Int))), some (.frz (.int (n : Int))), some (.frz A), some (.frz B), none]) rfl rfl cv
  rw [C.toD] at zc
  generalize hE : [some c8, some (C.frz (.int 5)), some (C.frz (.int (m : Int))), some (C.frz (.int (n : Int))), some (C.frz A), some (C.frz B), some (C.frz (L3 k0 k1 k2))] = env
  have v6 : pV 6 env = some (L3 k0 k1 k2) := by rw [← hE]; rfl
  have v1 : pV 1 env = some (.int 5) := by rw [← hE]; rfl
  have dg := pFn_1 v6 (degree_v k0 k1 k2).2
  rw [C.toD] at dg
  obtain ⟨i0, i1, i2⟩ := L3_ix k0 k1 k2
  obtain ⟨h1, h2, w1, w2, hcop⟩ := lcom_test gd
  have cq := com_q (p0 := pIx (pV 6) (pK (.int 0))) (p1 := pIx (pV 6) (pK (.int 1))) (p2 := pIx (pV 6) (pK (.int 2))) (pIx_ok v6 rfl i0) (pIx_ok v6 rfl i1) (pIx_ok v6 rfl i2) w1 w2
  have pre : ∀ {x : SOut}, (sSeq (sIf (tP (qOr (qNot (qOf (pChain (cmpI iLe) (cmpI iLe) (pK (.int 1)) (pFn _law_degree_m [pV 6]) (pV 1)))) (qOf (pOp neV' (pCall lenF [pFn _law_common_m [pFn _law_common_m [pIx (pV 6) (pK (.int 0)), pIx (pV 6) (pK (.int 1))], pIx (pV 6) (pK (.int 2))]]) (pK (.int 1)))))) (sRet (eFnL _law_curve_m 0 [eP (pV 1)])) (sNx)) (sRet (eP (pV 6)))) env = x → _law_led_curve_b [some c, some (.frz (.int 5)), none, none, none, none, none] = x := fun {x} h => by
    rw [← h]
    unfold _law_led_curve_b
    rw [seq_nx sp, seq_nx (set_ok el1)]
    simp only [List.set_cons_succ, List.set_cons_zero]
    rw [seq_nx (set_ok el2)]
    simp only [List.set_cons_succ, List.set_cons_zero]
    rw [seq_nx (set_ok (eP_of zc))]
    simp only [List.set_cons_succ, List.set_cons_zero]
    rw [hE]
  have ch : pChain (cmpI iLe) (cmpI iLe) (pK (.int 1)) (pFn _law_degree_m [pV 6]) (pV 1) env = some (.bl (decide (1 ≤ deg3 k0 k1 k2) && decide (deg3 k0 k1 k2 ≤ 5))) := by
    unfold pChain
    rw [dg, v1]
    by_cases h : 1 ≤ deg3 k0 k1 k2 <;> simp [pK, cmpI, iLe, h, ofV]
  by_cases hall : (1 ≤ deg3 k0 k1 k2 ∧ deg3 k0 k1 k2 ≤ 5) ∧ h2.length = 1
  · obtain ⟨⟨d1, d5⟩, hl⟩ := hall
    rw [decide_eq_true hl] at cq
    rw [decide_eq_true d1, decide_eq_true d5] at ch
    have t : (tP (qOr (qNot (qOf (pChain (cmpI iLe) (cmpI iLe) (pK (.int 1)) (pFn _law_degree_m [pV 6]) (pV 1)))) (qOf (pOp neV' (pCall lenF [pFn _law_common_m [pFn _law_common_m [pIx (pV 6) (pK (.int 0)), pIx (pV 6) (pK (.int 1))], pIx (pV 6) (pK (.int 2))]]) (pK (.int 1)))))) env = .ok false env := tP_of (by
      unfold qOr qNot
      rw [qOf_b ch, cq]
      rfl)
    have fin := pre ((seq_nx (if_no t)).trans (ret_ok (eP_of v6)))
    rw [← hE] at fin
    exact ⟨c8, k0, k1, k2, body_rt (N := 7) (pn := [0]) (a := 2) (cs := [c, .frz (.int 5)]) (f := _law_led_curve_b) fin, p8, gd, d1, hcop hl⟩
  · have t : (tP (qOr (qNot (qOf (pChain (cmpI iLe) (cmpI iLe) (pK (.int 1)) (pFn _law_degree_m [pV 6]) (pV 1)))) (qOf (pOp neV' (pCall lenF [pFn _law_common_m [pFn _law_common_m [pIx (pV 6) (pK (.int 0)), pIx (pV 6) (pK (.int 1))], pIx (pV 6) (pK (.int 2))]]) (pK (.int 1)))))) env = .ok true env := tP_of (by
      unfold qOr qNot
      rw [qOf_b ch, cq]
      by_cases h : 1 ≤ deg3 k0 k1 k2 ∧ deg3 k0 k1 k2 ≤ 5
      · have hl : ¬ h2.length = 1 := fun z => hall ⟨h, z⟩
        simp [h.1, h.2, hl]
      · have : (decide (1 ≤ deg3 k0 k1 k2) && decide (deg3 k0 k1 k2 ≤ 5)) = false := by
          simp only [Bool.and_eq_false_iff, decide_eq_false_iff_not]
          omega
        simp [this])
    obtain ⟨c9, l0, l1, l2, le, p9, lc⟩ := law_curve_v p8
    have h0 : env[0]? = some (some c8) := by rw [← hE]; rfl
    have ce := lend_E (m := _law_curve_m) (ds := [.int 5]) h0 (evM_1 v1) le
    have fin := pre (seq_rt ((if_t t).trans (ret_ok ce)))
    rw [← hE] at fin
    exact ⟨c9, l0, l1, l2, body_rt (N := 7) (pn := [0]) (a := 2) (cs := [c, .frz (.int 5)]) (f := _law_led_curve_b) fin, p9, lc⟩
end k71
namespace k71
open PySem PySem.Spec PyProof.Rows L2 PL
/-! ### texts of numbers -/
def RD (w k : Nat) (d : D) : Prop := ∃ y, toPyR d = some y ∧ y.showable = true ∧ y.leavesShort 120 = true ∧ y.weight ≤ w ∧ y.depth ≤ k
theorem rd_int {i : Int} (h : i.natAbs < 2 ^ 300) : RD 301 0 (.int i) := by
  have hl : i.natAbs.log2 < 300 := by
    rcases Nat.eq_zero_or_pos i.natAbs with z | z
    · rw [z]; decide
    · exact (Nat.log2_lt (by omega)).mpr h
  refine ⟨_, rfl, ?_, ?_, ?_, by simp [PyData.depth]⟩
  · have : i.natAbs.log2 < 1920 := by omega
    simpa [PyData.showable] using this
  · have e := int_text_length_le10 (a := i) (k := 95) (by decide) (Nat.lt_of_lt_of_le h (by decide +kernel))
    have e2 : (PyData.shown (.int i)).length ≤ 120 := by
      show (Str.ofString (toString i)).length ≤ 120
      rw [PySem.ofString_length]; omega
    simpa [PyData.leavesShort] using e2
  · simp only [PyData.weight]
    split <;> omega
theorem rd_bl (b : Bool) : RD 301 0 (.bl b) := ⟨_, rfl, by simp [PyData.showable], by simp [PyData.leavesShort], by simp [PyData.weight], by simp [PyData.depth]⟩
theorem rd_all {w k : Nat} : ∀ {l : List D}, (∀ d ∈ l, RD w k d) → ∃ ys, toPysR l = some ys ∧ PyData.showableAll ys = true ∧ PyData.leavesShortAll 120 ys = true ∧ PyData.weightAll ys ≤ l.length * (w + 1) ∧ PyData.depthAll ys ≤ k
  | [], _ => ⟨[], rfl, by simp [PyData.showableAll], by simp [PyData.leavesShortAll], by simp [PyData.weightAll], by simp [PyData.depthAll]⟩
  | d :: r, h => by
    obtain ⟨y, a1, a2, a3, a4, a5⟩ := h d (by simp)
    obtain ⟨ys, b1, b2, b3, b4, b5⟩ := rd_all (l := r) fun x hx => h x (by simp [hx])
    refine ⟨y :: ys, by simp only [toPysR, a1, b1], by simp [PyData.showableAll, a2, b2], by simp [PyData.leavesShortAll, a3, b3], ?_, ?_⟩
    · simp only [PyData.weightAll, List.length_cons, Nat.add_mul, Nat.one_mul]; omega
    · simp only [PyData.depthAll]; omega
theorem rd_gv {w k : Nat} (c : Bool) {l : List D} (h : ∀ d ∈ l, RD w k d) {n W : Nat} (hl : l.length ≤ n) (hW : n * (w + 1) ≤ W) : RD W (k + 1) (gv c l) := by
  obtain ⟨ys, b1, b2, b3, b4, b5⟩ := rd_all h
  have := Nat.mul_le_mul_right (w + 1) hl
  cases c with
  | false => exact ⟨.list ys, by show toPyR (.lst l) = _; simp only [toPyR, b1]; rfl, by simpa [PyData.showable] using b2, by simpa [PyData.leavesShort] using b3, by simp only [PyData.weight]; omega, by simp only [PyData.depth]; omega⟩
  | true => exact ⟨.tuple ys, by show toPyR (.tup l) = _; simp only [toPyR, b1]; rfl, by simpa [PyData.showable] using b2, by simpa [PyData.leavesShort] using b3, by simp only [PyData.weight]; omega, by simp only [PyData.depth]; omega⟩
theorem rd_repr {w k : Nat} {d : D} (h : RD w k d) (hw : w ≤ 100000) (hk : k ≤ 60) : ∃ s, reprF2 [d] = some (.str s) := by
  obtain ⟨y, h1, h2, h3, h4, h5⟩ := h
  have := PyData.shown_le 120 (by decide) y h3
  have := Nat.mul_le_mul_left (120 + 2) h4
  refine ⟨y.shown, ?_⟩
  unfold reprF2
  simp only [h1]
  rw [if_pos]
  simp only [Bool.and_eq_true, decide_eq_true_eq]
  exact ⟨⟨h2, by omega⟩, by omega⟩
theorem rd_ints {l : List Int} (c : Bool) (h : ∀ x ∈ l, x.natAbs < 2 ^ 300) (hl : l.length ≤ 60) : RD 20000 1 (gv c (inD l)) :=
  rd_gv (n := 60) c (fun d hd => by
    obtain ⟨x, hx, rfl⟩ := List.mem_map.mp hd
    exact rd_int (h x hx)) (by rw [inD_len]; exact hl) (by decide)
theorem repr_gv {c : Bool} {l : List D} (h : ∀ d ∈ l, RD 20000 1 d) (hl : l.length ≤ 4) : ∃ s, reprF2 [gv c l] = some (.str s) :=
  rd_repr (rd_gv (n := 4) (W := 80004) c h hl (by decide)) (by decide) (by decide)
theorem repr_G3 {b b0 b1 b2 : Bool} {l0 l1 l2 : List Int} (h : ∀ l ∈ [l0, l1, l2], l.length ≤ 60 ∧ ∀ x ∈ l, x.natAbs < 2 ^ 300) : ∃ s, reprF2 [G3 b b0 b1 b2 l0 l1 l2] = some (.str s) := by
  refine repr_gv (fun d hd => ?_) (by simp)
  simp only [List.mem_cons, List.not_mem_nil, or_false] at hd
  rcases hd with rfl | rfl | rfl
  · exact rd_ints _ (h l0 (by simp)).2 (h l0 (by simp)).1
  · exact rd_ints _ (h l1 (by simp)).2 (h l1 (by simp)).1
  · exact rd_ints _ (h l2 (by simp)).2 (h l2 (by simp)).1
theorem repr_two {v : List Int} (h : ∀ x ∈ v, x.natAbs < 2 ^ 300) (hl : v.length ≤ 60) : ∃ s, reprF2 [.lst [.lst (inD v), .lst (inD v)]] = some (.str s) :=
  repr_gv (c := false) (l := [.lst (inD v), .lst (inD v)]) (fun d hd => by
    simp only [List.mem_cons, List.not_mem_nil, or_false, or_self] at hd
    subst hd
    exact rd_ints false h hl) (by simp)
theorem repr_flags (n : Int) (h : n.natAbs < 2 ^ 300) : ∃ s, reprF2 [.lst [.bl true, .int n, .int n]] = some (.str s) :=
  rd_repr (rd_gv (n := 3) (W := 1000) false (l := [.bl true, .int n, .int n]) (fun d hd => by
    simp only [List.mem_cons, List.not_mem_nil, or_false, or_self] at hd
    rcases hd with rfl | rfl
    · exact rd_bl true
    · exact rd_int h) (by simp) (by decide)) (by decide) (by decide)
/-- two equal texts -/
theorem same_q {p q : P} {env : Slots} {d : D} {s : Str} (hp : p env = some d) (hq : q env = some d) (hs : reprF2 [d] = some (.str s)) : qOf (pOp neT' (pCall reprF2 [p]) (pCall reprF2 [q])) env = some false :=
  qOf_b (pOp_v (a := .str s) (b := .str s) (v := .bl false) (pCall_1 (v := .str s) hp hs) (pCall_1 (v := .str s) hq hs) (by simp [neT', eqDT_str]))
theorem pFnK_1 {m : List C → Out C} {p : P} {env : Slots} {a : D} {c : C} (h1 : p env = some a) (h : Gives m [.frz a] c) : pFnK m [0] [p] env = some c.toD := by
  obtain ⟨o, h⟩ := h
  unfold pFnK
  rw [evPs_1 h1]
  simp only [pick, List.filterMap_cons, List.filterMap_nil, List.getElem?_cons_zero, List.map_cons, List.map_nil, h]
theorem pFnK_21 {m : List C → Out C} {p q : P} {env : Slots} {a b : D} {c : C} (h1 : p env = some a) (h2 : q env = some b) (h : Gives m [.frz b, .frz a] c) : pFnK m [1, 0] [p, q] env = some c.toD := by
  obtain ⟨o, h⟩ := h
  unfold pFnK
  rw [evPs_2 h1 h2]
  simp only [pick, List.filterMap_cons, List.filterMap_nil, List.getElem?_cons_zero, List.getElem?_cons_succ, List.map_cons, List.map_nil, h]
theorem point_mem {v : List Int} {B : Nat} (h : ∀ x ∈ v, x.natAbs < B) : ∀ x ∈ pointI v, x.natAbs < B := by
  have hb : ∀ x ∈ bareL v, x.natAbs < B := fun x hx => by
    unfold bareL at hx
    split at hx
    · rename_i hg
      obtain ⟨y, hy, rfl⟩ := List.mem_map.mp hx
      have e := fdiv_dvd ((gcdF_dvd v 0).2 y hy)
      have h1 := h y hy
      have e2 := congrArg Int.natAbs e
      rw [Int.natAbs_mul] at e2
      have : 1 * (y.fdiv (gcdF 0 v)).natAbs ≤ ((gcdF 0 v : Nat) : Int).natAbs * (y.fdiv (gcdF 0 v)).natAbs := Nat.mul_le_mul_right _ (by omega)
      omega
    · exact h x hx
  intro x hx
  unfold pointI at hx
  split at hx
  · exact hb x hx
  · obtain ⟨y, hy, rfl⟩ := List.mem_map.mp hx
    have := hb y hy
    omega
theorem point_len (v : List Int) : (pointI v).length = v.length := by
  unfold pointI
  split
  · exact bare_len v
  · rw [List.length_map]; exact bare_len v
/-! ### the first half -/
theorem Crv.small {l0 l1 l2 : List Int} (h : Crv l0 l1 l2) : ∀ l ∈ [l0, l1, l2], l.length ≤ 60 ∧ ∀ x ∈ l, x.natAbs < 2 ^ 300 := fun l hl => by
  have b : ∀ {l : List Int}, nrm l ≤ 2000000 → ∀ x ∈ l, x.natAbs < 2 ^ 300 := fun h x hx => by
    have := mem_nrm hx
    exact Nat.lt_of_le_of_lt (Nat.le_trans this h) (by decide)
  simp only [List.mem_cons, List.not_mem_nil, or_false] at hl
  rcases hl with rfl | rfl | rfl
  · exact ⟨by have := h.n0; omega, b h.b0⟩
  · exact ⟨by have := h.n1; omega, b h.b1⟩
  · exact ⟨by have := h.n2; omega, b h.b2⟩
theorem times_loop {c dg sh o6 o7 : Option C} {b b0 b1 b2 : Bool} {l0 l1 l2 : List Int} (h : Crv l0 l1 l2) : ∀ (l : List D) (o5 o8 : Option C), (∀ d ∈ l, ∃ t : Int, d = .int t ∧ t.natAbs < 2 ^ 40) → ∃ o5' o8',
    forL (gV false 5) (sSeq (sSet 8 (eP (pFn _law_point_m [pF (fComp [9] (gV true 9) (fun _ => some true) (pFn _law_value_m [pV 9, pV 5]) (fSq (pV 1)))]))) (sIf (tP (qOf (pOp neT' (pCall reprF2 [pF (evPs [pFn point_at_m [pV 2, pV 5], pFnK point_at_m [1, 0] [pV 5, pV 2]])]) (pCall reprF2 [pF (evPs [pV 8, pV 8])])))) (sRet (eP (pK (.bl false)))) (sNx))) l [c, some (.frz (L3 l0 l1 l2)), some (.frz (G3 b b0 b1 b2 l0 l1 l2)), dg, sh, o5, o6, o7, o8, none] = .nx [c, some (.frz (L3 l0 l1 l2)), some (.frz (G3 b b0 b1 b2 l0 l1 l2)), dg, sh, o5', o6, o7, o8', none]
  | [], o5, o8, _ => ⟨o5, o8, rfl⟩
  | d :: r, o5, o8, hd => by
    obtain ⟨t, rfl, ht⟩ := hd d (by simp)
    obtain ⟨o5', o8', ih⟩ := times_loop h r (some (.frz (.int t))) (some (.frz (.lst (inD (pointI (V3 l0 l1 l2 t)))))) fun x hx => hd x (by simp [hx])
    refine ⟨o5', o8', ?_⟩
    have lp := law_point_v (v := V3 l0 l1 l2 t) (by simp [V3]) (fun y hy => huge300 (h.vbig ht y hy)) (h.vnz t)
    have pa := point_at_v (b := b) (b0 := b0) (b1 := b1) (b2 := b2) h ht
    obtain ⟨s, rs⟩ := repr_two (v := pointI (V3 l0 l1 l2 t)) (point_mem (h.vbig ht)) (by rw [point_len]; simp [V3])
    obtain ⟨x1, x2⟩ := b64 ht
    generalize pointI (V3 l0 l1 l2 t) = pt at *
    generalize G3 b b0 b1 b2 l0 l1 l2 = dd at *
    have st : ∀ l : List Int, ∃ e, gV true 9 (.lst (inD l)) [c, some (.frz (L3 l0 l1 l2)), some (.frz dd), dg, sh, some (.frz (.int t)), o6, o7, o8, none] = some e ∧ pFn _law_value_m [pV 9, pV 5] e = some (.int (val l t)) := fun l => by
      refine ⟨[c, some (.frz (L3 l0 l1 l2)), some (.frz dd), dg, sh, some (.frz (.int t)), o6, o7, o8, some (.frz (.lst (inD l)))], rfl, ?_⟩
      have z := pFn_2 (p := pV 9) (q := pV 5) (env := [c, some (.frz (L3 l0 l1 l2)), some (.frz dd), dg, sh, some (.frz (.int t)), o6, o7, o8, some (.frz (.lst (inD l)))]) rfl rfl (value_v (l := l) x1 x2).2
      rw [C.toD] at z
      exact z
    have fc := fComp_ok (vs := [9]) (env := [c, some (.frz (L3 l0 l1 l2)), some (.frz dd), dg, sh, some (.frz (.int t)), o6, o7, o8, none]) (src := fSq (pV 1)) (l := [.lst (inD l0), .lst (inD l1), .lst (inD l2)]) (fSq_ok rfl) (by simp) (comp3 (st l0) (st l1) (st l2))
    have z2 := pFn_1 (pF_ok fc) lp
    rw [C.toD] at z2
    have s1 := set_ok (i := 8) (eP_of z2)
    simp only [List.set_cons_succ, List.set_cons_zero] at s1
    have w1 := pFn_2 (p := pV 2) (q := pV 5) (env := [c, some (.frz (L3 l0 l1 l2)), some (.frz dd), dg, sh, some (.frz (.int t)), o6, o7, some (.frz (.lst (inD pt))), none]) (a := dd) (b := .int t) rfl rfl pa
    have w2 := pFnK_21 (p := pV 5) (q := pV 2) (env := [c, some (.frz (L3 l0 l1 l2)), some (.frz dd), dg, sh, some (.frz (.int t)), o6, o7, some (.frz (.lst (inD pt))), none]) (a := .int t) (b := dd) rfl rfl pa
    rw [C.toD] at w1 w2
    have q := same_q (p := pF (evPs [pFn point_at_m [pV 2, pV 5], pFnK point_at_m [1, 0] [pV 5, pV 2]])) (q := pF (evPs [pV 8, pV 8])) (pF_ok (evPs_2 w1 w2)) (pF_ok (evPs_2 (a := .lst (inD pt)) (b := .lst (inD pt)) rfl rfl)) rs
    have bd := (seq_nx s1).trans (if_no (f := sRet (eP (pK (.bl false)))) (tP_of q))
    rw [forL]
    rw [show gV false 5 (.int t) [c, some (.frz (L3 l0 l1 l2)), some (.frz dd), dg, sh, o5, o6, o7, o8, none] = some [c, some (.frz (L3 l0 l1 l2)), some (.frz dd), dg, sh, some (.frz (.int t)), o6, o7, o8, none] from rfl]
    simp only [bd]
    exact ih
theorem late_p {env : Slots} {l : List Int} {n : Int} (t : Tr l) (h9 : pV 9 env = some (.lst (inD l))) (h3 : pV 3 env = some (.int n)) (hn : 0 ≤ n) (hl : (l.length : Int) ≤ n + 1) : pIf (qOf (pOp (cmpI iGt) (pCall lenF [pV 9]) (pV 3))) (pIx (pV 9) (pV 3)) (pK (.int 0)) env = some (.int (tipI (n + 1) l)) := by
  have q := qOf_b (b := decide (n < (l.length : Int))) (pOp_v (op := cmpI iGt) (v := .bl (decide (n < (l.length : Int)))) (len_p h9) h3 rfl)
  unfold pIf tipI
  rw [q]
  by_cases e : (l.length : Int) = n + 1
  · rw [if_pos e, decide_eq_true (by omega)]
    have h0 : l ≠ [] := by intro z; rw [z] at e; simp at e; omega
    have e2 : n = ((l.length - 1 : Nat) : Int) := by omega
    refine pIx_ok h9 h3 ?_
    show atI (inD l) n = _
    rw [e2, atI_int (by omega)]
    rw [lastI, List.getLast?_eq_some_getLast h0, List.getLast_eq_getElem]
    rfl
  · rw [if_neg e, decide_eq_false (by omega)]
    rfl
theorem curve_right_v {c : C} {l0 l1 l2 : List Int} (hc : PotOk c) (h : Crv l0 l1 l2) : ∃ c', _law_curve_right_m [c, .frz (L3 l0 l1 l2)] = .ok (.frz (.bl true)) [some c', none] ∧ PotOk c' := by
  obtain ⟨b, b0, b1, b2, c1, ge, p1⟩ := given_v (c := c) (l0 := l0) (l1 := l1) (l2 := l2) hc (by have := h.n0; omega) (by have := h.n1; omega) (by have := h.n2; omega)
  have dgv := (degree_v l0 l1 l2).2
  have d1 := h.d1
  have d5 := h.d5
  obtain ⟨sg, rg⟩ := repr_G3 (b := b) (b0 := b0) (b1 := b1) (b2 := b2) h.small
  have ic := is_curve_v (b := b) (b0 := b0) (b1 := b1) (b2 := b2) h
  have cd := curve_degree_v (b := b) (b0 := b0) (b1 := b1) (b2 := b2) h
  have cd3 : Gives curve_degree_m [.frz (L3 l0 l1 l2)] (.frz (.int (deg3 l0 l1 l2))) := curve_degree_v (b := false) (b0 := false) (b1 := false) (b2 := false) h
  have pv := point_after_v (b := b) (b0 := b0) (b1 := b1) (b2 := b2) h
  have pv3 : Gives point_after_m [.frz (L3 l0 l1 l2)] (.own (fz (inD (pointI (T3 l0 l1 l2))))) := point_after_v (b := false) (b0 := false) (b1 := false) (b2 := false) h
  have lpt := law_point_v (v := T3 l0 l1 l2) (by simp [T3]) (fun y hy => huge300 (h.tbig y hy)) h.tnz
  obtain ⟨s2, r2⟩ := repr_two (v := pointI (T3 l0 l1 l2)) (point_mem h.tbig) (by rw [point_len]; simp [T3])
  obtain ⟨sf, rf⟩ := repr_flags (deg3 l0 l1 l2) (Nat.lt_of_le_of_lt (show (deg3 l0 l1 l2).natAbs ≤ 5 by omega) (by decide))
  -- the draws of the times
  obtain ⟨r, c2, e2, ra, rb, p2⟩ := draw_p (env := [some c1, some (.frz (L3 l0 l1 l2)), some (.frz (G3 b b0 b1 b2 l0 l1 l2)), some (.frz (.int (deg3 l0 l1 l2))), some (.frz (.str sg)), none, none, none, none, none]) (p := pK (.int 19)) (s := 19) rfl rfl p1 (by decide) (by decide)
  simp only [List.set_cons_zero] at e2
  obtain ⟨r', c3, e3, ra', rb', p3⟩ := draw_p (env := [some c2, some (.frz (L3 l0 l1 l2)), some (.frz (G3 b b0 b1 b2 l0 l1 l2)), some (.frz (.int (deg3 l0 l1 l2))), some (.frz (.str sg)), none, none, none, none, none]) (p := pK (.int 9)) (s := 9) rfl rfl p2 (by decide) (by decide)
  simp only [List.set_cons_zero] at e3
  obtain ⟨o5, o8, lp⟩ := times_loop (c := some c3) (dg := some (.frz (.int (deg3 l0 l1 l2)))) (sh := some (.frz (.str sg))) (o6 := none) (o7 := none) (b := b) (b0 := b0) (b1 := b1) (b2 := b2) h [.int 0, .int 1, .int (r - 9), .int (999990 + r')] none none (fun d hd => by
    simp only [List.mem_cons, List.not_mem_nil, or_false] at hd
    rcases hd with rfl | rfl | rfl | rfl <;> exact ⟨_, rfl, by omega⟩)
  have tl : ∀ l ∈ [l0, l1, l2], Tr l ∧ (l.length : Int) ≤ deg3 l0 l1 l2 + 1 := fun l hl => by
    simp only [List.mem_cons, List.not_mem_nil, or_false] at hl
    rcases hl with rfl | rfl | rfl
    · exact ⟨h.t0, by unfold deg3; omega⟩
    · exact ⟨h.t1, by unfold deg3; omega⟩
    · exact ⟨h.t2, by unfold deg3; omega⟩
  have T3e : T3 l0 l1 l2 = [tipI (deg3 l0 l1 l2 + 1) l0, tipI (deg3 l0 l1 l2 + 1) l1, tipI (deg3 l0 l1 l2 + 1) l2] := rfl
  generalize hdd : G3 b b0 b1 b2 l0 l1 l2 = dd at *
  generalize hn : deg3 l0 l1 l2 = n at *
  -- the steps
  have g1 : eTup [eFnL _law_given_m 0 [eP (pV 1)], eP (pFn _law_degree_m [pV 1])] [some c, some (.frz (L3 l0 l1 l2)), none, none, none, none, none, none, none, none] = .ok (.frz (.tup [dd, .int n])) [some c1, some (.frz (L3 l0 l1 l2)), none, none, none, none, none, none, none, none] := by
    have a := lend_E (m := _law_given_m) (env := [some c, some (.frz (L3 l0 l1 l2)), none, none, none, none, none, none, none, none]) (ds := [L3 l0 l1 l2]) rfl (evM_1 (p := pV 1) rfl) ge
    have bz := pFn_1 (p := pV 1) (env := [some c1, some (.frz (L3 l0 l1 l2)), none, none, none, none, none, none, none, none]) rfl dgv
    rw [C.toD] at bz
    unfold eTup
    rw [evMs_2 a (eP_of bz)]
    simp [Out.bind, C.toD, C.toDs]
  have s1 := asg_ok (t := gTupD 2 (gsCons (gV false 2) (gsCons (gV false 3) gsNil))) (e' := [some c1, some (.frz (L3 l0 l1 l2)), some (.frz dd), some (.frz (.int n)), none, none, none, none, none, none]) g1 rfl
  have s2' : (sSet 4 (eP (pCall reprF2 [pV 2]))) [some c1, some (.frz (L3 l0 l1 l2)), some (.frz dd), some (.frz (.int n)), none, none, none, none, none, none] = .nx [some c1, some (.frz (L3 l0 l1 l2)), some (.frz dd), some (.frz (.int n)), some (.frz (.str sg)), none, none, none, none, none] := set_ok (eP_of (pCall_1 (d := dd) (v := .str sg) rfl rg))
  have q3 : qOf (pOp neT' (pCall reprF2 [pF (evPs [pFn is_curve_m [pV 2], pFn curve_degree_m [pV 2], pFnK curve_degree_m [0] [pV 1]])]) (pCall reprF2 [pF (evPs [pK (.bl true), pV 3, pV 3])])) [some c1, some (.frz (L3 l0 l1 l2)), some (.frz dd), some (.frz (.int n)), some (.frz (.str sg)), none, none, none, none, none] = some false := by
    have a1 := pFn_1 (p := pV 2) (env := [some c1, some (.frz (L3 l0 l1 l2)), some (.frz dd), some (.frz (.int n)), some (.frz (.str sg)), none, none, none, none, none]) rfl ic
    have a2 := pFn_1 (p := pV 2) (env := [some c1, some (.frz (L3 l0 l1 l2)), some (.frz dd), some (.frz (.int n)), some (.frz (.str sg)), none, none, none, none, none]) rfl cd
    have a3 := pFnK_1 (p := pV 1) (env := [some c1, some (.frz (L3 l0 l1 l2)), some (.frz dd), some (.frz (.int n)), some (.frz (.str sg)), none, none, none, none, none]) rfl cd3
    rw [C.toD] at a1 a2 a3
    have l1 : evPs [pFn is_curve_m [pV 2], pFn curve_degree_m [pV 2], pFnK curve_degree_m [0] [pV 1]] [some c1, some (.frz (L3 l0 l1 l2)), some (.frz dd), some (.frz (.int n)), some (.frz (.str sg)), none, none, none, none, none] = some [.bl true, .int n, .int n] := by
      rw [evPs_c, a1, evPs_2 a2 a3]
    exact same_q (pF_ok l1) (pF_ok rfl) rf
  have src : mSq (eFrz (eLst [eP (pK (.int 0)), eP (pK (.int 1)), eOp subI (eFnL _law_draw_m 0 [eP (pK (.int 19))]) (eP (pK (.int 9))), eOp addI (eP (pK (.int 999990))) (eFnL _law_draw_m 0 [eP (pK (.int 9))])])) [some c1, some (.frz (L3 l0 l1 l2)), some (.frz dd), some (.frz (.int n)), some (.frz (.str sg)), none, none, none, none, none] = .ok [.int 0, .int 1, .int (r - 9), .int (999990 + r')] [some c3, some (.frz (L3 l0 l1 l2)), some (.frz dd), some (.frz (.int n)), some (.frz (.str sg)), none, none, none, none, none] := by
    have a1 := eOp_ok (op := subI) (g := eP (pK (.int 9))) (b := .frz (.int 9)) (e2 := [some c2, some (.frz (L3 l0 l1 l2)), some (.frz dd), some (.frz (.int n)), some (.frz (.str sg)), none, none, none, none, none]) (v := .int (r - 9)) e2 rfl rfl
    have a2 := eOp_ok (op := addI) (f := eP (pK (.int 999990))) (env := [some c2, some (.frz (L3 l0 l1 l2)), some (.frz dd), some (.frz (.int n)), some (.frz (.str sg)), none, none, none, none, none]) (a := .frz (.int 999990)) (v := .int (999990 + r')) rfl e3 rfl
    have l4 : eLst [eP (pK (.int 0)), eP (pK (.int 1)), eOp subI (eFnL _law_draw_m 0 [eP (pK (.int 19))]) (eP (pK (.int 9))), eOp addI (eP (pK (.int 999990))) (eFnL _law_draw_m 0 [eP (pK (.int 9))])] [some c1, some (.frz (L3 l0 l1 l2)), some (.frz dd), some (.frz (.int n)), some (.frz (.str sg)), none, none, none, none, none] = .ok (.own [.frz (.int 0), .frz (.int 1), .frz (.int (r - 9)), .frz (.int (999990 + r'))]) [some c3, some (.frz (L3 l0 l1 l2)), some (.frz dd), some (.frz (.int n)), some (.frz (.str sg)), none, none, none, none, none] := by
      unfold eLst
      have k1 : evMs [eOp subI (eFnL _law_draw_m 0 [eP (pK (.int 19))]) (eP (pK (.int 9))), eOp addI (eP (pK (.int 999990))) (eFnL _law_draw_m 0 [eP (pK (.int 9))])] [some c1, some (.frz (L3 l0 l1 l2)), some (.frz dd), some (.frz (.int n)), some (.frz (.str sg)), none, none, none, none, none] = .ok [.frz (.int (r - 9)), .frz (.int (999990 + r'))] [some c3, some (.frz (L3 l0 l1 l2)), some (.frz dd), some (.frz (.int n)), some (.frz (.str sg)), none, none, none, none, none] := evMs_2 a1 a2
      have k0 : ∀ (z : Int) (env : Slots), eP (pK (.int z)) env = .ok (.frz (.int z)) env := fun z env => rfl
      rw [evMs_c, k0]
      simp only [Out.bind]
      rw [evMs_c, k0]
      simp only [Out.bind, k1]
      simp
    have := eFrz_ok l4
    rw [show (C.own [.frz (.int 0), .frz (.int 1), .frz (.int (r - 9)), .frz (.int (999990 + r'))]).toD = .lst [.int 0, .int 1, .int (r - 9), .int (999990 + r')] by simp [C.toD, C.toDs]] at this
    unfold mSq
    rw [this]
    rfl
  have s6 : (sSet 6 (eP (pFn _law_point_m [pF (fComp [9] (gV true 9) (fun _ => some true) (pIf (qOf (pOp (cmpI iGt) (pCall lenF [pV 9]) (pV 3))) (pIx (pV 9) (pV 3)) (pK (.int 0))) (fSq (pV 1)))]))) [some c3, some (.frz (L3 l0 l1 l2)), some (.frz dd), some (.frz (.int n)), some (.frz (.str sg)), o5, none, none, o8, none] = .nx [some c3, some (.frz (L3 l0 l1 l2)), some (.frz dd), some (.frz (.int n)), some (.frz (.str sg)), o5, some (.frz (.lst (inD (pointI (T3 l0 l1 l2))))), none, o8, none] := by
    have st : ∀ l ∈ [l0, l1, l2], ∃ e, gV true 9 (.lst (inD l)) [some c3, some (.frz (L3 l0 l1 l2)), some (.frz dd), some (.frz (.int n)), some (.frz (.str sg)), o5, none, none, o8, none] = some e ∧ pIf (qOf (pOp (cmpI iGt) (pCall lenF [pV 9]) (pV 3))) (pIx (pV 9) (pV 3)) (pK (.int 0)) e = some (.int (tipI (n + 1) l)) := fun l hl =>
      ⟨[some c3, some (.frz (L3 l0 l1 l2)), some (.frz dd), some (.frz (.int n)), some (.frz (.str sg)), o5, none, none, o8, some (.frz (.lst (inD l)))], rfl, late_p (tl l hl).1 rfl rfl (by omega) (tl l hl).2⟩
    have fc := fComp_ok (vs := [9]) (env := [some c3, some (.frz (L3 l0 l1 l2)), some (.frz dd), some (.frz (.int n)), some (.frz (.str sg)), o5, none, none, o8, none]) (src := fSq (pV 1)) (l := [.lst (inD l0), .lst (inD l1), .lst (inD l2)]) (fSq_ok rfl) (by simp) (comp3 (st l0 (by simp)) (st l1 (by simp)) (st l2 (by simp)))
    have te : [D.int (tipI (n + 1) l0), .int (tipI (n + 1) l1), .int (tipI (n + 1) l2)] = inD (T3 l0 l1 l2) := by rw [T3e]; rfl
    rw [te] at fc
    have z := pFn_1 (pF_ok fc) lpt
    rw [C.toD] at z
    exact set_ok (eP_of z)
  have lpt3 : (pointI (T3 l0 l1 l2)).length ≤ 60 := by rw [point_len]; simp [T3]
  generalize pointI (T3 l0 l1 l2) = pt at *
  obtain ⟨op, pe⟩ := pv
  have s7 : (sSet 7 (eFnO point_after_m [eP (pV 2)])) [some c3, some (.frz (L3 l0 l1 l2)), some (.frz dd), some (.frz (.int n)), some (.frz (.str sg)), o5, some (.frz (.lst (inD pt))), none, o8, none] = .nx [some c3, some (.frz (L3 l0 l1 l2)), some (.frz dd), some (.frz (.int n)), some (.frz (.str sg)), o5, some (.frz (.lst (inD pt))), some (.own (fz (inD pt))), o8, none] := set_ok (eFnO_1 (a := .frz dd) (eP_of rfl) pe)
  have q8 : qOf (pOp neT' (pCall reprF2 [pF (evPs [bV 7, pFnK point_after_m [0] [pV 1]])]) (pCall reprF2 [pF (evPs [pV 6, pV 6])])) [some c3, some (.frz (L3 l0 l1 l2)), some (.frz dd), some (.frz (.int n)), some (.frz (.str sg)), o5, some (.frz (.lst (inD pt))), some (.own (fz (inD pt))), o8, none] = some false := by
    have a3 := pFnK_1 (p := pV 1) (env := [some c3, some (.frz (L3 l0 l1 l2)), some (.frz dd), some (.frz (.int n)), some (.frz (.str sg)), o5, some (.frz (.lst (inD pt))), some (.own (fz (inD pt))), o8, none]) rfl pv3
    have td : (C.own (fz (inD pt))).toD = .lst (inD pt) := by simp [C.toD]
    rw [td] at a3
    have a7 : bV 7 [some c3, some (.frz (L3 l0 l1 l2)), some (.frz dd), some (.frz (.int n)), some (.frz (.str sg)), o5, some (.frz (.lst (inD pt))), some (.own (fz (inD pt))), o8, none] = some (.lst (inD pt)) := by
      rw [← td]
      rfl
    exact same_q (pF_ok (evPs_2 a7 a3)) (pF_ok (evPs_2 (a := .lst (inD pt)) (b := .lst (inD pt)) rfl rfl)) r2
  have s9 := drop_ok (eApp_ok (i := 7) (f := eP (pK .non)) (l0 := fz (inD pt)) (l := fz (inD pt)) (c := .frz .non) (env := [some c3, some (.frz (L3 l0 l1 l2)), some (.frz dd), some (.frz (.int n)), some (.frz (.str sg)), o5, some (.frz (.lst (inD pt))), some (.own (fz (inD pt))), o8, none]) rfl rfl rfl (by rw [fz_len, inD_len]; omega))
  simp only [List.set_cons_succ, List.set_cons_zero] at s9
  have fin : ∀ o7, pAnd (pOp eqV' (pFn point_after_m [pV 2]) (pV 6)) (pOp eqT' (pCall reprF2 [pV 2]) (pV 4)) [some c3, some (.frz (L3 l0 l1 l2)), some (.frz dd), some (.frz (.int n)), some (.frz (.str sg)), o5, some (.frz (.lst (inD pt))), o7, o8, none] = some (.bl true) := fun o7 => by
    have a1 := pFn_1 (p := pV 2) (env := [some c3, some (.frz (L3 l0 l1 l2)), some (.frz dd), some (.frz (.int n)), some (.frz (.str sg)), o5, some (.frz (.lst (inD pt))), o7, o8, none]) (a := dd) rfl ⟨op, pe⟩
    have td : (C.own (fz (inD pt))).toD = .lst (inD pt) := by simp [C.toD]
    rw [td] at a1
    have b1 := pOp_v (op := eqV') (q := pV 6) (b := .lst (inD pt)) (v := .bl true) a1 rfl (by simp [eqV', eqD_ints])
    have b2 := pOp_v (op := eqT') (p := pCall reprF2 [pV 2]) (q := pV 4) (env := [some c3, some (.frz (L3 l0 l1 l2)), some (.frz dd), some (.frz (.int n)), some (.frz (.str sg)), o5, some (.frz (.lst (inD pt))), o7, o8, none]) (a := .str sg) (b := .str sg) (v := .bl true) (pCall_1 (d := dd) (v := .str sg) rfl rg) rfl (by simp [eqT', eqDT_str])
    unfold pAnd
    rw [b1]
    exact b2
  refine ⟨c3, body_rt (N := 10) (pn := [0]) (a := 2) (cs := [c, .frz (L3 l0 l1 l2)]) (f := _law_curve_right_b) (e := [some c3, some (.frz (L3 l0 l1 l2)), some (.frz dd), some (.frz (.int n)), some (.frz (.str sg)), o5, some (.frz (.lst (inD pt))), some (.own (fz (inD pt) ++ [.frz .non])), o8, none]) ?_, p3⟩
  rw [show startE 10 [c, .frz (L3 l0 l1 l2)] = [some c, some (.frz (L3 l0 l1 l2)), none, none, none, none, none, none, none, none] from rfl]
  unfold _law_curve_right_b
  rw [seq_nx s1, seq_nx s2', seq_nx (if_no (tP_of q3)), seq_nx ((for_ok src).trans lp), seq_nx s6, seq_nx s7, seq_nx (if_no (tP_of q8)), seq_nx s9]
  exact ret_ok (eP_of (fin _))
end k71
namespace k71
open PySem PySem.Spec PyProof.Rows L2 PL
/-! ### the second half -/
theorem pow_small {d m N k : Nat} (hd : 1 ≤ d) (hm : 1 ≤ m) (hdm : d * m ≤ 5) (hN : N ≤ 3 * (m + 1)) (h1 : 1 ≤ N) (hk : k ≤ d) : N ^ k ≤ 7776 := by
  have a1 : N ^ k ≤ N ^ d := Nat.pow_le_pow_right h1 hk
  have a2 : N ^ d ≤ (3 * (m + 1)) ^ d := Nat.pow_le_pow_left hN d
  have d5 : d ≤ 5 := by
    have : d * 1 ≤ d * m := Nat.mul_le_mul_left _ hm
    omega
  have m5 : m ≤ 5 := by
    have : 1 * m ≤ d * m := Nat.mul_le_mul_right _ hd
    omega
  have a3 : (3 * (m + 1)) ^ d ≤ 7776 := by
    have hd' : d = 1 ∨ d = 2 ∨ d = 3 ∨ d = 4 ∨ d = 5 := by omega
    have hm' : m = 1 ∨ m = 2 ∨ m = 3 ∨ m = 4 ∨ m = 5 := by omega
    clear a1 a2
    rcases hd' with rfl | rfl | rfl | rfl | rfl <;> rcases hm' with rfl | rfl | rfl | rfl | rfl <;> first | decide | omega
  omega
/-- what a drawn time is -/
structure Tm (m : Nat) (τ : List Int) (y : Int) : Prop where
  t : Tr τ
  l : τ.length = m + 1
  n : nrm τ ≤ 3 * (m + 1)
  z : lastI τ = y
  z0 : y ≠ 0
theorem Tm.lsm {m : Nat} {τ l : List Int} {z : Int} (h : Tm m τ z) (h1 : 1 ≤ m) (h5 : m ≤ 5) (t : Tr l) (hl : l.length ≤ 6) (hn : nrm l ≤ 216) : Lsm τ l := by
  have := h.l
  have := h.n
  exact ⟨h.t, by omega, by omega, by omega, t, hl, by omega⟩
theorem led_fact {m d : Nat} {τ l : List Int} {z : Int} (h : Tm m τ z) (h1 : 1 ≤ m) (hd : 1 ≤ d) (hdm : d * m ≤ 5) (t : Tr l) (hl : l.length ≤ d + 1) (hn : nrm l ≤ 216) :
    (ledL τ l).length ≤ d * m + 1 ∧ nrm (ledL τ l) ≤ 2000000 ∧ (l.length = d + 1 → (ledL τ l).length = d * m + 1) ∧ (l.length ≠ d + 1 → (ledL τ l).length ≠ d * m + 1) ∧ tipI ((d * m : Nat) + 1) (ledL τ l) = tipI ((d : Int) + 1) l * z ^ d := by
  have hτ := h.l
  have e : τ.length - 1 = m := by omega
  have hle := led_len_le τ h.t (by omega) t
  rw [e] at hle
  have hm2 : (l.length - 1) * m ≤ d * m := Nat.mul_le_mul_right _ (by omega)
  have N1 : 1 ≤ nrm τ := nrm_pos h.t fun z => by rw [z] at hτ; simp at hτ
  have nb := led_nrm (τ := τ) (N := nrm τ) (Nat.le_refl _) N1 l
  have pb := pow_small hd h1 hdm h.n N1 (k := l.length - 1) (by omega)
  have nb2 := Nat.mul_le_mul hn pb
  have eq1 : l.length = d + 1 → (ledL τ l).length = d * m + 1 ∧ lastI (ledL τ l) = lastI l * z ^ d := fun q => by
    obtain ⟨a1, a2⟩ := led_len h.t (by omega) l t (by intro z; rw [z] at q; simp at q)
    rw [e, q] at a1
    rw [q, h.z] at a2
    exact ⟨by simpa using a1, by simpa using a2⟩
  have ne1 : l.length ≠ d + 1 → (ledL τ l).length ≠ d * m + 1 := fun q => by
    by_cases h0 : l = []
    · subst h0
      simp [ledL]
    · have := List.length_pos_iff.mpr h0
      have h3 : l.length - 1 + 1 ≤ d := by omega
      have h4 := Nat.mul_le_mul_right m h3
      rw [Nat.add_mul, Nat.one_mul] at h4
      omega
  refine ⟨by omega, by omega, fun q => (eq1 q).1, ne1, ?_⟩
  unfold tipI
  by_cases q : l.length = d + 1
  · obtain ⟨a1, a2⟩ := eq1 q
    rw [if_pos (by rw [a1]; simp), if_pos (by omega), a2]
  · have := ne1 q
    rw [if_neg (by omega), if_neg (by omega)]
    simp
theorem Cv.led {l0 l1 l2 τ : List Int} {m d : Nat} {z : Int} (h : Cv l0 l1 l2) (ht : Tm m τ z) (h1 : 1 ≤ m) (hd : deg3 l0 l1 l2 = (d : Int)) (hdm : d * m ≤ 5) : Crv (ledL τ l0) (ledL τ l1) (ledL τ l2) ∧ deg3 (ledL τ l0) (ledL τ l1) (ledL τ l2) = ((d * m : Nat) : Int) ∧ T3 (ledL τ l0) (ledL τ l1) (ledL τ l2) = (T3 l0 l1 l2).map fun y => y * z ^ d := by
  have hd1 : 1 ≤ d := by have := h.d; omega
  have L : l0.length ≤ d + 1 ∧ l1.length ≤ d + 1 ∧ l2.length ≤ d + 1 ∧ (l0.length = d + 1 ∨ l1.length = d + 1 ∨ l2.length = d + 1) := by
    unfold deg3 at hd
    omega
  obtain ⟨L0, L1, L2, LM⟩ := L
  obtain ⟨a0, b0, c0, _, e0⟩ := led_fact ht h1 hd1 hdm h.g.t0 L0 h.g.b0
  obtain ⟨a1, b1, c1, _, e1⟩ := led_fact ht h1 hd1 hdm h.g.t1 L1 h.g.b1
  obtain ⟨a2, b2, c2, _, e2⟩ := led_fact ht h1 hd1 hdm h.g.t2 L2 h.g.b2
  have dm1 : 1 ≤ d * m := Nat.mul_pos hd1 h1
  generalize d * m = P at *
  have dg : deg3 (ledL τ l0) (ledL τ l1) (ledL τ l2) = (P : Int) := by
    unfold deg3
    rcases LM with q | q | q
    · have := c0 q; omega
    · have := c1 q; omega
    · have := c2 q; omega
  refine ⟨⟨led_tr _ _, led_tr _ _, led_tr _ _, by omega, by omega, by omega, b0, b1, b2, by omega, ?_⟩, dg, ?_⟩
  · obtain ⟨K, hK, hk⟩ := h.c
    refine ⟨K, hK, fun x => ?_⟩
    rw [led_val, led_val, led_val]
    exact hk (val τ x)
  · unfold T3
    rw [dg, hd, e0, e1, e2]
    rfl
theorem eCat_ok {f g : M C} {env e1 e2 : Slots} {a b : C} {l m : List D} (h1 : f env = .ok a e1) (h2 : g e1 = .ok b e2) (ha : a.toD = .lst l) (hb : b.toD = .lst m) (hl : l.length + m.length ≤ 1000) : eFrz (eCat f g) env = .ok (.frz (.lst (l ++ m))) e2 := by
  have c : eCat f g env = .ok (.own ((l ++ m).map .frz)) e2 := by
    unfold eCat eBin
    rw [h1]
    simp only [Out.bind]
    rw [h2]
    simp only [ha, hb, catD]
    rw [if_pos (by omega)]
  have := eFrz_ok c
  rw [fz_fold, C.toD, toDs_fz] at this
  exact this
theorem few_zeros (n : Nat) : ∀ x ∈ List.replicate n (0 : Int), x.natAbs ≤ 3 := fun x hx => by rw [(List.mem_replicate.mp hx).2]; decide
theorem L3_lns (a b c : List Int) : L3 a b c = .lst (lnD [a, b, c]) := rfl
theorem eq3 (a b c : List Int) : neV' (L3 a b c) (L3 a b c) = some (.bl false) ∧ eqV' (L3 a b c) (L3 a b c) = some (.bl true) := by
  constructor
  · simp [neV', L3_lns, eqD_lns]
  · simp [eqV', L3_lns, eqD_lns]
def OO (a b c : List Int) : C := .own [.own (fz (inD a)), .own (fz (inD b)), .own (fz (inD c))]
theorem OO_toD (a b c : List Int) : (OO a b c).toD = L3 a b c := by simp [OO, C.toD, C.toDs, L3]
theorem five_div {d : Nat} (h1 : 1 ≤ d) (h5 : d ≤ 5) : ∃ s : Int, (5 : Int).fdiv (d : Int) = s ∧ 0 < s ∧ s ≤ 5 ∧ s * d ≤ 5 := by
  have : d = 1 ∨ d = 2 ∨ d = 3 ∨ d = 4 ∨ d = 5 := by omega
  rcases this with rfl | rfl | rfl | rfl | rfl
  · exact ⟨5, by decide, by decide, by decide, by decide⟩
  · exact ⟨2, by decide, by decide, by decide, by decide⟩
  · exact ⟨1, by decide, by decide, by decide, by decide⟩
  · exact ⟨1, by decide, by decide, by decide, by decide⟩
  · exact ⟨1, by decide, by decide, by decide, by decide⟩
theorem time_right_v {c : C} {l0 l1 l2 : List Int} (hc : PotOk c) (h : Cv l0 l1 l2) : ∃ c', _law_time_right_m [c, .frz (L3 l0 l1 l2)] = .ok (.frz (.bl true)) [some c', none] ∧ PotOk c' := by
  have hcr := h.crv
  have d1 := hcr.d1
  have d5 := hcr.d5
  obtain ⟨d, hd⟩ : ∃ d : Nat, deg3 l0 l1 l2 = (d : Int) := ⟨(deg3 l0 l1 l2).toNat, by omega⟩
  obtain ⟨s, hs, s0, s5, sd⟩ := five_div (d := d) (by omega) (by omega)
  have dgv := (degree_v l0 l1 l2).2
  rw [hd] at dgv
  have z0 := pFn_1 (p := pV 1) (env := [some c, some (.frz (L3 l0 l1 l2)), none, none, none, none, none, none, none]) rfl dgv
  rw [C.toD] at z0
  have S1 : (sSet 2 (eP (pFn _law_degree_m [pV 1]))) [some c, some (.frz (L3 l0 l1 l2)), none, none, none, none, none, none, none] = .nx [some c, some (.frz (L3 l0 l1 l2)), some (.frz (.int (d : Int))), none, none, none, none, none, none] := set_ok (eP_of z0)
  -- how many
  obtain ⟨r, c1, e1, r0, r1, p1⟩ := draw_p (env := [some c, some (.frz (L3 l0 l1 l2)), some (.frz (.int (d : Int))), none, none, none, none, none, none]) (p := pOp fdivI (pK (.int 5)) (pV 2)) (s := s) rfl (by
    have : divOk 5 (d : Int) = true := divOk_small (by omega) (by omega)
    exact pOp_v (a := .int 5) (b := .int d) (v := .int s) rfl rfl (by simp [fdivI, this, hs])) hc s0 (by omega)
  obtain ⟨m, hm⟩ : ∃ m : Nat, 1 + r = (m : Int) := ⟨(1 + r).toNat, by omega⟩
  have m1 : 1 ≤ m := by omega
  have hdm : d * m ≤ 5 := by
    have a1 : (m : Int) ≤ s := by omega
    have a2 : (m : Int) * d ≤ s * d := Int.mul_le_mul_of_nonneg_right a1 (by omega)
    have a3 : ((d * m : Nat) : Int) = (m : Int) * d := by rw [Nat.mul_comm]; simp
    omega
  have m5 : m ≤ 5 := by omega
  have S2 := set_ok (i := 3) (eOp_ok (op := addI) (f := eP (pK (.int 1))) (env := [some c, some (.frz (L3 l0 l1 l2)), some (.frz (.int (d : Int))), none, none, none, none, none, none]) (a := .frz (.int 1)) (v := .int (m : Int)) rfl e1 (by simp only [C.toD, addI, hm]))
  simp only [List.set_cons_succ, List.set_cons_zero, ofV] at S2
  -- the time
  obtain ⟨c2, ns, e2, p2, f2, t2⟩ := line_E (env := [some c1, some (.frz (L3 l0 l1 l2)), some (.frz (.int (d : Int))), some (.frz (.int (m : Int))), none, none, none, none, none]) (p := pOp subI (pV 3) (pK (.int 1))) (j := m - 1) rfl (by
    have : ((m : Int) - 1) = ((m - 1 : Nat) : Int) := by omega
    exact pOp_v (a := .int m) (b := .int 1) (v := .int ((m - 1 : Nat) : Int)) rfl rfl (by simp only [subI, this])) p1 (by omega)
  simp only [List.set_cons_zero] at e2
  have zr := pF_ok (rep0 (p := pV 3) (env := [some c2, some (.frz (L3 l0 l1 l2)), some (.frz (.int (d : Int))), some (.frz (.int (m : Int))), none, none, none, none, none]) (n := m) rfl (by omega))
  have n1 := f2.1
  have S3 := set_ok (i := 4) (eCat_ok (l := inD ns) (m := inD (List.replicate m 0)) e2 (eP_of zr) rfl rfl (by rw [inD_len, inD_len, List.length_replicate]; omega))
  rw [← inD_app] at S3
  simp only [List.set_cons_succ, List.set_cons_zero] at S3
  have hu : ∀ x ∈ ns ++ List.replicate m 0, x.natAbs ≤ 3 := fun x hx => (List.mem_append.mp hx).elim (f2.2 x) (few_zeros m x)
  have hul : m ≤ (ns ++ List.replicate m (0 : Int)).length := by simp
  have hul2 : (ns ++ List.replicate m (0 : Int)).length ≤ 20 := by simp; omega
  generalize ns ++ List.replicate m (0 : Int) = u at *
  obtain ⟨x, c3, hx, e3, p3⟩ := pick_E (env := [some c2, some (.frz (L3 l0 l1 l2)), some (.frz (.int (d : Int))), some (.frz (.int (m : Int))), some (.frz (.lst (inD u))), none, none, none, none]) (p := pF (evPs [pK (.int 1), pNeg (pK (.int 1)), pK (.int 2), pK (.int 3)])) (l := [.int 1, .int (-1), .int 2, .int 3]) rfl rfl p2 (by simp) (by decide)
  simp only [List.set_cons_zero] at e3
  obtain ⟨z, rfl, hz0, hz3⟩ : ∃ z : Int, x = .int z ∧ z ≠ 0 ∧ z.natAbs ≤ 3 := by
    simp only [List.mem_cons, List.not_mem_nil, or_false] at hx
    rcases hx with rfl | rfl | rfl | rfl <;> exact ⟨_, rfl, by decide, by decide⟩
  have ct := cut_take (l := inD u) (k := m) (by rw [inD_len]; exact hul)
  have sl : pF (fSl (lP (pV 4)) none (some (pV 3))) [some c2, some (.frz (L3 l0 l1 l2)), some (.frz (.int (d : Int))), some (.frz (.int (m : Int))), some (.frz (.lst (inD u))), none, none, none, none] = some (.lst (inD (u.take m))) := by
    refine pF_ok ?_
    unfold fSl
    rw [lP_ok (l := inD u) (show pV 4 _ = some (.lst (inD u)) from rfl)]
    have : evO (some (pV 3)) [some c2, some (.frz (L3 l0 l1 l2)), some (.frz (.int (d : Int))), some (.frz (.int (m : Int))), some (.frz (.lst (inD u))), none, none, none, none] = some (some (m : Int)) := rfl
    rw [this]
    show some (cutD (inD u) none (some (m : Int))) = _
    rw [ct, inD_take]
  have l1e : eFrz (eLst [eFnL _law_pick_m 0 [eP (pF (evPs [pK (.int 1), pNeg (pK (.int 1)), pK (.int 2), pK (.int 3)]))]]) [some c2, some (.frz (L3 l0 l1 l2)), some (.frz (.int (d : Int))), some (.frz (.int (m : Int))), some (.frz (.lst (inD u))), none, none, none, none] = .ok (.frz (.lst (inD [z]))) [some c3, some (.frz (L3 l0 l1 l2)), some (.frz (.int (d : Int))), some (.frz (.int (m : Int))), some (.frz (.lst (inD u))), none, none, none, none] := by
    have : eLst [eFnL _law_pick_m 0 [eP (pF (evPs [pK (.int 1), pNeg (pK (.int 1)), pK (.int 2), pK (.int 3)]))]] [some c2, some (.frz (L3 l0 l1 l2)), some (.frz (.int (d : Int))), some (.frz (.int (m : Int))), some (.frz (.lst (inD u))), none, none, none, none] = .ok (.own [.frz (.int z)]) [some c3, some (.frz (L3 l0 l1 l2)), some (.frz (.int (d : Int))), some (.frz (.int (m : Int))), some (.frz (.lst (inD u))), none, none, none, none] := by
      unfold eLst
      simp only [evMs_c, evMs_n, e3, Out.bind]
      simp
    have := eFrz_ok this
    rw [show (C.own [.frz (.int z)]).toD = .lst (inD [z]) by simp [C.toD, C.toDs, inD]] at this
    exact this
  have S4 := set_ok (i := 4) (eCat_ok (l := inD (u.take m)) (m := inD [z]) (eP_of sl) l1e rfl rfl (by rw [inD_len, inD_len, List.length_take]; simp; omega))
  rw [← inD_app] at S4
  simp only [List.set_cons_succ, List.set_cons_zero] at S4
  have tm : Tm m (u.take m ++ [z]) z := by
    have hlen : (u.take m ++ [z]).length = m + 1 := by simp; omega
    refine ⟨tr_snoc hz0, hlen, few_nrm ⟨by omega, fun y hy => ?_⟩, by simp [lastI], hz0⟩
    rcases List.mem_append.mp hy with q | q
    · exact hu y (List.mem_of_mem_take q)
    · rw [List.mem_singleton.mp q]; exact hz3
  generalize u.take m ++ [z] = τ at *
  have tl := tm.l
  obtain ⟨cl, dl, Tl⟩ := h.led tm m1 hd hdm
  have ls0 := tm.lsm m1 m5 h.g.t0 h.g.n0 h.g.b0
  have ls1 := tm.lsm m1 m5 h.g.t1 h.g.n1 h.g.b1
  have ls2 := tm.lsm m1 m5 h.g.t2 h.g.n2 h.g.b2
  -- due
  have stl : ∀ l, Lsm τ l → ∃ e, gV true 8 (.lst (inD l)) [some c3, some (.frz (L3 l0 l1 l2)), some (.frz (.int (d : Int))), some (.frz (.int (m : Int))), some (.frz (.lst (inD τ))), none, none, none, none] = some e ∧ pFn _law_at_m [pV 8, pV 4] e = some (.lst (inD (ledL τ l))) := fun l hl => by
    refine ⟨[some c3, some (.frz (L3 l0 l1 l2)), some (.frz (.int (d : Int))), some (.frz (.int (m : Int))), some (.frz (.lst (inD τ))), none, none, none, some (.frz (.lst (inD l)))], rfl, ?_⟩
    have zz := pFn_2 (p := pV 8) (q := pV 4) (env := [some c3, some (.frz (L3 l0 l1 l2)), some (.frz (.int (d : Int))), some (.frz (.int (m : Int))), some (.frz (.lst (inD τ))), none, none, none, some (.frz (.lst (inD l)))]) rfl rfl (lat_v hl)
    rw [C.toD] at zz
    exact zz
  have fcd := fComp_ok (vs := [8]) (env := [some c3, some (.frz (L3 l0 l1 l2)), some (.frz (.int (d : Int))), some (.frz (.int (m : Int))), some (.frz (.lst (inD τ))), none, none, none, none]) (src := fSq (pV 1)) (l := [.lst (inD l0), .lst (inD l1), .lst (inD l2)]) (fSq_ok rfl) (by simp) (comp3 (stl l0 ls0) (stl l1 ls1) (stl l2 ls2))
  have S5e := eFrz_ok (eF_ok fcd)
  rw [C.toD, toDs_fz] at S5e
  have S5 := set_ok (i := 5) S5e
  simp only [List.set_cons_succ, List.set_cons_zero] at S5
  rw [show D.lst [.lst (inD (ledL τ l0)), .lst (inD (ledL τ l1)), .lst (inD (ledL τ l2))] = L3 (ledL τ l0) (ledL τ l1) (ledL τ l2) from rfl] at S5
  -- told
  obtain ⟨b, b0, b1, b2, c4, ge, p4⟩ := given_v (c := c3) (l0 := l0) (l1 := l1) (l2 := l2) p3 (by have := h.g.n0; omega) (by have := h.g.n1; omega) (by have := h.g.n2; omega)
  have hdt : deg3 l0 l1 l2 * (τ.length - 1) ≤ 5 := by
    rw [hd, tl]
    have : (d : Int) * (((m + 1 : Nat) : Int) - 1) = ((d * m : Nat) : Int) := by simp
    omega
  obtain ⟨ob, bt⟩ := by_time_v (b := b) (b0 := b0) (b1 := b1) (b2 := b2) (bt := true) hcr ls0 ls1 ls2 hdt
  have bt3 : Gives by_time_m [.frz (L3 l0 l1 l2), .frz (.lst (inD τ))] (OO (ledL τ l0) (ledL τ l1) (ledL τ l2)) := by_time_v (b := false) (b0 := false) (b1 := false) (b2 := false) (bt := false) hcr ls0 ls1 ls2 hdt
  have a6 := lend_E (m := _law_given_m) (env := [some c3, some (.frz (L3 l0 l1 l2)), some (.frz (.int (d : Int))), some (.frz (.int (m : Int))), some (.frz (.lst (inD τ))), some (.frz (L3 (ledL τ l0) (ledL τ l1) (ledL τ l2))), none, none, none]) (ds := [L3 l0 l1 l2]) rfl (evM_1 (p := pV 1) rfl) ge
  simp only [List.set_cons_zero] at a6
  have tp : pTupL (lP (pV 4)) [some c4, some (.frz (L3 l0 l1 l2)), some (.frz (.int (d : Int))), some (.frz (.int (m : Int))), some (.frz (.lst (inD τ))), some (.frz (L3 (ledL τ l0) (ledL τ l1) (ledL τ l2))), none, none, none] = some (gv true (inD τ)) := by
    unfold pTupL
    rw [lP_ok (l := inD τ) rfl]
    rfl
  have S6 := set_ok (i := 6) (eFnO_2 a6 (eP_of tp) bt)
  simp only [List.set_cons_succ, List.set_cons_zero] at S6
  -- the tests
  obtain ⟨sr, rr⟩ := repr_G3 (b := false) (b0 := false) (b1 := false) (b2 := false) cl.small
  have cdl : Gives curve_degree_m [.frz (L3 (ledL τ l0) (ledL τ l1) (ledL τ l2))] (.frz (.int ((d * m : Nat) : Int))) := by
    rw [← dl]
    exact curve_degree_v (b := false) (b0 := false) (b1 := false) (b2 := false) cl
  have pal : ∀ {x : Int}, x.natAbs < 2 ^ 40 → Gives point_at_m [.frz (L3 (ledL τ l0) (ledL τ l1) (ledL τ l2)), .frz (.int x)] (.frz (.lst (inD (pointI (V3 (ledL τ l0) (ledL τ l1) (ledL τ l2) x))))) := fun hx => point_at_v (b := false) (b0 := false) (b1 := false) (b2 := false) cl hx
  have pa3 : ∀ {x : Int}, x.natAbs < 2 ^ 40 → Gives point_at_m [.frz (L3 l0 l1 l2), .frz (.int x)] (.frz (.lst (inD (pointI (V3 l0 l1 l2 x))))) := fun hx => point_at_v (b := false) (b0 := false) (b1 := false) (b2 := false) hcr hx
  have pfl : Gives point_after_m [.frz (L3 (ledL τ l0) (ledL τ l1) (ledL τ l2))] (.own (fz (inD (pointI (T3 (ledL τ l0) (ledL τ l1) (ledL τ l2)))))) := point_after_v (b := false) (b0 := false) (b1 := false) (b2 := false) cl
  have pf3 : Gives point_after_m [.frz (L3 l0 l1 l2)] (.own (fz (inD (pointI (T3 l0 l1 l2))))) := point_after_v (b := false) (b0 := false) (b1 := false) (b2 := false) hcr
  rw [Tl, point_scale (Int.pow_ne_zero hz0) hcr.tnz] at pfl
  have V3e : ∀ x, V3 (ledL τ l0) (ledL τ l1) (ledL τ l2) x = V3 l0 l1 l2 (val τ x) := fun x => by unfold V3; rw [led_val, led_val, led_val]
  have lens : (inD (ledL τ l0)).length < 100000 := by rw [inD_len]; have := cl.n0; omega
  have rr' : reprF2 [L3 (ledL τ l0) (ledL τ l1) (ledL τ l2)] = some (.str sr) := rr
  obtain ⟨q3a, q3b⟩ := eq3 (ledL τ l0) (ledL τ l1) (ledL τ l2)
  generalize ledL τ l0 = k0 at *
  generalize ledL τ l1 = k1 at *
  generalize ledL τ l2 = k2 at *
  rw [show C.own [.own (fz (inD k0)), .own (fz (inD k1)), .own (fz (inD k2))] = OO k0 k1 k2 from rfl] at S6
  have v6 : ∀ o7 : Option C, bV 6 [some c4, some (.frz (L3 l0 l1 l2)), some (.frz (.int (d : Int))), some (.frz (.int (m : Int))), some (.frz (.lst (inD τ))), some (.frz (L3 k0 k1 k2)), some (OO k0 k1 k2), o7, none] = some (L3 k0 k1 k2) := fun o7 => by
    exact congrArg some (OO_toD k0 k1 k2)
  have qa : qOf (pOp neT' (pCall reprF2 [bV 6]) (pCall reprF2 [pV 5])) [some c4, some (.frz (L3 l0 l1 l2)), some (.frz (.int (d : Int))), some (.frz (.int (m : Int))), some (.frz (.lst (inD τ))), some (.frz (L3 k0 k1 k2)), some (OO k0 k1 k2), none, none] = some false := same_q (v6 none) rfl rr'
  have qb : qOf (pOp neV' (pFnK by_time_m [1, 0] [pV 4, pV 1]) (pV 5)) [some c4, some (.frz (L3 l0 l1 l2)), some (.frz (.int (d : Int))), some (.frz (.int (m : Int))), some (.frz (.lst (inD τ))), some (.frz (L3 k0 k1 k2)), some (OO k0 k1 k2), none, none] = some false := by
    have zz := pFnK_21 (p := pV 4) (q := pV 1) (env := [some c4, some (.frz (L3 l0 l1 l2)), some (.frz (.int (d : Int))), some (.frz (.int (m : Int))), some (.frz (.lst (inD τ))), some (.frz (L3 k0 k1 k2)), some (OO k0 k1 k2), none, none]) (a := .lst (inD τ)) (b := L3 l0 l1 l2) rfl rfl bt3
    rw [OO_toD] at zz
    exact qOf_b (pOp_v (q := pV 5) (b := L3 k0 k1 k2) (v := .bl false) zz rfl q3a)
  have qc : qOf (pOp neV' (pFnB curve_degree_m [bV 6]) (pOp mulI (pV 2) (pV 3))) [some c4, some (.frz (L3 l0 l1 l2)), some (.frz (.int (d : Int))), some (.frz (.int (m : Int))), some (.frz (.lst (inD τ))), some (.frz (L3 k0 k1 k2)), some (OO k0 k1 k2), none, none] = some false := by
    have zz := pFnB_1 (p := bV 6) (v6 none) cdl
    have mm : mulOk (d : Int) (m : Int) = true := mulOk_l (by omega) (by omega)
    exact qOf_b (pOp_v (b := .int ((d * m : Nat) : Int)) (v := .bl false) zz (pOp_v (a := .int d) (b := .int m) (v := .int ((d * m : Nat) : Int)) rfl rfl (by simp [mulI, mm])) (by simp [neV']))
  have T7 : (tP (qOr (qOf (pOp neT' (pCall reprF2 [bV 6]) (pCall reprF2 [pV 5]))) (qOr (qOf (pOp neV' (pFnK by_time_m [1, 0] [pV 4, pV 1]) (pV 5))) (qOf (pOp neV' (pFnB curve_degree_m [bV 6]) (pOp mulI (pV 2) (pV 3))))))) [some c4, some (.frz (L3 l0 l1 l2)), some (.frz (.int (d : Int))), some (.frz (.int (m : Int))), some (.frz (.lst (inD τ))), some (.frz (L3 k0 k1 k2)), some (OO k0 k1 k2), none, none] = .ok false [some c4, some (.frz (L3 l0 l1 l2)), some (.frz (.int (d : Int))), some (.frz (.int (m : Int))), some (.frz (.lst (inD τ))), some (.frz (L3 k0 k1 k2)), some (OO k0 k1 k2), none, none] := tP_of (by simp only [qOr, qa, qb, qc])
  -- the number
  obtain ⟨r9, c5, e9, ra, rb, p5⟩ := draw_p (env := [some c4, some (.frz (L3 l0 l1 l2)), some (.frz (.int (d : Int))), some (.frz (.int (m : Int))), some (.frz (.lst (inD τ))), some (.frz (L3 k0 k1 k2)), some (OO k0 k1 k2), none, none]) (p := pK (.int 9)) (s := 9) rfl rfl p4 (by decide) (by decide)
  simp only [List.set_cons_zero] at e9
  have S8 := set_ok (i := 7) (eOp_ok (op := subI) (g := eP (pK (.int 4))) (b := .frz (.int 4)) (e2 := [some c5, some (.frz (L3 l0 l1 l2)), some (.frz (.int (d : Int))), some (.frz (.int (m : Int))), some (.frz (.lst (inD τ))), some (.frz (L3 k0 k1 k2)), some (OO k0 k1 k2), none, none]) (v := .int (r9 - 4)) e9 rfl rfl)
  simp only [List.set_cons_succ, List.set_cons_zero, ofV] at S8
  have hx : (r9 - 4).natAbs ≤ 4 := by omega
  generalize r9 - 4 = x at *
  have hx40 : x.natAbs < 2 ^ 40 := by omega
  have hv40 : (val τ x).natAbs < 2 ^ 40 := by
    have b1 := val_bound (X := 4) (by decide) hx τ
    have b2 : 4 ^ τ.length ≤ 4 ^ 6 := Nat.pow_le_pow_right (by decide) (by omega)
    have b3 := Nat.mul_le_mul (show nrm τ ≤ 18 by have := tm.n; omega) b2
    omega
  have v6' : bV 6 [some c5, some (.frz (L3 l0 l1 l2)), some (.frz (.int (d : Int))), some (.frz (.int (m : Int))), some (.frz (.lst (inD τ))), some (.frz (L3 k0 k1 k2)), some (OO k0 k1 k2), some (.frz (.int x)), none] = some (L3 k0 k1 k2) := by
    exact congrArg some (OO_toD k0 k1 k2)
  obtain ⟨x1, x2⟩ := b64 hx40
  have qd : qOf (pOp neV' (pFn point_at_m [bV 6, pV 7]) (pFn point_at_m [pV 1, pFn _law_value_m [pV 4, pV 7]])) [some c5, some (.frz (L3 l0 l1 l2)), some (.frz (.int (d : Int))), some (.frz (.int (m : Int))), some (.frz (.lst (inD τ))), some (.frz (L3 k0 k1 k2)), some (OO k0 k1 k2), some (.frz (.int x)), none] = some false := by
    have y1 := pFn_2 (p := bV 6) (q := pV 7) v6' (b := .int x) rfl (pal hx40)
    have y2 := pFn_2 (p := pV 4) (q := pV 7) (env := [some c5, some (.frz (L3 l0 l1 l2)), some (.frz (.int (d : Int))), some (.frz (.int (m : Int))), some (.frz (.lst (inD τ))), some (.frz (L3 k0 k1 k2)), some (OO k0 k1 k2), some (.frz (.int x)), none]) rfl rfl (value_v (l := τ) x1 x2).2
    rw [C.toD] at y1 y2
    have y3 := pFn_2 (p := pV 1) (a := L3 l0 l1 l2) rfl y2 (pa3 hv40)
    rw [C.toD] at y3
    rw [V3e] at y1
    exact qOf_b (pOp_v (v := .bl false) y1 y3 (by simp [neV', eqD_ints]))
  have qe : qOf (pOp neV' (pFn point_after_m [bV 6]) (pFn point_after_m [pV 1])) [some c5, some (.frz (L3 l0 l1 l2)), some (.frz (.int (d : Int))), some (.frz (.int (m : Int))), some (.frz (.lst (inD τ))), some (.frz (L3 k0 k1 k2)), some (OO k0 k1 k2), some (.frz (.int x)), none] = some false := by
    have y1 := pFn_1 (p := bV 6) v6' pfl
    have y2 := pFn_1 (p := pV 1) (env := [some c5, some (.frz (L3 l0 l1 l2)), some (.frz (.int (d : Int))), some (.frz (.int (m : Int))), some (.frz (.lst (inD τ))), some (.frz (L3 k0 k1 k2)), some (OO k0 k1 k2), some (.frz (.int x)), none]) rfl pf3
    have td : ∀ l : List Int, (C.own (fz (inD l))).toD = .lst (inD l) := fun l => by simp [C.toD]
    rw [td] at y1 y2
    exact qOf_b (pOp_v (v := .bl false) y1 y2 (by simp [neV', eqD_ints]))
  have T9 : (tP (qOr (qOf (pOp neV' (pFn point_at_m [bV 6, pV 7]) (pFn point_at_m [pV 1, pFn _law_value_m [pV 4, pV 7]]))) (qOf (pOp neV' (pFn point_after_m [bV 6]) (pFn point_after_m [pV 1]))))) [some c5, some (.frz (L3 l0 l1 l2)), some (.frz (.int (d : Int))), some (.frz (.int (m : Int))), some (.frz (.lst (inD τ))), some (.frz (L3 k0 k1 k2)), some (OO k0 k1 k2), some (.frz (.int x)), none] = .ok false [some c5, some (.frz (L3 l0 l1 l2)), some (.frz (.int (d : Int))), some (.frz (.int (m : Int))), some (.frz (.lst (inD τ))), some (.frz (L3 k0 k1 k2)), some (OO k0 k1 k2), some (.frz (.int x)), none] := tP_of (by simp only [qOr, qd, qe])
  have S10 := drop_ok (eApp_ok (i := 6) (f := eP (pK .non)) (l0 := [.own (fz (inD k0)), .own (fz (inD k1)), .own (fz (inD k2))]) (l := [.own (fz (inD k0)), .own (fz (inD k1)), .own (fz (inD k2))]) (c := .frz .non) (env := [some c5, some (.frz (L3 l0 l1 l2)), some (.frz (.int (d : Int))), some (.frz (.int (m : Int))), some (.frz (.lst (inD τ))), some (.frz (L3 k0 k1 k2)), some (OO k0 k1 k2), some (.frz (.int x)), none]) rfl rfl rfl (by simp))
  simp only [List.set_cons_succ, List.set_cons_zero] at S10
  have S11 : (sDrop (eAppP 6 (paIx 6 (paV 6) (pK (.int 0))) (pK .non))) [some c5, some (.frz (L3 l0 l1 l2)), some (.frz (.int (d : Int))), some (.frz (.int (m : Int))), some (.frz (.lst (inD τ))), some (.frz (L3 k0 k1 k2)), some (.own ([.own (fz (inD k0)), .own (fz (inD k1)), .own (fz (inD k2))] ++ [.frz .non])), some (.frz (.int x)), none] = .nx [some c5, some (.frz (L3 l0 l1 l2)), some (.frz (.int (d : Int))), some (.frz (.int (m : Int))), some (.frz (.lst (inD τ))), some (.frz (L3 k0 k1 k2)), some (.own [.own (fz (inD k0) ++ [.frz .non]), .own (fz (inD k1)), .own (fz (inD k2)), .frz .non]), some (.frz (.int x)), none] := by
    refine drop_ok (c := .frz .non) ?_
    have lf : (fz (inD k0)).length < 100000 := by rw [fz_len]; exact lens
    generalize fz (inD k0) = f0 at *
    generalize fz (inD k1) = f1 at *
    generalize fz (inD k2) = f2 at *
    have pa : paIx 6 (paV 6) (pK (.int 0)) [some c5, some (.frz (L3 l0 l1 l2)), some (.frz (.int (d : Int))), some (.frz (.int (m : Int))), some (.frz (.lst (inD τ))), some (.frz (L3 k0 k1 k2)), some (.own ([.own f0, .own f1, .own f2] ++ [.frz .non])), some (.frz (.int x)), none] = some [0] := rfl
    have oa : ownAt 6 [0] [some c5, some (.frz (L3 l0 l1 l2)), some (.frz (.int (d : Int))), some (.frz (.int (m : Int))), some (.frz (.lst (inD τ))), some (.frz (L3 k0 k1 k2)), some (.own ([.own f0, .own f1, .own f2] ++ [.frz .non])), some (.frz (.int x)), none] = some f0 := rfl
    unfold eAppP
    rw [pa]
    simp only [Option.bind_some, oa]
    rw [if_pos lf]
    rfl
  have fin : ∀ o6 : Option C, pOp eqV' (pFn by_time_m [pV 1, pV 4]) (pV 5) [some c5, some (.frz (L3 l0 l1 l2)), some (.frz (.int (d : Int))), some (.frz (.int (m : Int))), some (.frz (.lst (inD τ))), some (.frz (L3 k0 k1 k2)), o6, some (.frz (.int x)), none] = some (.bl true) := fun o6 => by
    have zz := pFn_2 (p := pV 1) (q := pV 4) (env := [some c5, some (.frz (L3 l0 l1 l2)), some (.frz (.int (d : Int))), some (.frz (.int (m : Int))), some (.frz (.lst (inD τ))), some (.frz (L3 k0 k1 k2)), o6, some (.frz (.int x)), none]) (a := L3 l0 l1 l2) (b := .lst (inD τ)) rfl rfl bt3
    rw [OO_toD] at zz
    exact pOp_v (q := pV 5) (b := L3 k0 k1 k2) (v := .bl true) zz rfl q3b
  refine ⟨c5, body_rt (N := 9) (pn := [0]) (a := 2) (cs := [c, .frz (L3 l0 l1 l2)]) (f := _law_time_right_b) (e := [some c5, some (.frz (L3 l0 l1 l2)), some (.frz (.int (d : Int))), some (.frz (.int (m : Int))), some (.frz (.lst (inD τ))), some (.frz (L3 k0 k1 k2)), some (.own [.own (fz (inD k0) ++ [.frz .non]), .own (fz (inD k1)), .own (fz (inD k2)), .frz .non]), some (.frz (.int x)), none]) ?_, p5⟩
  rw [show startE 9 [c, .frz (L3 l0 l1 l2)] = [some c, some (.frz (L3 l0 l1 l2)), none, none, none, none, none, none, none] from rfl]
  unfold _law_time_right_b
  rw [seq_nx S1, seq_nx S2, seq_nx S3, seq_nx S4, seq_nx S5, seq_nx S6, seq_nx (if_no T7), seq_nx S8, seq_nx (if_no T9), seq_nx S10, seq_nx S11]
  exact ret_ok (eP_of (fin _))
end k71
namespace k71
open PySem PySem.Spec PyProof.Rows L2 PL
theorem pot_ok (ns : List Int) : ∃ c o, _law_pot_m [.frz (.ro ns), .frz (.int 0)] = .ok c o ∧ PotOk c := by
  have fin : ∀ cell : Int, ∃ c, eF (evPs [pCall maxF [pK (.int 0), pOp subI (pV 2) (pOp powI (pK (.int 10)) (pK (.int 18)))], pOp addI (pOp modI (pCall intF [pOp addI (pOp addI (pOp mulI (pOp modI (pCall intF [pV 2]) (pK (.int 2147483549))) (pK (.int 48271))) (pOp mulI (pK (.int 28718)) (pV 1))) (pK (.int 607))]) (pK (.int 2147483563))) (pK (.int 1))]) [some (.frz (.ro ns)), some (.frz (.int 0)), some (.frz (.int cell))] = .ok c [some (.frz (.ro ns)), some (.frz (.int 0)), some (.frz (.int cell))] ∧ PotOk c := fun cell => by
    have n0 : (0 : Int) ≤ cell.fmod 2147483549 := by rw [Int.fmod_eq_emod_of_nonneg _ (by decide)]; exact Int.emod_nonneg _ (by decide)
    have n1 : cell.fmod 2147483549 < 2147483549 := by rw [Int.fmod_eq_emod_of_nonneg _ (by decide)]; exact Int.emod_lt_of_pos _ (by decide)
    have q0 : (0 : Int) ≤ (cell.fmod 2147483549 * 48271 + 28718 * 0 + 607).fmod 2147483563 := by rw [Int.fmod_eq_emod_of_nonneg _ (by decide)]; exact Int.emod_nonneg _ (by decide)
    have q1 : (cell.fmod 2147483549 * 48271 + 28718 * 0 + 607).fmod 2147483563 < 2147483563 := by rw [Int.fmod_eq_emod_of_nonneg _ (by decide)]; exact Int.emod_lt_of_pos _ (by decide)
    have m1 : mulOk (cell.fmod 2147483549) 48271 = true := mulOk_r (by decide) (by decide)
    have m2 : mulOk 28718 0 = true := mulOk_r (by decide) (by decide)
    refine ⟨pot (if cell - 10 ^ 18 > 0 then cell - 10 ^ 18 else 0) ((cell.fmod 2147483549 * 48271 + 28718 * 0 + 607).fmod 2147483563 + 1), ?_, _, _, rfl, by omega, by omega⟩
    simp [PL.bodyM, PL.startE, PL.outsE, PL.sSeq, PL.sNx, PL.sBk, PL.sCt, PL.sNo, PL.sOf, PL.sSet, PL.sRet, PL.sRetN, PL.sDrop, PL.sIf, PL.sAsg, PL.sAug, PL.sAugIx, PL.sPar, PL.sFor, PL.eP, PL.eF, PL.eFrz, PL.eV, PL.eMv, PL.eFn, PL.eFnO, PL.eFnL, PL.lentTo, PL.eLst, PL.eTup, PL.eCall, PL.eOp, PL.eBin, PL.eIx, PL.eIf, PL.eAnd, PL.eOr, PL.eApp, PL.eAppP, PL.ePop, PL.eExt, PL.eExtM, PL.eCat, PL.eRep, PL.catD, PL.repD, PL.eComp, PL.tP, PL.tOfE, PL.tAnd, PL.tOr, PL.tNot, PL.pV, PL.bV, PL.pK, PL.pOp, PL.pChain, PL.qOf, PL.qAnd, PL.qOr, PL.qNot, PL.pAnd, PL.pOr, PL.pNot, PL.pIf, PL.pNeg, PL.pCall, PL.pFn, PL.pFnB, PL.pFnK, PL.pick, PL.pDm, PL.dmD, PL.pIx, PL.ixD, L2.atI, L2.ixN, PL.pSl, PL.pTup, PL.pF, PL.lP, PL.lKf, PL.frzs, PL.kV, PL.kIx, PL.ixC, PL.pKf, PL.bKf, PL.evPs_n, PL.evPs_c, PL.evMs_n, PL.evMs_c, PL.fCat, PL.fRep, PL.fSl, PL.evO, PL.fRev, PL.fSq, PL.sqD, PL.fList, PL.pTupL, PL.fComp, PL.enumS, PL.enumP, PL.zipP, PL.rngP, PL.rngM, PL.rngL, PL.mSq, PL.mP, PL.gV, PL.gTupD, PL.gsCons, PL.gsNil, PL.gIx, PL.paV, PL.paIx, PL.ownAt, PL.setAt, PL.getP, PL.setP, PL.intOf, PL.isFree, PL.wipeE, PL.freeE, PL.C.toD, PL.C.toDs, PL.ofV, PL.addI, PL.subI, PL.mulI, PL.fdivI, PL.modI, PL.powI, PL.cmpI, PL.iLt, PL.iLe, PL.iGt, PL.iGe, PL.eqV', PL.neV', PL.isN, PL.notN, PL.isNonD, PL.lenF, PL.absF, PL.intF, PL.strF, PL.maxF, PL.minF, PL.sumF, PL.allF, PL.anyF, PL.isiF, PL.clsD, PL.tyN, PL.isSubN, PL.intsOf, PL.blsOf, PL.flatD, PL.Out.bind, m1, m2, pot, fz_cons]
  by_cases h : 0 < ns.length
  · obtain ⟨c, h1, h2⟩ := fin (if ns[0] < 0 then -ns[0] else ns[0])
    refine ⟨c, _, body_rt (e := [some (.frz (.ro ns)), some (.frz (.int 0)), some (.frz (.int (if ns[0] < 0 then -ns[0] else ns[0])))]) ?_, h2⟩
    rw [show startE 3 [.frz (.ro ns), .frz (.int 0)] = [some (.frz (.ro ns)), some (.frz (.int 0)), none] from rfl]
    unfold _law_pot_b
    have e0 : atI ns 0 = some ns[0] := atI_nat (j := 0) h
    have e1 : ixD (.ro ns) (.int 0) = some (.int ns[0]) := by simp [ixD, e0]
    rw [seq_nx (e := [some (.frz (.ro ns)), some (.frz (.int 0)), some (.frz (.int (if ns[0] < 0 then -ns[0] else ns[0])))]) (by simp [sSet, sOf, eP, pIf, qOf, pOp, pV, pCall, evPs_n, evPs_c, lenF, ofV, cmpI, iLt, h, pIx, e1, absF, C.toD])]
    exact ret_ok h1
  · obtain ⟨c, h1, h2⟩ := fin 683
    refine ⟨c, _, body_rt (e := [some (.frz (.ro ns)), some (.frz (.int 0)), some (.frz (.int 683))]) ?_, h2⟩
    rw [show startE 3 [.frz (.ro ns), .frz (.int 0)] = [some (.frz (.ro ns)), some (.frz (.int 0)), none] from rfl]
    unfold _law_pot_b
    rw [seq_nx (e := [some (.frz (.ro ns)), some (.frz (.int 0)), some (.frz (.int 683))]) (by simp [sSet, sOf, eP, pIf, qOf, pOp, pK, pV, pCall, evPs_n, evPs_c, lenF, ofV, cmpI, iLt, h, C.toD, mulI, addI, mulOk_r])]
    exact ret_ok h1
theorem right_ok {c : C} (hc : PotOk c) : Gives _law_right_m [c] (.frz (.bl true)) := by
  obtain ⟨r, c1, e, _, _, p1⟩ := draw_p (env := [some c, none]) (p := pK (.int 2)) (s := 2) rfl rfl hc (by decide) (by decide)
  simp only [List.set_cons_zero] at e
  have te : tOfE (eOp eqV' (eFnL _law_draw_m 0 [eP (pK (.int 2))]) (eP (pK (.int 0)))) [some c, none] = .ok (r == 0) [some c1, none] := by
    have := eOp_ok (op := eqV') (g := eP (pK (.int 0))) (b := .frz (.int 0)) (e2 := [some c1, none]) (v := .bl (r == 0)) e rfl (by simp only [C.toD, eqV', eqD_int, Option.map_some])
    unfold tOfE
    rw [this]
    rfl
  obtain ⟨c2, l0, l1, l2, he, p2, cv⟩ : ∃ (c2 : C) (l0 l1 l2 : List Int), eIf (tOfE (eOp eqV' (eFnL _law_draw_m 0 [eP (pK (.int 2))]) (eP (pK (.int 0))))) (eFnL _law_curve_m 0 [eP (pK (.int 5))]) (eFnL _law_led_curve_m 0 [eP (pK (.int 5))]) [some c, none] = .ok (.frz (L3 l0 l1 l2)) [some c2, none] ∧ PotOk c2 ∧ Cv l0 l1 l2 := by
    unfold eIf
    rw [te]
    cases (r == 0) with
    | true =>
      obtain ⟨c2, l0, l1, l2, h1, h2, h3⟩ := law_curve_v p1
      exact ⟨c2, l0, l1, l2, lend_E (m := _law_curve_m) (env := [some c1, none]) (ds := [.int 5]) rfl (evM_1 (p := pK (.int 5)) rfl) h1, h2, h3⟩
    | false =>
      obtain ⟨c2, l0, l1, l2, h1, h2, h3⟩ := led_curve_v p1
      exact ⟨c2, l0, l1, l2, lend_E (m := _law_led_curve_m) (env := [some c1, none]) (ds := [.int 5]) rfl (evM_1 (p := pK (.int 5)) rfl) h1, h2, h3⟩
  obtain ⟨c3, h3, p3⟩ := curve_right_v p2 cv.crv
  obtain ⟨c4, h4, p4⟩ := time_right_v p3 cv
  have x1 := lend_E (m := _law_curve_right_m) (env := [some c2, some (.frz (L3 l0 l1 l2))]) (ds := [L3 l0 l1 l2]) rfl (evM_1 (p := pV 1) rfl) h3
  have x2 := lend_E (m := _law_time_right_m) (env := [some c3, some (.frz (L3 l0 l1 l2))]) (ds := [L3 l0 l1 l2]) rfl (evM_1 (p := pV 1) rfl) h4
  simp only [List.set_cons_zero] at x1 x2
  refine gives_rt ⟨[some c4, some (.frz (L3 l0 l1 l2))], ?_⟩
  rw [show startE 2 [c] = [some c, none] from rfl]
  unfold _law_right_b
  rw [seq_nx (set_ok he)]
  simp only [List.set_cons_succ, List.set_cons_zero]
  refine ret_ok ?_
  unfold eAnd
  rw [x1]
  exact x2
theorem law_true : ∀ ns : List Int, ns.length ≤ 63 → (∀ z ∈ ns, Builtin.Int.intBits z ≤ 1048576) → ∃ c outs, law_m [.frz (.ro ns)] = .ok c outs ∧ c.toD = .bl true := fun ns _ _ => by
  obtain ⟨c, o, h1, h2⟩ := pot_ok ns
  obtain ⟨o2, h3⟩ := right_ok h2
  refine ⟨.frz (.bl true), _, body_rt (ret_ok (e := [some (.frz (.ro ns))]) ?_), rfl⟩
  simp [startE, eFn, eFnO, evMs_c, evMs_n, eP, pV, pK, Out.bind, h1, h3, C.toD]
end k71
namespace k71
open PySem PySem.Spec PyProof.Rows L2 PL

theorem all_mk {K : PySem.W.Frag} {h : Heap} {mg : Str → Option Value} {fa f0 f1 f2 f3 f4 f5 f6 f7 f8 f9 f10 f11 f12 f13 f14 f15 f16 f17 f18 f19 f20 f21 f22 f23 f24 f25 f26 f27 f28 f29 f30 f31 f32 f33 f34 f35 f36 f37 f38 f39 f40 f41 f42 f43 f44 f45 f46 f47 f48 f49 f50 f51 : Addr} {l : PySem.W.OpenLaw} {w : World} (X : K.In h) (G : h.Ns mainGlobals mg) (hfa : mg "law" = some (.ref fa))
    {od0 an0 od1 an1 od2 an2 od3 an3 od4 an4 od5 an5 od6 an6 od7 an7 od8 an8 od9 an9 od10 an10 od11 an11 od12 an12 od13 an13 od14 an14 od15 an15 od16 an16 od17 an17 od18 an18 od19 an19 od20 an20 od21 an21 od22 an22 od23 an23 od24 an24 od25 an25 od26 an26 od27 an27 od28 an28 od29 an29 od30 an30 od31 an31 od32 an32 od33 an33 od34 an34 od35 an35 od36 an36 od37 an37 od38 an38 od39 an39 od40 an40 od41 an41 od42 an42 od43 an43 od44 an44 od45 an45 od46 an46 od47 an47 od48 an48 od49 an49 od50 an50 od51 an51 : Option Addr} {sl0 sl1 sl2 sl3 sl4 sl5 sl6 sl7 sl8 sl9 sl10 sl11 sl12 sl13 sl14 sl15 sl16 sl17 sl18 sl19 sl20 sl21 sl22 sl23 sl24 sl25 sl26 sl27 sl28 sl29 sl30 sl31 sl32 sl33 sl34 sl35 sl36 sl37 sl38 sl39 sl40 sl41 sl42 sl43 sl44 sl45 sl46 sl47 sl48 sl49 sl50 sl51 : Array (Option Value)} {oc0 kV0 dc0 pm0 cd0 ct0 oc1 kV1 dc1 pm1 cd1 ct1 oc2 kV2 dc2 pm2 cd2 ct2 oc3 kV3 dc3 pm3 cd3 ct3 oc4 kV4 dc4 pm4 cd4 ct4 oc5 kV5 dc5 pm5 cd5 ct5 oc6 kV6 dc6 pm6 cd6 ct6 oc7 kV7 dc7 pm7 cd7 ct7 oc8 kV8 dc8 pm8 cd8 ct8 oc9 kV9 dc9 pm9 cd9 ct9 oc10 kV10 dc10 pm10 cd10 ct10 oc11 kV11 dc11 pm11 cd11 ct11 oc12 kV12 dc12 pm12 cd12 ct12 oc13 kV13 dc13 pm13 cd13 ct13 oc14 kV14 dc14 pm14 cd14 ct14 oc15 kV15 dc15 pm15 cd15 ct15 oc16 kV16 dc16 pm16 cd16 ct16 oc17 kV17 dc17 pm17 cd17 ct17 oc18 kV18 dc18 pm18 cd18 ct18 oc19 kV19 dc19 pm19 cd19 ct19 oc20 kV20 dc20 pm20 cd20 ct20 oc21 kV21 dc21 pm21 cd21 ct21 oc22 kV22 dc22 pm22 cd22 ct22 oc23 kV23 dc23 pm23 cd23 ct23 oc24 kV24 dc24 pm24 cd24 ct24 oc25 kV25 dc25 pm25 cd25 ct25 oc26 kV26 dc26 pm26 cd26 ct26 oc27 kV27 dc27 pm27 cd27 ct27 oc28 kV28 dc28 pm28 cd28 ct28 oc29 kV29 dc29 pm29 cd29 ct29 oc30 kV30 dc30 pm30 cd30 ct30 oc31 kV31 dc31 pm31 cd31 ct31 oc32 kV32 dc32 pm32 cd32 ct32 oc33 kV33 dc33 pm33 cd33 ct33 oc34 kV34 dc34 pm34 cd34 ct34 oc35 kV35 dc35 pm35 cd35 ct35 oc36 kV36 dc36 pm36 cd36 ct36 oc37 kV37 dc37 pm37 cd37 ct37 oc38 kV38 dc38 pm38 cd38 ct38 oc39 kV39 dc39 pm39 cd39 ct39 oc40 kV40 dc40 pm40 cd40 ct40 oc41 kV41 dc41 pm41 cd41 ct41 oc42 kV42 dc42 pm42 cd42 ct42 oc43 kV43 dc43 pm43 cd43 ct43 oc44 kV44 dc44 pm44 cd44 ct44 oc45 kV45 dc45 pm45 cd45 ct45 oc46 kV46 dc46 pm46 cd46 ct46 oc47 kV47 dc47 pm47 cd47 ct47 oc48 kV48 dc48 pm48 cd48 ct48 oc49 kV49 dc49 pm49 cd49 ct49 oc50 kV50 dc50 pm50 cd50 ct50 oc51 kV51 dc51 pm51 cd51 ct51 : Value}
    {t_MOST_CURVE t_MOST_DEGREE : Tok}
    (a0 : PySem.W.nsIn K mainGlobals "is_integer" = some (some (.ref f0))) (l0 : K.lookup f0 = some ⟨oc0, od0, .func (PySem.W.fnOf "is_integer" "is_integer" (defArgs st_is_integer) (defBody st_is_integer) (defScope st_is_integer) .none kV0 dc0 pm0 an0 cd0 ct0), sl0⟩) (c0 : PySem.W.codeIn K cd0 "is_integer" = true) (k0 : PySem.W.keepIn K (.ref f0) = true)
    (a1 : PySem.W.nsIn K mainGlobals "is_list" = some (some (.ref f1))) (l1 : K.lookup f1 = some ⟨oc1, od1, .func (PySem.W.fnOf "is_list" "is_list" (defArgs st_is_list) (defBody st_is_list) (defScope st_is_list) .none kV1 dc1 pm1 an1 cd1 ct1), sl1⟩) (c1 : PySem.W.codeIn K cd1 "is_list" = true) (k1 : PySem.W.keepIn K (.ref f1) = true)
    (a2 : PySem.W.nsIn K mainGlobals "want_at_most" = some (some (.ref f2))) (l2 : K.lookup f2 = some ⟨oc2, od2, .func (PySem.W.fnOf "want_at_most" "want_at_most" (defArgs st_want_at_most) (defBody st_want_at_most) (defScope st_want_at_most) .none kV2 dc2 pm2 an2 cd2 ct2), sl2⟩) (c2 : PySem.W.codeIn K cd2 "want_at_most" = true) (k2 : PySem.W.keepIn K (.ref f2) = true)
    (a3 : PySem.W.nsIn K mainGlobals "divisor_of" = some (some (.ref f3))) (l3 : K.lookup f3 = some ⟨oc3, od3, .func (PySem.W.fnOf "divisor_of" "divisor_of" (defArgs st_divisor_of) (defBody st_divisor_of) (defScope st_divisor_of) .none kV3 dc3 pm3 an3 cd3 ct3), sl3⟩) (c3 : PySem.W.codeIn K cd3 "divisor_of" = true) (k3 : PySem.W.keepIn K (.ref f3) = true)
    (a4 : PySem.W.nsIn K mainGlobals "trimmed" = some (some (.ref f4))) (l4 : K.lookup f4 = some ⟨oc4, od4, .func (PySem.W.fnOf "trimmed" "trimmed" (defArgs st_trimmed) (defBody st_trimmed) (defScope st_trimmed) .none kV4 dc4 pm4 an4 cd4 ct4), sl4⟩) (c4 : PySem.W.codeIn K cd4 "trimmed" = true) (k4 : PySem.W.keepIn K (.ref f4) = true)
    (a5 : PySem.W.nsIn K mainGlobals "scaled_line" = some (some (.ref f5))) (l5 : K.lookup f5 = some ⟨oc5, od5, .func (PySem.W.fnOf "scaled_line" "scaled_line" (defArgs st_scaled_line) (defBody st_scaled_line) (defScope st_scaled_line) .none kV5 dc5 pm5 an5 cd5 ct5), sl5⟩) (c5 : PySem.W.codeIn K cd5 "scaled_line" = true) (k5 : PySem.W.keepIn K (.ref f5) = true)
    (a6 : PySem.W.nsIn K mainGlobals "times_lines" = some (some (.ref f6))) (l6 : K.lookup f6 = some ⟨oc6, od6, .func (PySem.W.fnOf "times_lines" "times_lines" (defArgs st_times_lines) (defBody st_times_lines) (defScope st_times_lines) .none kV6 dc6 pm6 an6 cd6 ct6), sl6⟩) (c6 : PySem.W.codeIn K cd6 "times_lines" = true) (k6 : PySem.W.keepIn K (.ref f6) = true)
    (a7 : PySem.W.nsIn K mainGlobals "value_at" = some (some (.ref f7))) (l7 : K.lookup f7 = some ⟨oc7, od7, .func (PySem.W.fnOf "value_at" "value_at" (defArgs st_value_at) (defBody st_value_at) (defScope st_value_at) .none kV7 dc7 pm7 an7 cd7 ct7), sl7⟩) (c7 : PySem.W.codeIn K cd7 "value_at" = true) (k7 : PySem.W.keepIn K (.ref f7) = true)
    (a8 : PySem.W.nsIn K mainGlobals "degree_of" = some (some (.ref f8))) (l8 : K.lookup f8 = some ⟨oc8, od8, .func (PySem.W.fnOf "degree_of" "degree_of" (defArgs st_degree_of) (defBody st_degree_of) (defScope st_degree_of) .none kV8 dc8 pm8 an8 cd8 ct8), sl8⟩) (c8 : PySem.W.codeIn K cd8 "degree_of" = true) (k8 : PySem.W.keepIn K (.ref f8) = true)
    (a9 : PySem.W.nsIn K mainGlobals "_law_pot" = some (some (.ref f9))) (l9 : K.lookup f9 = some ⟨oc9, od9, .func (PySem.W.fnOf "_law_pot" "_law_pot" (defArgs st__law_pot) (defBody st__law_pot) (defScope st__law_pot) .none kV9 dc9 pm9 an9 cd9 ct9), sl9⟩) (c9 : PySem.W.codeIn K cd9 "_law_pot" = true) (k9 : PySem.W.keepIn K (.ref f9) = true)
    (a10 : PySem.W.nsIn K mainGlobals "_law_draw" = some (some (.ref f10))) (l10 : K.lookup f10 = some ⟨oc10, od10, .func (PySem.W.fnOf "_law_draw" "_law_draw" (defArgs st__law_draw) (defBody st__law_draw) (defScope st__law_draw) .none kV10 dc10 pm10 an10 cd10 ct10), sl10⟩) (c10 : PySem.W.codeIn K cd10 "_law_draw" = true) (k10 : PySem.W.keepIn K (.ref f10) = true)
    (a11 : PySem.W.nsIn K mainGlobals "_law_trim" = some (some (.ref f11))) (l11 : K.lookup f11 = some ⟨oc11, od11, .func (PySem.W.fnOf "_law_trim" "_law_trim" (defArgs st__law_trim) (defBody st__law_trim) (defScope st__law_trim) .none kV11 dc11 pm11 an11 cd11 ct11), sl11⟩) (c11 : PySem.W.codeIn K cd11 "_law_trim" = true) (k11 : PySem.W.keepIn K (.ref f11) = true)
    (a12 : PySem.W.nsIn K mainGlobals "_law_value" = some (some (.ref f12))) (l12 : K.lookup f12 = some ⟨oc12, od12, .func (PySem.W.fnOf "_law_value" "_law_value" (defArgs st__law_value) (defBody st__law_value) (defScope st__law_value) .none kV12 dc12 pm12 an12 cd12 ct12), sl12⟩) (c12 : PySem.W.codeIn K cd12 "_law_value" = true) (k12 : PySem.W.keepIn K (.ref f12) = true)
    (a13 : PySem.W.nsIn K mainGlobals "_law_divisor" = some (some (.ref f13))) (l13 : K.lookup f13 = some ⟨oc13, od13, .func (PySem.W.fnOf "_law_divisor" "_law_divisor" (defArgs st__law_divisor) (defBody st__law_divisor) (defScope st__law_divisor) .none kV13 dc13 pm13 an13 cd13 ct13), sl13⟩) (c13 : PySem.W.codeIn K cd13 "_law_divisor" = true) (k13 : PySem.W.keepIn K (.ref f13) = true)
    (a14 : PySem.W.nsIn K mainGlobals "_law_degree" = some (some (.ref f14))) (l14 : K.lookup f14 = some ⟨oc14, od14, .func (PySem.W.fnOf "_law_degree" "_law_degree" (defArgs st__law_degree) (defBody st__law_degree) (defScope st__law_degree) .none kV14 dc14 pm14 an14 cd14 ct14), sl14⟩) (c14 : PySem.W.codeIn K cd14 "_law_degree" = true) (k14 : PySem.W.keepIn K (.ref f14) = true)
    (a15 : PySem.W.nsIn K mainGlobals "greatest_of" = some (some (.ref f15))) (l15 : K.lookup f15 = some ⟨oc15, od15, .func (PySem.W.fnOf "greatest_of" "greatest_of" (defArgs st_greatest_of) (defBody st_greatest_of) (defScope st_greatest_of) .none kV15 dc15 pm15 an15 cd15 ct15), sl15⟩) (c15 : PySem.W.codeIn K cd15 "greatest_of" = true) (k15 : PySem.W.keepIn K (.ref f15) = true)
    (a16 : PySem.W.nsIn K mainGlobals "want_number" = some (some (.ref f16))) (l16 : K.lookup f16 = some ⟨oc16, od16, .func (PySem.W.fnOf "want_number" "want_number" (defArgs st_want_number) (defBody st_want_number) (defScope st_want_number) .none kV16 dc16 pm16 an16 cd16 ct16), sl16⟩) (c16 : PySem.W.codeIn K cd16 "want_number" = true) (k16 : PySem.W.keepIn K (.ref f16) = true)
    (a17 : PySem.W.nsIn K mainGlobals "plus_lines" = some (some (.ref f17))) (l17 : K.lookup f17 = some ⟨oc17, od17, .func (PySem.W.fnOf "plus_lines" "plus_lines" (defArgs st_plus_lines) (defBody st_plus_lines) (defScope st_plus_lines) .none kV17 dc17 pm17 an17 cd17 ct17), sl17⟩) (c17 : PySem.W.codeIn K cd17 "plus_lines" = true) (k17 : PySem.W.keepIn K (.ref f17) = true)
    (a18 : PySem.W.nsIn K mainGlobals "line_in" = some (some (.ref f18))) (l18 : K.lookup f18 = some ⟨oc18, od18, .func (PySem.W.fnOf "line_in" "line_in" (defArgs st_line_in) (defBody st_line_in) (defScope st_line_in) .none kV18 dc18 pm18 an18 cd18 ct18), sl18⟩) (c18 : PySem.W.codeIn K cd18 "line_in" = true) (k18 : PySem.W.keepIn K (.ref f18) = true)
    (a19 : PySem.W.nsIn K mainGlobals "_law_pick" = some (some (.ref f19))) (l19 : K.lookup f19 = some ⟨oc19, od19, .func (PySem.W.fnOf "_law_pick" "_law_pick" (defArgs st__law_pick) (defBody st__law_pick) (defScope st__law_pick) .none kV19 dc19 pm19 an19 cd19 ct19), sl19⟩) (c19 : PySem.W.codeIn K cd19 "_law_pick" = true) (k19 : PySem.W.keepIn K (.ref f19) = true)
    (a20 : PySem.W.nsIn K mainGlobals "_law_plus" = some (some (.ref f20))) (l20 : K.lookup f20 = some ⟨oc20, od20, .func (PySem.W.fnOf "_law_plus" "_law_plus" (defArgs st__law_plus) (defBody st__law_plus) (defScope st__law_plus) .none kV20 dc20 pm20 an20 cd20 ct20), sl20⟩) (c20 : PySem.W.codeIn K cd20 "_law_plus" = true) (k20 : PySem.W.keepIn K (.ref f20) = true)
    (a21 : PySem.W.nsIn K mainGlobals "_law_by" = some (some (.ref f21))) (l21 : K.lookup f21 = some ⟨oc21, od21, .func (PySem.W.fnOf "_law_by" "_law_by" (defArgs st__law_by) (defBody st__law_by) (defScope st__law_by) .none kV21 dc21 pm21 an21 cd21 ct21), sl21⟩) (c21 : PySem.W.codeIn K cd21 "_law_by" = true) (k21 : PySem.W.keepIn K (.ref f21) = true)
    (a22 : PySem.W.nsIn K mainGlobals "_law_times" = some (some (.ref f22))) (l22 : K.lookup f22 = some ⟨oc22, od22, .func (PySem.W.fnOf "_law_times" "_law_times" (defArgs st__law_times) (defBody st__law_times) (defScope st__law_times) .none kV22 dc22 pm22 an22 cd22 ct22), sl22⟩) (c22 : PySem.W.codeIn K cd22 "_law_times" = true) (k22 : PySem.W.keepIn K (.ref f22) = true)
    (a23 : PySem.W.nsIn K mainGlobals "_law_bare" = some (some (.ref f23))) (l23 : K.lookup f23 = some ⟨oc23, od23, .func (PySem.W.fnOf "_law_bare" "_law_bare" (defArgs st__law_bare) (defBody st__law_bare) (defScope st__law_bare) .none kV23 dc23 pm23 an23 cd23 ct23), sl23⟩) (c23 : PySem.W.codeIn K cd23 "_law_bare" = true) (k23 : PySem.W.keepIn K (.ref f23) = true)
    (a24 : PySem.W.nsIn K mainGlobals "_law_given" = some (some (.ref f24))) (l24 : K.lookup f24 = some ⟨oc24, od24, .func (PySem.W.fnOf "_law_given" "_law_given" (defArgs st__law_given) (defBody st__law_given) (defScope st__law_given) .none kV24 dc24 pm24 an24 cd24 ct24), sl24⟩) (c24 : PySem.W.codeIn K cd24 "_law_given" = true) (k24 : PySem.W.keepIn K (.ref f24) = true)
    (a25 : PySem.W.nsIn K mainGlobals "minus_lines" = some (some (.ref f25))) (l25 : K.lookup f25 = some ⟨oc25, od25, .func (PySem.W.fnOf "minus_lines" "minus_lines" (defArgs st_minus_lines) (defBody st_minus_lines) (defScope st_minus_lines) .none kV25 dc25 pm25 an25 cd25 ct25), sl25⟩) (c25 : PySem.W.codeIn K cd25 "minus_lines" = true) (k25 : PySem.W.keepIn K (.ref f25) = true)
    (a26 : PySem.W.nsIn K mainGlobals "plain_of" = some (some (.ref f26))) (l26 : K.lookup f26 = some ⟨oc26, od26, .func (PySem.W.fnOf "plain_of" "plain_of" (defArgs st_plain_of) (defBody st_plain_of) (defScope st_plain_of) .none kV26 dc26 pm26 an26 cd26 ct26), sl26⟩) (c26 : PySem.W.codeIn K cd26 "plain_of" = true) (k26 : PySem.W.keepIn K (.ref f26) = true)
    (a27 : PySem.W.nsIn K mainGlobals "want_line" = some (some (.ref f27))) (l27 : K.lookup f27 = some ⟨oc27, od27, .func (PySem.W.fnOf "want_line" "want_line" (defArgs st_want_line) (defBody st_want_line) (defScope st_want_line) .none kV27 dc27 pm27 an27 cd27 ct27), sl27⟩) (c27 : PySem.W.codeIn K cd27 "want_line" = true) (k27 : PySem.W.keepIn K (.ref f27) = true)
    (a28 : PySem.W.nsIn K mainGlobals "lowest" = some (some (.ref f28))) (l28 : K.lookup f28 = some ⟨oc28, od28, .func (PySem.W.fnOf "lowest" "lowest" (defArgs st_lowest) (defBody st_lowest) (defScope st_lowest) .none kV28 dc28 pm28 an28 cd28 ct28), sl28⟩) (c28 : PySem.W.codeIn K cd28 "lowest" = true) (k28 : PySem.W.keepIn K (.ref f28) = true)
    (a29 : PySem.W.nsIn K mainGlobals "three_lines" = some (some (.ref f29))) (l29 : K.lookup f29 = some ⟨oc29, od29, .func (PySem.W.fnOf "three_lines" "three_lines" (defArgs st_three_lines) (defBody st_three_lines) (defScope st_three_lines) .none kV29 dc29 pm29 an29 cd29 ct29), sl29⟩) (c29 : PySem.W.codeIn K cd29 "three_lines" = true) (k29 : PySem.W.keepIn K (.ref f29) = true)
    (a30 : PySem.W.nsIn K mainGlobals "led_line" = some (some (.ref f30))) (l30 : K.lookup f30 = some ⟨oc30, od30, .func (PySem.W.fnOf "led_line" "led_line" (defArgs st_led_line) (defBody st_led_line) (defScope st_led_line) .none kV30 dc30 pm30 an30 cd30 ct30), sl30⟩) (c30 : PySem.W.codeIn K cd30 "led_line" = true) (k30 : PySem.W.keepIn K (.ref f30) = true)
    (a31 : PySem.W.nsIn K mainGlobals "_law_at" = some (some (.ref f31))) (l31 : K.lookup f31 = some ⟨oc31, od31, .func (PySem.W.fnOf "_law_at" "_law_at" (defArgs st__law_at) (defBody st__law_at) (defScope st__law_at) .none kV31 dc31 pm31 an31 cd31 ct31), sl31⟩) (c31 : PySem.W.codeIn K cd31 "_law_at" = true) (k31 : PySem.W.keepIn K (.ref f31) = true)
    (a32 : PySem.W.nsIn K mainGlobals "_law_common" = some (some (.ref f32))) (l32 : K.lookup f32 = some ⟨oc32, od32, .func (PySem.W.fnOf "_law_common" "_law_common" (defArgs st__law_common) (defBody st__law_common) (defScope st__law_common) .none kV32 dc32 pm32 an32 cd32 ct32), sl32⟩) (c32 : PySem.W.codeIn K cd32 "_law_common" = true) (k32 : PySem.W.keepIn K (.ref f32) = true)
    (a33 : PySem.W.nsIn K mainGlobals "_law_line" = some (some (.ref f33))) (l33 : K.lookup f33 = some ⟨oc33, od33, .func (PySem.W.fnOf "_law_line" "_law_line" (defArgs st__law_line) (defBody st__law_line) (defScope st__law_line) .none kV33 dc33 pm33 an33 cd33 ct33), sl33⟩) (c33 : PySem.W.codeIn K cd33 "_law_line" = true) (k33 : PySem.W.keepIn K (.ref f33) = true)
    (a34 : PySem.W.nsIn K mainGlobals "_law_cross" = some (some (.ref f34))) (l34 : K.lookup f34 = some ⟨oc34, od34, .func (PySem.W.fnOf "_law_cross" "_law_cross" (defArgs st__law_cross) (defBody st__law_cross) (defScope st__law_cross) .none kV34 dc34 pm34 an34 cd34 ct34), sl34⟩) (c34 : PySem.W.codeIn K cd34 "_law_cross" = true) (k34 : PySem.W.keepIn K (.ref f34) = true)
    (a35 : PySem.W.nsIn K mainGlobals "_law_point" = some (some (.ref f35))) (l35 : K.lookup f35 = some ⟨oc35, od35, .func (PySem.W.fnOf "_law_point" "_law_point" (defArgs st__law_point) (defBody st__law_point) (defScope st__law_point) .none kV35 dc35 pm35 an35 cd35 ct35), sl35⟩) (c35 : PySem.W.codeIn K cd35 "_law_point" = true) (k35 : PySem.W.keepIn K (.ref f35) = true)
    (a36 : PySem.W.nsIn K mainGlobals "parted" = some (some (.ref f36))) (l36 : K.lookup f36 = some ⟨oc36, od36, .func (PySem.W.fnOf "parted" "parted" (defArgs st_parted) (defBody st_parted) (defScope st_parted) .none kV36 dc36 pm36 an36 cd36 ct36), sl36⟩) (c36 : PySem.W.codeIn K cd36 "parted" = true) (k36 : PySem.W.keepIn K (.ref f36) = true)
    (a37 : PySem.W.nsIn K mainGlobals "bare_three" = some (some (.ref f37))) (l37 : K.lookup f37 = some ⟨oc37, od37, .func (PySem.W.fnOf "bare_three" "bare_three" (defArgs st_bare_three) (defBody st_bare_three) (defScope st_bare_three) .none kV37 dc37 pm37 an37 cd37 ct37), sl37⟩) (c37 : PySem.W.codeIn K cd37 "bare_three" = true) (k37 : PySem.W.keepIn K (.ref f37) = true)
    (a38 : PySem.W.nsIn K mainGlobals "_law_curve" = some (some (.ref f38))) (l38 : K.lookup f38 = some ⟨oc38, od38, .func (PySem.W.fnOf "_law_curve" "_law_curve" (defArgs st__law_curve) (defBody st__law_curve) (defScope st__law_curve) .none kV38 dc38 pm38 an38 cd38 ct38), sl38⟩) (c38 : PySem.W.codeIn K cd38 "_law_curve" = true) (k38 : PySem.W.keepIn K (.ref f38) = true)
    (a39 : PySem.W.nsIn K mainGlobals "common_of" = some (some (.ref f39))) (l39 : K.lookup f39 = some ⟨oc39, od39, .func (PySem.W.fnOf "common_of" "common_of" (defArgs st_common_of) (defBody st_common_of) (defScope st_common_of) .none kV39 dc39 pm39 an39 cd39 ct39), sl39⟩) (c39 : PySem.W.codeIn K cd39 "common_of" = true) (k39 : PySem.W.keepIn K (.ref f39) = true)
    (a40 : PySem.W.nsIn K mainGlobals "_law_led_curve" = some (some (.ref f40))) (l40 : K.lookup f40 = some ⟨oc40, od40, .func (PySem.W.fnOf "_law_led_curve" "_law_led_curve" (defArgs st__law_led_curve) (defBody st__law_led_curve) (defScope st__law_led_curve) .none kV40 dc40 pm40 an40 cd40 ct40), sl40⟩) (c40 : PySem.W.codeIn K cd40 "_law_led_curve" = true) (k40 : PySem.W.keepIn K (.ref f40) = true)
    (a41 : PySem.W.nsIn K mainGlobals "curve_in" = some (some (.ref f41))) (l41 : K.lookup f41 = some ⟨oc41, od41, .func (PySem.W.fnOf "curve_in" "curve_in" (defArgs st_curve_in) (defBody st_curve_in) (defScope st_curve_in) .none kV41 dc41 pm41 an41 cd41 ct41), sl41⟩) (c41 : PySem.W.codeIn K cd41 "curve_in" = true) (k41 : PySem.W.keepIn K (.ref f41) = true)
    (a42 : PySem.W.nsIn K mainGlobals "want_curve" = some (some (.ref f42))) (l42 : K.lookup f42 = some ⟨oc42, od42, .func (PySem.W.fnOf "want_curve" "want_curve" (defArgs st_want_curve) (defBody st_want_curve) (defScope st_want_curve) .none kV42 dc42 pm42 an42 cd42 ct42), sl42⟩) (c42 : PySem.W.codeIn K cd42 "want_curve" = true) (k42 : PySem.W.keepIn K (.ref f42) = true)
    (a43 : PySem.W.nsIn K mainGlobals "is_curve" = some (some (.ref f43))) (l43 : K.lookup f43 = some ⟨oc43, od43, .func (PySem.W.fnOf "is_curve" "is_curve" (defArgs st_is_curve) (defBody st_is_curve) (defScope st_is_curve) .none kV43 dc43 pm43 an43 cd43 ct43), sl43⟩) (c43 : PySem.W.codeIn K cd43 "is_curve" = true) (k43 : PySem.W.keepIn K (.ref f43) = true)
    (a44 : PySem.W.nsIn K mainGlobals "curve_degree" = some (some (.ref f44))) (l44 : K.lookup f44 = some ⟨oc44, od44, .func (PySem.W.fnOf "curve_degree" "curve_degree" (defArgs st_curve_degree) (defBody st_curve_degree) (defScope st_curve_degree) .none kV44 dc44 pm44 an44 cd44 ct44), sl44⟩) (c44 : PySem.W.codeIn K cd44 "curve_degree" = true) (k44 : PySem.W.keepIn K (.ref f44) = true)
    (a45 : PySem.W.nsIn K mainGlobals "point_at" = some (some (.ref f45))) (l45 : K.lookup f45 = some ⟨oc45, od45, .func (PySem.W.fnOf "point_at" "point_at" (defArgs st_point_at) (defBody st_point_at) (defScope st_point_at) .none kV45 dc45 pm45 an45 cd45 ct45), sl45⟩) (c45 : PySem.W.codeIn K cd45 "point_at" = true) (k45 : PySem.W.keepIn K (.ref f45) = true)
    (a46 : PySem.W.nsIn K mainGlobals "point_after" = some (some (.ref f46))) (l46 : K.lookup f46 = some ⟨oc46, od46, .func (PySem.W.fnOf "point_after" "point_after" (defArgs st_point_after) (defBody st_point_after) (defScope st_point_after) .none kV46 dc46 pm46 an46 cd46 ct46), sl46⟩) (c46 : PySem.W.codeIn K cd46 "point_after" = true) (k46 : PySem.W.keepIn K (.ref f46) = true)
    (a47 : PySem.W.nsIn K mainGlobals "by_time" = some (some (.ref f47))) (l47 : K.lookup f47 = some ⟨oc47, od47, .func (PySem.W.fnOf "by_time" "by_time" (defArgs st_by_time) (defBody st_by_time) (defScope st_by_time) .none kV47 dc47 pm47 an47 cd47 ct47), sl47⟩) (c47 : PySem.W.codeIn K cd47 "by_time" = true) (k47 : PySem.W.keepIn K (.ref f47) = true)
    (a48 : PySem.W.nsIn K mainGlobals "_law_curve_right" = some (some (.ref f48))) (l48 : K.lookup f48 = some ⟨oc48, od48, .func (PySem.W.fnOf "_law_curve_right" "_law_curve_right" (defArgs st__law_curve_right) (defBody st__law_curve_right) (defScope st__law_curve_right) .none kV48 dc48 pm48 an48 cd48 ct48), sl48⟩) (c48 : PySem.W.codeIn K cd48 "_law_curve_right" = true) (k48 : PySem.W.keepIn K (.ref f48) = true)
    (a49 : PySem.W.nsIn K mainGlobals "_law_time_right" = some (some (.ref f49))) (l49 : K.lookup f49 = some ⟨oc49, od49, .func (PySem.W.fnOf "_law_time_right" "_law_time_right" (defArgs st__law_time_right) (defBody st__law_time_right) (defScope st__law_time_right) .none kV49 dc49 pm49 an49 cd49 ct49), sl49⟩) (c49 : PySem.W.codeIn K cd49 "_law_time_right" = true) (k49 : PySem.W.keepIn K (.ref f49) = true)
    (a50 : PySem.W.nsIn K mainGlobals "_law_right" = some (some (.ref f50))) (l50 : K.lookup f50 = some ⟨oc50, od50, .func (PySem.W.fnOf "_law_right" "_law_right" (defArgs st__law_right) (defBody st__law_right) (defScope st__law_right) .none kV50 dc50 pm50 an50 cd50 ct50), sl50⟩) (c50 : PySem.W.codeIn K cd50 "_law_right" = true) (k50 : PySem.W.keepIn K (.ref f50) = true)
    (a51 : PySem.W.nsIn K mainGlobals "law" = some (some (.ref f51))) (l51 : K.lookup f51 = some ⟨oc51, od51, .func (PySem.W.fnOf "law" "law" (defArgs st_law) (defBody st_law) (defScope st_law) .none kV51 dc51 pm51 an51 cd51 ct51), sl51⟩) (c51 : PySem.W.codeIn K cd51 "law" = true) (k51 : PySem.W.keepIn K (.ref f51) = true)
    (z_abs : PySem.W.nsIn K mainGlobals "abs" = some none)
    (z_all : PySem.W.nsIn K mainGlobals "all" = some none)
    (z_any : PySem.W.nsIn K mainGlobals "any" = some none)
    (z_bool : PySem.W.nsIn K mainGlobals "bool" = some none)
    (z_divmod : PySem.W.nsIn K mainGlobals "divmod" = some none)
    (z_enumerate : PySem.W.nsIn K mainGlobals "enumerate" = some none)
    (z_int : PySem.W.nsIn K mainGlobals "int" = some none)
    (z_isinstance : PySem.W.nsIn K mainGlobals "isinstance" = some none)
    (z_len : PySem.W.nsIn K mainGlobals "len" = some none)
    (z_list : PySem.W.nsIn K mainGlobals "list" = some none)
    (z_max : PySem.W.nsIn K mainGlobals "max" = some none)
    (z_range : PySem.W.nsIn K mainGlobals "range" = some none)
    (z_repr : PySem.W.nsIn K mainGlobals "repr" = some none)
    (z_tuple : PySem.W.nsIn K mainGlobals "tuple" = some none)
    (z_zip : PySem.W.nsIn K mainGlobals "zip" = some none)
    (g_MOST_CURVE : PySem.W.nsIn K mainGlobals "MOST_CURVE" = some (some (.int 5 t_MOST_CURVE)))
    (g_MOST_DEGREE : PySem.W.nsIn K mainGlobals "MOST_DEGREE" = some (some (.int 12 t_MOST_DEGREE)))
    : ∃ (fd : FuncData) (m : List C → Out C), (∀ (s : Shared) (u : Value), BindsTo s fd ⟨[u], []⟩ [("script", u)]) ∧
        (∀ base : Heap, K.In base → base.Ns mainGlobals mg → SysD base → FnG l.prog w K mg base 11 fa fd ["script"] (spM K mg 1 m)) ∧
        ∀ ns : List Int, ns.length ≤ 63 → (∀ z ∈ ns, Builtin.Int.intBits z ≤ 1048576) → ∃ c outs, m [.frz (.ro ns)] = .ok c outs ∧ c.toD = .bl true := by
  have V : Txt K mg := ⟨PySem.W.mg_none_of X G z_abs, PySem.W.mg_none_of X G z_all, PySem.W.mg_none_of X G z_any, PySem.W.mg_none_of X G z_bool, PySem.W.mg_none_of X G z_divmod, PySem.W.mg_none_of X G z_enumerate, PySem.W.mg_none_of X G z_int, PySem.W.mg_none_of X G z_isinstance, PySem.W.mg_none_of X G z_len, PySem.W.mg_none_of X G z_list, PySem.W.mg_none_of X G z_max, PySem.W.mg_none_of X G z_range, PySem.W.mg_none_of X G z_repr, PySem.W.mg_none_of X G z_tuple, PySem.W.mg_none_of X G z_zip, ⟨_, PySem.W.mg_of X G g_MOST_CURVE⟩, ⟨_, PySem.W.mg_of X G g_MOST_DEGREE⟩, ⟨_, _, _, _, _, _, _, _, _, _, PySem.W.mg_of X G a0, k0, l0, c0⟩, ⟨_, _, _, _, _, _, _, _, _, _, PySem.W.mg_of X G a1, k1, l1, c1⟩, ⟨_, _, _, _, _, _, _, _, _, _, PySem.W.mg_of X G a2, k2, l2, c2⟩, ⟨_, _, _, _, _, _, _, _, _, _, PySem.W.mg_of X G a3, k3, l3, c3⟩, ⟨_, _, _, _, _, _, _, _, _, _, PySem.W.mg_of X G a4, k4, l4, c4⟩, ⟨_, _, _, _, _, _, _, _, _, _, PySem.W.mg_of X G a5, k5, l5, c5⟩, ⟨_, _, _, _, _, _, _, _, _, _, PySem.W.mg_of X G a6, k6, l6, c6⟩, ⟨_, _, _, _, _, _, _, _, _, _, PySem.W.mg_of X G a7, k7, l7, c7⟩, ⟨_, _, _, _, _, _, _, _, _, _, PySem.W.mg_of X G a8, k8, l8, c8⟩, ⟨_, _, _, _, _, _, _, _, _, _, PySem.W.mg_of X G a9, k9, l9, c9⟩, ⟨_, _, _, _, _, _, _, _, _, _, PySem.W.mg_of X G a10, k10, l10, c10⟩, ⟨_, _, _, _, _, _, _, _, _, _, PySem.W.mg_of X G a11, k11, l11, c11⟩, ⟨_, _, _, _, _, _, _, _, _, _, PySem.W.mg_of X G a12, k12, l12, c12⟩, ⟨_, _, _, _, _, _, _, _, _, _, PySem.W.mg_of X G a13, k13, l13, c13⟩, ⟨_, _, _, _, _, _, _, _, _, _, PySem.W.mg_of X G a14, k14, l14, c14⟩, ⟨_, _, _, _, _, _, _, _, _, _, PySem.W.mg_of X G a15, k15, l15, c15⟩, ⟨_, _, _, _, _, _, _, _, _, _, PySem.W.mg_of X G a16, k16, l16, c16⟩, ⟨_, _, _, _, _, _, _, _, _, _, PySem.W.mg_of X G a17, k17, l17, c17⟩, ⟨_, _, _, _, _, _, _, _, _, _, PySem.W.mg_of X G a18, k18, l18, c18⟩, ⟨_, _, _, _, _, _, _, _, _, _, PySem.W.mg_of X G a19, k19, l19, c19⟩, ⟨_, _, _, _, _, _, _, _, _, _, PySem.W.mg_of X G a20, k20, l20, c20⟩, ⟨_, _, _, _, _, _, _, _, _, _, PySem.W.mg_of X G a21, k21, l21, c21⟩, ⟨_, _, _, _, _, _, _, _, _, _, PySem.W.mg_of X G a22, k22, l22, c22⟩, ⟨_, _, _, _, _, _, _, _, _, _, PySem.W.mg_of X G a23, k23, l23, c23⟩, ⟨_, _, _, _, _, _, _, _, _, _, PySem.W.mg_of X G a24, k24, l24, c24⟩, ⟨_, _, _, _, _, _, _, _, _, _, PySem.W.mg_of X G a25, k25, l25, c25⟩, ⟨_, _, _, _, _, _, _, _, _, _, PySem.W.mg_of X G a26, k26, l26, c26⟩, ⟨_, _, _, _, _, _, _, _, _, _, PySem.W.mg_of X G a27, k27, l27, c27⟩, ⟨_, _, _, _, _, _, _, _, _, _, PySem.W.mg_of X G a28, k28, l28, c28⟩, ⟨_, _, _, _, _, _, _, _, _, _, PySem.W.mg_of X G a29, k29, l29, c29⟩, ⟨_, _, _, _, _, _, _, _, _, _, PySem.W.mg_of X G a30, k30, l30, c30⟩, ⟨_, _, _, _, _, _, _, _, _, _, PySem.W.mg_of X G a31, k31, l31, c31⟩, ⟨_, _, _, _, _, _, _, _, _, _, PySem.W.mg_of X G a32, k32, l32, c32⟩, ⟨_, _, _, _, _, _, _, _, _, _, PySem.W.mg_of X G a33, k33, l33, c33⟩, ⟨_, _, _, _, _, _, _, _, _, _, PySem.W.mg_of X G a34, k34, l34, c34⟩, ⟨_, _, _, _, _, _, _, _, _, _, PySem.W.mg_of X G a35, k35, l35, c35⟩, ⟨_, _, _, _, _, _, _, _, _, _, PySem.W.mg_of X G a36, k36, l36, c36⟩, ⟨_, _, _, _, _, _, _, _, _, _, PySem.W.mg_of X G a37, k37, l37, c37⟩, ⟨_, _, _, _, _, _, _, _, _, _, PySem.W.mg_of X G a38, k38, l38, c38⟩, ⟨_, _, _, _, _, _, _, _, _, _, PySem.W.mg_of X G a39, k39, l39, c39⟩, ⟨_, _, _, _, _, _, _, _, _, _, PySem.W.mg_of X G a40, k40, l40, c40⟩, ⟨_, _, _, _, _, _, _, _, _, _, PySem.W.mg_of X G a41, k41, l41, c41⟩, ⟨_, _, _, _, _, _, _, _, _, _, PySem.W.mg_of X G a42, k42, l42, c42⟩, ⟨_, _, _, _, _, _, _, _, _, _, PySem.W.mg_of X G a43, k43, l43, c43⟩, ⟨_, _, _, _, _, _, _, _, _, _, PySem.W.mg_of X G a44, k44, l44, c44⟩, ⟨_, _, _, _, _, _, _, _, _, _, PySem.W.mg_of X G a45, k45, l45, c45⟩, ⟨_, _, _, _, _, _, _, _, _, _, PySem.W.mg_of X G a46, k46, l46, c46⟩, ⟨_, _, _, _, _, _, _, _, _, _, PySem.W.mg_of X G a47, k47, l47, c47⟩, ⟨_, _, _, _, _, _, _, _, _, _, PySem.W.mg_of X G a48, k48, l48, c48⟩, ⟨_, _, _, _, _, _, _, _, _, _, PySem.W.mg_of X G a49, k49, l49, c49⟩, ⟨_, _, _, _, _, _, _, _, _, _, PySem.W.mg_of X G a50, k50, l50, c50⟩, ⟨_, _, _, _, _, _, _, _, _, _, PySem.W.mg_of X G a51, k51, l51, c51⟩⟩
  exact PL.law_end V.d_law sc_law bp_law (fun base hS => law_bd V hS) hfa law_true
end k71
open PySem PySem.W PyProof.Rows in
set_option maxRecDepth 100000 in
set_option maxHeartbeats 0 in
theorem PySem.Challenge.cw_curvemeets_k71_whole_points_of_curves_holds : PySem.Challenge.rw_curvemeets_k71_whole_points_of_curves.Holds := by
  w_on; o_law; k_head; (case hw => w_witness2)
  k_fill
  refine PL.walk_ofG (l := PySem.Challenge.rw_curvemeets_k71_whole_points_of_curves) (n := 63) (k := 11) (x := "script") rfl (by decide) rfl ⟨rfl, by decide, by decide⟩ (by decide +kernel) (fun w h Y => PySem.W.kIn_of Y) ?F
  case F =>
    intro w mg fa h KX G hmg
    refine' k71.all_mk KX G hmg ?a0 ?l0 ?c0 ?k0 ?a1 ?l1 ?c1 ?k1 ?a2 ?l2 ?c2 ?k2 ?a3 ?l3 ?c3 ?k3 ?a4 ?l4 ?c4 ?k4 ?a5 ?l5 ?c5 ?k5 ?a6 ?l6 ?c6 ?k6 ?a7 ?l7 ?c7 ?k7 ?a8 ?l8 ?c8 ?k8 ?a9 ?l9 ?c9 ?k9 ?a10 ?l10 ?c10 ?k10 ?a11 ?l11 ?c11 ?k11 ?a12 ?l12 ?c12 ?k12 ?a13 ?l13 ?c13 ?k13 ?a14 ?l14 ?c14 ?k14 ?a15 ?l15 ?c15 ?k15 ?a16 ?l16 ?c16 ?k16 ?a17 ?l17 ?c17 ?k17 ?a18 ?l18 ?c18 ?k18 ?a19 ?l19 ?c19 ?k19 ?a20 ?l20 ?c20 ?k20 ?a21 ?l21 ?c21 ?k21 ?a22 ?l22 ?c22 ?k22 ?a23 ?l23 ?c23 ?k23 ?a24 ?l24 ?c24 ?k24 ?a25 ?l25 ?c25 ?k25 ?a26 ?l26 ?c26 ?k26 ?a27 ?l27 ?c27 ?k27 ?a28 ?l28 ?c28 ?k28 ?a29 ?l29 ?c29 ?k29 ?a30 ?l30 ?c30 ?k30 ?a31 ?l31 ?c31 ?k31 ?a32 ?l32 ?c32 ?k32 ?a33 ?l33 ?c33 ?k33 ?a34 ?l34 ?c34 ?k34 ?a35 ?l35 ?c35 ?k35 ?a36 ?l36 ?c36 ?k36 ?a37 ?l37 ?c37 ?k37 ?a38 ?l38 ?c38 ?k38 ?a39 ?l39 ?c39 ?k39 ?a40 ?l40 ?c40 ?k40 ?a41 ?l41 ?c41 ?k41 ?a42 ?l42 ?c42 ?k42 ?a43 ?l43 ?c43 ?k43 ?a44 ?l44 ?c44 ?k44 ?a45 ?l45 ?c45 ?k45 ?a46 ?l46 ?c46 ?k46 ?a47 ?l47 ?c47 ?k47 ?a48 ?l48 ?c48 ?k48 ?a49 ?l49 ?c49 ?k49 ?a50 ?l50 ?c50 ?k50 ?a51 ?l51 ?c51 ?k51 ?z_abs ?z_all ?z_any ?z_bool ?z_divmod ?z_enumerate ?z_int ?z_isinstance ?z_len ?z_list ?z_max ?z_range ?z_repr ?z_tuple ?z_zip ?g_MOST_CURVE ?g_MOST_DEGREE
    (case a0 => k_is)
    (case l0 => k_is)
    (case c0 => k_is)
    (case k0 => k_is)
    (case a1 => k_is)
    (case l1 => k_is)
    (case c1 => k_is)
    (case k1 => k_is)
    (case a2 => k_is)
    (case l2 => k_is)
    (case c2 => k_is)
    (case k2 => k_is)
    (case a3 => k_is)
    (case l3 => k_is)
    (case c3 => k_is)
    (case k3 => k_is)
    (case a4 => k_is)
    (case l4 => k_is)
    (case c4 => k_is)
    (case k4 => k_is)
    (case a5 => k_is)
    (case l5 => k_is)
    (case c5 => k_is)
    (case k5 => k_is)
    (case a6 => k_is)
    (case l6 => k_is)
    (case c6 => k_is)
    (case k6 => k_is)
    (case a7 => k_is)
    (case l7 => k_is)
    (case c7 => k_is)
    (case k7 => k_is)
    (case a8 => k_is)
    (case l8 => k_is)
    (case c8 => k_is)
    (case k8 => k_is)
    (case a9 => k_is)
    (case l9 => k_is)
    (case c9 => k_is)
    (case k9 => k_is)
    (case a10 => k_is)
    (case l10 => k_is)
    (case c10 => k_is)
    (case k10 => k_is)
    (case a11 => k_is)
    (case l11 => k_is)
    (case c11 => k_is)
    (case k11 => k_is)
    (case a12 => k_is)
    (case l12 => k_is)
    (case c12 => k_is)
    (case k12 => k_is)
    (case a13 => k_is)
    (case l13 => k_is)
    (case c13 => k_is)
    (case k13 => k_is)
    (case a14 => k_is)
    (case l14 => k_is)
    (case c14 => k_is)
    (case k14 => k_is)
    (case a15 => k_is)
    (case l15 => k_is)
    (case c15 => k_is)
    (case k15 => k_is)
    (case a16 => k_is)
    (case l16 => k_is)
    (case c16 => k_is)
    (case k16 => k_is)
    (case a17 => k_is)
    (case l17 => k_is)
    (case c17 => k_is)
    (case k17 => k_is)
    (case a18 => k_is)
    (case l18 => k_is)
    (case c18 => k_is)
    (case k18 => k_is)
    (case a19 => k_is)
    (case l19 => k_is)
    (case c19 => k_is)
    (case k19 => k_is)
    (case a20 => k_is)
    (case l20 => k_is)
    (case c20 => k_is)
    (case k20 => k_is)
    (case a21 => k_is)
    (case l21 => k_is)
    (case c21 => k_is)
    (case k21 => k_is)
    (case a22 => k_is)
    (case l22 => k_is)
    (case c22 => k_is)
    (case k22 => k_is)
    (case a23 => k_is)
    (case l23 => k_is)
    (case c23 => k_is)
    (case k23 => k_is)
    (case a24 => k_is)
    (case l24 => k_is)
    (case c24 => k_is)
    (case k24 => k_is)
    (case a25 => k_is)
    (case l25 => k_is)
    (case c25 => k_is)
    (case k25 => k_is)
    (case a26 => k_is)
    (case l26 => k_is)
    (case c26 => k_is)
    (case k26 => k_is)
    (case a27 => k_is)
    (case l27 => k_is)
    (case c27 => k_is)
    (case k27 => k_is)
    (case a28 => k_is)
    (case l28 => k_is)
    (case c28 => k_is)
    (case k28 => k_is)
    (case a29 => k_is)
    (case l29 => k_is)
    (case c29 => k_is)
    (case k29 => k_is)
    (case a30 => k_is)
    (case l30 => k_is)
    (case c30 => k_is)
    (case k30 => k_is)
    (case a31 => k_is)
    (case l31 => k_is)
    (case c31 => k_is)
    (case k31 => k_is)
    (case a32 => k_is)
    (case l32 => k_is)
    (case c32 => k_is)
    (case k32 => k_is)
    (case a33 => k_is)
    (case l33 => k_is)
    (case c33 => k_is)
    (case k33 => k_is)
    (case a34 => k_is)
    (case l34 => k_is)
    (case c34 => k_is)
    (case k34 => k_is)
    (case a35 => k_is)
    (case l35 => k_is)
    (case c35 => k_is)
    (case k35 => k_is)
    (case a36 => k_is)
    (case l36 => k_is)
    (case c36 => k_is)
    (case k36 => k_is)
    (case a37 => k_is)
    (case l37 => k_is)
    (case c37 => k_is)
    (case k37 => k_is)
    (case a38 => k_is)
    (case l38 => k_is)
    (case c38 => k_is)
    (case k38 => k_is)
    (case a39 => k_is)
    (case l39 => k_is)
    (case c39 => k_is)
    (case k39 => k_is)
    (case a40 => k_is)
    (case l40 => k_is)
    (case c40 => k_is)
    (case k40 => k_is)
    (case a41 => k_is)
    (case l41 => k_is)
    (case c41 => k_is)
    (case k41 => k_is)
    (case a42 => k_is)
    (case l42 => k_is)
    (case c42 => k_is)
    (case k42 => k_is)
    (case a43 => k_is)
    (case l43 => k_is)
    (case c43 => k_is)
    (case k43 => k_is)
    (case a44 => k_is)
    (case l44 => k_is)
    (case c44 => k_is)
    (case k44 => k_is)
    (case a45 => k_is)
    (case l45 => k_is)
    (case c45 => k_is)
    (case k45 => k_is)
    (case a46 => k_is)
    (case l46 => k_is)
    (case c46 => k_is)
    (case k46 => k_is)
    (case a47 => k_is)
    (case l47 => k_is)
    (case c47 => k_is)
    (case k47 => k_is)
    (case a48 => k_is)
    (case l48 => k_is)
    (case c48 => k_is)
    (case k48 => k_is)
    (case a49 => k_is)
    (case l49 => k_is)
    (case c49 => k_is)
    (case k49 => k_is)
    (case a50 => k_is)
    (case l50 => k_is)
    (case c50 => k_is)
    (case k50 => k_is)
    (case a51 => k_is)
    (case l51 => k_is)
    (case c51 => k_is)
    (case k51 => k_is)
    (case z_abs => k_is)
    (case z_all => k_is)
    (case z_any => k_is)
    (case z_bool => k_is)
    (case z_divmod => k_is)
    (case z_enumerate => k_is)
    (case z_int => k_is)
    (case z_isinstance => k_is)
    (case z_len => k_is)
    (case z_list => k_is)
    (case z_max => k_is)
    (case z_range => k_is)
    (case z_repr => k_is)
    (case z_tuple => k_is)
    (case z_zip => k_is)
    (case g_MOST_CURVE => k_is)
    (case g_MOST_DEGREE => k_is)
