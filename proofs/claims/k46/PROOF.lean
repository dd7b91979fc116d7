import PyProof.Rows.All
import HandS.ForMost
import HandS.ForExc
import HandS.TupAny
import HandS.TupMul
import HandS.Deep
import HandS.Wide
import HandS.Flow
import HandS.Style
import HandS.Zip
import HandS.CallSlots
import HandS.Property
import HandS.ClsMeth
import HandS.IsInst
import HandS.RaiseMore
import HandS.WordsDict
import HandS.TupLen
import HandS.Head0
import HandS.Head1
import HandS.Head2
import HandS.HeadEnd
import HandS.HeadHook1
import HandS.HeadHook2
import PySem.Challenge.RW_splitnames_k46_desks_beside_runs
set_option Elab.async false
set_option linter.all false
set_option maxRecDepth 100000
namespace L3
open PySem PySem.Spec PyProof.Rows L2

/-! ### values as data, the objects that may change, the state -/
inductive D where
  | non | bl (b : Bool) | int (i : Int) | str (x : Str) | ty (n : String) | raw (a : Addr)
  | tup (ds : List D) | lst (ds : List D) | dK (kvs : List (Key × D)) | dT (kvs : List (List Key × D)) | ref (n : Nat)

inductive O where
  | lst (ds : List D) | dK (kvs : List (Key × D)) | dT (kvs : List (List Key × D)) | ins (C : Addr) (fs : List (Str × D))

structure S where
  nx : Nat
  A : List (Nat × O)

def S.get (s : S) (n : Nat) : Option O := s.A.lookup n
def putA (n : Nat) (o : O) : List (Nat × O) → List (Nat × O)
  | [] => []
  | (k, u) :: r => if k = n then (k, o) :: r else (k, u) :: putA n o r
def dropA (n : Nat) : List (Nat × O) → List (Nat × O)
  | [] => []
  | (k, u) :: r => if k = n then r else (k, u) :: dropA n r
def S.put (s : S) (n : Nat) (o : O) : S := { s with A := putA n o s.A }
def S.new (s : S) (o : O) : S := { nx := s.nx + 1, A := (s.nx, o) :: s.A }
def S.drop (s : S) (n : Nat) : S := { s with A := dropA n s.A }

structure Exn where
  C : Addr
  fs : Option (List (Str × D))

inductive R (α : Type) where
  | bad | ok (a : α) (s : S) | exc (e : Exn) (s : S)

def R.bind {α β : Type} (r : R α) (f : α → S → R β) : R β :=
  match r with
  | .bad => .bad
  | .ok a s => f a s
  | .exc e s => .exc e s

abbrev Sl := List (Option D)
abbrev XF := Sl → S → R D
abbrev XB := Sl → S → R Bool
abbrev XA := Sl → S → R (List D)

/-! ### the relation -/
def GqL (K : PySem.W.Frag) (G : Hp) (a : Addr) (xs : List V) : Prop := G a = some (.lst xs)
def GqT (K : PySem.W.Frag) (G : Hp) (a : Addr) (xs : List V) : Prop := G a = some (.tup xs)
def kD : Key → D
  | .inl i => .int i
  | .inr x => .str x

abbrev Mp := Nat → Option Addr

mutual
def Rep (K : PySem.W.Frag) (G : Hp) (m : Mp) : D → V → Prop
  | .non, v => v = .non
  | .bl b, v => v = .bl b
  | .int i, v => v = .int i
  | .str x, v => v = .str x
  | .ty n, v => v = .ty n
  | .raw a, v => v = .ref a
  | .ref n, v => ∃ a, m n = some a ∧ v = .ref a
  | .tup ds, v => ∃ p vs, v = .ref p ∧ GqT K G p vs ∧ RepL K G m ds vs
  | .lst ds, v => ∃ p vs, v = .ref p ∧ GqL K G p vs ∧ RepL K G m ds vs
  | .dK kvs, v => ∃ p ks, v = .ref p ∧ G p = some (.dK ks) ∧ RepK K G m kvs ks
  | .dT kvs, v => ∃ p ks, v = .ref p ∧ G p = some (.dT ks) ∧ RepT K G m kvs ks
def RepL (K : PySem.W.Frag) (G : Hp) (m : Mp) : List D → List V → Prop
  | [], vs => vs = []
  | d :: ds, vs => ∃ v r, vs = v :: r ∧ Rep K G m d v ∧ RepL K G m ds r
def RepK (K : PySem.W.Frag) (G : Hp) (m : Mp) : List (Key × D) → List (Key × V) → Prop
  | [], ks => ks = []
  | (k, d) :: kvs, ks => ∃ v r, ks = (k, v) :: r ∧ Rep K G m d v ∧ RepK K G m kvs r
def RepT (K : PySem.W.Frag) (G : Hp) (m : Mp) : List (List Key × D) → List (List Key × V) → Prop
  | [], ks => ks = []
  | (k, d) :: kvs, ks => ∃ v r, ks = (k, v) :: r ∧ Rep K G m d v ∧ RepT K G m kvs r
end
def RepF (K : PySem.W.Frag) (G : Hp) (m : Mp) : List (Str × D) → List (Str × V) → Prop
  | [], ks => ks = []
  | (k, d) :: kvs, ks => ∃ v r, ks = (k, v) :: r ∧ Rep K G m d v ∧ RepF K G m kvs r

def RepO (K : PySem.W.Frag) (G : Hp) (m : Mp) : O → HO → Prop
  | .lst ds, h => ∃ vs, h = .lst vs ∧ RepL K G m ds vs
  | .dK kvs, h => ∃ ks, h = .dK ks ∧ RepK K G m kvs ks
  | .dT kvs, h => ∃ ks, h = .dT ks ∧ RepT K G m kvs ks
  | .ins C fs, h => ∃ dx vs, h = .ins C dx vs ∧ RepF K G m fs vs

/-- all that stands: the frozen heap, the places of the numbered objects, the state, the heap -/
structure C4 where
  G : Hp
  m : Mp
  s : S
  H : Hp

def Owns (c : C4) (a : Addr) : Prop := ∃ n o, (n, o) ∈ c.s.A ∧ c.m n = some a

structure Sim (K : PySem.W.Frag) (c : C4) : Prop where
  sub : ∀ a o, c.G a = some o → Rd c.H a o
  tup : ∀ a xs, c.G a = some (.tup xs) → c.H a = some (.tup xs)
  low : ∀ n a, c.m n = some a → n < c.s.nx
  own : ∀ n o, (n, o) ∈ c.s.A → ∃ a h, c.m n = some a ∧ c.G a = none ∧ c.H a = some h ∧ RepO K c.G c.m o h
  nd : (c.s.A.map (·.1)).Nodup
  inj : ∀ n o n' o' a, (n, o) ∈ c.s.A → (n', o') ∈ c.s.A → c.m n = some a → c.m n' = some a → n = n'

structure Ext (c c' : C4) : Prop where
  g : ∀ a o, c.G a = some o → c'.G a = some o
  m : ∀ n a, c.m n = some a → c'.m n = some a
  nx : c.s.nx ≤ c'.s.nx
  fr : ∀ a o, c.H a = some o → ¬ Owns c a → c'.H a = some o
  th : ∀ a, c.H a ≠ none → c'.H a ≠ none
  gn : ∀ a, c.H a ≠ none → c.G a = none → ¬ Owns c a → c'.G a = none
  ow : ∀ n o, (n, o) ∈ c'.s.A → (∃ o', (n, o') ∈ c.s.A) ∨ ∃ a, c'.m n = some a ∧ c.H a = none

def SlR (K : PySem.W.Frag) (c : C4) : Sl → L2.St → Prop
  | [], σ => σ = []
  | none :: Γ, σ => ∃ x r, σ = x :: r ∧ SlR K c Γ r
  | some d :: Γ, σ => ∃ v r, σ = some v :: r ∧ Rep K c.G c.m d v ∧ SlR K c Γ r

section
variable {K : PySem.W.Frag} {G G' : Hp} {m m' : Mp} {c c' c'' : C4}

theorem GqL.mono {a : Addr} {xs : List V} (hG : ∀ a o, G a = some o → G' a = some o) (h : GqL K G a xs) : GqL K G' a xs := hG _ _ h
theorem GqT.mono {a : Addr} {xs : List V} (hG : ∀ a o, G a = some o → G' a = some o) (h : GqT K G a xs) : GqT K G' a xs := hG _ _ h

section
variable (hG : ∀ a o, G a = some o → G' a = some o) (hm : ∀ n a, m n = some a → m' n = some a)
include hG hm
mutual
theorem Rep.mono0 : ∀ (d : D) (v : V), Rep K G m d v → Rep K G' m' d v
  | .non, v, h => by simpa only [Rep] using h
  | .bl b, v, h => by simpa only [Rep] using h
  | .int i, v, h => by simpa only [Rep] using h
  | .str x, v, h => by simpa only [Rep] using h
  | .ty n, v, h => by simpa only [Rep] using h
  | .raw a, v, h => by simpa only [Rep] using h
  | .ref n, v, h => by
    simp only [Rep] at h ⊢
    obtain ⟨a, e, q⟩ := h
    exact ⟨a, hm _ _ e, q⟩
  | .tup ds, v, h => by
    simp only [Rep] at h ⊢
    obtain ⟨p, vs, e, q, r⟩ := h
    exact ⟨p, vs, e, q.mono hG, RepL.mono0 ds vs r⟩
  | .lst ds, v, h => by
    simp only [Rep] at h ⊢
    obtain ⟨p, vs, e, q, r⟩ := h
    exact ⟨p, vs, e, q.mono hG, RepL.mono0 ds vs r⟩
  | .dK kvs, v, h => by
    simp only [Rep] at h ⊢
    obtain ⟨p, ks, e, q, r⟩ := h
    exact ⟨p, ks, e, hG _ _ q, RepK.mono0 kvs ks r⟩
  | .dT kvs, v, h => by
    simp only [Rep] at h ⊢
    obtain ⟨p, ks, e, q, r⟩ := h
    exact ⟨p, ks, e, hG _ _ q, RepT.mono0 kvs ks r⟩
theorem RepL.mono0 : ∀ (ds : List D) (vs : List V), RepL K G m ds vs → RepL K G' m' ds vs
  | [], vs, h => by simpa only [RepL] using h
  | d :: ds, vs, h => by
    simp only [RepL] at h ⊢
    obtain ⟨v, r, e, q, t⟩ := h
    exact ⟨v, r, e, Rep.mono0 d v q, RepL.mono0 ds r t⟩
theorem RepK.mono0 : ∀ (ds : List (Key × D)) (vs : List (Key × V)), RepK K G m ds vs → RepK K G' m' ds vs
  | [], vs, h => by simpa only [RepK] using h
  | (k, d) :: ds, vs, h => by
    simp only [RepK] at h ⊢
    obtain ⟨v, r, e, q, t⟩ := h
    exact ⟨v, r, e, Rep.mono0 d v q, RepK.mono0 ds r t⟩
theorem RepT.mono0 : ∀ (ds : List (List Key × D)) (vs : List (List Key × V)), RepT K G m ds vs → RepT K G' m' ds vs
  | [], vs, h => by simpa only [RepT] using h
  | (k, d) :: ds, vs, h => by
    simp only [RepT] at h ⊢
    obtain ⟨v, r, e, q, t⟩ := h
    exact ⟨v, r, e, Rep.mono0 d v q, RepT.mono0 ds r t⟩
end
theorem RepF.mono0 : ∀ (ds : List (Str × D)) (vs : List (Str × V)), RepF K G m ds vs → RepF K G' m' ds vs
  | [], vs, h => by simpa only [RepF] using h
  | (k, d) :: ds, vs, h => by
    simp only [RepF] at h ⊢
    obtain ⟨v, r, e, q, t⟩ := h
    exact ⟨v, r, e, Rep.mono0 hG hm d v q, RepF.mono0 ds r t⟩
theorem RepO.mono0 (o : O) (h : HO) (r : RepO K G m o h) : RepO K G' m' o h := by
  cases o with
  | lst ds => obtain ⟨vs, e, q⟩ := r; exact ⟨vs, e, RepL.mono0 hG hm _ _ q⟩
  | dK kvs => obtain ⟨ks, e, q⟩ := r; exact ⟨ks, e, RepK.mono0 hG hm _ _ q⟩
  | dT kvs => obtain ⟨ks, e, q⟩ := r; exact ⟨ks, e, RepT.mono0 hG hm _ _ q⟩
  | ins C fs => obtain ⟨dx, vs, e, q⟩ := r; exact ⟨dx, vs, e, RepF.mono0 hG hm _ _ q⟩
end

theorem Rep.mono {d : D} {v : V} (e : Ext c c') (h : Rep K c.G c.m d v) : Rep K c'.G c'.m d v := Rep.mono0 e.g e.m d v h
theorem RepL.mono {d : List D} {v : List V} (e : Ext c c') (h : RepL K c.G c.m d v) : RepL K c'.G c'.m d v := RepL.mono0 e.g e.m d v h
theorem RepO.mono {d : O} {v : HO} (e : Ext c c') (h : RepO K c.G c.m d v) : RepO K c'.G c'.m d v := RepO.mono0 e.g e.m d v h
theorem SlR.mono (e : Ext c c') : ∀ {Γ : Sl} {σ : L2.St}, SlR K c Γ σ → SlR K c' Γ σ
  | [], σ, h => h
  | none :: Γ, σ, h => by
    obtain ⟨x, r, q, t⟩ := h
    exact ⟨x, r, q, SlR.mono e t⟩
  | some d :: Γ, σ, h => by
    obtain ⟨x, r, q, w, t⟩ := h
    exact ⟨x, r, q, w.mono e, SlR.mono e t⟩

theorem Ext.refl (c : C4) : Ext c c := ⟨fun _ _ h => h, fun _ _ h => h, Nat.le_refl _, fun _ _ h _ => h, fun _ h => h, fun _ _ h _ => h, fun n o h => .inl ⟨o, h⟩⟩
theorem Ext.notOwn (s : Sim K c) (e : Ext c c') {a : Addr} (h : c.H a ≠ none) (n : ¬ Owns c a) : ¬ Owns c' a := by
  rintro ⟨k, o, hk, hm⟩
  rcases e.ow k o hk with ⟨o', h'⟩ | ⟨b, hb, hn⟩
  · obtain ⟨b, _, hb, _⟩ := s.own k o' h'
    have := e.m _ _ hb
    rw [hm] at this; cases this
    exact n ⟨k, o', h', hb⟩
  · rw [hm] at hb; cases hb
    exact h hn
theorem Ext.trans (s : Sim K c) (e : Ext c c') (f : Ext c' c'') : Ext c c'' := by
  refine ⟨fun a o h => f.g _ _ (e.g _ _ h), fun n a h => f.m _ _ (e.m _ _ h), Nat.le_trans e.nx f.nx, fun a o h n => ?_, fun a h => f.th a (e.th a h), fun a h g n => ?_, fun n o h => ?_⟩
  · have h0 : c.H a ≠ none := by rw [h]; simp
    exact f.fr a o (e.fr a o h n) (e.notOwn s h0 n)
  · exact f.gn a (e.th a h) (e.gn a h g n) (e.notOwn s h n)
  · rcases f.ow n o h with ⟨o', h'⟩ | ⟨a, ha, hn⟩
    · rcases e.ow n o' h' with h2 | ⟨a, ha, hn⟩
      · exact .inl h2
      · exact .inr ⟨a, f.m _ _ ha, hn⟩
    · refine .inr ⟨a, ha, ?_⟩
      cases q : c.H a with
      | none => rfl
      | some u => exact absurd hn (e.th a (by rw [q]; simp))

theorem Sim.hOf (s : Sim K c) {a : Addr} (h : Owns c a) : c.H a ≠ none ∧ c.G a = none := by
  obtain ⟨n, o, hn, hm⟩ := h
  obtain ⟨b, u, hb, hg, hh, _⟩ := s.own n o hn
  rw [hm] at hb; cases hb
  exact ⟨by rw [hh]; simp, hg⟩
theorem Sim.gnone (s : Sim K c) {a : Addr} (h : c.H a = none) : c.G a = none := by
  cases q : c.G a with
  | none => rfl
  | some o => rcases s.sub a o q with z | ⟨_, z⟩ <;> (rw [h] at z; cases z)
theorem Sim.notOwn (s : Sim K c) {a : Addr} (h : c.H a = none) : ¬ Owns c a := fun o => (s.hOf o).1 h
theorem rd_mono {H H' : Hp} {a : Addr} {u : HO} (h : ∀ o, H a = some o → H' a = some o) (r : Rd H a u) : Rd H' a u := r.imp (h _) fun ⟨o, q⟩ => ⟨o, h _ q⟩

theorem ext_of {p : Addr} {u : HO} (G : Hp) (hp : G p = none) : ∀ a o, G a = some o → upd G p u a = some o := fun a o h => by
  rw [upd_ne (ne_of_none h hp)]; exact h

/-! ### what may happen to it -/
/-- a new thing that never changes -/
def C4.frz (c : C4) (p : Addr) (h : HO) : C4 := { c with G := upd c.G p h, H := upd c.H p h }
theorem frz_ext (s : Sim K c) {p : Addr} {h : HO} (hp : c.H p = none) : Ext c (c.frz p h) := by
  refine ⟨ext_of _ (s.gnone hp), fun _ _ q => q, Nat.le_refl _, fun a o q _ => ext_of _ hp a o q, fun a q => ?_, fun a q g _ => ?_, fun n o q => .inl ⟨o, q⟩⟩
  · show upd c.H p h a ≠ none
    by_cases e : a = p
    · rw [e, upd_same]; simp
    · rw [upd_ne e]; exact q
  · show upd c.G p h a = none
    rw [upd_ne (fun e => q (by rw [e]; exact hp))]; exact g
theorem frz_sim (s : Sim K c) {p : Addr} {h : HO} (hp : c.H p = none) : Sim K (c.frz p h) := by
  have e := frz_ext (h := h) s hp
  refine ⟨fun a o q => ?_, fun a xs q => ?_, s.low, fun n o q => ?_, s.nd, s.inj⟩
  · by_cases ea : a = p
    · subst ea
      have q' : upd c.G a h a = some o := q
      rw [upd_same] at q'; cases q'
      exact .inl upd_same
    · have q' : upd c.G p h a = some o := q
      rw [upd_ne ea] at q'
      refine rd_mono (fun o z => ?_) (s.sub a o q')
      show upd c.H p h a = some o
      rw [upd_ne ea]; exact z
  · by_cases ea : a = p
    · subst ea
      have q' : upd c.G a h a = some (.tup xs) := q
      rw [upd_same] at q'; cases q'
      exact upd_same
    · have q' : upd c.G p h a = some (.tup xs) := q
      rw [upd_ne ea] at q'
      show upd c.H p h a = some (.tup xs)
      rw [upd_ne ea]; exact s.tup a xs q'
  · obtain ⟨a, u, h1, h2, h3, h4⟩ := s.own n o q
    have ne : a ≠ p := ne_of_none h3 hp
    exact ⟨a, u, h1, (by show upd c.G p h a = none; rw [upd_ne ne]; exact h2), (by show upd c.H p h a = some u; rw [upd_ne ne]; exact h3), h4.mono e⟩

/-- a new thing that nobody names -/
def C4.side (c : C4) (p : Addr) (h : HO) : C4 := { c with H := upd c.H p h }
theorem side_ext {p : Addr} {h : HO} (hp : c.H p = none) : Ext c (c.side p h) := by
  refine ⟨fun _ _ q => q, fun _ _ q => q, Nat.le_refl _, fun a o q _ => ext_of _ hp a o q, fun a q => ?_, fun a q g _ => g, fun n o q => .inl ⟨o, q⟩⟩
  show upd c.H p h a ≠ none
  by_cases e : a = p
  · rw [e, upd_same]; simp
  · rw [upd_ne e]; exact q
theorem side_sim (s : Sim K c) {p : Addr} {h : HO} (hp : c.H p = none) : Sim K (c.side p h) := by
  refine ⟨fun a o q => rd_mono (ext_of _ hp a) (s.sub a o q), fun a xs q => ext_of _ hp a _ (s.tup a xs q), s.low, fun n o q => ?_, s.nd, s.inj⟩
  obtain ⟨a, u, h1, h2, h3, h4⟩ := s.own n o q
  exact ⟨a, u, h1, h2, ext_of _ hp a u h3, h4⟩

/-- a new numbered object -/
def C4.new (c : C4) (p : Addr) (o : O) (h : HO) : C4 := ⟨c.G, fun n => if n = c.s.nx then some p else c.m n, c.s.new o, upd c.H p h⟩
theorem new_ext (s : Sim K c) {p : Addr} {o : O} {h : HO} (hp : c.H p = none) : Ext c (c.new p o h) := by
  refine ⟨fun _ _ q => q, fun n a q => ?_, Nat.le_succ _, fun a o q _ => ext_of _ hp a o q, fun a q => ?_, fun a q g _ => g, fun n o q => ?_⟩
  · show (if n = c.s.nx then some p else c.m n) = some a
    rw [if_neg (Nat.ne_of_lt (s.low n a q))]; exact q
  · show upd c.H p h a ≠ none
    by_cases e : a = p
    · rw [e, upd_same]; simp
    · rw [upd_ne e]; exact q
  · rcases List.mem_cons.mp q with e | q
    · cases e
      exact .inr ⟨p, (by show (if c.s.nx = c.s.nx then some p else _) = some p; rw [if_pos rfl]), hp⟩
    · exact .inl ⟨o, q⟩
theorem new_sim (s : Sim K c) {p : Addr} {o : O} {h : HO} (hp : c.H p = none) (ho : RepO K c.G (c.new p o h).m o h) : Sim K (c.new p o h) := by
  have e := new_ext (o := o) (h := h) s hp
  have key : ∀ n o, (n, o) ∈ c.s.A → ∃ a u, c.m n = some a ∧ n ≠ c.s.nx ∧ a ≠ p ∧ c.G a = none ∧ c.H a = some u ∧ RepO K c.G c.m o u := fun n o q => by
    obtain ⟨a, u, h1, h2, h3, h4⟩ := s.own n o q
    exact ⟨a, u, h1, Nat.ne_of_lt (s.low n a h1), ne_of_none h3 hp, h2, h3, h4⟩
  have mp : (c.new p o h).m c.s.nx = some p := by show (if c.s.nx = c.s.nx then some p else _) = some p; rw [if_pos rfl]
  refine ⟨fun a u q => rd_mono (ext_of _ hp a) (s.sub a u q), fun a xs q => ext_of _ hp a _ (s.tup a xs q), fun n a q => ?_, fun n u q => ?_, ?_, fun n u n' u' a q q' hm hm' => ?_⟩
  · have q' : (if n = c.s.nx then some p else c.m n) = some a := q
    show n < c.s.nx + 1
    by_cases z : n = c.s.nx
    · omega
    · rw [if_neg z] at q'
      have := s.low n a q'
      omega
  · rcases List.mem_cons.mp q with z | q
    · cases z
      exact ⟨p, h, mp, s.gnone hp, upd_same, ho⟩
    · obtain ⟨a, w, h1, h2, h3, h4, h5, h6⟩ := key n u q
      exact ⟨a, w, e.m _ _ h1, h4, ext_of _ hp a w h5, h6.mono e⟩
  · show (c.s.nx :: c.s.A.map (·.1)).Nodup
    refine List.nodup_cons.mpr ⟨fun z => ?_, s.nd⟩
    obtain ⟨⟨n, u⟩, q, hz⟩ := List.mem_map.mp z
    obtain ⟨a, w, h1, h2, _⟩ := key n u q
    exact h2 hz
  · rcases List.mem_cons.mp q with z | q
    · cases z
      rcases List.mem_cons.mp q' with z | q'
      · cases z; rfl
      · obtain ⟨b, w, h1, h2, h3, h4, h5, h6⟩ := key n' u' q'
        have := e.m _ _ h1
        rw [hm'] at this; cases this
        rw [mp] at hm; cases hm
        exact absurd rfl h3
    · obtain ⟨b, w, h1, h2, h3, h4, h5, h6⟩ := key n u q
      have hb := e.m _ _ h1
      rw [hm] at hb; cases hb
      rcases List.mem_cons.mp q' with z | q'
      · cases z
        rw [mp] at hm'; cases hm'
        exact absurd rfl h3
      · obtain ⟨b', w', g1, g2, g3, g4, g5, g6⟩ := key n' u' q'
        have hb' := e.m _ _ g1
        rw [hm'] at hb'; cases hb'
        exact s.inj n u n' u' a q q' h1 g1

theorem mem_of_get {s : S} {n : Nat} {o : O} (h : s.get n = some o) : (n, o) ∈ s.A := by
  unfold S.get at h
  generalize s.A = A at h
  induction A with
  | nil => cases h
  | cons p r ih =>
    obtain ⟨k, u⟩ := p
    rw [List.lookup_cons] at h
    by_cases e : n == k
    · rw [e] at h
      have e' : n = k := by simpa using e
      cases h
      rw [e']; exact List.mem_cons_self
    · have e' : (n == k) = false := by simpa using e
      rw [e'] at h
      exact List.mem_cons_of_mem _ (ih h)
theorem putA_keys (n : Nat) (o : O) : ∀ A : List (Nat × O), (putA n o A).map (·.1) = A.map (·.1)
  | [] => rfl
  | (k, u) :: r => by
    unfold putA
    split
    · rfl
    · rw [List.map_cons, List.map_cons, putA_keys n o r]
theorem mem_putA {n k : Nat} {o u : O} : ∀ {A : List (Nat × O)}, (A.map (·.1)).Nodup → (k, u) ∈ putA n o A → (k = n ∧ u = o ∧ ∃ u', (k, u') ∈ A) ∨ (k ≠ n ∧ (k, u) ∈ A)
  | [], _, h => by cases h
  | (j, w) :: r, nd, h => by
    unfold putA at h
    have nd' := List.nodup_cons.mp nd
    split at h
    · rename_i e
      rcases List.mem_cons.mp h with z | z
      · cases z; exact .inl ⟨e, rfl, w, List.mem_cons_self⟩
      · refine .inr ⟨fun q => nd'.1 ?_, List.mem_cons_of_mem _ z⟩
        show j ∈ r.map (·.1)
        rw [e, ← q]; exact List.mem_map.mpr ⟨_, z, rfl⟩
    · rename_i e
      rcases List.mem_cons.mp h with z | z
      · cases z; exact .inr ⟨e, List.mem_cons_self⟩
      · rcases mem_putA nd'.2 z with ⟨a, b, u', c⟩ | ⟨a, b⟩
        · exact .inl ⟨a, b, u', List.mem_cons_of_mem _ c⟩
        · exact .inr ⟨a, List.mem_cons_of_mem _ b⟩
theorem mem_dropA {n k : Nat} {u : O} : ∀ {A : List (Nat × O)}, (A.map (·.1)).Nodup → (k, u) ∈ dropA n A → k ≠ n ∧ (k, u) ∈ A
  | [], _, h => by cases h
  | (j, w) :: r, nd, h => by
    unfold dropA at h
    have nd' := List.nodup_cons.mp nd
    split at h
    · rename_i e
      refine ⟨fun q => nd'.1 ?_, List.mem_cons_of_mem _ h⟩
      show j ∈ r.map (·.1)
      rw [e, ← q]; exact List.mem_map.mpr ⟨_, h, rfl⟩
    · rename_i e
      rcases List.mem_cons.mp h with z | z
      · cases z; exact ⟨e, List.mem_cons_self⟩
      · obtain ⟨a, b⟩ := mem_dropA nd'.2 z
        exact ⟨a, List.mem_cons_of_mem _ b⟩
theorem dropA_sub (n : Nat) : ∀ A : List (Nat × O), ((dropA n A).map (·.1)).Sublist (A.map (·.1))
  | [] => .slnil
  | (k, u) :: r => by
    unfold dropA
    split
    · exact List.sublist_cons_self _ _
    · exact (dropA_sub n r).cons₂ _

/-- a numbered object is written -/
def C4.wr (c : C4) (n : Nat) (o : O) (a : Addr) (h : HO) : C4 := ⟨c.G, c.m, c.s.put n o, upd c.H a h⟩
section
variable {n : Nat} {o : O} {a : Addr} {h u : HO}
theorem wr_ext (s : Sim K c) (hm : c.m n = some a) (hn : c.s.get n = some o) {o' : O} : Ext c (c.wr n o' a h) := by
  have hn := mem_of_get hn
  have own : Owns c a := ⟨n, o, hn, hm⟩
  refine ⟨fun _ _ q => q, fun _ _ q => q, Nat.le_refl _, fun b w q no => ?_, fun b q => ?_, fun _ _ g _ => g, fun k w q => ?_⟩
  · show upd c.H a h b = some w
    rw [upd_ne (fun e => no (by rw [e]; exact own))]; exact q
  · show upd c.H a h b ≠ none
    by_cases e : b = a
    · rw [e, upd_same]; simp
    · rw [upd_ne e]; exact q
  · rcases mem_putA s.nd q with ⟨_, _, z⟩ | ⟨_, z⟩
    · exact .inl z
    · exact .inl ⟨_, z⟩
theorem wr_sim (s : Sim K c) (hm : c.m n = some a) (hn : c.s.get n = some o) {o' : O} (ho : RepO K c.G c.m o' h) : Sim K (c.wr n o' a h) := by
  have hn := mem_of_get hn
  have own : Owns c a := ⟨n, o, hn, hm⟩
  refine ⟨fun b w q => ?_, fun b xs q => ?_, s.low, fun k w q => ?_, ?_, fun k w k' w' b q q' h1 h2 => ?_⟩
  · have ne : b ≠ a := fun e => by
      have q2 : c.G b = some w := q
      rw [e, (s.hOf own).2] at q2; cases q2
    exact rd_mono (fun o z => by show upd c.H a h b = some o; rw [upd_ne ne]; exact z) (s.sub b w q)
  · have ne : b ≠ a := fun e => by
      have q2 : c.G b = some (.tup xs) := q
      rw [e, (s.hOf own).2] at q2; cases q2
    show upd c.H a h b = some (.tup xs)
    rw [upd_ne ne]; exact s.tup b xs q
  · rcases mem_putA s.nd q with ⟨e1, e2, z⟩ | ⟨e1, z⟩
    · subst e1; subst e2
      exact ⟨a, h, hm, (s.hOf own).2, upd_same, ho⟩
    · obtain ⟨b, v, g1, g2, g3, g4⟩ := s.own k w z
      have ne : b ≠ a := fun e => e1 (s.inj k w n o a z hn (by rw [← e]; exact g1) hm)
      exact ⟨b, v, g1, g2, (by show upd c.H a h b = some v; rw [upd_ne ne]; exact g3), g4⟩
  · show ((putA n o' c.s.A).map (·.1)).Nodup
    rw [putA_keys]; exact s.nd
  · have back : ∀ k w, (k, w) ∈ putA n o' c.s.A → ∃ w', (k, w') ∈ c.s.A := fun k w q => by
      rcases mem_putA s.nd q with ⟨_, _, z⟩ | ⟨_, z⟩
      · exact z
      · exact ⟨_, z⟩
    obtain ⟨_, z⟩ := back k w q
    obtain ⟨_, z'⟩ := back k' w' q'
    exact s.inj _ _ _ _ _ z z' h1 h2

/-- a numbered object is frozen -/
def C4.fz (c : C4) (n : Nat) (a : Addr) (h : HO) : C4 := ⟨upd c.G a h, c.m, c.s.drop n, c.H⟩
theorem fz_ext (s : Sim K c) (hm : c.m n = some a) (hn : c.s.get n = some o) : Ext c (c.fz n a h) := by
  have hn := mem_of_get hn
  have own : Owns c a := ⟨n, o, hn, hm⟩
  refine ⟨ext_of _ (s.hOf own).2, fun _ _ q => q, Nat.le_refl _, fun _ _ q _ => q, fun _ q => q, fun b q g no => ?_, fun k w q => .inl ⟨w, (mem_dropA s.nd q).2⟩⟩
  show upd c.G a h b = none
  rw [upd_ne (fun e => no (by rw [e]; exact own))]; exact g
theorem fz_sim (s : Sim K c) (hm : c.m n = some a) (hn : c.s.get n = some o) (hh : c.H a = some h) : Sim K (c.fz n a h) := by
  have e := fz_ext (h := h) s hm hn
  have hn := mem_of_get hn
  have own : Owns c a := ⟨n, o, hn, hm⟩
  refine ⟨fun b w q => ?_, fun b xs q => ?_, s.low, fun k w q => ?_, ?_, fun k w k' w' b q q' h1 h2 => ?_⟩
  · by_cases eb : b = a
    · subst eb
      have q' : upd c.G b h b = some w := q
      rw [upd_same] at q'; cases q'
      exact .inl hh
    · have q' : upd c.G a h b = some w := q
      rw [upd_ne eb] at q'
      exact s.sub b w q'
  · by_cases eb : b = a
    · subst eb
      have q' : upd c.G b h b = some (.tup xs) := q
      rw [upd_same] at q'; cases q'
      exact hh
    · have q' : upd c.G a h b = some (.tup xs) := q
      rw [upd_ne eb] at q'
      exact s.tup b xs q'
  · obtain ⟨ne, z⟩ := mem_dropA s.nd q
    obtain ⟨b, v, g1, g2, g3, g4⟩ := s.own k w z
    have nb : b ≠ a := fun e => ne (s.inj k w n o a z hn (by rw [← e]; exact g1) hm)
    exact ⟨b, v, g1, (by show upd c.G a h b = none; rw [upd_ne nb]; exact g2), g3, g4.mono e⟩
  · exact s.nd.sublist (dropA_sub n c.s.A)
  · exact s.inj _ _ _ _ _ (mem_dropA s.nd q).2 (mem_dropA s.nd q').2 h1 h2
end
end

/-! ### what is wanted of an outcome -/
def Wants (K : PySem.W.Frag) {α : Type} (c : C4) (r : R α) (Φ : α → C4 → Prop) (Ψ : Exn → C4 → Prop) : Prop :=
  match r with
  | .bad => False
  | .ok a s => ∀ c', Ext c c' → Sim K c' → c'.s = s → Φ a c'
  | .exc e s => ∀ c', Ext c c' → Sim K c' → c'.s = s → Ψ e c'
section
variable {K : PySem.W.Frag} {α β : Type} {c : C4} {r : R α} {Φ Φ' : α → C4 → Prop} {Ψ Ψ' : Exn → C4 → Prop}
theorem Wants.mono (h : Wants K c r Φ Ψ) (f : ∀ a c', Ext c c' → Sim K c' → Φ a c' → Φ' a c') (g : ∀ e c', Ext c c' → Sim K c' → Ψ e c' → Ψ' e c') : Wants K c r Φ' Ψ' := by
  cases r with
  | bad => exact h
  | ok a s => exact fun c' e s' q => f a c' e s' (h c' e s' q)
  | exc a s => exact fun c' e s' q => g a c' e s' (h c' e s' q)
theorem Wants.bind {f : α → S → R β} {Φ : β → C4 → Prop} (s : Sim K c) (h : Wants K c (r.bind f) Φ Ψ) : Wants K c r (fun a c' => Wants K c' (f a c'.s) Φ Ψ) Ψ := by
  cases r with
  | bad => exact h
  | exc a s => exact h
  | ok a s2 =>
    intro c' e s' q
    subst q
    show Wants K c' (f a c'.s) Φ Ψ
    have h : Wants K c (f a c'.s) Φ Ψ := h
    generalize f a c'.s = w at h ⊢
    cases w with
    | bad => exact h
    | ok b s2 => exact fun c2 e2 s2 q => h c2 (e.trans s e2) s2 q
    | exc b s2 => exact fun c2 e2 s2 q => h c2 (e.trans s e2) s2 q
/-- the outcome at hand -/
theorem Wants.here {a : α} (s : Sim K c) (h : Wants K c (.ok a c.s) Φ Ψ) : Φ a c := h c (Ext.refl c) s rfl
theorem Wants.to {a : α} {c' : C4} {s : S} (h : Wants K c (.ok a s) Φ Ψ) (e : Ext c c') (s' : Sim K c') (q : c'.s = s) : Φ a c' := h c' e s' q
end

/-! ### judgements -/
def WN : WX := fun _ _ _ _ => False
def ExR (K : PySem.W.Frag) (c : C4) (e : Exn) (cls : Value) (d : Option Addr) : Prop :=
  cls = .ref e.C ∧ match e.fs with
    | none => d = none
    | some fs => ∃ a vs, d = some a ∧ c.H a = some (.xd vs) ∧ RepF K c.G c.m fs vs
def kE (K : PySem.W.Frag) (Q : VK) : D → C4 → Prop := fun d c => ∀ v, Rep K c.G c.m d v → Q v c.H
def kA (K : PySem.W.Frag) (Q : List V → Hp → Prop) : List D → C4 → Prop := fun d c => ∀ v, RepL K c.G c.m d v → Q v c.H
def kB (Q : Bool → Hp → Prop) : Bool → C4 → Prop := fun d c => Q d c.H
def kX (K : PySem.W.Frag) (W : WX) (σ : L2.St) : Exn → C4 → Prop := fun e c => ∀ cls d, ExR K c e cls d → W cls d σ c.H
def tX (K : PySem.W.Frag) (W : WX) (f : XF) : TE := fun σ H Q => ∃ c Γ, c.H = H ∧ Sim K c ∧ SlR K c Γ σ ∧ Wants K c (f Γ c.s) (kE K Q) (kX K W σ)
def tXA (K : PySem.W.Frag) (W : WX) (f : XA) : TA := fun σ H Q => ∃ c Γ, c.H = H ∧ Sim K c ∧ SlR K c Γ σ ∧ Wants K c (f Γ c.s) (kA K Q) (kX K W σ)
def tXB (K : PySem.W.Frag) (W : WX) (f : XB) : TT := fun σ H Q => ∃ c Γ, c.H = H ∧ Sim K c ∧ SlR K c Γ σ ∧ Wants K c (f Γ c.s) (kB Q) (kX K W σ)

/-- how a statement ends -/
inductive Fl where
  | nx (Γ : Sl) | rt (d : D) | bk (Γ : Sl) | ct (Γ : Sl) | ex (e : Exn) (Γ : Sl)
abbrev XS := Sl → S → R Fl
def kS (K : PySem.W.Frag) (W : WX) (D : Ends) : Fl → C4 → Prop
  | .nx Γ, c => ∀ σ, SlR K c Γ σ → D.nx σ c.H
  | .rt d, c => ∀ v, Rep K c.G c.m d v → D.rt v c.H
  | .bk Γ, c => ∀ σ, SlR K c Γ σ → D.bk σ c.H
  | .ct Γ, c => ∀ σ, SlR K c Γ σ → D.ct σ c.H
  | .ex e Γ, c => ∀ σ cls d, SlR K c Γ σ → ExR K c e cls d → W cls d σ c.H
def kF : Exn → C4 → Prop := fun _ _ => False
def tXS (K : PySem.W.Frag) (W : WX) (f : XS) : TS := fun D σ H => ∃ c Γ, c.H = H ∧ Sim K c ∧ SlR K c Γ σ ∧ Wants K c (f Γ c.s) (kS K W D) kF
end L3

set_option Elab.async false
set_option linter.all false
set_option maxRecDepth 100000
namespace L3
open PySem PySem.Spec PyProof.Rows L2

/-! ### rules of weakening -/
theorem _root_.L2.PE.weak {X : Cx} {e : Expr} {t t' : TE} (h : PE X e t) (w : ∀ σ H Q, t' σ H Q → t σ H Q) : PE X e t' := ⟨fun pins s σ H Q I q => h.run pins s σ H Q I (w _ _ _ q)⟩
theorem _root_.L2.PT.weak {X : Cx} {e : Expr} {t t' : TT} (h : PT X e t) (w : ∀ σ H Q, t' σ H Q → t σ H Q) : PT X e t' := ⟨fun pins s σ H Q I q => h.run pins s σ H Q I (w _ _ _ q)⟩
theorem _root_.L2.PW.weak {X : Cx} {e : Expr} {t t' : TT} (h : PW X e t) (w : ∀ σ H Q, t' σ H Q → t σ H Q) : PW X e t' := ⟨fun wh pins s σ H Q I q => h.run wh pins s σ H Q I (w _ _ _ q)⟩
theorem _root_.L2.PA.weak {X : Cx} {e : List Expr} {t t' : TA} (h : PA X e t) (w : ∀ σ H Q, t' σ H Q → t σ H Q) : PA X e t' := ⟨fun pos pins s σ H Q I q => h.run pos pins s σ H Q I (w _ _ _ q)⟩
theorem _root_.L2.PS.weak {X : Cx} {e : Stmt} {t t' : TS} (h : PS X e t) (w : ∀ D σ H, t' D σ H → t D σ H) : PS X e t' := ⟨fun pins s σ H D I q => h.run pins s σ H D I (w _ _ _ q)⟩
theorem _root_.L2.PSs.weak {X : Cx} {e : List Stmt} {t t' : TS} (h : PSs X e t) (w : ∀ D σ H, t' D σ H → t D σ H) : PSs X e t' := ⟨fun pins s σ H D I q => h.run pins s σ H D I (w _ _ _ q)⟩
theorem _root_.L2.OpR.weak {X : Cx} {f : Value → Value → Sem Value} {r r' : R2} (h : OpR X f r) (w : ∀ x y H Q, r' x y H Q → r x y H Q) : OpR X f r' := fun pins s σ H x y v u Q I rx ry q => h pins s σ H x y v u Q I rx ry (w _ _ _ _ q)

/-- judgements: the function tells what the syntax does -/
abbrev PX (X : Cx) (W : WX) (e : Expr) (f : XF) : Prop := PE X e (tX X.K W f)
abbrev PXA (X : Cx) (W : WX) (es : List Expr) (f : XA) : Prop := PA X es (tXA X.K W f)
abbrev PXT (X : Cx) (W : WX) (e : Expr) (f : XB) : Prop := PT X e (tXB X.K W f)
abbrev PXW (X : Cx) (W : WX) (e : Expr) (f : XB) : Prop := PW X e (tXB X.K W f)
abbrev PXS (X : Cx) (W : WX) (st : Stmt) (f : XS) : Prop := PS X st (tXS X.K W f)
abbrev PXSs (X : Cx) (W : WX) (st : List Stmt) (f : XS) : Prop := PSs X st (tXS X.K W f)

section
variable {K : PySem.W.Frag} {W : WX} {c : C4} {Γ : Sl} {σ : L2.St}

/-- at a state: f here -/
theorem tX.here {f : XF} {Q : VK} (s : Sim K c) (l : SlR K c Γ σ) (w : Wants K c (f Γ c.s) (kE K Q) (kX K W σ)) : tX K W f σ c.H Q := ⟨c, Γ, rfl, s, l, w⟩
theorem tXA.here {f : XA} {Q : List V → Hp → Prop} (s : Sim K c) (l : SlR K c Γ σ) (w : Wants K c (f Γ c.s) (kA K Q) (kX K W σ)) : tXA K W f σ c.H Q := ⟨c, Γ, rfl, s, l, w⟩
theorem tXB.here {f : XB} {Q : Bool → Hp → Prop} (s : Sim K c) (l : SlR K c Γ σ) (w : Wants K c (f Γ c.s) (kB Q) (kX K W σ)) : tXB K W f σ c.H Q := ⟨c, Γ, rfl, s, l, w⟩

theorem Wants.monoL {α : Type} {r : R α} {Φ Φ' : α → C4 → Prop} {Ψ : Exn → C4 → Prop} (h : Wants K c r Φ Ψ) (f : ∀ a c', Ext c c' → Sim K c' → Φ a c' → Φ' a c') : Wants K c r Φ' Ψ := h.mono f fun _ _ _ _ q => q

/-! ### names, constants -/
def xVar (i : Nat) : XF := fun Γ s => match Γ[i]? with
  | some (some d) => .ok d s
  | _ => .bad
def xC (d : D) : XF := fun _ s => .ok d s
theorem SlR.get : ∀ {Γ : Sl} {σ : L2.St} {i : Nat} {d : D}, SlR K c Γ σ → Γ[i]? = some (some d) → ∃ v, σ[i]? = some (some v) ∧ Rep K c.G c.m d v
  | [], _, _, _, _, e => by simp at e
  | none :: Γ, σ, 0, d, h, e => by simp at e
  | some d' :: Γ, σ, 0, d, h, e => by
    obtain ⟨v, r, q, w, t⟩ := h
    have e' : d' = d := by simpa using e
    subst e'
    exact ⟨v, by rw [q]; rfl, w⟩
  | none :: Γ, σ, i + 1, d, h, e => by
    obtain ⟨x, r, q, t⟩ := h
    obtain ⟨v, h1, h2⟩ := SlR.get (i := i) t (by simpa using e)
    exact ⟨v, by rw [q]; simpa using h1, h2⟩
  | some d' :: Γ, σ, i + 1, d, h, e => by
    obtain ⟨x, r, q, w, t⟩ := h
    obtain ⟨v, h1, h2⟩ := SlR.get (i := i) t (by simpa using e)
    exact ⟨v, by rw [q]; simpa using h1, h2⟩
theorem SlR.set {d : D} {v : V} (r : Rep K c.G c.m d v) : ∀ {Γ : Sl} {σ : L2.St} (i : Nat), SlR K c Γ σ → SlR K c (Γ.set i (some d)) (σ.set i (some v))
  | [], _, _, h => by
    have e : _ = [] := h
    rw [e]; rfl
  | none :: Γ, σ, 0, h => by
    obtain ⟨x, t, q, w⟩ := h
    rw [q]; exact ⟨v, t, rfl, r, w⟩
  | some d' :: Γ, σ, 0, h => by
    obtain ⟨x, t, q, w, z⟩ := h
    rw [q]; exact ⟨v, t, rfl, r, z⟩
  | none :: Γ, σ, i + 1, h => by
    obtain ⟨x, t, q, w⟩ := h
    rw [q]; exact ⟨x, _, rfl, SlR.set r i w⟩
  | some d' :: Γ, σ, i + 1, h => by
    obtain ⟨x, t, q, w, z⟩ := h
    rw [q]; exact ⟨x, _, rfl, w, SlR.set r i z⟩
theorem SlR.unset : ∀ {Γ : Sl} {σ : L2.St} (i : Nat), SlR K c Γ σ → SlR K c (Γ.set i none) (σ.set i none)
  | [], _, _, h => by
    have e : _ = [] := h
    rw [e]; rfl
  | none :: Γ, σ, 0, h => by
    obtain ⟨x, t, q, w⟩ := h
    rw [q]; exact ⟨_, t, rfl, w⟩
  | some d' :: Γ, σ, 0, h => by
    obtain ⟨x, t, q, w, z⟩ := h
    rw [q]; exact ⟨_, t, rfl, z⟩
  | none :: Γ, σ, i + 1, h => by
    obtain ⟨x, t, q, w⟩ := h
    rw [q]; exact ⟨x, _, rfl, SlR.unset i w⟩
  | some d' :: Γ, σ, i + 1, h => by
    obtain ⟨x, t, q, w, z⟩ := h
    rw [q]; exact ⟨x, _, rfl, w, SlR.unset i z⟩
/-- forgetting a slot's value -/
theorem SlR.forget : ∀ {Γ : Sl} {σ : L2.St} (i : Nat), SlR K c Γ σ → SlR K c (Γ.set i none) σ
  | [], _, _, h => h
  | none :: Γ, σ, 0, h => h
  | some d' :: Γ, σ, 0, h => by
    obtain ⟨x, t, q, w, z⟩ := h
    exact ⟨_, t, q, z⟩
  | none :: Γ, σ, i + 1, h => by
    obtain ⟨x, t, q, w⟩ := h
    exact ⟨x, _, q, SlR.forget i w⟩
  | some d' :: Γ, σ, i + 1, h => by
    obtain ⟨x, t, q, w, z⟩ := h
    exact ⟨x, _, q, w, SlR.forget i z⟩
theorem SlR.len : ∀ {Γ : Sl} {σ : L2.St}, SlR K c Γ σ → σ.length = Γ.length
  | [], _, h => by
    have e : _ = [] := h
    rw [e]; rfl
  | none :: Γ, σ, h => by
    obtain ⟨x, t, q, w⟩ := h
    rw [q, List.length_cons, List.length_cons, SlR.len w]
  | some d' :: Γ, σ, h => by
    obtain ⟨x, t, q, w, z⟩ := h
    rw [q, List.length_cons, List.length_cons, SlR.len z]
end

section
variable {X : Cx} {W : WX} {e a b : Expr} {pos : Pos}
theorem px_var (i : Nat) {x : Str} {pos : Pos} (hN : X.N[i]? = some x := by rfl) (hv : Vis X.env.scope x := by first | exact Or.inl rfl | exact Or.inr (Or.inl rfl) | exact Or.inr (Or.inr rfl)) (hd : (x == ("__debug__" : Str)) = false := by decide)
    (hcd : (x == ("__classdict__" : Str)) = false := by decide) : PX X W (.Name x pos) (xVar i) := by
  refine (pe_var (i := i) hN hv hd hcd).weak fun σ H Q h => ?_
  obtain ⟨c, Γ, rfl, s, l, w⟩ := h
  unfold xVar at w
  split at w
  · rename_i d e
    obtain ⟨v, h1, h2⟩ := l.get e
    exact ⟨v, h1, w.here s v h2⟩
  · exact w.elim
theorem px_of {d : D} {v : V} (h : PE X e (tC v)) (r : ∀ G m w, Rep X.K G m d w ↔ w = v) : PX X W e (xC d) := by
  refine h.weak fun σ H Q h => ?_
  obtain ⟨c, Γ, rfl, s, l, w⟩ := h
  exact w.here s v ((r _ _ _).mpr rfl)
theorem px_int {i : Int} {j} : PX X W (.Constant (.int i) j pos) (xC (.int i)) := px_of pe_int fun _ _ _ => by simp only [Rep]
theorem px_bl {i : Bool} {j} : PX X W (.Constant (.bool i) j pos) (xC (.bl i)) := px_of pe_bl fun _ _ _ => by simp only [Rep]
theorem px_non {j} : PX X W (.Constant .none j pos) (xC .non) := px_of pe_non fun _ _ _ => by simp only [Rep]
theorem px_str {x : Str} {j} : PX X W (.Constant (.str x) j pos) (xC (.str x)) := px_of pe_str fun _ _ _ => by simp only [Rep]
/-- a module's int, text, a class, a written tuple -/
theorem px_globI {x : Str} {i : Int} {t : Tok} (hg : Gl X x) (hm : X.mg x = some (.int i t)) (hd : (x == ("__debug__" : Str)) = false := by decide) : PX X W (.Name x pos) (xC (.int i)) := px_of (pe_glob (v := .int i) hg hm ⟨_, rfl⟩ hd) fun _ _ _ => by simp only [Rep]
theorem px_globS {x y : Str} {t : Tok} (hg : Gl X x) (hm : X.mg x = some (.str y t)) (hd : (x == ("__debug__" : Str)) = false := by decide) : PX X W (.Name x pos) (xC (.str y)) := px_of (pe_glob (v := .str y) hg hm ⟨_, rfl⟩ hd) fun _ _ _ => by simp only [Rep]
theorem px_globR {x : Str} {a : Addr} (hg : Gl X x) (hm : X.mg x = some (.ref a)) (hd : (x == ("__debug__" : Str)) = false := by decide) : PX X W (.Name x pos) (xC (.raw a)) := px_of (pe_glob (v := .ref a) hg hm rfl hd) fun _ _ _ => by simp only [Rep]
theorem px_bltT {x : Str} {n : String} (hg : Gl X x) (hm : X.mg x = none) (hv : bootBuiltins x = some (.type n)) (hn : x ≠ "__name__" := by decide) (hd : (x == ("__debug__" : Str)) = false := by decide) : PX X W (.Name x pos) (xC (.ty n)) :=
  px_of (pe_bltn (v := .ty n) hg hm hv rfl hn hd) fun _ _ _ => by simp only [Rep]

/-! ### two-place operations -/
/-- by values: r is served where op succeeds -/
def OpS (K : PySem.W.Frag) (r : R2) (op : D → D → S → R D) : Prop :=
  ∀ (c : C4) (x y : D) (v u : V) (Q : VK) (Ψ : Exn → C4 → Prop), Sim K c → Rep K c.G c.m x v → Rep K c.G c.m y u → Wants K c (op x y c.s) (kE K Q) Ψ → r v u c.H Q
def xBin (op : D → D → S → R D) (f g : XF) : XF := fun Γ s => (f Γ s).bind fun x s => (g Γ s).bind fun y s => op x y s
theorem t_bin {K : PySem.W.Frag} {r : R2} {op : D → D → S → R D} (ho : OpS K r op) {f g : XF} {σ : L2.St} {H : Hp} {Q : VK} (h : tX K W (xBin op f g) σ H Q) : tOp r (tX K W f) (tX K W g) σ H Q := by
  obtain ⟨c, Γ, rfl, s, l, w⟩ := h
  refine tX.here s l ((w.bind s).monoL fun x c1 e1 s1 w1 v rv => ?_)
  refine tX.here s1 (l.mono e1) ((w1.bind s1).monoL fun y c2 e2 s2 w2 u ru => ?_)
  exact ho c2 x y v u Q _ s2 (rv.mono e2) ru w2
theorem px_op {op : Operator} {r : R2} {o : D → D → S → R D} {f g : XF} (hr : OpR X (binaryOp op) r) (ho : OpS X.K r o) (ha : PX X W a f) (hb : PX X W b g) : PX X W (.BinOp a op b pos) (xBin o f g) :=
  (pe_op hr ha hb).weak fun _ _ _ h => t_bin ho h
theorem px_cmp {op : CmpOp} {r : R2} {o : D → D → S → R D} {f g : XF} (hr : OpR X (compareOp op) r) (ho : OpS X.K r o) (ha : PX X W a f) (hb : PX X W b g) (hm : behindInMarks op b = false) : PX X W (.Compare a [op] [b] pos) (xBin o f g) :=
  (pe_cmpR hr ha hb hm).weak fun _ _ _ h => t_bin ho h

theorem OpS.or {K : PySem.W.Frag} {r r' : R2} {o o' : D → D → S → R D} (h : OpS K r o) (h' : OpS K r' o') {p : D → D → Bool} : OpS K (fun x y H Q => r x y H Q ∨ r' x y H Q) (fun x y s => if p x y = true then o x y s else o' x y s) := by
  intro c x y v u Q Ψ s rx ry w
  cases e : p x y with
  | true => exact .inl (h c x y v u Q Ψ s rx ry (by dsimp only at w; rw [e, if_pos rfl] at w; exact w))
  | false => exact .inr (h' c x y v u Q Ψ s rx ry (by dsimp only at w; rw [e, if_neg Bool.false_ne_true] at w; exact w))

/-! ints -/
def oI (f : Int → Int → Int) (C : Int → Int → Bool) : D → D → S → R D
  | .int i, .int j, s => if C i j = true then .ok (.int (f i j)) s else .bad
  | _, _, _ => .bad
def oIB (f : Int → Int → Bool) : D → D → S → R D
  | .int i, .int j, s => .ok (.bl (f i j)) s
  | _, _, _ => .bad
theorem rep_int {K : PySem.W.Frag} {G : Hp} {m : Mp} {i : Int} {v : V} : Rep K G m (.int i) v ↔ v = .int i := by simp only [Rep]
theorem rep_bl {K : PySem.W.Frag} {G : Hp} {m : Mp} {i : Bool} {v : V} : Rep K G m (.bl i) v ↔ v = .bl i := by simp only [Rep]
theorem rep_str {K : PySem.W.Frag} {G : Hp} {m : Mp} {i : Str} {v : V} : Rep K G m (.str i) v ↔ v = .str i := by simp only [Rep]
theorem rep_non {K : PySem.W.Frag} {G : Hp} {m : Mp} {v : V} : Rep K G m .non v ↔ v = .non := by simp only [Rep]
theorem oI_ok {K : PySem.W.Frag} {f : Int → Int → Int} {C : Int → Int → Bool} {C' : Int → Int → Prop} (hC : ∀ i j, C i j = true → C' i j) : OpS K (rI C' fun i j => .int (f i j)) (oI f C) := by
  intro c x y v u Q Ψ s rx ry w
  unfold oI at w
  split at w
  · rw [rep_int] at rx ry
    split at w
    · rename_i h
      exact ⟨_, _, rx, ry, hC _ _ h, w.here s _ (rep_int.mpr rfl)⟩
    · exact w.elim
  · exact w.elim
theorem oI0_ok {K : PySem.W.Frag} {f : Int → Int → Int} : OpS K (rI0 fun i j => .int (f i j)) (oI f fun _ _ => true) := by
  intro c x y v u Q Ψ s rx ry w
  unfold oI at w
  split at w
  · rw [rep_int] at rx ry
    rw [if_pos rfl] at w
    exact ⟨_, _, rx, ry, w.here s _ (rep_int.mpr rfl)⟩
  · exact w.elim
theorem oIB_ok {K : PySem.W.Frag} {f : Int → Int → Bool} : OpS K (rI0 fun i j => .bl (f i j)) (oIB f) := by
  intro c x y v u Q Ψ s rx ry w
  unfold oIB at w
  split at w
  · rw [rep_int] at rx ry
    exact ⟨_, _, rx, ry, w.here s _ (rep_bl.mpr rfl)⟩
  · exact w.elim
end

/-! ### sequences -/
section
variable {K : PySem.W.Frag} {G : Hp} {m : Mp} {c : C4}
theorem RepL.len : ∀ {ds : List D} {vs : List V}, RepL K G m ds vs → vs.length = ds.length
  | [], vs, h => by simp only [RepL] at h; rw [h]; rfl
  | d :: ds, vs, h => by
    simp only [RepL] at h
    obtain ⟨v, r, e, _, t⟩ := h
    rw [e, List.length_cons, List.length_cons, RepL.len t]
theorem RepL.get : ∀ {ds : List D} {vs : List V} {i : Nat} {d : D}, RepL K G m ds vs → ds[i]? = some d → ∃ v, vs[i]? = some v ∧ Rep K G m d v
  | [], _, _, _, _, e => by simp at e
  | d :: ds, vs, 0, d', h, e => by
    simp only [RepL] at h
    obtain ⟨v, r, q, w, t⟩ := h
    have e' : d = d' := by simpa using e
    subst e'
    exact ⟨v, by rw [q]; rfl, w⟩
  | d :: ds, vs, i + 1, d', h, e => by
    simp only [RepL] at h
    obtain ⟨v, r, q, w, t⟩ := h
    obtain ⟨v', h1, h2⟩ := RepL.get (i := i) t (by simpa using e)
    exact ⟨v', by rw [q]; simpa using h1, h2⟩
theorem RepL.app : ∀ {ds es : List D} {vs us : List V}, RepL K G m ds vs → RepL K G m es us → RepL K G m (ds ++ es) (vs ++ us)
  | [], _, vs, _, h, k => by simp only [RepL] at h; rw [h]; exact k
  | d :: ds, es, vs, us, h, k => by
    simp only [RepL] at h
    obtain ⟨v, r, q, w, t⟩ := h
    rw [q, List.cons_append, List.cons_append]
    simp only [RepL]
    exact ⟨v, _, rfl, w, RepL.app t k⟩
theorem RepL.take : ∀ {ds : List D} {vs : List V} (n : Nat), RepL K G m ds vs → RepL K G m (ds.take n) (vs.take n)
  | [], vs, n, h => by simp only [RepL] at h; rw [h]; simp [RepL]
  | d :: ds, vs, 0, h => by simp [RepL]
  | d :: ds, vs, n + 1, h => by
    simp only [RepL] at h
    obtain ⟨v, r, q, w, t⟩ := h
    rw [q, List.take_succ_cons, List.take_succ_cons]
    simp only [RepL]
    exact ⟨v, _, rfl, w, RepL.take n t⟩
theorem RepL.drop : ∀ {ds : List D} {vs : List V} (n : Nat), RepL K G m ds vs → RepL K G m (ds.drop n) (vs.drop n)
  | [], vs, n, h => by simp only [RepL] at h; rw [h]; simp [RepL]
  | d :: ds, vs, 0, h => h
  | d :: ds, vs, n + 1, h => by
    simp only [RepL] at h
    obtain ⟨v, r, q, w, t⟩ := h
    rw [q, List.drop_succ_cons, List.drop_succ_cons]
    exact RepL.drop n t
theorem RepL.set {d : D} {v : V} (r : Rep K G m d v) : ∀ {ds : List D} {vs : List V} (i : Nat), RepL K G m ds vs → RepL K G m (ds.set i d) (vs.set i v)
  | [], vs, n, h => by simp only [RepL] at h; rw [h]; simp [RepL]
  | d' :: ds, vs, 0, h => by
    simp only [RepL] at h
    obtain ⟨v', r', q, w, t⟩ := h
    rw [q]
    simp only [RepL, List.set_cons_zero]
    exact ⟨v, _, rfl, r, t⟩
  | d' :: ds, vs, n + 1, h => by
    simp only [RepL] at h
    obtain ⟨v', r', q, w, t⟩ := h
    rw [q]
    simp only [RepL, List.set_cons_succ]
    exact ⟨v', _, rfl, w, RepL.set r n t⟩
theorem RepL.one {d : D} {v : V} (r : Rep K G m d v) : RepL K G m [d] [v] := by
  simp only [RepL]
  exact ⟨v, [], rfl, r, rfl⟩
theorem RepL.nil : RepL K G m [] [] := by simp only [RepL]
theorem RepL.cons {d : D} {v : V} {ds : List D} {vs : List V} (r : Rep K G m d v) (h : RepL K G m ds vs) : RepL K G m (d :: ds) (v :: vs) := by
  simp only [RepL]
  exact ⟨v, vs, rfl, r, h⟩
theorem RepL.uncons {d : D} {ds : List D} {vs : List V} (h : RepL K G m (d :: ds) vs) : ∃ v r, vs = v :: r ∧ Rep K G m d v ∧ RepL K G m ds r := by
  simpa only [RepL] using h
theorem RepL.ints : ∀ {ns : List Int} {vs : List V}, RepL K G m (ns.map D.int) vs → vs = ns.map V.int
  | [], vs, h => by simpa [RepL] using h
  | n :: ns, vs, h => by
    obtain ⟨v, r, q, w, t⟩ := RepL.uncons h
    rw [q, List.map_cons, RepL.ints t, rep_int.mp w]
theorem RepL.strs : ∀ {ns : List Str} {vs : List V}, RepL K G m (ns.map D.str) vs ↔ vs = ns.map V.str
  | [], vs => by simp [RepL]
  | n :: ns, vs => by
    constructor
    · intro h
      obtain ⟨v, r, q, w, t⟩ := RepL.uncons h
      rw [q, List.map_cons, RepL.strs.mp t, rep_str.mp w]
    · intro h
      rw [h]
      exact RepL.cons (rep_str.mpr rfl) (RepL.strs.mpr rfl)
theorem RepL.bls : ∀ {ns : List Bool} {vs : List V}, RepL K G m (ns.map D.bl) vs → vs = ns.map V.bl
  | [], vs, h => by simpa [RepL] using h
  | n :: ns, vs, h => by
    obtain ⟨v, r, q, w, t⟩ := RepL.uncons h
    rw [q, List.map_cons, RepL.bls t, rep_bl.mp w]

theorem GqL.rd {a : Addr} {xs : List V} (s : Sim K c) (h : GqL K c.G a xs) : Rd c.H a (.lst xs) := s.sub _ _ h
theorem GqT.at {a : Addr} {xs : List V} (s : Sim K c) (h : GqT K c.G a xs) : SqT K c.H a xs := .inl (s.sub _ _ h)
/-- a numbered object at its place -/
theorem Sim.at {n : Nat} {o : O} {v : V} (s : Sim K c) (h : c.s.get n = some o) (r : Rep K c.G c.m (.ref n) v) : ∃ a u, v = .ref a ∧ c.m n = some a ∧ c.G a = none ∧ c.H a = some u ∧ RepO K c.G c.m o u := by
  simp only [Rep] at r
  obtain ⟨a, e, rfl⟩ := r
  obtain ⟨b, u, h1, h2, h3, h4⟩ := s.own n o (mem_of_get h)
  rw [e] at h1; cases h1
  exact ⟨a, u, rfl, e, h2, h3, h4⟩
def lstOf (d : D) (s : S) : Option (List D) := match d with
  | .lst ds => some ds
  | .ref n => match s.get n with
    | some (.lst ds) => some ds
    | _ => none
  | _ => none
theorem lst_rd {d : D} {v : V} {ds : List D} (s : Sim K c) (h : lstOf d c.s = some ds) (r : Rep K c.G c.m d v) : ∃ p vs, v = .ref p ∧ Rd c.H p (.lst vs) ∧ RepL K c.G c.m ds vs := by
  unfold lstOf at h
  split at h
  · cases h
    simp only [Rep] at r
    obtain ⟨p, vs, e, q, t⟩ := r
    exact ⟨p, vs, e, q.rd s, t⟩
  · split at h
    · rename_i e
      cases h
      obtain ⟨a, u, h1, h2, h3, h4, h5⟩ := s.at e r
      obtain ⟨vs, rfl, t⟩ := h5
      exact ⟨a, vs, h1, .inl h4, t⟩
    · cases h
  · cases h
theorem lst_at {d : D} {v : V} {ds : List D} (s : Sim K c) (h : lstOf d c.s = some ds) (r : Rep K c.G c.m d v) : ∃ p vs, v = .ref p ∧ SqL K c.H p vs ∧ RepL K c.G c.m ds vs := by
  obtain ⟨p, vs, e, q, t⟩ := lst_rd s h r
  exact ⟨p, vs, e, .inl q, t⟩
theorem tup_at {v : V} {ds : List D} (s : Sim K c) (r : Rep K c.G c.m (.tup ds) v) : ∃ p vs, v = .ref p ∧ SqT K c.H p vs ∧ RepL K c.G c.m ds vs := by
  simp only [Rep] at r
  obtain ⟨p, vs, e, q, t⟩ := r
  exact ⟨p, vs, e, q.at s, t⟩

/-! ### new lists, tuples -/
def newL (own : Bool) (ds : List D) (s : S) : R D := if own = true then .ok (.ref s.nx) (s.new (.lst ds)) else .ok (.lst ds) s
def newT (ds : List D) (s : S) : R D := .ok (.tup ds) s
theorem new_list {own : Bool} {ds : List D} {vs : List V} {Q : VK} {Ψ : Exn → C4 → Prop} (s : Sim K c) (w : Wants K c (newL own ds c.s) (kE K Q) Ψ) (r : RepL K c.G c.m ds vs) : ∀ l, c.H l = none → Q (.ref l) (upd c.H l (.lst vs)) := by
  intro l hl
  unfold newL at w
  cases own with
  | true =>
    rw [if_pos rfl] at w
    have e := new_ext (o := .lst ds) (h := .lst vs) s hl
    refine w.to e (new_sim s hl ⟨vs, rfl, RepL.mono0 e.g e.m _ _ r⟩) rfl _ ?_
    simp only [Rep]
    exact ⟨l, by show (if c.s.nx = c.s.nx then some l else _) = some l; rw [if_pos rfl], rfl⟩
  | false =>
    rw [if_neg Bool.false_ne_true] at w
    have e := frz_ext (h := .lst vs) s hl
    refine w.to e (frz_sim s hl) rfl _ ?_
    simp only [Rep]
    exact ⟨l, vs, rfl, upd_same, r.mono e⟩
theorem new_tup {ds : List D} {vs : List V} {Q : VK} {Ψ : Exn → C4 → Prop} (s : Sim K c) (w : Wants K c (newT ds c.s) (kE K Q) Ψ) (r : RepL K c.G c.m ds vs) : ∀ l, c.H l = none → Q (.ref l) (upd c.H l (.tup vs)) := by
  intro l hl
  have e := frz_ext (h := .tup vs) s hl
  refine w.to e (frz_sim s hl) rfl _ ?_
  simp only [Rep]
  exact ⟨l, vs, rfl, upd_same, r.mono e⟩

/-! ### data for == -/
def mapO {α β : Type} (f : α → Option β) : List α → Option (List β)
  | [] => some []
  | a :: r => match f a, mapO f r with
    | some b, some bs => some (b :: bs)
    | _, _ => none
def toP : Nat → D → S → Option PyData
  | _, .non, _ => some .none
  | _, .bl b, _ => some (.bool b)
  | _, .int i, _ => some (.int i)
  | _, .str x, _ => if PyData.strOk x = true then some (.str x) else none
  | n + 1, .tup ds, s => (mapO (fun d => toP n d s) ds).map .tuple
  | n + 1, .lst ds, s => (mapO (fun d => toP n d s) ds).map .list
  | n + 1, .ref k, s => match s.get k with
    | some (.lst ds) => (mapO (fun d => toP n d s) ds).map .list
    | _ => none
  | _, _, _ => none
theorem depthAll_le {n : Nat} : ∀ {ps : List PyData}, (∀ p ∈ ps, PyData.depth p ≤ n) → PyData.depthAll ps ≤ n
  | [], _ => by unfold PyData.depthAll; omega
  | p :: ps, h => by
    unfold PyData.depthAll
    have h1 := h p List.mem_cons_self
    have h2 := depthAll_le fun q hq => h q (List.mem_cons_of_mem _ hq)
    omega
theorem lay_all : ∀ {ps : List PyData}, (∀ p ∈ ps, p.canLay0 = true) → PyData.canLayAll0 ps = true
  | [], _ => by unfold PyData.canLayAll0; rfl
  | p :: ps, h => by
    unfold PyData.canLayAll0
    rw [h p List.mem_cons_self, lay_all fun q hq => h q (List.mem_cons_of_mem _ hq)]
    rfl
theorem toP_all {n : Nat} {f : D → Option PyData} (ih : ∀ d p v, f d = some p → Rep K c.G c.m d v → Dp K c.H v p ∧ p.canLay0 = true ∧ p.depth ≤ n) :
    ∀ {ds : List D} {ps : List PyData} {vs : List V}, mapO f ds = some ps → RepL K c.G c.m ds vs → DpAll K c.H vs ps ∧ (∀ p ∈ ps, p.canLay0 = true) ∧ ∀ p ∈ ps, p.depth ≤ n
  | [], ps, vs, h, r => by
    unfold mapO at h
    cases h
    simp only [RepL] at r
    rw [r]
    exact ⟨.nil, by simp, by simp⟩
  | d :: ds, ps, vs, h, r => by
    unfold mapO at h
    split at h
    · rename_i b bs h1 h2
      cases h
      obtain ⟨v, t, q, w, z⟩ := RepL.uncons r
      obtain ⟨a1, a2, a3⟩ := ih d b v h1 w
      obtain ⟨b1, b2, b3⟩ := toP_all ih h2 z
      rw [q]
      refine ⟨.cons a1 b1, fun p hp => ?_, fun p hp => ?_⟩
      · rcases List.mem_cons.mp hp with e | hp
        · rw [e]; exact a2
        · exact b2 p hp
      · rcases List.mem_cons.mp hp with e | hp
        · rw [e]; exact a3
        · exact b3 p hp
    · cases h
theorem toP_ok (s : Sim K c) : ∀ (n : Nat) (d : D) (p : PyData) (v : V), toP n d c.s = some p → Rep K c.G c.m d v → Dp K c.H v p ∧ p.canLay0 = true ∧ p.depth ≤ n := by
  intro n
  induction n with
  | zero =>
    intro d p v h r
    cases d with
    | non => simp only [toP, Option.some.injEq] at h; subst h; simp only [Rep] at r; subst r; exact ⟨.non, by unfold PyData.canLay0; rfl, by unfold PyData.depth; omega⟩
    | bl b => simp only [toP, Option.some.injEq] at h; subst h; simp only [Rep] at r; subst r; exact ⟨.bl _, by unfold PyData.canLay0; rfl, by unfold PyData.depth; omega⟩
    | int i => simp only [toP, Option.some.injEq] at h; subst h; simp only [Rep] at r; subst r; exact ⟨.int _, by unfold PyData.canLay0; rfl, by unfold PyData.depth; omega⟩
    | str x =>
      simp only [toP, Option.ite_none_right_eq_some, Option.some.injEq] at h
      obtain ⟨h, rfl⟩ := h
      simp only [Rep] at r; subst r; exact ⟨.str _, by unfold PyData.canLay0; exact h, by unfold PyData.depth; omega⟩
    | _ => simp only [toP, reduceCtorEq] at h
  | succ n ih =>
    intro d p v h r
    cases d with
    | non => simp only [toP, Option.some.injEq] at h; subst h; simp only [Rep] at r; subst r; exact ⟨.non, by unfold PyData.canLay0; rfl, by unfold PyData.depth; omega⟩
    | bl b => simp only [toP, Option.some.injEq] at h; subst h; simp only [Rep] at r; subst r; exact ⟨.bl _, by unfold PyData.canLay0; rfl, by unfold PyData.depth; omega⟩
    | int i => simp only [toP, Option.some.injEq] at h; subst h; simp only [Rep] at r; subst r; exact ⟨.int _, by unfold PyData.canLay0; rfl, by unfold PyData.depth; omega⟩
    | str x =>
      simp only [toP, Option.ite_none_right_eq_some, Option.some.injEq] at h
      obtain ⟨h, rfl⟩ := h
      simp only [Rep] at r; subst r; exact ⟨.str _, by unfold PyData.canLay0; exact h, by unfold PyData.depth; omega⟩
    | ty n => simp only [toP, reduceCtorEq] at h
    | raw n => simp only [toP, reduceCtorEq] at h
    | dK n => simp only [toP, reduceCtorEq] at h
    | dT n => simp only [toP, reduceCtorEq] at h
    | tup ds =>
      simp only [toP, Option.map_eq_some_iff] at h
      obtain ⟨ps, h, rfl⟩ := h
      obtain ⟨a, vs, rfl, h1, h2⟩ := tup_at s r
      obtain ⟨b1, b2, b3⟩ := toP_all ih h h2
      exact ⟨.tup h1 b1, by unfold PyData.canLay0; exact lay_all b2, by unfold PyData.depth; have := depthAll_le b3; omega⟩
    | lst ds =>
      simp only [toP, Option.map_eq_some_iff] at h
      obtain ⟨ps, h, rfl⟩ := h
      obtain ⟨a, vs, rfl, h1, h2⟩ := lst_at (d := .lst ds) s rfl r
      obtain ⟨b1, b2, b3⟩ := toP_all ih h h2
      exact ⟨.lst h1 b1, by unfold PyData.canLay0; exact lay_all b2, by unfold PyData.depth; have := depthAll_le b3; omega⟩
    | ref k =>
      simp only [toP] at h
      split at h
      · rename_i ds e
        simp only [Option.map_eq_some_iff] at h
        obtain ⟨ps, h, rfl⟩ := h
        obtain ⟨a, vs, rfl, h1, h2⟩ := lst_at (d := .ref k) (ds := ds) s (by unfold lstOf; simp only [e]) r
        obtain ⟨b1, b2, b3⟩ := toP_all ih h h2
        exact ⟨.lst h1 b1, by unfold PyData.canLay0; exact lay_all b2, by unfold PyData.depth; have := depthAll_le b3; omega⟩
      · cases h
theorem shaped_of {p : PyData} {n : Nat} (h1 : p.canLay0 = true) (h2 : p.depth ≤ n) (hn : n ≤ 64) : SeqAt.shaped p = true := by
  unfold SeqAt.shaped
  rw [h1, decide_eq_true (Nat.le_trans h2 hn)]
  rfl
def oEqD (neg : Bool) (x y : D) (s : S) : R D := match toP 12 x s, toP 12 y s with
  | some a, some b => .ok (.bl (if neg = true then !PyData.eqv a b else PyData.eqv a b)) s
  | _, _ => .bad
theorem oEqD_ok : OpS K (rEqD K) (oEqD false) := by
  intro c x y v u Q Ψ s rx ry w
  unfold oEqD at w
  split at w
  · rename_i a b h1 h2
    obtain ⟨a1, a2, a3⟩ := toP_ok s 12 x a v h1 rx
    obtain ⟨b1, b2, b3⟩ := toP_ok s 12 y b u h2 ry
    exact ⟨a, b, a1, b1, shaped_of a2 a3 (by decide), shaped_of b2 b3 (by decide), w.here s _ (rep_bl.mpr rfl)⟩
  · exact w.elim
theorem oNeD_ok : OpS K (rNeD K) (oEqD true) := by
  intro c x y v u Q Ψ s rx ry w
  unfold oEqD at w
  split at w
  · rename_i a b h1 h2
    obtain ⟨a1, a2, a3⟩ := toP_ok s 12 x a v h1 rx
    obtain ⟨b1, b2, b3⟩ := toP_ok s 12 y b u h2 ry
    exact ⟨a, b, a1, b1, shaped_of a2 a3 (by decide), shaped_of b2 b3 (by decide), w.here s _ (rep_bl.mpr rfl)⟩
  · exact w.elim
def oEqS (neg : Bool) (x y : D) (s : S) : R D := match x, y with
  | .str a, .str b => .ok (.bl (if neg = true then !decide (a = b) else decide (a = b))) s
  | _, _ => .bad
theorem dec_strV {a b : Str} : decide (V.str a = V.str b) = decide (a = b) := by
  by_cases e : a = b
  · subst e; simp
  · rw [decide_eq_false e, decide_eq_false fun q => e (V.str.inj q)]
theorem oEqS_ok : OpS K rEq (oEqS false) := by
  intro c x y v u Q Ψ s rx ry w
  unfold oEqS at w
  split at w
  · rw [rep_str] at rx ry
    subst rx; subst ry
    refine ⟨rfl, ?_⟩
    rw [dec_strV]
    exact w.here s _ (rep_bl.mpr rfl)
  · exact w.elim
theorem oNeS_ok : OpS K rNe (oEqS true) := by
  intro c x y v u Q Ψ s rx ry w
  unfold oEqS at w
  split at w
  · rw [rep_str] at rx ry
    subst rx; subst ry
    refine ⟨rfl, ?_⟩
    rw [dec_strV]
    exact w.here s _ (rep_bl.mpr rfl)
  · exact w.elim
def isS2 : D → D → Bool
  | .str _, .str _ => true
  | _, _ => false
def oEq (neg : Bool) (x y : D) (s : S) : R D := if isS2 x y = true then oEqS neg x y s else oEqD neg x y s
end
section
variable {X : Cx} {W : WX} {a b : Expr} {pos : Pos} {f g : XF}
theorem px_eq (hu : X.A.units + 64 < cLine) (ha : PX X W a f) (hb : PX X W b g) : PX X W (.Compare a [.Eq] [b] pos) (xBin (oEq false) f g) :=
  px_cmp (op_eq.or (op_eqD hu)) (oEqS_ok.or oEqD_ok) ha hb (nomark _)
theorem px_ne (hu : X.A.units + 64 < cLine) (ha : PX X W a f) (hb : PX X W b g) : PX X W (.Compare a [.NotEq] [b] pos) (xBin (oEq true) f g) :=
  px_cmp (op_ne.or (op_neD hu)) (oNeS_ok.or oNeD_ok) ha hb (nomark _)
theorem px_lt (ha : PX X W a f) (hb : PX X W b g) : PX X W (.Compare a [.Lt] [b] pos) (xBin (oIB fun i j => decide (i < j)) f g) := px_cmp op_lt oIB_ok ha hb (nomark _)
theorem px_le (ha : PX X W a f) (hb : PX X W b g) : PX X W (.Compare a [.LtE] [b] pos) (xBin (oIB fun i j => decide (i ≤ j)) f g) := px_cmp op_le oIB_ok ha hb (nomark _)
theorem px_gt (ha : PX X W a f) (hb : PX X W b g) : PX X W (.Compare a [.Gt] [b] pos) (xBin (oIB fun i j => decide (j < i)) f g) := px_cmp op_gt oIB_ok ha hb (nomark _)
theorem px_ge (ha : PX X W a f) (hb : PX X W b g) : PX X W (.Compare a [.GtE] [b] pos) (xBin (oIB fun i j => decide (j ≤ i)) f g) := px_cmp op_ge oIB_ok ha hb (nomark _)
end
end L3

set_option Elab.async false
set_option linter.all false
set_option maxRecDepth 100000
namespace L3
open PySem PySem.Spec PyProof.Rows L2

theorem _root_.L2.PE.or {X : Cx} {e : Expr} {t t' : TE} (h : PE X e t) (h' : PE X e t') : PE X e (fun σ H Q => t σ H Q ∨ t' σ H Q) :=
  ⟨fun pins s σ H Q I q => q.elim (h.run pins s σ H Q I) (h'.run pins s σ H Q I)⟩

abbrev LIM : Nat := 1000000
theorem lim_le {n : Nat} (h : n ≤ LIM) : n ≤ sizeLine := Nat.le_trans h (by decide)
theorem lim_lt {n : Nat} (h : n < LIM) : n < sizeLine := Nat.lt_of_lt_of_le h (by decide)

/-! ### arithmetic -/
section
variable {K : PySem.W.Frag} {c : C4}
/-- a number of at most 512 bits -/
def sm (i : Int) : Bool := decide (i.natAbs < 2 ^ 512)
def gMul (i j : Int) : Bool := sm i && sm j
def gDiv (_ j : Int) : Bool := decide (0 < j) && sm j
def gMod (_ j : Int) : Bool := decide (0 < j)
def gPow (i j : Int) : Bool := decide (0 ≤ j) && decide (j ≤ 64) && sm i
theorem sm_log {i : Int} (h : sm i = true) : i.natAbs.log2 < 512 := PySem.Flt.log2_lt_of (by decide) (of_decide_eq_true h)
theorem gMul_ok (i j : Int) (h : gMul i j = true) : CMulW i j := by
  have h' := Bool.and_eq_true_iff.mp h
  have a := sm_log h'.1
  have b := sm_log h'.2
  unfold CMulW
  omega
theorem gDiv_ok (i j : Int) (h : gDiv i j = true) : CDivW i j := by
  have h' := Bool.and_eq_true_iff.mp h
  have b := sm_log h'.2
  exact ⟨of_decide_eq_true h'.1, by omega⟩
theorem gMod_ok (i j : Int) (h : gMod i j = true) : 0 < j := of_decide_eq_true h
def CPow' (i j : Int) : Prop := 0 ≤ j ∧ (Builtin.Int.intBits i : Int) * j ≤ 2 ^ 27
theorem op_pow' {X : Cx} : OpR X (binaryOp .Pow) (rI CPow' fun i j => .int (i ^ j.toNat)) := opI fun _ _ _ _ _ _ _ hc q => pow_int hc.1 hc.2 q
theorem gPow_ok (i j : Int) (h : gPow i j = true) : CPow' i j := by
  unfold gPow at h
  simp only [Bool.and_eq_true, decide_eq_true_eq] at h
  obtain ⟨⟨h1, h2⟩, h3⟩ := h
  have b := sm_log h3
  have e : Builtin.Int.intBits i ≤ i.natAbs.log2 + 1 := by
    unfold Builtin.Int.intBits
    split <;> omega
  refine ⟨h1, ?_⟩
  have h5 : (Builtin.Int.intBits i : Int) * j ≤ 512 * 64 := Int.mul_le_mul (by omega) h2 h1 (by decide)
  exact Int.le_trans h5 (by decide)

/-! + of ints, texts, tuples, lists -/
def oAdd (own : Bool) (x y : D) (s : S) : R D := match x, y with
  | .int i, .int j => .ok (.int (i + j)) s
  | .str a, .str b => if a.length + b.length ≤ LIM then .ok (.str (a ++ b)) s else .bad
  | .tup a, .tup b => if a.length + b.length ≤ LIM then newT (a ++ b) s else .bad
  | x, y => match lstOf x s, lstOf y s with
    | some a, some b => if a.length + b.length ≤ LIM then newL own (a ++ b) s else .bad
    | _, _ => .bad
def rCat2 (K : PySem.W.Frag) : R2 := fun x y H Q => ∃ l b xs zs, x = .ref l ∧ y = .ref b ∧ Rd H l (.lst xs) ∧ Rd H b (.lst zs) ∧ xs.length + zs.length ≤ sizeLine ∧ ∀ p, H p = none → Q (.ref p) (upd H p (.lst (xs ++ zs)))
theorem op_cat2 {X : Cx} : OpR X (binaryOp .Add) (rCat2 X.K) := by
  intro pins s σ H x y v u Q I rx ry h
  obtain ⟨l, b, xs, zs, rfl, rfl, hH, hB, hz, q⟩ := h
  cases rx
  cases ry
  obtain ⟨z, its, n, r, e⟩ := hH.ok I.hok
  obtain ⟨z2, its2, n2, r2, e2⟩ := hB.ok I.hok
  have l1 := r.length
  have l2 := r2.length
  refine PySem.P.add_list e e2 ?_ (by rw [List.size_toArray, List.size_toArray]; omega)
  have ea : its.toArray ++ its2.toArray = (its ++ its2).toArray := by simp
  rw [ea]
  exact ⟨.ref _, _, I.lnew (t' := s.toks) (r.append r2) (by rw [List.length_append]; omega), rfl, q _ I.fresh⟩
def rAddU (K : PySem.W.Frag) : R2 := fun x y H Q => rI0 (fun i j => .int (i + j)) x y H Q ∨ (∃ i j, x = .str i ∧ y = .str j ∧ i.length + j.length ≤ sizeLine ∧ Q (.str (i ++ j)) H) ∨ rCatA K x y H Q ∨ rCat2 K x y H Q
theorem op_addU {X : Cx} : OpR X (binaryOp .Add) (rAddU X.K) := op_add.or (op_add_str.or (op_catA.or op_cat2))
theorem tup_nil {G : Hp} {m : Mp} {v : V} {p : Addr} {vs : List V} (h : SqT K c.H p vs) : True := trivial
theorem oAdd_ok {own : Bool} : OpS K (rAddU K) (oAdd own) := by
  intro c x y v u Q Ψ s rx ry w
  unfold oAdd at w
  split at w
  · rw [rep_int] at rx ry
    exact .inl ⟨_, _, rx, ry, w.here s _ (rep_int.mpr rfl)⟩
  · rw [rep_str] at rx ry
    split at w
    · rename_i h
      exact .inr (.inl ⟨_, _, rx, ry, lim_le h, w.here s _ (rep_str.mpr rfl)⟩)
    · exact w.elim
  · split at w
    · rename_i a b h
      obtain ⟨p, vs, e1, h1, r1⟩ := tup_at s rx
      obtain ⟨q, us, e2, h2, r2⟩ := tup_at s ry
      refine .inr (.inr (.inl ⟨p, q, vs, us, e1, e2, h1, h2, lim_le (by rw [r1.len, r2.len]; exact h), fun e => ?_, fun _ e => ?_, fun _ _ => new_tup s w (r1.app r2)⟩))
      · have ea : a = [] := by
          have := r1.len
          rw [e] at this
          exact List.eq_nil_of_length_eq_zero this.symm
        subst ea
        refine w.here s _ ?_
        rw [← e2]; exact ry
      · have ea : b = [] := by
          have := r2.len
          rw [e] at this
          exact List.eq_nil_of_length_eq_zero this.symm
        subst ea
        refine w.here s _ ?_
        rw [← e1, List.append_nil]; exact rx
    · exact w.elim
  · split at w
    · rename_i a b ha hb
      split at w
      · rename_i h
        obtain ⟨p, vs, e1, h1, r1⟩ := lst_rd s ha rx
        obtain ⟨q, us, e2, h2, r2⟩ := lst_rd s hb ry
        exact .inr (.inr (.inr ⟨p, q, vs, us, e1, e2, h1, h2, lim_le (by rw [r1.len, r2.len]; exact h), new_list s w (r1.app r2)⟩))
      · exact w.elim
    · exact w.elim

/-! * of ints; list * int, text * int -/
theorem RepL.rep {G : Hp} {m : Mp} {ds : List D} {vs : List V} (h : RepL K G m ds vs) : ∀ n, RepL K G m (List.replicate n ds).flatten (List.replicate n vs).flatten
  | 0 => RepL.nil
  | n + 1 => by
    rw [List.replicate_succ, List.replicate_succ, List.flatten_cons, List.flatten_cons]
    exact h.app (RepL.rep h n)
def rRep2 (K : PySem.W.Frag) : R2 := fun x y H Q => rRep x y H Q
def hLst (d : D) (s : S) : Option (List D) := lstOf d s
def oMul (own : Bool) (x y : D) (s : S) : R D := match x, y with
  | .int i, .int j => if gMul i j = true then .ok (.int (i * j)) s else .bad
  | .tup a, .int k => if a.length ≤ 1000 ∧ 2 ≤ k ∧ k ≤ 1000 ∧ a ≠ [] then newT (List.replicate k.toNat a).flatten s else .bad
  | .ref n, .int k => match s.get n with
    | some (.lst a) => if 0 ≤ k ∧ k ≤ LIM ∧ a.length * k.toNat ≤ LIM then newL own (List.replicate k.toNat a).flatten s else .bad
    | _ => .bad
  | _, _ => .bad
def rMulU (K : PySem.W.Frag) : R2 := fun x y H Q => rI CMulW (fun i j => .int (i * j)) x y H Q ∨ rRepT K x y H Q ∨ rRep x y H Q
theorem op_mulU {X : Cx} : OpR X (binaryOp .Mult) (rMulU X.K) := op_mulW.or (op_repT.or op_rep)
theorem oMul_ok {own : Bool} : OpS K (rMulU K) (oMul own) := by
  intro c x y v u Q Ψ s rx ry w
  unfold oMul at w
  split at w
  · rw [rep_int] at rx ry
    split at w
    · rename_i h
      exact .inl ⟨_, _, rx, ry, gMul_ok _ _ h, w.here s _ (rep_int.mpr rfl)⟩
    · exact w.elim
  · rw [rep_int] at ry
    split at w
    · rename_i a k h
      obtain ⟨p, vs, e1, h1, r1⟩ := tup_at s rx
      refine .inr (.inl ⟨p, k, vs, e1, ry, h1, fun e => h.2.2.2 ?_, h.2.1, h.2.2.1, by rw [r1.len]; exact h.1, new_tup s w (r1.rep _)⟩)
      have := r1.len
      rw [e] at this
      exact List.eq_nil_of_length_eq_zero this.symm
    · exact w.elim
  · rw [rep_int] at ry
    rename_i n k
    split at w
    · rename_i a e
      split at w
      · rename_i h
        obtain ⟨p, o, e1, h1, h2, h3, vs, rfl, r1⟩ := s.at e rx
        refine .inr (.inr ⟨p, k, vs, e1, ry, h3, by omega, by have := h.2.1; simp only [LIM] at this; omega, lim_le (by rw [r1.len]; exact h.2.2), new_list s w (r1.rep _)⟩)
      · exact w.elim
    · exact w.elim
  · exact w.elim

/-! ### a[b] -/
def oIx (x y : D) (s : S) : R D := match x, y with
  | .tup a, .int i => match atI a i with
    | some d => .ok d s
    | none => .bad
  | .str z, .int i => if z.length ≤ LIM then (match atI z.cps.toList i with
    | some k => .ok (.str ⟨#[k]⟩) s
    | none => .bad) else .bad
  | x, .int i => match lstOf x s with
    | some a => match atI a i with
      | some d => .ok d s
      | none => .bad
    | none => .bad
  | _, _ => .bad
theorem RepL.atI {G : Hp} {m : Mp} {ds : List D} {vs : List V} {i : Int} {d : D} (h : RepL K G m ds vs) (e : L2.atI ds i = some d) : ∃ v, L2.atI vs i = some v ∧ Rep K G m d v := by
  unfold L2.atI at e ⊢
  rw [h.len]
  cases q : ixN ds.length i with
  | none => rw [q] at e; cases e
  | some j =>
    rw [q] at e
    exact h.get e
theorem oIx_ok : OpS K (rIx K) oIx := by
  intro c x y v u Q Ψ s rx ry w
  unfold oIx at w
  split at w
  · rw [rep_int] at ry
    split at w
    · rename_i e
      obtain ⟨p, vs, e1, h1, r1⟩ := tup_at s rx
      obtain ⟨v', h2, r2⟩ := r1.atI e
      exact .inr (.inl ⟨p, vs, _, v', e1, ry, h1, h2, w.here s _ r2⟩)
    · exact w.elim
  · rw [rep_int] at ry
    rw [rep_str] at rx
    split at w
    · rename_i hl
      split at w
      · rename_i e
        exact .inr (.inr ⟨_, _, _, rx, ry, lim_le hl, e, w.here s _ (rep_str.mpr rfl)⟩)
      · exact w.elim
    · exact w.elim
  · rw [rep_int] at ry
    split at w
    · rename_i ha
      split at w
      · rename_i e
        obtain ⟨p, vs, e1, h1, r1⟩ := lst_at s ha rx
        obtain ⟨v', h2, r2⟩ := r1.atI e
        exact .inl ⟨p, vs, _, v', e1, ry, h1, h2, w.here s _ r2⟩
      · exact w.elim
    · exact w.elim
  · exact w.elim

/-! ### in, not in -/
def rInT (K : PySem.W.Frag) (neg : Bool) : R2 := fun x y H Q => ∃ d ds, Dp K H x d ∧ Dp K H y (.tuple ds) ∧ SeqAt.shaped d = true ∧ SeqAt.shaped (.tuple ds) = true ∧ Q (.bl (if neg = true then !ds.any fun z => PyData.eqv z d else ds.any fun z => PyData.eqv z d)) H
theorem room_in_T {A : Around} {xs : List PyData} {d : PyData} (sd : SeqAt.shaped d = true) (hu : A.units + 65 < cLine) : A.units + 1 + min (PyData.depthAll xs) d.depth < cLine := by
  have h := SeqAt.depth_of_shaped sd
  have h2 : min (PyData.depthAll xs) d.depth ≤ d.depth := Nat.min_le_right _ _
  omega
theorem lay_T {ds : List PyData} (h : SeqAt.shaped (.tuple ds) = true) : PyData.canLayAll0 ds = true := by
  have := SeqAt.canLay_of_shaped h
  unfold PyData.canLay0 at this
  exact this
theorem op_inT {X : Cx} (hu : X.A.units + 65 < cLine) : OpR X (compareOp .In) (rInT X.K false) := by
  intro pins s σ H x y v u Q I rx ry h
  obtain ⟨d, ds, hd, he, sd, se, q⟩ := h
  obtain ⟨as, r1⟩ := Dp.reads I d x v hd rx
  obtain ⟨bs, r2⟩ := Dp.reads I (.tuple ds) y u he ry
  exact SeqAt.in_tuple_reads r2 r1 (lay_T se) (SeqAt.canLay_of_shaped sd) (room_in_T sd hu) ⟨.bl _, H, I, rfl, q⟩
theorem op_notInT {X : Cx} (hu : X.A.units + 65 < cLine) : OpR X (compareOp .NotIn) (rInT X.K true) := by
  intro pins s σ H x y v u Q I rx ry h
  obtain ⟨d, ds, hd, he, sd, se, q⟩ := h
  obtain ⟨as, r1⟩ := Dp.reads I d x v hd rx
  obtain ⟨bs, r2⟩ := Dp.reads I (.tuple ds) y u he ry
  exact SeqAt.notIn_tuple_reads r2 r1 (lay_T se) (SeqAt.canLay_of_shaped sd) (room_in_T sd hu) ⟨.bl _, H, I, rfl, q⟩
def oInD (neg : Bool) (x y : D) (s : S) : R D := match toP 12 x s, toP 12 y s with
  | some d, some (.list ds) => .ok (.bl (if neg = true then !ds.any fun z => PyData.eqv z d else ds.any fun z => PyData.eqv z d)) s
  | some d, some (.tuple ds) => .ok (.bl (if neg = true then !ds.any fun z => PyData.eqv z d else ds.any fun z => PyData.eqv z d)) s
  | _, _ => .bad
theorem oInD_ok : OpS K (fun x y H Q => rInD K x y H Q ∨ rInT K false x y H Q) (oInD false) := by
  intro c x y v u Q Ψ s rx ry w
  unfold oInD at w
  split at w
  · rename_i d ds h1 h2
    obtain ⟨a1, a2, a3⟩ := toP_ok s 12 x d v h1 rx
    obtain ⟨b1, b2, b3⟩ := toP_ok s 12 y _ u h2 ry
    exact .inl ⟨d, ds, a1, b1, shaped_of a2 a3 (by decide), shaped_of b2 b3 (by decide), w.here s _ (rep_bl.mpr rfl)⟩
  · rename_i d ds h1 h2
    obtain ⟨a1, a2, a3⟩ := toP_ok s 12 x d v h1 rx
    obtain ⟨b1, b2, b3⟩ := toP_ok s 12 y _ u h2 ry
    exact .inr ⟨d, ds, a1, b1, shaped_of a2 a3 (by decide), shaped_of b2 b3 (by decide), w.here s _ (rep_bl.mpr rfl)⟩
  · exact w.elim
theorem oNotInD_ok : OpS K (fun x y H Q => rNotInD K x y H Q ∨ rInT K true x y H Q) (oInD true) := by
  intro c x y v u Q Ψ s rx ry w
  unfold oInD at w
  split at w
  · rename_i d ds h1 h2
    obtain ⟨a1, a2, a3⟩ := toP_ok s 12 x d v h1 rx
    obtain ⟨b1, b2, b3⟩ := toP_ok s 12 y _ u h2 ry
    exact .inl ⟨d, ds, a1, b1, shaped_of a2 a3 (by decide), shaped_of b2 b3 (by decide), w.here s _ (rep_bl.mpr rfl)⟩
  · rename_i d ds h1 h2
    obtain ⟨a1, a2, a3⟩ := toP_ok s 12 x d v h1 rx
    obtain ⟨b1, b2, b3⟩ := toP_ok s 12 y _ u h2 ry
    exact .inr ⟨d, ds, a1, b1, shaped_of a2 a3 (by decide), shaped_of b2 b3 (by decide), w.here s _ (rep_bl.mpr rfl)⟩
  · exact w.elim
/-- one sign in a text -/
def oInS (neg : Bool) (x y : D) (s : S) : R D := match x, y with
  | .str ⟨⟨[k]⟩⟩, .str z => .ok (.bl (if neg = true then !decide (k ∈ z.cps.toList) else decide (k ∈ z.cps.toList))) s
  | _, _ => .bad
def rInSg (neg : Bool) : R2 := fun x y H Q => ∃ (c : Nat) (z : Str), x = .str ⟨#[c]⟩ ∧ y = .str z ∧ Q (.bl (if neg = true then !decide (c ∈ z.cps.toList) else decide (c ∈ z.cps.toList))) H
theorem oInS_ok {neg : Bool} : OpS K (rInSg neg) (oInS neg) := by
  intro c x y v u Q Ψ s rx ry w
  unfold oInS at w
  split at w
  · rw [rep_str] at rx ry
    exact ⟨_, _, rx, ry, w.here s _ (rep_bl.mpr rfl)⟩
  · exact w.elim
def isS1 : D → D → Bool
  | .str _, .str _ => true
  | _, _ => false
def oIn (neg : Bool) (x y : D) (s : S) : R D := if isS1 x y = true then oInS neg x y s else oInD neg x y s

/-! ### is None -/
def isN : D → Bool
  | .non => true
  | _ => false
def oIs (neg : Bool) (x y : D) (s : S) : R D := match y with
  | .non => .ok (.bl (if neg = true then !isN x else isN x)) s
  | _ => .bad
theorem isN_ok {G : Hp} {m : Mp} {x : D} {v : V} (r : Rep K G m x v) : decide (v = .non) = isN x := by
  cases x <;> simp only [Rep] at r
  · subst r; rfl
  · subst r; rfl
  · subst r; rfl
  · subst r; rfl
  · subst r; rfl
  · subst r; rfl
  · obtain ⟨p, vs, rfl, _⟩ := r; rfl
  · obtain ⟨p, vs, rfl, _⟩ := r; rfl
  · obtain ⟨p, ks, rfl, _⟩ := r; rfl
  · obtain ⟨p, ks, rfl, _⟩ := r; rfl
  · obtain ⟨p, _, rfl⟩ := r; rfl
theorem oIs_ok : OpS K (fun x y H Q => y = .non ∧ Q (.bl (decide (x = .non))) H) (oIs false) := by
  intro c x y v u Q Ψ s rx ry w
  unfold oIs at w
  split at w
  · rw [rep_non] at ry
    refine ⟨ry, ?_⟩
    rw [isN_ok rx]
    exact w.here s _ (rep_bl.mpr rfl)
  · exact w.elim
theorem oIsNot_ok : OpS K (fun x y H Q => y = .non ∧ Q (.bl (!decide (x = .non))) H) (oIs true) := by
  intro c x y v u Q Ψ s rx ry w
  unfold oIs at w
  split at w
  · rw [rep_non] at ry
    refine ⟨ry, ?_⟩
    rw [isN_ok rx]
    exact w.here s _ (rep_bl.mpr rfl)
  · exact w.elim
end

section
variable {X : Cx} {W : WX} {a b e : Expr} {pos : Pos} {f g h : XF}
theorem px_add (own : Bool) (ha : PX X W a f) (hb : PX X W b g) : PX X W (.BinOp a .Add b pos) (xBin (oAdd own) f g) := px_op op_addU oAdd_ok ha hb
theorem px_sub (ha : PX X W a f) (hb : PX X W b g) : PX X W (.BinOp a .Sub b pos) (xBin (oI (fun i j => i - j) fun _ _ => true) f g) := px_op op_sub oI0_ok ha hb
theorem px_mul (own : Bool) (ha : PX X W a f) (hb : PX X W b g) : PX X W (.BinOp a .Mult b pos) (xBin (oMul own) f g) := px_op op_mulU oMul_ok ha hb
theorem px_fdiv (ha : PX X W a f) (hb : PX X W b g) : PX X W (.BinOp a .FloorDiv b pos) (xBin (oI (fun i j => i / j) gDiv) f g) := px_op op_fdivW (oI_ok gDiv_ok) ha hb
theorem px_mod (ha : PX X W a f) (hb : PX X W b g) : PX X W (.BinOp a .Mod b pos) (xBin (oI (fun i j => i % j) gMod) f g) := px_op op_mod (oI_ok gMod_ok) ha hb
theorem px_pow (ha : PX X W a f) (hb : PX X W b g) : PX X W (.BinOp a .Pow b pos) (xBin (oI (fun i j => i ^ j.toNat) gPow) f g) := px_op op_pow' (oI_ok gPow_ok) ha hb
theorem px_isN (ha : PX X W a f) (hb : PX X W b g) : PX X W (.Compare a [.Is] [b] pos) (xBin (oIs false) f g) := px_cmp op_isN oIs_ok ha hb (nomark _)
theorem px_notN (ha : PX X W a f) (hb : PX X W b g) : PX X W (.Compare a [.IsNot] [b] pos) (xBin (oIs true) f g) := px_cmp op_notN oIsNot_ok ha hb (nomark _)
theorem op_inU (hu : X.A.units + 65 < cLine) : OpR X (compareOp .In) (fun x y H Q => rInSg false x y H Q ∨ rInD X.K x y H Q ∨ rInT X.K false x y H Q) :=
  (op_in_sign.weak fun x y H Q ⟨c, z, h1, h2, q⟩ => ⟨c, z, h1, h2, q⟩).or ((op_inD hu).or (op_inT hu))
theorem op_notInU (hu : X.A.units + 65 < cLine) : OpR X (compareOp .NotIn) (fun x y H Q => rInSg true x y H Q ∨ rNotInD X.K x y H Q ∨ rInT X.K true x y H Q) :=
  (op_notIn_sign.weak fun x y H Q ⟨c, z, h1, h2, q⟩ => ⟨c, z, h1, h2, q⟩).or ((op_notInD hu).or (op_notInT hu))
theorem px_in (hu : X.A.units + 65 < cLine) (ha : PX X W a f) (hb : PX X W b g) (hm : behindInMarks .In b = false) : PX X W (.Compare a [.In] [b] pos) (xBin (oIn false) f g) := px_cmp (op_inU hu) (oInS_ok.or oInD_ok) ha hb hm
theorem px_notIn (hu : X.A.units + 65 < cLine) (ha : PX X W a f) (hb : PX X W b g) (hm : behindInMarks .NotIn b = false) : PX X W (.Compare a [.NotIn] [b] pos) (xBin (oIn true) f g) := px_cmp (op_notInU hu) (oInS_ok.or oNotInD_ok) ha hb hm
theorem px_ix (ha : PX X W a f) (hb : PX X W b g) (hs : PlainIx b) : PX X W (.Subscript a b pos) (xBin oIx f g) := (pe_ix ix_seq ha hb hs).weak fun _ _ _ h => t_bin oIx_ok h

/-! ### -x, not, and, or, if else -/
def xNeg (f : XF) : XF := fun Γ s => (f Γ s).bind fun x s => match x with
  | .int i => .ok (.int (-i)) s
  | _ => .bad
theorem px_neg (ha : PX X W a f) : PX X W (.UnaryOp .USub a pos) (xNeg f) := (pe_un un_neg ha).weak fun σ H Q h => by
  obtain ⟨c, Γ, rfl, s, l, w⟩ := h
  refine tX.here s l ((w.bind s).monoL fun x c1 e1 s1 w1 v rv => ?_)
  split at w1
  · rw [rep_int] at rv
    exact ⟨_, rv, w1.here s1 _ (rep_int.mpr rfl)⟩
  · exact w1.elim

/-- a bool as a test -/
def bOf (f : XF) : XB := fun Γ s => (f Γ s).bind fun x s => match x with
  | .bl b => .ok b s
  | _ => .bad
def xOf (f : XB) : XF := fun Γ s => (f Γ s).bind fun x s => .ok (.bl x) s
theorem t_test {σ : L2.St} {H : Hp} {Q : Bool → Hp → Prop} (h : tXB X.K W (bOf f) σ H Q) : tB (tX X.K W f) σ H Q := by
  obtain ⟨c, Γ, rfl, s, l, w⟩ := h
  refine tX.here s l ((w.bind s).monoL fun x c1 e1 s1 w1 v rv => ?_)
  split at w1
  · rw [rep_bl] at rv
    exact ⟨_, rv, w1.here s1⟩
  · exact w1.elim
/-- a test: any expression that yields a bool (not a comparison, and, or, not) -/
theorem pt_val' (ha : PX X W e f) (he : ∀ whole, isTrue e X.env whole = (do let v ← whole; standAt e.pos; holding [v] (truthy v)) := by intro _; rfl) : PXT X W e (bOf f) := (pt_val ha he).weak fun _ _ _ h => t_test h
theorem pxt_cmp {op : CmpOp} {r : R2} {o : D → D → S → R D} (hr : OpR X (compareOp op) r) (ho : OpS X.K r o) (ha : PX X W a f) (hb : PX X W b g) (hm : behindInMarks op b = false) : PXT X W (.Compare a [op] [b] pos) (bOf (xBin o f g)) :=
  (pt_cmpR hr ha hb hm).weak fun σ H Q h => by
    obtain ⟨c, Γ, rfl, s, l, w⟩ := h
    have w2 := w.bind s
    have z : tX X.K W (xBin o f g) σ c.H (fun x H' => ∃ k, x = .bl k ∧ Q k H') := tX.here s l (w2.monoL fun x c1 e1 s1 w1 v rv => by
      split at w1
      · rw [rep_bl] at rv
        exact ⟨_, rv, w1.here s1⟩
      · exact w1.elim)
    exact t_bin ho z
theorem pt_eq (hu : X.A.units + 64 < cLine) (ha : PX X W a f) (hb : PX X W b g) : PXT X W (.Compare a [.Eq] [b] pos) (bOf (xBin (oEq false) f g)) := pxt_cmp (op_eq.or (op_eqD hu)) (oEqS_ok.or oEqD_ok) ha hb (nomark _)
theorem pt_ne (hu : X.A.units + 64 < cLine) (ha : PX X W a f) (hb : PX X W b g) : PXT X W (.Compare a [.NotEq] [b] pos) (bOf (xBin (oEq true) f g)) := pxt_cmp (op_ne.or (op_neD hu)) (oNeS_ok.or oNeD_ok) ha hb (nomark _)
theorem pt_lt (ha : PX X W a f) (hb : PX X W b g) : PXT X W (.Compare a [.Lt] [b] pos) (bOf (xBin (oIB fun i j => decide (i < j)) f g)) := pxt_cmp op_lt oIB_ok ha hb (nomark _)
theorem pt_le (ha : PX X W a f) (hb : PX X W b g) : PXT X W (.Compare a [.LtE] [b] pos) (bOf (xBin (oIB fun i j => decide (i ≤ j)) f g)) := pxt_cmp op_le oIB_ok ha hb (nomark _)
theorem pt_gt (ha : PX X W a f) (hb : PX X W b g) : PXT X W (.Compare a [.Gt] [b] pos) (bOf (xBin (oIB fun i j => decide (j < i)) f g)) := pxt_cmp op_gt oIB_ok ha hb (nomark _)
theorem pt_ge (ha : PX X W a f) (hb : PX X W b g) : PXT X W (.Compare a [.GtE] [b] pos) (bOf (xBin (oIB fun i j => decide (j ≤ i)) f g)) := pxt_cmp op_ge oIB_ok ha hb (nomark _)
theorem pt_isN (ha : PX X W a f) (hb : PX X W b g) : PXT X W (.Compare a [.Is] [b] pos) (bOf (xBin (oIs false) f g)) := pxt_cmp op_isN oIs_ok ha hb (nomark _)
theorem pt_notN (ha : PX X W a f) (hb : PX X W b g) : PXT X W (.Compare a [.IsNot] [b] pos) (bOf (xBin (oIs true) f g)) := pxt_cmp op_notN oIsNot_ok ha hb (nomark _)
theorem pt_in (hu : X.A.units + 65 < cLine) (ha : PX X W a f) (hb : PX X W b g) (hm : behindInMarks .In b = false) : PXT X W (.Compare a [.In] [b] pos) (bOf (xBin (oIn false) f g)) := pxt_cmp (op_inU hu) (oInS_ok.or oInD_ok) ha hb hm
theorem pt_notIn (hu : X.A.units + 65 < cLine) (ha : PX X W a f) (hb : PX X W b g) (hm : behindInMarks .NotIn b = false) : PXT X W (.Compare a [.NotIn] [b] pos) (bOf (xBin (oIn true) f g)) := pxt_cmp (op_notInU hu) (oInS_ok.or oNotInD_ok) ha hb hm
def bNot (f : XB) : XB := fun Γ s => (f Γ s).bind fun x s => .ok (!x) s
def bAnd (f g : XB) : XB := fun Γ s => (f Γ s).bind fun x s => if x = true then g Γ s else .ok false s
def bOr (f g : XB) : XB := fun Γ s => (f Γ s).bind fun x s => if x = true then .ok true s else g Γ s
theorem pxt_not {f : XB} (ha : PXT X W a f) : PXT X W (.UnaryOp .Not a pos) (bNot f) := (pt_not ha).weak fun σ H Q h => by
  obtain ⟨c, Γ, rfl, s, l, w⟩ := h
  exact tXB.here s l ((w.bind s).monoL fun x c1 e1 s1 w1 => Wants.here (Ψ := kX X.K W σ) s1 w1)
theorem pxw_one {f : XB} {op : BoolOp} (ha : PXT X W a f) : PXW X W (.BoolOp op [a] pos) f := by
  cases op with
  | And => exact pw_and1 ha
  | Or => exact pw_or1 ha
theorem pxw_and {f g : XB} {rest : List Expr} (ha : PXT X W a f) (hb : PXW X W (.BoolOp .And (b :: rest) pos) g) : PXW X W (.BoolOp .And (a :: b :: rest) pos) (bAnd f g) := (pw_and ha hb).weak fun σ H Q h => by
  obtain ⟨c, Γ, rfl, s, l, w⟩ := h
  refine tXB.here s l ((w.bind s).monoL fun x c1 e1 s1 w1 => ?_)
  show if x = true then _ else _
  cases x with
  | true =>
    rw [if_pos rfl] at w1 ⊢
    exact tXB.here s1 (l.mono e1) w1
  | false =>
    rw [if_neg Bool.false_ne_true] at w1 ⊢
    exact w1.here s1
theorem pxw_or {f g : XB} {rest : List Expr} (ha : PXT X W a f) (hb : PXW X W (.BoolOp .Or (b :: rest) pos) g) : PXW X W (.BoolOp .Or (a :: b :: rest) pos) (bOr f g) := (pw_or ha hb).weak fun σ H Q h => by
  obtain ⟨c, Γ, rfl, s, l, w⟩ := h
  refine tXB.here s l ((w.bind s).monoL fun x c1 e1 s1 w1 => ?_)
  show if x = true then _ else _
  cases x with
  | true =>
    rw [if_pos rfl] at w1 ⊢
    exact w1.here s1
  | false =>
    rw [if_neg Bool.false_ne_true] at w1 ⊢
    exact tXB.here s1 (l.mono e1) w1
theorem pxt_w {f : XB} (h : PXW X W e f) : PXT X W e f := h.pt
/-- as values -/
def xNot (f : XF) : XF := xOf (bNot (bOf f))
theorem px_not (ha : PX X W a f) : PX X W (.UnaryOp .Not a pos) (xNot f) := (pe_not ha).weak fun σ H Q h => by
  obtain ⟨c, Γ, rfl, s, l, w⟩ := h
  refine tX.here s l (((((w.bind s).bind s).bind s)).monoL fun x c1 e1 s1 w1 v rv => ?_)
  split at w1
  · rw [rep_bl] at rv
    exact ⟨_, rv, w1.here s1 |>.here s1 |>.here s1 _ (rep_bl.mpr rfl)⟩
  · exact w1.elim
def xAnd (f g : XF) : XF := fun Γ s => (f Γ s).bind fun x s => match x with
  | .bl true => g Γ s
  | .bl false => .ok (.bl false) s
  | _ => .bad
def xOr (f g : XF) : XF := fun Γ s => (f Γ s).bind fun x s => match x with
  | .bl false => g Γ s
  | .bl true => .ok (.bl true) s
  | _ => .bad
theorem px_one {op : BoolOp} (ha : PX X W a f) : PX X W (.BoolOp op [a] pos) f := pe_one ha
theorem px_and {rest : List Expr} (ha : PX X W a f) (hb : PX X W (.BoolOp .And (b :: rest) pos) g) : PX X W (.BoolOp .And (a :: b :: rest) pos) (xAnd f g) := (pe_and ha hb).weak fun σ H Q h => by
  obtain ⟨c, Γ, rfl, s, l, w⟩ := h
  refine tX.here s l ((w.bind s).monoL fun x c1 e1 s1 w1 v rv => ?_)
  split at w1
  · rw [rep_bl] at rv
    refine ⟨_, rv, ?_⟩
    rw [if_pos rfl]
    exact tX.here s1 (l.mono e1) w1
  · rw [rep_bl] at rv
    refine ⟨_, rv, ?_⟩
    rw [if_neg Bool.false_ne_true]
    exact w1.here s1 _ (rep_bl.mpr rfl)
  · exact w1.elim
theorem px_or {rest : List Expr} (ha : PX X W a f) (hb : PX X W (.BoolOp .Or (b :: rest) pos) g) : PX X W (.BoolOp .Or (a :: b :: rest) pos) (xOr f g) := (pe_or ha hb).weak fun σ H Q h => by
  obtain ⟨c, Γ, rfl, s, l, w⟩ := h
  refine tX.here s l ((w.bind s).monoL fun x c1 e1 s1 w1 v rv => ?_)
  split at w1
  · rw [rep_bl] at rv
    refine ⟨_, rv, ?_⟩
    rw [if_neg Bool.false_ne_true]
    exact tX.here s1 (l.mono e1) w1
  · rw [rep_bl] at rv
    refine ⟨_, rv, ?_⟩
    rw [if_pos rfl]
    exact w1.here s1 _ (rep_bl.mpr rfl)
  · exact w1.elim
def xIf (t : XB) (f g : XF) : XF := fun Γ s => (t Γ s).bind fun b s => if b = true then f Γ s else g Γ s
theorem px_if {t : XB} {c : Expr} (hc : PXT X W c t) (ha : PX X W a f) (hb : PX X W b g) : PX X W (.IfExp c a b pos) (xIf t f g) := (pe_ifExp hc ha hb).weak fun σ H Q h => by
  obtain ⟨c, Γ, rfl, s, l, w⟩ := h
  refine tXB.here s l ((w.bind s).monoL fun x c1 e1 s1 w1 => ?_)
  show if x = true then _ else _
  cases x with
  | true =>
    rw [if_pos rfl] at w1 ⊢
    exact tX.here s1 (l.mono e1) w1
  | false =>
    rw [if_neg Bool.false_ne_true] at w1 ⊢
    exact tX.here s1 (l.mono e1) w1

/-! ### arguments, displays -/
def aNil : XA := fun _ s => .ok [] s
def aCons (f : XF) (g : XA) : XA := fun Γ s => (f Γ s).bind fun x s => (g Γ s).bind fun xs s => .ok (x :: xs) s
theorem pa_nil' : PXA X W [] aNil := pa_nil.weak fun σ H Q h => by
  obtain ⟨c, Γ, rfl, s, l, w⟩ := h
  exact w.here s _ RepL.nil
theorem pa_cons' {es : List Expr} {g : XA} (ha : PX X W e f) (hr : PXA X W es g) (hs : starEach (e :: es) X.env = (false, eval e X.env) :: starEach es X.env := by rfl) : PXA X W (e :: es) (aCons f g) := (pa_cons ha hr hs).weak fun σ H Q h => by
  obtain ⟨c, Γ, rfl, s, l, w⟩ := h
  refine tX.here s l ((w.bind s).monoL fun x c1 e1 s1 w1 v rv => ?_)
  refine tXA.here s1 (l.mono e1) ((w1.bind s1).monoL fun xs c2 e2 s2 w2 vs rvs => ?_)
  exact w2.here s2 _ (RepL.cons (rv.mono e2) rvs)
def xTup (f : XA) : XF := fun Γ s => (f Γ s).bind fun xs s => if xs.length ≤ LIM then newT xs s else .bad
def xLst (own : Bool) (f : XA) : XF := fun Γ s => (f Γ s).bind fun xs s => if xs.length ≤ LIM then newL own xs s else .bad
theorem px_tup {es : List Expr} {f : XA} {x1} (h : PXA X W es f) : PX X W (.Tuple es x1 pos) (xTup f) := (pe_tup h).weak fun σ H Q h => by
  obtain ⟨c, Γ, rfl, s, l, w⟩ := h
  refine tXA.here s l ((w.bind s).monoL fun xs c1 e1 s1 w1 vs rvs => ?_)
  split at w1
  · rename_i hl
    exact ⟨lim_le (by rw [rvs.len]; exact hl), new_tup s1 w1 rvs⟩
  · exact w1.elim
theorem px_lst (own : Bool) {es : List Expr} {f : XA} (h : PXA X W es f) : PX X W (.List es pos) (xLst own f) := (pe_lst h).weak fun σ H Q h => by
  obtain ⟨c, Γ, rfl, s, l, w⟩ := h
  refine tXA.here s l ((w.bind s).monoL fun xs c1 e1 s1 w1 vs rvs => ?_)
  split at w1
  · rename_i hl
    exact ⟨lim_le (by rw [rvs.len]; exact hl), new_list s1 w1 rvs⟩
  · exact w1.elim
end
end L3

set_option Elab.async false
set_option linter.all false
set_option maxRecDepth 100000
namespace L3
open PySem PySem.Spec PyProof.Rows L2

/-! ### statements -/
def liftE {α : Type} (r : R α) (Γ : Sl) (k : α → S → R Fl) : R Fl := match r with
  | .bad => .bad
  | .ok a s => k a s
  | .exc e s => .ok (.ex e Γ) s
section
variable {K : PySem.W.Frag} {W : WX} {c : C4} {Γ : Sl} {σ : L2.St} {D : Ends}
theorem Wants.lift {α : Type} {r : R α} {k : α → S → R Fl} (s : Sim K c) (l : SlR K c Γ σ) (h : Wants K c (liftE r Γ k) (kS K W D) kF) : Wants K c r (fun a c' => Wants K c' (k a c'.s) (kS K W D) kF) (kX K W σ) := by
  cases r with
  | bad => exact h
  | ok a s2 => exact Wants.bind (r := .ok a s2) (f := k) s h
  | exc e s2 => exact fun c' x s' q cls d ex => h c' x s' q σ cls d (l.mono x) ex
theorem tXS.here {f : XS} (s : Sim K c) (l : SlR K c Γ σ) (w : Wants K c (f Γ c.s) (kS K W D) kF) : tXS K W f D σ c.H := ⟨c, Γ, rfl, s, l, w⟩
end

def sNil : XS := fun Γ s => .ok (.nx Γ) s
def sBad : XS := fun _ _ => .bad
def sSeq (f g : XS) : XS := fun Γ s => (f Γ s).bind fun r s => match r with
  | .nx Γ' => g Γ' s
  | r => .ok r s
def sBreak : XS := fun Γ s => .ok (.bk Γ) s
def sCont : XS := fun Γ s => .ok (.ct Γ) s
def sDrop (f : XF) : XS := fun Γ s => liftE (f Γ s) Γ fun _ s => .ok (.nx Γ) s
def sRet (f : XF) : XS := fun Γ s => liftE (f Γ s) Γ fun d s => .ok (.rt d) s
def sRetN : XS := fun _ s => .ok (.rt .non) s
def sIf (t : XB) (f g : XS) : XS := fun Γ s => liftE (t Γ s) Γ fun b s => if b = true then f Γ s else g Γ s
def sSet (i : Nat) (f : XF) : XS := fun Γ s => liftE (f Γ s) Γ fun d s => .ok (.nx (Γ.set i (some d))) s

section
variable {X : Cx} {W : WX} {st : Stmt} {rest : List Stmt} {e : Expr} {pos : Pos} {f g : XS} {h : XF}
theorem ps_of {t : TS} (p : PS X st t) (w : ∀ c Γ σ D, Sim X.K c → SlR X.K c Γ σ → Wants X.K c (f Γ c.s) (kS X.K W D) kF → t D σ c.H) : PXS X W st f := p.weak fun D σ H ⟨c, Γ, e, s, l, q⟩ => by
  subst e
  exact w c Γ σ D s l q
theorem pss_of {t : TS} (p : PSs X rest t) (w : ∀ c Γ σ D, Sim X.K c → SlR X.K c Γ σ → Wants X.K c (f Γ c.s) (kS X.K W D) kF → t D σ c.H) : PXSs X W rest f := p.weak fun D σ H ⟨c, Γ, e, s, l, q⟩ => by
  subst e
  exact w c Γ σ D s l q
theorem ks_nil : PXSs X W [] sNil := pss_of pss_nil fun c Γ σ D s l w => w.here s σ l
theorem kS_seq {K : PySem.W.Frag} {D : Ends} {c1 : C4} {r : Fl} (s1 : Sim K c1) (w1 : Wants K c1 (match r with
  | .nx Γ' => g Γ' c1.s
  | r => .ok r c1.s) (kS K W D) kF) : kS K W { D with nx := fun σ H => tXS K W g D σ H } r c1 := by
  cases r with
  | nx Γ' => exact fun σ' l' => tXS.here s1 l' w1
  | rt d => exact Wants.here (Ψ := kF) s1 w1
  | bk d => exact Wants.here (Ψ := kF) s1 w1
  | ct d => exact Wants.here (Ψ := kF) s1 w1
  | ex e d => exact Wants.here (Ψ := kF) s1 w1
theorem ks_cons (h1 : PXS X W st f) (h2 : PXSs X W rest g) : PXSs X W (st :: rest) (sSeq f g) := pss_of (pss_cons h1 h2) fun c Γ σ D s l w =>
  tXS.here s l ((w.bind s).monoL fun r c1 e1 s1 w1 => kS_seq s1 w1)
theorem ks_one (h1 : PXS X W st f) : PXSs X W [st] f := pss_of (pss_one h1) fun c Γ σ D s l w => tXS.here s l w
theorem ks_pass : PXS X W (.Pass pos) sNil := ps_of ps_pass fun c Γ σ D s l w => w.here s σ l
theorem ks_break : PXS X W (.Break pos) sBreak := ps_of ps_break fun c Γ σ D s l w => w.here s σ l
theorem ks_cont : PXS X W (.Continue pos) sCont := ps_of ps_continue fun c Γ σ D s l w => w.here s σ l
theorem ks_doc {x : Str} {j pos pos'} : PXS X W (.Expr (.Constant (.str x) j pos) pos') sNil := ps_of ps_doc fun c Γ σ D s l w => w.here s σ l
theorem ks_never : PXS X W st sBad := ps_of ps_never fun c Γ σ D s l w => w
theorem kss_never : PXSs X W rest sBad := pss_of pss_never fun c Γ σ D s l w => w
theorem ks_expr (he : PX X W e h) (hs : swapsWith e none pos.line X.env = pure false := by rfl) : PXS X W (.Expr e pos) (sDrop h) := ps_of (ps_expr he hs) fun c Γ σ D s l w =>
  tX.here s l ((w.lift s l).monoL fun d c1 e1 s1 w1 v rv => w1.here s1 σ (l.mono e1))
theorem ks_ret (he : PX X W e h) : PXS X W (.Return (some e) pos) (sRet h) := ps_of (ps_ret he) fun c Γ σ D s l w =>
  tX.here s l ((w.lift s l).monoL fun d c1 e1 s1 w1 v rv => w1.here s1 v rv)
theorem ks_retN : PXS X W (.Return none pos) sRetN := ps_of ps_retN fun c Γ σ D s l w => w.here s .non (rep_non.mpr rfl)
theorem ks_if {t : XB} {c : Expr} {a b : List Stmt} (hc : PXT X W c t) (ha : PXSs X W a f) (hb : PXSs X W b g) : PXS X W (.If c a b pos) (sIf t f g) := ps_of (ps_if hc ha hb) fun c Γ σ D s l w =>
  tXB.here s l ((w.lift s l).monoL fun d c1 e1 s1 w1 => by
    show if d = true then _ else _
    cases d with
    | true => rw [if_pos rfl] at w1 ⊢; exact tXS.here s1 (l.mono e1) w1
    | false => rw [if_neg Bool.false_ne_true] at w1 ⊢; exact tXS.here s1 (l.mono e1) w1)
theorem ks_set (i : Nat) {x : Str} {pos' : Pos} (hN : X.N.Nodup) (hi : X.N[i]? = some x) (hx : Loc X.env.scope x) (he : PX X W e h) (hs : swapsWith e (some (.Name x pos')) pos.line X.env = pure false := by rfl) (hf : X.fn x = true ∨ X.env.scope.names.lookup x = some .local := by first | exact .inl rfl | exact .inr rfl | assumption) :
    PXS X W (.Assign [.Name x pos'] e pos) (sSet i h) := ps_of (ps_set hN hi hx he hs hf) fun c Γ σ D s l w =>
  tX.here s l ((w.lift s l).monoL fun d c1 e1 s1 w1 v rv => w1.here s1 _ ((l.mono e1).set rv i))
end

/-! ### while -/
def loopR (again : Sl → S → R Fl) (r : Fl) (s : S) : R Fl := match r with
  | .nx Γ => again Γ s
  | .ct Γ => again Γ s
  | .bk Γ => .ok (.nx Γ) s
  | r => .ok r s
def sWhileN (t : XB) (b : XS) : Nat → XS
  | 0 => fun _ _ => .bad
  | n + 1 => fun Γ s => liftE (t Γ s) Γ fun c s => if c = true then (b Γ s).bind (loopR (sWhileN t b n)) else .ok (.nx Γ) s
theorem bind_bad {α β : Type} {r : R α} {f g : α → S → R β} (h : ∀ a s, r = .ok a s → f a s ≠ .bad → g a s = f a s) (hb : r.bind f ≠ .bad) : r.bind g = r.bind f := by
  cases r with
  | bad => rfl
  | exc e s => rfl
  | ok a s => exact h a s rfl hb
theorem sWhileN_mono (t : XB) (b : XS) : ∀ n Γ s, sWhileN t b n Γ s ≠ .bad → sWhileN t b (n + 1) Γ s = sWhileN t b n Γ s
  | 0, Γ, s, h => absurd rfl h
  | n + 1, Γ, s, h => by
    have step : ∀ k, sWhileN t b (k + 1) Γ s = liftE (t Γ s) Γ fun c s => if c = true then (b Γ s).bind (loopR (sWhileN t b k)) else .ok (.nx Γ) s := fun k => rfl
    rw [step (n + 1), step n]
    rw [step n] at h
    cases q : t Γ s with
    | bad => rfl
    | exc e s2 => rfl
    | ok c s2 =>
      rw [q] at h
      show (if c = true then _ else _) = (if c = true then _ else _)
      have h : (if c = true then (b Γ s2).bind (loopR (sWhileN t b n)) else .ok (.nx Γ) s2) ≠ .bad := h
      cases c with
      | false => rfl
      | true =>
        rw [if_pos rfl] at h ⊢
        rw [if_pos rfl]
        refine bind_bad (fun r s3 _ hr => ?_) h
        cases r with
        | nx Γ' => exact sWhileN_mono t b n Γ' s3 hr
        | ct Γ' => exact sWhileN_mono t b n Γ' s3 hr
        | bk Γ' => rfl
        | rt d => rfl
        | ex e d => rfl
theorem sWhileN_le (t : XB) (b : XS) {n k : Nat} (h : n ≤ k) (Γ : Sl) (s : S) (hb : sWhileN t b n Γ s ≠ .bad) : sWhileN t b k Γ s = sWhileN t b n Γ s := by
  induction h with
  | refl => rfl
  | step h ih => rw [sWhileN_mono t b _ Γ s (by rw [ih]; exact hb), ih]
open Classical in
noncomputable def sWhile (t : XB) (b : XS) : XS := fun Γ s => if h : ∃ n, sWhileN t b n Γ s ≠ .bad then sWhileN t b h.choose Γ s else .bad
theorem sWhile_of {t : XB} {b : XS} {Γ : Sl} {s : S} {r : R Fl} (n : Nat) (h : sWhileN t b n Γ s = r) (hr : r ≠ .bad) : sWhile t b Γ s = r := by
  have ex : ∃ n, sWhileN t b n Γ s ≠ .bad := ⟨n, by rw [h]; exact hr⟩
  unfold sWhile
  rw [dif_pos ex]
  have hc := ex.choose_spec
  rcases Nat.le_total n ex.choose with l | l
  · rw [sWhileN_le t b l Γ s (by rw [h]; exact hr), h]
  · rw [← sWhileN_le t b l Γ s hc, h]
theorem sWhile_to {t : XB} {b : XS} {Γ : Sl} {s : S} (h : sWhile t b Γ s ≠ .bad) : ∃ n, sWhileN t b n Γ s = sWhile t b Γ s := by
  unfold sWhile at h ⊢
  by_cases ex : ∃ n, sWhileN t b n Γ s ≠ .bad
  · rw [dif_pos ex]
    exact ⟨ex.choose, rfl⟩
  · rw [dif_neg ex] at h
    exact absurd rfl h
theorem Wants.ne {K : PySem.W.Frag} {c : C4} {α : Type} {r : R α} {Φ : α → C4 → Prop} {Ψ : Exn → C4 → Prop} (h : Wants K c r Φ Ψ) : r ≠ .bad := fun e => by
  rw [e] at h
  exact h
theorem kS_loop {K : PySem.W.Frag} {W : WX} {D : Ends} {c1 : C4} {r : Fl} {again : XS} {N : L2.St → Hp → Prop} (s1 : Sim K c1) (w1 : Wants K c1 (loopR again r c1.s) (kS K W D) kF)
    (hN : ∀ Γ' σ', SlR K c1 Γ' σ' → Wants K c1 (again Γ' c1.s) (kS K W D) kF → N σ' c1.H) : kS K W { D with nx := N, ct := N, bk := D.nx } r c1 := by
  cases r with
  | nx Γ' => exact fun σ' l' => hN Γ' σ' l' w1
  | ct Γ' => exact fun σ' l' => hN Γ' σ' l' w1
  | rt d => exact Wants.here (Ψ := kF) s1 w1
  | bk d => exact Wants.here (Ψ := kF) s1 w1
  | ex e d => exact Wants.here (Ψ := kF) s1 w1
theorem ks_while {X : Cx} {W : WX} {t : XB} {b : XS} {c : Expr} {body : List Stmt} {pos : Pos} (hp : PassesOwn (model X.prog X.w) X.A X.env X.xe) (hc : PXT X W c t) (hb : PXSs X W body b) : PXS X W (.While c body [] pos) (sWhile t b) :=
  ps_of (ps_while hp hc hb) fun c Γ σ D s l w => by
    obtain ⟨n, hn⟩ := sWhile_to w.ne
    rw [← hn] at w
    refine ⟨fun m σ H => ∃ c Γ, c.H = H ∧ Sim X.K c ∧ SlR X.K c Γ σ ∧ Wants X.K c (sWhileN t b m Γ c.s) (kS X.K W D) kF, ⟨n, c, Γ, rfl, s, l, w⟩, ?_⟩
    rintro m σ1 H ⟨c1, Γ1, rfl, s1, l1, w1⟩
    cases m with
    | zero => exact w1.elim
    | succ m =>
      refine tXB.here s1 l1 ((Wants.lift s1 l1 w1).monoL fun d c2 e2 s2 w2 => ?_)
      show if d = true then _ else _
      cases d with
      | false => rw [if_neg Bool.false_ne_true] at w2 ⊢; exact w2.here s2 σ1 (l1.mono e2)
      | true =>
        rw [if_pos rfl] at w2 ⊢
        refine ⟨fun σ' H' => ∃ c Γ, c.H = H' ∧ Sim X.K c ∧ SlR X.K c Γ σ' ∧ Wants X.K c (sWhileN t b m Γ c.s) (kS X.K W D) kF, fun σ' H' q => ⟨m, Nat.lt_succ_self m, q⟩, ?_⟩
        exact tXS.here s2 (l1.mono e2) ((w2.bind s2).monoL fun r c3 e3 s3 w3 => kS_loop s3 w3 fun Γ' σ' l' w' => ⟨c3, Γ', rfl, s3, l', w'⟩)

/-! ### targets -/
/-- a store: it may change the slots in vs alone -/
def tXG (K : PySem.W.Frag) (vs : List Nat) (g : D → Sl → S → R Sl) : TG := fun v σ H Q => ∃ c Γ d, c.H = H ∧ Sim K c ∧ SlR K c Γ σ ∧ Rep K c.G c.m d v ∧
  Wants K c (g d Γ c.s) (fun Γ' c' => ∀ σ', SlR K c' Γ' σ' → (σ'.length = σ.length ∧ ∀ i, i ∉ vs → σ'[i]? = σ[i]?) → Q σ' c'.H) kF
abbrev PXG (X : Cx) (vs : List Nat) (tg : Expr) (g : D → Sl → S → R Sl) : Prop := PG X tg (tXG X.K vs g)
theorem _root_.L2.PG.weak {X : Cx} {e : Expr} {t t' : TG} (h : PG X e t) (w : ∀ v σ H Q, t' v σ H Q → t v σ H Q) : PG X e t' := ⟨fun pins s σ H v u Q I r q => h.run pins s σ H v u Q I r (w _ _ _ _ q)⟩
theorem _root_.L2.PG.or {X : Cx} {e : Expr} {t t' : TG} (h : PG X e t) (h' : PG X e t') : PG X e (fun v σ H Q => t v σ H Q ∨ t' v σ H Q) :=
  ⟨fun pins s σ H v u Q I r q => q.elim (h.run pins s σ H v u Q I r) (h'.run pins s σ H v u Q I r)⟩
def gSet (i : Nat) : D → Sl → S → R Sl := fun d Γ s => .ok (Γ.set i (some d)) s
theorem kg_name (i : Nat) {X : Cx} {x : Str} {pos : Pos} (hN : X.N.Nodup) (hi : X.N[i]? = some x) (hx : Loc X.env.scope x) (hf : X.fn x = true ∨ X.env.scope.names.lookup x = some .local := by first | exact .inl rfl | exact .inr rfl | assumption) : PXG X [i] (.Name x pos) (gSet i) :=
  (pg_name (i := i) hN hi hx hf).weak fun v σ H Q ⟨c, Γ, d, e, s, l, r, w⟩ => by
    subst e
    refine w.here s _ (l.set r i) ⟨by simp, fun j hj => ?_⟩
    rw [List.getElem?_set_ne]
    intro e; subst e; exact hj (by simp)
/-- several targets -/
def tXGs (K : PySem.W.Frag) (vs : List Nat) (g : List D → Sl → S → R Sl) : TGs := fun v σ H Q => ∃ c Γ d, c.H = H ∧ Sim K c ∧ SlR K c Γ σ ∧ RepL K c.G c.m d v ∧
  Wants K c (g d Γ c.s) (fun Γ' c' => ∀ σ', SlR K c' Γ' σ' → (σ'.length = σ.length ∧ ∀ i, i ∉ vs → σ'[i]? = σ[i]?) → Q σ' c'.H) kF
abbrev PXGs (X : Cx) (vs : List Nat) (tg : List Expr) (g : List D → Sl → S → R Sl) : Prop := PGs X tg (tXGs X.K vs g)
theorem _root_.L2.PGs.weak {X : Cx} {e : List Expr} {t t' : TGs} (h : PGs X e t) (w : ∀ v σ H Q, t' v σ H Q → t v σ H Q) : PGs X e t' := ⟨fun pins s σ H v u Q I r q => h.run pins s σ H v u Q I r (w _ _ _ _ q)⟩
def gsNil : List D → Sl → S → R Sl := fun ds Γ s => match ds with
  | [] => .ok Γ s
  | _ => .bad
def gsCons (g : D → Sl → S → R Sl) (h : List D → Sl → S → R Sl) : List D → Sl → S → R Sl := fun ds Γ s => match ds with
  | d :: r => (g d Γ s).bind fun Γ s => h r Γ s
  | _ => .bad
theorem kgs_nil {X : Cx} : PXGs X [] [] gsNil := pgs_nil.weak fun v σ H Q ⟨c, Γ, d, e, s, l, r, w⟩ => by
  subst e
  cases d with
  | nil =>
    simp only [RepL] at r
    exact ⟨r, w.here s σ l ⟨rfl, fun _ _ => rfl⟩⟩
  | cons a b => exact w.elim
theorem kgs_cons {X : Cx} {vs us : List Nat} {e : Expr} {es : List Expr} {g : D → Sl → S → R Sl} {h : List D → Sl → S → R Sl} (h1 : PXG X vs e g) (h2 : PXGs X us es h)
    (hs : (assignEach (e :: es) X.env).map (·.2) = assign e X.env :: (assignEach es X.env).map (·.2) := by rfl) : PXGs X (vs ++ us) (e :: es) (gsCons g h) := (pgs_cons h1 h2 hs).weak fun v σ H Q ⟨c, Γ, d, e, s, l, r, w⟩ => by
  subst e
  cases d with
  | nil => exact w.elim
  | cons a b =>
    obtain ⟨x, t, rfl, r1, r2⟩ := r.uncons
    refine ⟨x, t, rfl, c, Γ, a, rfl, s, l, r1, (Wants.bind s w).monoL fun Γ1 c1 e1 s1 w1 σ1 l1 k1 => ?_⟩
    refine ⟨c1, Γ1, b, rfl, s1, l1, r2.mono e1, w1.monoL fun Γ2 c2 e2 s2 w2 σ2 l2 k2 => w2 σ2 l2 ⟨k2.1.trans k1.1, fun i hi => ?_⟩⟩
    rw [k2.2 i fun z => hi (List.mem_append_right _ z), k1.2 i fun z => hi (List.mem_append_left _ z)]
/-- (a, b, ..) = a tuple, or a list -/
def gTupD (n : Nat) (h : List D → Sl → S → R Sl) : D → Sl → S → R Sl := fun d Γ s => match d with
  | .tup ds => if ds.length = n then h ds Γ s else .bad
  | d => match lstOf d s with
    | some ds => if ds.length = n then h ds Γ s else .bad
    | none => .bad
theorem kg_tup {X : Cx} {vs : List Nat} {pos : Pos} {es : List Expr} {k : Nat} {n : Nat} {h : List D → Sl → S → R Sl} (hc : X.calm = true) (hh : PXGs X vs es h)
    (hn : (assignEach es X.env).length = n := by rfl) (hst : (assignEach es X.env).findIdx? (·.1) = none := by rfl) : PXG X vs (.Tuple es k pos) (gTupD n h) :=
  ((pg_tup hc hh hn hst).or (pg_lst hc hh hn hst)).weak fun v σ H Q ⟨c, Γ, d, e, s, l, r, w⟩ => by
    subst e
    unfold gTupD at w
    split at w
    · rename_i ds
      split at w
      · rename_i hl
        obtain ⟨p, xs, e1, h1, r1⟩ := tup_at s r
        exact .inl ⟨p, xs, e1, h1, by rw [r1.len]; exact hl, c, Γ, ds, rfl, s, l, r1, w⟩
      · exact w.elim
    · split at w
      · rename_i ds hd
        split at w
        · rename_i hl
          obtain ⟨p, xs, e1, h1, r1⟩ := lst_at s hd r
          exact .inr ⟨p, xs, e1, h1, by rw [r1.len]; exact hl, c, Γ, ds, rfl, s, l, r1, w⟩
        · exact w.elim
      · exact w.elim
/-- target = value -/
def sAsg (f : XF) (g : D → Sl → S → R Sl) : XS := fun Γ s => liftE (f Γ s) Γ fun d s => (g d Γ s).bind fun Γ' s => .ok (.nx Γ') s
theorem ks_asg {X : Cx} {W : WX} {vs : List Nat} {pos : Pos} {tg e : Expr} {f : XF} {g : D → Sl → S → R Sl} (he : PX X W e f) (hg : PXG X vs tg g) (hs : swapsWithSole [tg] e pos.line X.env = pure false := by rfl) (hw : swappedStores [tg] e X.env = pure none := by rfl)
    (h1 : (assignEach [tg] X.env).map (·.2) = [assign tg X.env] := by rfl) : PXS X W (.Assign [tg] e pos) (sAsg f g) := ps_of (ps_asg he hg hs hw h1) fun c Γ σ D s l w =>
  tX.here s l ((w.lift s l).monoL fun d c1 e1 s1 w1 v rv => ⟨c1, Γ, d, rfl, s1, l.mono e1, rv, (Wants.bind s1 w1).monoL fun Γ2 c2 e2 s2 w2 σ2 l2 _ => w2.here s2 σ2 l2⟩)
/-- a, b = x, y of plain local names -/
def sPar (i j : Nat) (f : XA) : XS := fun Γ s => liftE (f Γ s) Γ fun ds s => match ds with
  | [a, b] => .ok (.nx ((Γ.set i (some a)).set j (some b))) s
  | _ => .bad
theorem ks_par {X : Cx} {W : WX} {i j : Nat} {x y : Str} {a b : Expr} {f : XA} {px py pt pos : Pos} {kt k2 pt2} (hc : X.calm = true) (hN : X.N.Nodup) (hi : X.N[i]? = some x) (hj : X.N[j]? = some y) (hij : i ≠ j)
    (hx : X.env.scope.names.lookup x = some .local) (hy : X.env.scope.names.lookup y = some .local) (ha : PXA X W [a, b] f)
    (hw : swappedStores [.Tuple [.Name x px, .Name y py] kt pt] (.Tuple [a, b] k2 pt2) X.env = pure (some [x, y]))
    (hs : swapsWithSole [.Tuple [.Name x px, .Name y py] kt pt] (.Tuple [a, b] k2 pt2) pos.line X.env = pure false := by rfl) :
    PXS X W (.Assign [.Tuple [.Name x px, .Name y py] kt pt] (.Tuple [a, b] k2 pt2) pos) (sPar i j f) := ps_of (ps_par hc hN hi hj hij hx hy ha hw hs) fun c Γ σ D s l w =>
  tXA.here s l ((w.lift s l).monoL fun ds c1 e1 s1 w1 vs rv => by
    split at w1
    · rename_i a b
      obtain ⟨u, t, rfl, r1, r2⟩ := rv.uncons
      obtain ⟨u2, t2, rfl, r3, r4⟩ := r2.uncons
      simp only [RepL] at r4
      subst r4
      exact ⟨u, u2, rfl, w1.here s1 _ (((l.mono e1).set r1 i).set r3 j)⟩
    · exact w1.elim)
/-- name op= e, of ints; of lists (+=) -/
def sAug (i : Nat) (f : XF) (o : D → D → S → R D) : XS := fun Γ s => match Γ[i]? with
  | some (some x) => liftE (f Γ s) Γ fun y s => (o x y s).bind fun d s => .ok (.nx (Γ.set i (some d))) s
  | _ => .bad
theorem ks_aug (i : Nat) {X : Cx} {W : WX} {x : Str} {e : Expr} {f : XF} {op : Operator} {r : R2} {o : D → D → S → R D} {pos pos' : Pos} (hN : X.N.Nodup) (hi : X.N[i]? = some x) (hx : Loc X.env.scope x) (he : PX X W e f) (hr : OpR X (inplaceOp op) r) (ho : OpS X.K r o)
    (hf : X.fn x = true ∨ X.env.scope.names.lookup x = some .local := by first | exact .inl rfl | exact .inr rfl | assumption) : PXS X W (.AugAssign (.Name x pos') op e pos) (sAug i f o) :=
  ps_of (ps_aug hN hi hx he (ti := fun x y H Q => r x y H Q) (fun pins s σ H x y v u Q I r1 r2 q => hr pins s σ H x y v u Q I r1 r2 q) hf) fun c Γ σ D s l w => by
    unfold sAug at w
    split at w
    · rename_i x ex
      obtain ⟨v, h1, h2⟩ := l.get ex
      refine ⟨v, h1, tX.here s l ((w.lift s l).monoL fun y c1 e1 s1 w1 u ru => ?_)⟩
      exact ho c1 x y v u _ _ s1 (h2.mono e1) ru ((Wants.bind s1 w1).monoL fun z c2 e2 s2 w2 v2 r2 => w2.here s2 _ (((l.mono e1).mono e2).set r2 i))
    · exact w.elim
end L3

set_option Elab.async false
set_option linter.all false
set_option maxRecDepth 100000
namespace L3
open PySem PySem.Spec PyProof.Rows L2 RZ

/-! ### what is walked -/
/-- the things that come, and what must stay as it is -/
structure Wk where
  ds : List D
  chk : S → Bool
def Walks (K : PySem.W.Frag) (J : It) (p : Wk) (c0 : C4) : Prop :=
  ∀ c : C4, Ext c0 c → Sim K c → p.chk c.s = true → ∀ i,
    (∀ d, p.ds[i]? = some d → J.go i c.H ∧ ∀ x H', J.yld i c.H x H' → ∃ c', Ext c c' ∧ Sim K c' ∧ c'.s = c.s ∧ c'.H = H' ∧ Rep K c'.G c'.m d x) ∧ (p.ds.length ≤ i → J.stop i c.H)
abbrev XI := Sl → S → R Wk
def tXI (K : PySem.W.Frag) (W : WX) (f : XI) : TI := fun σ H R => ∃ c Γ, c.H = H ∧ Sim K c ∧ SlR K c Γ σ ∧ Wants K c (f Γ c.s) (fun p c' => ∀ J, Walks K J p c' → R J c'.H) (kX K W σ)
abbrev PXI (X : Cx) (W : WX) (tg iter : Expr) (f : XI) : Prop := PI X tg iter (tXI X.K W f)
theorem _root_.L2.PI.weak {X : Cx} {tg e : Expr} {t t' : TI} (h : PI X tg e t) (w : ∀ σ H R, t' σ H R → t σ H R) : PI X tg e t' := ⟨fun pins s σ H R I q => h.run pins s σ H R I (w _ _ _ q)⟩
theorem _root_.L2.PI.or {X : Cx} {tg e : Expr} {t t' : TI} (h : PI X tg e t) (h' : PI X tg e t') : PI X tg e (fun σ H R => t σ H R ∨ t' σ H R) :=
  ⟨fun pins s σ H R I q => q.elim (h.run pins s σ H R I) (h'.run pins s σ H R I)⟩

def yes : S → Bool := fun _ => true
mutual
def eqD : D → D → Bool
  | .non, .non => true
  | .bl a, .bl b => a == b
  | .int a, .int b => a == b
  | .str a, .str b => a == b
  | .ty a, .ty b => a == b
  | .raw a, .raw b => a == b
  | .ref a, .ref b => a == b
  | .tup a, .tup b => eqDs a b
  | .lst a, .lst b => eqDs a b
  | _, _ => false
def eqDs : List D → List D → Bool
  | [], [] => true
  | a :: r, b :: t => eqD a b && eqDs r t
  | _, _ => false
end
mutual
theorem eqD_eq : ∀ a b, eqD a b = true → a = b
  | .non, b, h => by cases b <;> simp_all [eqD]
  | .bl a, b, h => by cases b <;> simp_all [eqD]
  | .int a, b, h => by cases b <;> simp_all [eqD]
  | .str a, b, h => by cases b <;> simp_all [eqD]
  | .ty a, b, h => by cases b <;> simp_all [eqD]
  | .raw a, b, h => by cases b <;> simp_all [eqD]
  | .ref a, b, h => by cases b <;> simp_all [eqD]
  | .tup a, b, h => by
    cases b with
    | tup b => rw [eqDs_eq a b (by simpa only [eqD] using h)]
    | _ => simp [eqD] at h
  | .lst a, b, h => by
    cases b with
    | lst b => rw [eqDs_eq a b (by simpa only [eqD] using h)]
    | _ => simp [eqD] at h
  | .dK a, b, h => by cases b <;> simp_all [eqD]
  | .dT a, b, h => by cases b <;> simp_all [eqD]
theorem eqDs_eq : ∀ a b, eqDs a b = true → a = b
  | [], [], _ => rfl
  | [], _ :: _, h => by simp [eqDs] at h
  | _ :: _, [], h => by simp [eqDs] at h
  | a :: r, b :: t, h => by
    simp only [eqDs, Bool.and_eq_true] at h
    rw [eqD_eq a b h.1, eqDs_eq r t h.2]
end
open Classical in
/-- the numbered list is as it was -/
noncomputable def isLst (n : Nat) (ds : List D) : S → Bool := fun s => decide (s.get n = some (.lst ds))
noncomputable def wOf (d : D) (s : S) : R Wk := match d with
  | .tup ds => .ok ⟨ds, yes⟩ s
  | .lst ds => .ok ⟨ds, yes⟩ s
  | .ref n => match s.get n with
    | some (.lst ds) => .ok ⟨ds, isLst n ds⟩ s
    | _ => .bad
  | _ => .bad
noncomputable def iSeq (f : XF) : XI := fun Γ s => (f Γ s).bind wOf

section
variable {K : PySem.W.Frag} {c : C4} {W : WX}
theorem RepL.at {G : Hp} {m : Mp} {ds : List D} {vs : List V} {i : Nat} {d : D} (h : RepL K G m ds vs) (e : ds[i]? = some d) : ∃ v, vs[i]? = some v ∧ Rep K G m d v := h.get e
theorem walks_lst {p : Wk} {a : Addr} (hq : ∀ c', Ext c c' → Sim K c' → p.chk c'.s = true → ∃ vs, SqL K c'.H a vs ∧ RepL K c'.G c'.m p.ds vs) : Walks K (Itl K a) p c := by
  intro c' e s' hc i
  obtain ⟨vs, h1, r1⟩ := hq c' e s' hc
  refine ⟨fun d hd => ?_, fun hl => ⟨vs, h1, by rw [r1.len]; exact hl⟩⟩
  obtain ⟨v, h2, r2⟩ := r1.get hd
  refine ⟨⟨vs, v, h1, h2⟩, fun x H' y => ?_⟩
  obtain ⟨rfl, y⟩ := y
  have e2 : v = x := Option.some.inj (h2.symm.trans (y vs h1))
  subst e2
  exact ⟨c', Ext.refl _, s', rfl, rfl, r2⟩
theorem walks_tup {ds : List D} {a : Addr} {ch : S → Bool} (hq : ∀ c', Ext c c' → Sim K c' → ∃ vs, SqT K c'.H a vs ∧ RepL K c'.G c'.m ds vs) : Walks K (Itt K a) ⟨ds, ch⟩ c := by
  intro c' e s' hc i
  obtain ⟨vs, h1, r1⟩ := hq c' e s'
  refine ⟨fun d hd => ?_, fun hl => ⟨vs, h1, by rw [r1.len]; exact hl⟩⟩
  obtain ⟨v, h2, r2⟩ := r1.get hd
  refine ⟨⟨vs, v, h1, h2⟩, fun x H' y => ?_⟩
  obtain ⟨rfl, y⟩ := y
  have e2 : v = x := Option.some.inj (h2.symm.trans (y vs h1))
  subst e2
  exact ⟨c', Ext.refl _, s', rfl, rfl, r2⟩
theorem kI_list {J : It → Hp → Prop} {d : D} {v : V} (s : Sim K c) (r : Rep K c.G c.m d v) {Ψ : Exn → C4 → Prop} (w : Wants K c (wOf d c.s) (fun p c' => ∀ T, Walks K T p c' → J T c'.H) Ψ) :
    (∃ a, v = .ref a ∧ (∃ xs, SqL K c.H a xs) ∧ J (Itl K a) c.H) ∨ ∃ a, v = .ref a ∧ (∃ xs, SqT K c.H a xs) ∧ J (Itt K a) c.H := by
  unfold wOf at w
  split at w
  · rename_i ds
    obtain ⟨p, vs, rfl, h1, r1⟩ := tup_at s r
    refine .inr ⟨p, rfl, ⟨vs, h1⟩, w.here s _ (walks_tup fun c' e s' => ?_)⟩
    obtain ⟨p', vs', h0, h2, r2⟩ := tup_at s' (r.mono e)
    cases h0
    exact ⟨vs', h2, r2⟩
  · rename_i ds
    obtain ⟨p, vs, rfl, h1, r1⟩ := lst_at (d := .lst ds) s rfl r
    refine .inl ⟨p, rfl, ⟨vs, h1⟩, w.here s _ (walks_lst fun c' e s' _ => ?_)⟩
    obtain ⟨p', vs', h0, h2, r2⟩ := lst_at (d := .lst ds) s' rfl (r.mono e)
    cases h0
    exact ⟨vs', h2, r2⟩
  · rename_i n
    split at w
    · rename_i ds hd
      have hl : lstOf (.ref n) c.s = some ds := by unfold lstOf; simp only [hd]
      obtain ⟨p, vs, rfl, h1, r1⟩ := lst_at (d := .ref n) s hl r
      refine .inl ⟨p, rfl, ⟨vs, h1⟩, w.here s _ (walks_lst fun c' e s' hc => ?_)⟩
      have hd' : c'.s.get n = some (.lst ds) := by
        have hc' : isLst n ds c'.s = true := hc
        unfold isLst at hc'
        simpa using hc'
      have hl' : lstOf (.ref n) c'.s = some ds := by unfold lstOf; simp only [hd']
      obtain ⟨p', vs', h0, h2, r2⟩ := lst_at (d := .ref n) s' hl' (r.mono e)
      cases h0
      exact ⟨vs', h2, r2⟩
    · exact w.elim
  · exact w.elim
/-- a list or a tuple -/
def iLT (K : PySem.W.Frag) (tl : TE) : TI := fun σ H R => tl σ H fun x H1 => (∃ a, x = .ref a ∧ (∃ xs, SqL K H1 a xs) ∧ R (Itl K a) H1) ∨ ∃ a, x = .ref a ∧ (∃ xs, SqT K H1 a xs) ∧ R (Itt K a) H1
theorem pi_LT {X : Cx} {tg l : Expr} {tl : TE} (hl : PE X l tl) : PI X tg l (iLT X.K tl) := by
  refine ⟨fun pins s σ H R I h => ?_⟩
  refine thn (hl.run pins s σ H _ I h) fun v s1 ⟨x, H1, I1, r1, q1⟩ => ?_
  rcases q1 with ⟨a, e, ⟨xs, hq⟩, q⟩ | ⟨a, e, ⟨xs, hq⟩, q⟩
  · subst e
    cases r1
    obtain ⟨its, rv, p, hz⟩ := I1.list hq
    refine wpAny_pyIter_list p.isList ?_
    refine ⟨s1.heap.objs.size, [s1.heap.objs.size], _, _, H1, rfl, I1.kept (t' := s1.toks) fun b o e => Heap.get?_push_of_some _ e, turn_list a _, ⟨_, Heap.get?_push_size _ rfl, rfl, rfl⟩, fun b hb => ?_, q⟩
    have e : b = s1.heap.objs.size := by simpa using hb
    subst e
    exact I1.fpOk (Nat.le_refl _) (I1.hok.fresh (Nat.le_refl _))
  · subst e
    cases r1
    obtain ⟨its, rv, p, hz⟩ := I1.tuple hq
    refine wpAny_pyIter_tuple (show s1.heap.IsTuple a its.toArray from p) ?_
    refine ⟨s1.heap.objs.size, [s1.heap.objs.size], _, _, H1, rfl, I1.kept (t' := s1.toks) fun b o e => Heap.get?_push_of_some _ e, turn_tuple a _, ⟨_, Heap.get?_push_size _ rfl, rfl, rfl⟩, fun b hb => ?_, q⟩
    have e : b = s1.heap.objs.size := by simpa using hb
    subst e
    exact I1.fpOk (Nat.le_refl _) (I1.hok.fresh (Nat.le_refl _))
theorem ki_seq {X : Cx} {tg l : Expr} {f : XF} (hl : PX X W l f) : PXI X W tg l (iSeq f) := (pi_LT hl).weak fun σ H R ⟨c, Γ, e, s, sl, w⟩ => by
  subst e
  exact tX.here s sl ((w.bind s).monoL fun d c1 e1 s1 w1 v rv => kI_list s1 rv w1)
/-- range -/
def rng (lo : Int) (n : Nat) : List D := (List.range n).map fun (i : Nat) => .int (lo + (i : Int))
theorem walks_rng {lo : Int} {n : Nat} : Walks K (Itr lo n) ⟨rng lo n, yes⟩ c := by
  intro c' e s' hc i
  refine ⟨fun d hd => ?_, fun hl => (by simpa [rng] using hl : n ≤ i)⟩
  have hd' : (rng lo n)[i]? = some d := hd
  unfold rng at hd'
  rw [List.getElem?_map] at hd'
  cases q : (List.range n)[i]? with
  | none => rw [q] at hd'; cases hd'
  | some j =>
    rw [q] at hd'
    obtain ⟨h1, h2⟩ := List.getElem?_eq_some_iff.mp q
    rw [List.length_range] at h1
    rw [List.getElem_range] at h2
    subst h2
    have ed : D.int (lo + (i : Int)) = d := by simpa using hd'
    subst ed
    refine ⟨h1, fun x H' y => ?_⟩
    obtain ⟨rfl, rfl⟩ := y
    exact ⟨c', Ext.refl _, s', rfl, rfl, rep_int.mpr rfl⟩
def small62 (i : Int) : Bool := decide (-(2 ^ 62) ≤ i) && decide (i < 2 ^ 62)
def iRange1 (f : XF) : XI := fun Γ s => (f Γ s).bind fun d s => match d with
  | .int j => if small62 j = true then .ok ⟨rng 0 j.toNat, yes⟩ s else .bad
  | _ => .bad
def iRange2 (f g : XF) : XI := fun Γ s => (f Γ s).bind fun d s => (g Γ s).bind fun e s => match d, e with
  | .int i, .int j => if small62 i = true ∧ small62 j = true then .ok ⟨rng i (j - i).toNat, yes⟩ s else .bad
  | _, _ => .bad
theorem small62_ok {i : Int} (h : small62 i = true) : -(2 ^ 62) ≤ i ∧ i < 2 ^ 62 := by
  unfold small62 at h
  simpa using h
theorem ki_range1 {X : Cx} {tg a : Expr} {f : XF} {p pos : Pos} (hg : Gl X "range") (hm : X.mg "range" = none) (ha : PX X W a f) (hs : starEach [a] X.env = [(false, eval a X.env)] := by rfl) (hs' : starEach [a] X.env = (false, eval a X.env) :: starEach [] X.env := by rfl) : PXI X W tg (.Call (.Name "range" p) [a] [] pos) (iRange1 f) :=
  (pi_range1 hg hm (pa_cons ha pa_nil hs') hs).weak fun σ H R ⟨c, Γ, e, s, sl, w⟩ => by
    subst e
    refine tX.here s sl ((w.bind s).monoL fun d c1 e1 s1 w1 v rv => ?_)
    split at w1
    · rename_i j
      split at w1
      · rename_i hj
        rw [rep_int] at rv
        subst rv
        exact ⟨j, rfl, (small62_ok hj).1, (small62_ok hj).2, w1.here s1 _ walks_rng⟩
      · exact w1.elim
    · exact w1.elim
theorem ki_range2 {X : Cx} {tg a b : Expr} {f g : XF} {p pos : Pos} (hg : Gl X "range") (hm : X.mg "range" = none) (ha : PX X W a f) (hb : PX X W b g) (hs : starEach [a, b] X.env = [(false, eval a X.env), (false, eval b X.env)] := by rfl) (hs2 : starEach [b] X.env = [(false, eval b X.env)] := by rfl) (hs3 : starEach [a, b] X.env = (false, eval a X.env) :: starEach [b] X.env := by rfl) (hs4 : starEach [b] X.env = (false, eval b X.env) :: starEach [] X.env := by rfl) :
    PXI X W tg (.Call (.Name "range" p) [a, b] [] pos) (iRange2 f g) :=
  (pi_range2 hg hm (pa_cons ha (pa_cons hb pa_nil hs4) hs3) hs hs2).weak fun σ H R ⟨c, Γ, e, s, sl, w⟩ => by
    subst e
    refine tX.here s sl ((w.bind s).monoL fun d c1 e1 s1 w1 v rv => ?_)
    refine tX.here s1 (sl.mono e1) ((w1.bind s1).monoL fun d' c2 e2 s2 w2 v' rv' => ?_)
    split at w2
    · rename_i i j
      split at w2
      · rename_i hj
        rw [rep_int] at rv rv'
        subst rv; subst rv'
        exact ⟨i, j, rfl, ⟨(small62_ok hj.1).1, (small62_ok hj.1).2, (small62_ok hj.2).1, (small62_ok hj.2).2⟩, w2.here s2 _ walks_rng⟩
      · exact w2.elim
    · exact w2.elim
/-- a pair made on the way -/
theorem rep_pair {x y : D} {v u : V} {T : Addr} (s : Sim K c) (hT : c.H T = none) (r1 : Rep K c.G c.m x v) (r2 : Rep K c.G c.m y u) :
    ∃ c', Ext c c' ∧ Sim K c' ∧ c'.s = c.s ∧ c'.H = upd c.H T (.tup [v, u]) ∧ Rep K c'.G c'.m (.tup [x, y]) (.ref T) := by
  have e := frz_ext (h := .tup [v, u]) s hT
  refine ⟨c.frz T (.tup [v, u]), e, frz_sim s hT, rfl, rfl, ?_⟩
  simp only [Rep]
  exact ⟨T, [v, u], rfl, upd_same, RepL.cons (r1.mono e) (RepL.one (r2.mono e))⟩
def enumD (i : Nat) : List D → List D
  | [] => []
  | d :: r => .tup [.int (i : Int), d] :: enumD (i + 1) r
theorem enumD_len : ∀ (i : Nat) (ds : List D), (enumD i ds).length = ds.length
  | _, [] => rfl
  | i, d :: r => by unfold enumD; rw [List.length_cons, List.length_cons, enumD_len (i + 1) r]
theorem enumD_get : ∀ (i j : Nat) (ds : List D), (enumD i ds)[j]? = (ds[j]?).map fun d => D.tup [.int ((i + j : Nat) : Int), d]
  | _, _, [] => rfl
  | i, 0, d :: r => rfl
  | i, j + 1, d :: r => by
    unfold enumD
    rw [List.getElem?_cons_succ, List.getElem?_cons_succ, enumD_get (i + 1) j r]
    rw [show i + 1 + j = i + (j + 1) by omega]
noncomputable def iEnumD (f : XF) : XI := fun Γ s => (f Γ s).bind fun d s => match d with
  | .lst ds => .ok ⟨enumD 0 ds, yes⟩ s
  | .ref n => match s.get n with
    | some (.lst ds) => .ok ⟨enumD 0 ds, isLst n ds⟩ s
    | _ => .bad
  | _ => .bad
theorem walks_enum {ds : List D} {a : Addr} {ch : S → Bool} (hq : ∀ c', Ext c c' → Sim K c' → ch c'.s = true → ∃ vs, SqL K c'.H a vs ∧ RepL K c'.G c'.m ds vs) : Walks K (Ite K a) ⟨enumD 0 ds, ch⟩ c := by
  intro c' e s' hc i
  obtain ⟨vs, h1, r1⟩ := hq c' e s' hc
  refine ⟨fun d hd => ?_, fun hl => ⟨vs, h1, by rw [r1.len]; simpa [enumD_len] using hl⟩⟩
  have hd' : (enumD 0 ds)[i]? = some d := hd
  rw [enumD_get] at hd'
  cases q : ds[i]? with
  | none => rw [q] at hd'; cases hd'
  | some d0 =>
    rw [q] at hd'
    have ed : D.tup [.int ((0 + i : Nat) : Int), d0] = d := by simpa using hd'
    rw [Nat.zero_add] at ed
    subst ed
    obtain ⟨v, h2, r2⟩ := r1.get q
    refine ⟨⟨vs, v, h1, h2⟩, fun x H' y => ?_⟩
    obtain ⟨T, x', rfl, hT, rfl, y⟩ := y
    have e2 : v = x' := Option.some.inj (h2.symm.trans (y vs h1))
    subst e2
    exact rep_pair s' hT (rep_int.mpr rfl) r2
theorem ki_enum {X : Cx} {e : Expr} {f : XF} {p pos tpos : Pos} {elts : List Expr} {kk : Nat} (hg : Gl X "enumerate") (hm : X.mg "enumerate" = none) (ha : PX X W e f) (hs : starEach [e] X.env = [(false, eval e X.env)] := by rfl) (hs' : starEach [e] X.env = (false, eval e X.env) :: starEach [] X.env := by rfl) :
    PXI X W (.Tuple elts kk tpos) (.Call (.Name "enumerate" p) [e] [] pos) (iEnumD f) := (pi_enum hg hm (pa_cons ha pa_nil hs') hs).weak fun σ H R ⟨c, Γ, e, s, sl, w⟩ => by
  subst e
  refine tX.here s sl ((w.bind s).monoL fun d c1 e1 s1 w1 v rv => ?_)
  split at w1
  · rename_i ds
    obtain ⟨p, vs, rfl, h1, r1⟩ := lst_at (d := .lst ds) s1 rfl rv
    refine ⟨p, vs, rfl, h1, w1.here s1 _ (walks_enum fun c' e s' _ => ?_)⟩
    obtain ⟨p', vs', h0, h2, r2⟩ := lst_at (d := .lst ds) s' rfl (rv.mono e)
    cases h0
    exact ⟨vs', h2, r2⟩
  · rename_i n
    split at w1
    · rename_i ds hd
      have hl : lstOf (.ref n) c1.s = some ds := by unfold lstOf; simp only [hd]
      obtain ⟨p, vs, rfl, h1, r1⟩ := lst_at (d := .ref n) s1 hl rv
      refine ⟨p, vs, rfl, h1, w1.here s1 _ (walks_enum fun c' e s' hc => ?_)⟩
      have hd' : c'.s.get n = some (.lst ds) := by
        have hc' : isLst n ds c'.s = true := hc
        unfold isLst at hc'
        simpa using hc'
      have hl' : lstOf (.ref n) c'.s = some ds := by unfold lstOf; simp only [hd']
      obtain ⟨p', vs', h0, h2, r2⟩ := lst_at (d := .ref n) s' hl' (rv.mono e)
      cases h0
      exact ⟨vs', h2, r2⟩
    · exact w1.elim
  · exact w1.elim
def zipD : List D → List D → List D
  | a :: r, b :: t => .tup [a, b] :: zipD r t
  | _, _ => []
theorem zipD_get : ∀ (xs ys : List D) (j : Nat), (zipD xs ys)[j]? = match xs[j]?, ys[j]? with
    | some a, some b => some (.tup [a, b])
    | _, _ => none
  | [], ys, j => by simp [zipD]
  | a :: r, [], j => by simp [zipD]
  | a :: r, b :: t, 0 => rfl
  | a :: r, b :: t, j + 1 => by
    unfold zipD
    rw [List.getElem?_cons_succ, List.getElem?_cons_succ, List.getElem?_cons_succ, zipD_get r t j]
theorem zipD_len : ∀ (xs ys : List D), (zipD xs ys).length = min xs.length ys.length
  | [], ys => by simp [zipD]
  | a :: r, [] => by simp [zipD]
  | a :: r, b :: t => by
    unfold zipD
    rw [List.length_cons, List.length_cons, List.length_cons, zipD_len r t]
    omega
/-- a list to be walked, with what must stay -/
noncomputable def lchk (d : D) (ds : List D) : S → Bool := match d with
  | .ref n => isLst n ds
  | _ => yes
theorem lchk_ok {d : D} {ds : List D} {s s' : S} (h : lstOf d s = some ds) (hc : lchk d ds s' = true) : lstOf d s' = some ds := by
  unfold lstOf at h ⊢
  split at h
  · exact h
  · split at h
    · cases h
      have hc' : isLst _ ds s' = true := hc
      unfold isLst at hc'
      rename_i n _ _
      have e : s'.get n = some (O.lst ds) := by simpa using hc'
      simp only [e]
    · cases h
  · cases h
noncomputable def iZipD (f g : XF) : XI := fun Γ s => (f Γ s).bind fun d s => (g Γ s).bind fun e s => match d, e with
  | .tup ds, .tup es => .ok ⟨zipD ds es, yes⟩ s
  | d, e => match lstOf d s, lstOf e s with
    | some ds, some es => .ok ⟨zipD ds es, fun s => lchk d ds s && lchk e es s⟩ s
    | _, _ => .bad
theorem walks_zip {xs ys : List D} {a b : Addr} {ch : S → Bool} (hq : ∀ c', Ext c c' → Sim K c' → ch c'.s = true → ∃ vs us, SqL K c'.H a vs ∧ SqL K c'.H b us ∧ RepL K c'.G c'.m xs vs ∧ RepL K c'.G c'.m ys us) : Walks K (Itz K a b) ⟨zipD xs ys, ch⟩ c := by
  intro c' e s' hc i
  obtain ⟨vs, us, h1, h2, r1, r2⟩ := hq c' e s' hc
  refine ⟨fun d hd => ?_, fun hl => ⟨vs, us, h1, h2, ?_⟩⟩
  · have hd' : (zipD xs ys)[i]? = some d := hd
    rw [zipD_get] at hd'
    split at hd'
    · rename_i x0 y0 q1 q2
      cases hd'
      obtain ⟨v, h3, r3⟩ := r1.get q1
      obtain ⟨u, h4, r4⟩ := r2.get q2
      refine ⟨⟨vs, us, v, u, h1, h2, h3, h4⟩, fun x H' y => ?_⟩
      obtain ⟨T, x', y', rfl, hT, rfl, k1, k2⟩ := y
      have e2 : v = x' := Option.some.inj (h3.symm.trans (k1 vs h1))
      have e3 : u = y' := Option.some.inj (h4.symm.trans (k2 us h2))
      subst e2; subst e3
      exact rep_pair s' hT r3 r4
    · cases hd'
  · have hl' : (zipD xs ys).length ≤ i := hl
    rw [zipD_len] at hl'
    rw [r1.len, r2.len]
    omega
theorem walks_zipT {xs ys : List D} {a b : Addr} {ch : S → Bool} (hq : ∀ c', Ext c c' → Sim K c' → ∃ vs us, SqT K c'.H a vs ∧ SqT K c'.H b us ∧ RepL K c'.G c'.m xs vs ∧ RepL K c'.G c'.m ys us) : Walks K (ItzT K a b) ⟨zipD xs ys, ch⟩ c := by
  intro c' e s' hc i
  obtain ⟨vs, us, h1, h2, r1, r2⟩ := hq c' e s'
  refine ⟨fun d hd => ?_, fun hl => ⟨vs, us, h1, h2, ?_⟩⟩
  · have hd' : (zipD xs ys)[i]? = some d := hd
    rw [zipD_get] at hd'
    split at hd'
    · rename_i x0 y0 q1 q2
      cases hd'
      obtain ⟨v, h3, r3⟩ := r1.get q1
      obtain ⟨u, h4, r4⟩ := r2.get q2
      refine ⟨⟨vs, us, v, u, h1, h2, h3, h4⟩, fun x H' y => ?_⟩
      obtain ⟨T, x', y', rfl, hT, rfl, k1, k2⟩ := y
      have e2 : v = x' := Option.some.inj (h3.symm.trans (k1 vs h1))
      have e3 : u = y' := Option.some.inj (h4.symm.trans (k2 us h2))
      subst e2; subst e3
      exact rep_pair s' hT r3 r4
    · cases hd'
  · have hl' : (zipD xs ys).length ≤ i := hl
    rw [zipD_len] at hl'
    rw [r1.len, r2.len]
    omega
theorem ki_zip {X : Cx} {e e2 : Expr} {f g : XF} {p pos tpos : Pos} {elts : List Expr} {kk : Nat} (hg : Gl X "zip") (hm : X.mg "zip" = none) (ha : PX X W e f) (hb : PX X W e2 g)
    (hs : starEach [e, e2] X.env = (false, eval e X.env) :: starEach [e2] X.env := by rfl) (hs2 : starEach [e2] X.env = (false, eval e2 X.env) :: starEach [] X.env := by rfl) (hpl : (backTo pos (starEach [e2] X.env)).any (·.1) = false := by rfl) :
    PXI X W (.Tuple elts kk tpos) (.Call (.Name "zip" p) [e, e2] [] pos) (iZipD f g) := (pi_zipA hg hm (pa_cons ha (pa_cons hb pa_nil hs2) hs) hs hpl).weak fun σ H R ⟨c, Γ, e, s, sl, w⟩ => by
  subst e
  refine tX.here s sl ((w.bind s).monoL fun d c1 e1 s1 w1 v rv => ?_)
  refine tX.here s1 (sl.mono e1) ((w1.bind s1).monoL fun d' c2 e2 s2 w2 v' rv' => ?_)
  have rv := rv.mono e2
  split at w2
  · rename_i ds es
    obtain ⟨p, vs, rfl, h1, r1⟩ := tup_at s2 rv
    obtain ⟨q, us, rfl, h2, r2⟩ := tup_at s2 rv'
    refine ⟨p, q, vs, us, rfl, .inr ⟨h1, h2, w2.here s2 _ (walks_zipT fun c' e s' => ?_)⟩⟩
    obtain ⟨p', vs', h0, h3, r3⟩ := tup_at s' (rv.mono e)
    obtain ⟨q', us', h0', h4, r4⟩ := tup_at s' (rv'.mono e)
    cases h0; cases h0'
    exact ⟨vs', us', h3, h4, r3, r4⟩
  · split at w2
    · rename_i ds es q1 q2
      obtain ⟨p, vs, rfl, h1, r1⟩ := lst_at s2 q1 rv
      obtain ⟨q, us, rfl, h2, r2⟩ := lst_at s2 q2 rv'
      refine ⟨p, q, vs, us, rfl, .inl ⟨h1, h2, w2.here s2 _ (walks_zip fun c' e s' hc => ?_)⟩⟩
      have hc' := Bool.and_eq_true_iff.mp hc
      obtain ⟨p', vs', h0, h3, r3⟩ := lst_at s' (lchk_ok q1 hc'.1) (rv.mono e)
      obtain ⟨q', us', h0', h4, r4⟩ := lst_at s' (lchk_ok q2 hc'.2) (rv'.mono e)
      cases h0; cases h0'
      exact ⟨vs', us', h3, h4, r3, r4⟩
    · exact w2.elim
end

/-! ### for -/
def forL (ch : S → Bool) (g : D → Sl → S → R Sl) (b : XS) : List D → XS
  | [] => fun Γ s => if ch s = true then .ok (.nx Γ) s else .bad
  | d :: r => fun Γ s => if ch s = true then (g d Γ s).bind fun Γ s => (b Γ s).bind (loopR (forL ch g b r)) else .bad
def sFor (it : XI) (g : D → Sl → S → R Sl) (b : XS) : XS := fun Γ s => liftE (it Γ s) Γ fun p s => forL p.chk g b p.ds Γ s
theorem ks_for {X : Cx} {W : WX} {vs : List Nat} {tg iter : Expr} {body : List Stmt} {fi : XI} {g : D → Sl → S → R Sl} {b : XS} {pos : Pos} (hp : PassesOwn (model X.prog X.w) X.A X.env X.xe) (hc : X.calm = true) (hi : PXI X W tg iter fi) (hg : PXG X vs tg g) (hb : PXSs X W body b)
    (hs : ∀ x, foldedSetIterable iter X.env x = pure x := by intro _; rfl) : PXS X W (.For tg iter body [] pos) (sFor fi g b) := ps_of (ps_for hp hc hi hg hb hs) fun c Γ σ D s l w => by
  refine ⟨c, Γ, rfl, s, l, (w.lift s l).monoL fun p c1 e1 s1 w1 J hJ => ?_⟩
  refine ⟨fun i m σ H => m = p.ds.length - i ∧ i ≤ p.ds.length ∧ ∃ c2 Γ2, c2.H = H ∧ Ext c1 c2 ∧ Sim X.K c2 ∧ SlR X.K c2 Γ2 σ ∧ Wants X.K c2 (forL p.chk g b (p.ds.drop i) Γ2 c2.s) (kS X.K W D) kF,
    ⟨p.ds.length, by simp, Nat.zero_le _, c1, Γ, rfl, Ext.refl _, s1, l.mono e1, w1⟩, ?_⟩
  rintro i m σ2 H ⟨rfl, hi, c2, Γ2, rfl, e2, s2, l2, w2⟩
  by_cases hlt : i < p.ds.length
  · rw [List.drop_eq_getElem_cons hlt] at w2
    unfold forL at w2
    split at w2
    · rename_i hch
      obtain ⟨h1, _⟩ := hJ c2 e2 s2 hch i
      obtain ⟨hgo, hy⟩ := h1 p.ds[i] (List.getElem?_eq_getElem hlt)
      refine .inr ⟨hgo, fun σ' H' => ∃ c3 Γ3, c3.H = H' ∧ Ext c1 c3 ∧ Sim X.K c3 ∧ SlR X.K c3 Γ3 σ' ∧ Wants X.K c3 (forL p.chk g b (p.ds.drop (i + 1)) Γ3 c3.s) (kS X.K W D) kF,
        fun σ' H' ⟨c3, Γ3, h3, q⟩ => ⟨p.ds.length - (i + 1), by omega, rfl, hlt, c3, Γ3, h3, q⟩, fun x H' y => ?_⟩
      obtain ⟨c3, e3, s3, es, eh, r3⟩ := hy x H' y
      rw [← eh]
      rw [← es] at w2
      have w3 : Wants X.K c3 ((g p.ds[i] Γ2 c3.s).bind fun Γ s => (b Γ s).bind (loopR (forL p.chk g b (p.ds.drop (i + 1))))) (kS X.K W D) kF := by
        generalize (g p.ds[i] Γ2 c3.s).bind (fun Γ s => (b Γ s).bind (loopR (forL p.chk g b (p.ds.drop (i + 1))))) = rr at w2 ⊢
        cases rr with
        | bad => exact w2
        | ok a s0 => exact fun c' e' => w2 c' (e3.trans s2 e')
        | exc a s0 => exact fun c' e' => w2 c' (e3.trans s2 e')
      refine ⟨c3, Γ2, p.ds[i], rfl, s3, l2.mono e3, r3, (Wants.bind s3 w3).monoL fun Γ4 c4 e4 s4 w4 σ4 l4 _ => ?_⟩
      refine tXS.here s4 l4 ((Wants.bind s4 w4).monoL fun r c5 e5 s5 w5 => kS_loop s5 w5 fun Γ' σ' l' w' => ⟨c5, Γ', rfl, ?_, s5, l', w'⟩)
      exact e2.trans s1 (e3.trans s2 (e4.trans s3 e5))
    · exact w2.elim
  · have ei : i = p.ds.length := by omega
    rw [ei, List.drop_length] at w2
    unfold forL at w2
    split at w2
    · rename_i hch
      exact .inl ⟨(hJ c2 e2 s2 hch i).2 (by omega), w2.here s2 σ2 l2⟩
    · exact w2.elim
end L3

set_option Elab.async false
set_option linter.all false
set_option maxRecDepth 100000
namespace L3
open PySem PySem.Spec PyProof.Rows L2

/-! ### own defs -/
/-- the promise: it does what F does -/
def kC (K : PySem.W.Frag) (E : XK) : Exn → C4 → Prop := fun e c => ∀ cls d, ExR K c e cls d → E cls d c.H
def spF (K : PySem.W.Frag) (n : Nat) (F : List D → S → R D) : Sp := fun vs H Q E => vs.length = n ∧ ∃ c ds, c.H = H ∧ Sim K c ∧ RepL K c.G c.m ds vs ∧ Wants K c (F ds c.s) (kE K Q) (kC K E)
def endR (r : R Fl) : R D := match r with
  | .ok (.rt d) s => .ok d s
  | .ok (.nx _) s => .ok .non s
  | .ok (.ex e _) s => .exc e s
  | _ => .bad
/-- a body as a function: n names -/
def fnB (n : Nat) (body : XS) : List D → S → R D := fun ds s => endR (body (ds.map some ++ List.replicate (n - ds.length) none) s)
theorem SlR.blank {K : PySem.W.Frag} {c : C4} : ∀ n, SlR K c (List.replicate n none) (List.replicate n none)
  | 0 => rfl
  | n + 1 => ⟨none, _, rfl, SlR.blank n⟩
theorem SlR.start {K : PySem.W.Frag} {c : C4} : ∀ {ds : List D} {vs : List V} (n : Nat), RepL K c.G c.m ds vs → SlR K c (ds.map some ++ List.replicate n none) (vs.map some ++ List.replicate n none)
  | [], vs, n, h => by
    simp only [RepL] at h
    rw [h]
    exact SlR.blank n
  | d :: ds, vs, n, h => by
    obtain ⟨v, r, rfl, h1, h2⟩ := h.uncons
    exact ⟨v, _, rfl, h1, SlR.start n h2⟩
/-- the wish of a def's body -/
def wE (E : XK) : WX := fun cls d _ H => E cls d H
section
variable {P : Program} {w : World} {K : PySem.W.Frag} {mg : Str → Option Value} {base : Heap}
theorem fn_ok {x qual : Str} {st : Stmt} {f : Addr} {fd : FuncData} {N ps : List Str} {k : Nat} {body : XS} (n m : Nat) (F : Fun K x qual st f fd) (S : FnScope N ps (defScope st)) (hn : ps.length = n) (hm : N.length = m)
    (hbody : ∀ (cdv : Value) (A : Around) (outer : List Env) (s : Shared) (H : Hp) (E : XK), Room k (A.deeper (envOfC qual (defScope st) s.heap.objs.size f cdv)) →
      PXSs (cxOf (L2.CX P w) P w K mg base N qual (defScope st) f cdv A outer s H E) (wE E) (defBody st) body) : FnOk P w K mg base (L2.CX P w) (k + 1) f fd ps (spF K n (fnB m body)) := by
  refine F.okX S (fun vs H Q E h => h.1.trans hn.symm) (fun cdv A outer s H vs Q E hr h => ⟨_, hbody cdv A outer s H E hr, ?_⟩)
  obtain ⟨hl, c, ds, rfl, sm, rv, wn⟩ := h
  have e : L2.start N vs = vs.map some ++ List.replicate (m - ds.length) none := by
    unfold L2.start
    rw [hm, rv.len]
  rw [e]
  refine ⟨c, _, rfl, sm, SlR.start _ rv, ?_⟩
  unfold fnB at wn
  generalize body (ds.map some ++ List.replicate (m - ds.length) none) c.s = r at wn ⊢
  cases r with
  | bad => exact wn
  | exc e s2 => exact wn.elim
  | ok fl s2 =>
    cases fl with
    | nx Γ => exact fun c' e' s' q σ' l' => wn c' e' s' q .non (rep_non.mpr rfl)
    | rt d => exact fun c' e' s' q v rv => wn c' e' s' q v rv
    | bk Γ => exact wn.elim
    | ct Γ => exact wn.elim
    | ex e Γ => exact fun c' e' s' q σ' cls d l' ex => wn c' e' s' q cls d ex
/-- a def, by another function that tells the same -/
theorem fn_to {f : Addr} {fd : FuncData} {ps : List Str} {k n : Nat} {F G : List D → S → R D} (h : FnOk P w K mg base (L2.CX P w) k f fd ps (spF K n F)) (e : ∀ ds s, G ds s ≠ .bad → F ds s = G ds s) : FnOk P w K mg base (L2.CX P w) k f fd ps (spF K n G) :=
  h.imp fun vs H Q E ⟨hl, c, ds, e1, sm, rv, wn⟩ => ⟨hl, c, ds, e1, sm, rv, by rw [e ds c.s wn.ne]; exact wn⟩
end

section
variable {X : Cx} {W : WX} {k : Nat} {f : Addr} {fd : FuncData} {ps : List Str} {n : Nat} {F : List D → S → R D} {x : Str} {p pos apos : Pos} {e o : Expr} {es : List Expr} {fa : XA} {fo : XF}
def xCall (n : Nat) (F : List D → S → R D) (fa : XA) : XF := fun Γ s => (fa Γ s).bind fun ds s => if ds.length = n then F ds s else .bad
/-- behind the arguments -/
theorem call_to {K : PySem.W.Frag} {n : Nat} {F : List D → S → R D} {σ : L2.St} {c1 : C4} {ds : List D} {vs : List V} {Q : VK} {W : WX} (s1 : Sim K c1) (rv : RepL K c1.G c1.m ds vs) (w1 : Wants K c1 (if ds.length = n then F ds c1.s else .bad) (kE K Q) (kX K W σ)) :
    spF K n F vs c1.H Q (WE W σ) := by
  split at w1
  · rename_i h
    exact ⟨by rw [rv.len]; exact h, c1, ds, rfl, s1, rv, w1⟩
  · exact w1.elim
theorem px_call (G : FnOk X.prog X.w X.K X.mg X.base (L2.CX X.prog X.w) k f fd ps (spF X.K n F)) (hr : Room k X.A) (tk : Takes X W) (hg : Gl X x) (hm : X.mg x = some (.ref f)) (hk : PySem.W.keepIn X.K (.ref f) = true) (hb : Binds X.K fd ps [])
    (ha : PXA X W (e :: es) fa) (hdb : (x == ("__debug__" : Str)) = false := by decide) (he : starEach (e :: es) X.env = (false, eval e X.env) :: starEach es X.env := by rfl) (hpl : (backTo pos (starEach es X.env)).any (·.1) = false := by rfl) :
    PX X W (.Call (.Name x p) (e :: es) [] pos) (xCall n F fa) := (pe_callSD (E := WE W) G hr hg hm hk hb .nil (passAt tk) ha hdb he hpl).weak fun σ H Q ⟨c, Γ, e, s, sl, w⟩ => by
  subst e
  refine ⟨c, Γ, rfl, s, sl, (w.bind s).monoL fun ds c1 e1 s1 w1 vs rv => ?_⟩
  dsimp only
  rw [List.append_nil]
  exact call_to s1 rv w1

/-! ### instances -/
def putD (f : Str) (v : D) : List (Str × D) → List (Str × D)
  | [] => [(f, v)]
  | (g, u) :: r => if g = f then (g, v) :: r else (g, u) :: putD f v r
/-- an object of the class at C -/
def isIns (C : Addr) (x : D) (s : S) : Option (Nat × List (Str × D)) := match x with
  | .ref n => match s.get n with
    | some (.ins C' fs) => if C' = C then some (n, fs) else none
    | _ => none
  | _ => none
theorem RepF.look {K : PySem.W.Frag} {G : Hp} {m : Mp} : ∀ {fs : List (Str × D)} {vs : List (Str × V)} {f : Str}, RepF K G m fs vs → (∀ d, fs.lookup f = some d → ∃ v, vs.lookup f = some v ∧ Rep K G m d v) ∧ (fs.lookup f = none → vs.lookup f = none)
  | [], vs, f, h => by
    have e : vs = [] := h
    rw [e]
    exact ⟨fun d q => (by cases q), fun _ => rfl⟩
  | (g, u) :: r, vs, f, h => by
    obtain ⟨v, t, rfl, h1, h2⟩ := h
    rw [List.lookup_cons, List.lookup_cons]
    cases e : f == g with
    | true =>
      refine ⟨fun d q => ?_, fun q => ?_⟩
      · cases q
        exact ⟨v, rfl, h1⟩
      · cases q
    | false => exact RepF.look h2
theorem RepF.len {K : PySem.W.Frag} {G : Hp} {m : Mp} : ∀ {fs : List (Str × D)} {vs : List (Str × V)}, RepF K G m fs vs → vs.length = fs.length
  | [], vs, h => by
    have e : vs = [] := h
    rw [e]; rfl
  | (g, u) :: r, vs, h => by
    obtain ⟨v, t, rfl, h1, h2⟩ := h
    rw [List.length_cons, List.length_cons, RepF.len h2]
theorem RepF.put {K : PySem.W.Frag} {G : Hp} {m : Mp} {f : Str} {d : D} {v : V} (r : Rep K G m d v) : ∀ {fs : List (Str × D)} {vs : List (Str × V)}, RepF K G m fs vs → RepF K G m (putD f d fs) (putF f v vs)
  | [], vs, h => by
    have e : vs = [] := h
    rw [e]
    show ∃ v' r', [(f, v)] = (f, v') :: r' ∧ Rep K G m d v' ∧ r' = []
    exact ⟨v, [], rfl, r, rfl⟩
  | (g, u) :: t, vs, h => by
    obtain ⟨v', t', rfl, h1, h2⟩ := h
    by_cases e : g = f
    · have e1 : putD f d ((g, u) :: t) = (g, d) :: t := if_pos e
      have e2 : putF f v ((g, v') :: t') = (g, v) :: t' := if_pos e
      rw [e1, e2]
      exact ⟨v, t', rfl, r, h2⟩
    · have e1 : putD f d ((g, u) :: t) = (g, u) :: putD f d t := if_neg e
      have e2 : putF f v ((g, v') :: t') = (g, v') :: putF f v t' := if_neg e
      rw [e1, e2]
      exact ⟨v', _, rfl, h1, RepF.put r h2⟩
theorem ins_at {K : PySem.W.Frag} {c : C4} {C : Addr} {x : D} {v : V} {n : Nat} {fs : List (Str × D)} (s : Sim K c) (h : isIns C x c.s = some (n, fs)) (r : Rep K c.G c.m x v) :
    x = .ref n ∧ c.s.get n = some (.ins C fs) ∧ ∃ a dx vs, v = .ref a ∧ c.m n = some a ∧ c.H a = some (.ins C dx vs) ∧ RepF K c.G c.m fs vs := by
  unfold isIns at h
  split at h
  · split at h
    · rename_i e
      split at h
      · rename_i eC
        cases h
        subst eC
        obtain ⟨a, u, h1, h2, h3, h4, dx, vs, rfl, h5⟩ := s.at e r
        exact ⟨rfl, e, a, dx, vs, h1, h2, h4, h5⟩
      · cases h
    · cases h
  · cases h
/-- a field read -/
def xFld (C : Addr) (f : Str) (g : XF) : XF := fun Γ s => (g Γ s).bind fun x s => match isIns C x s with
  | some (_, fs) => match fs.lookup f with
    | some d => .ok d s
    | none => .bad
  | none => .bad
theorem px_fld {C : Addr} {f : Str} {g : XF} (cl : Cls X.K C) (na : NoAttr X.K C f) (he : PX X W e g) (hb : attributeBase e f X.env (eval e X.env) = eval e X.env := by rfl) : PX X W (.Attribute e f pos) (xFld C f g) := (pe_fld he hb).weak fun σ H Q ⟨c, Γ, e, s, sl, w⟩ => by
  subst e
  refine tX.here s sl ((w.bind s).monoL fun x c1 e1 s1 w1 v rv => ?_)
  split at w1
  · rename_i n fs h
    split at w1
    · rename_i d hd
      obtain ⟨_, _, a, dx, vs, rfl, h2, h3, h4⟩ := ins_at s1 h rv
      obtain ⟨v', h5, h6⟩ := h4.look.1 d hd
      exact ⟨a, C, dx, vs, v', rfl, h3, cl, na, h5, w1.here s1 _ h6⟩
    · exact w1.elim
  · exact w1.elim
/-- o.f = e -/
def sFldSet (C : Addr) (f : Str) (fo fv : XF) : XS := fun Γ s => liftE (fv Γ s) Γ fun d s => liftE (fo Γ s) Γ fun x s => match isIns C x s with
  | some (n, fs) => if fs.length < 1000 then .ok (.nx Γ) (s.put n (.ins C (putD f d fs))) else .bad
  | none => .bad
theorem ks_fld {C : Addr} {f : Str} {fv : XF} {v : Expr} {pos' : Pos} (cl : Cls X.K C) (na : NoAttr X.K C f) (ho : PX X W o fo) (hv : PX X W v fv) (hs : swapsWith v (some (.Attribute o f pos')) pos.line X.env = pure false := by rfl) :
    PXS X W (.Assign [.Attribute o f pos'] v pos) (sFldSet C f fo fv) := ps_of (ps_fld ho hv hs) fun c Γ σ D s l w => by
  refine tX.here s l ((w.lift s l).monoL fun d c1 e1 s1 w1 u ru => ?_)
  have l1 := l.mono e1
  refine tX.here s1 l1 ((w1.lift s1 l1).monoL fun x c2 e2 s2 w2 v rv => ?_)
  split at w2
  · rename_i n fs h
    split at w2
    · rename_i hl
      obtain ⟨_, hg, a, dx, vs, rfl, h2, h3, h4⟩ := ins_at s2 h rv
      refine ⟨a, C, dx, vs, rfl, h3, cl, na, by rw [h4.len]; exact hl, ?_⟩
      have e3 := wr_ext (h := .ins C dx (putF f u vs)) (o' := .ins C (putD f d fs)) s2 h2 hg
      exact w2.to e3 (wr_sim s2 h2 hg ⟨dx, _, rfl, h4.put (ru.mono e2)⟩) rfl σ ((l1.mono e2).mono e3)
    · exact w2.elim
  · exact w2.elim

/-! ### methods -/
theorem run_fnSD' {CX : CXT} {ds : List Value} {dvs : List V} {sp : Sp} {E : L2.St → XK} {pins : List (Addr × Obj)} {σ : L2.St} {H : Hp} {s : Shared} {Q : VK} {us : List Value} {vs : List V} (F : FnOk X.prog X.w X.K X.mg X.base CX k f fd ps sp) (hr : Room k X.A) (hb : Binds X.K fd ps ds) (hd : Vals dvs ds) (hx : PassesAt CX X σ (E σ))
    (I : L2.Inv X pins σ H s) (r : Vals vs us) (h : sp (vs ++ dvs) H Q (E σ)) : wpAny (model X.prog X.w) X.A (call (.ref f) us) (EP X pins σ Q) X.xe s := run_fnSD F hr hb hd hx I r h
/-- o.m(..) where what is raised is wished for at the caller's slots -/
def tMethSD (C : Addr) (m : Str) (sp : Sp) (E : L2.St → XK) (ta : TE) (t : TA) : TE := fun σ H Q => ta σ H fun x H1 => ∃ a dx fs, x = .ref a ∧ H1 a = some (.ins C dx fs) ∧ fs.lookup m = none ∧
  t σ H1 fun vs H2 => sp (x :: vs) H2 Q (E σ)
theorem pe_methSD {CX : CXT} {sp : Sp} {E : L2.St → XK} {C : Addr} {m : Str} {ta : TE} {t : TA} {pl : Sem Bool} (he : PE X o ta) (c : Cls X.K C) (hm : Meth X.K C m f) (F : FnOk X.prog X.w X.K X.mg X.base CX k f fd ps sp) (hr : Room k X.A) (hb : Binds X.K fd ps []) (hx : ∀ σ, PassesAt CX X σ (E σ)) (ha : PA X (e :: es) t)
    (hst : starEach (e :: es) X.env = (false, eval e X.env) :: starEach es X.env := by rfl) (hpl : (backTo pos (starEach es X.env)).any (·.1) = false := by rfl)
    (ht : eval (.Call (.Attribute o m apos) (e :: es) [] pos) X.env = (do
      let ov ← eval o X.env
      standAt apos.atName
      let (f, first) ← holding [ov] (getMethod ov m pl)
      callWith pos f first (backTo pos (starEach (e :: es) X.env)) (backToKw pos (keywordEach [] X.env))) := by rfl) :
    PE X (.Call (.Attribute o m apos) (e :: es) [] pos) (tMethSD C m sp E ta t) := by
  refine ⟨fun pins s σ H Q I h => ?_⟩
  refine PySem.W.methodCall_KW (pl := pl) (thn (he.run pins s σ H _ I h) fun u s1 ⟨x, H1, I1, rx, a, dx, fs, ex, ea, l, q⟩ => ?_) ht
  subst ex
  obtain rfl : u = Value.ref a := rx
  refine getmeth_ok I1 ea c hm l ?_
  refine PySem.W.callWith_K (first := [.ref a]) (h₀ := X.base) I.ok.mod.kin hm.kp (thn (ha.run pos pins s1 σ H1 _ I1 q) fun us s2 ⟨vs, H2, I2, r, q2⟩ => ⟨I2.kIn, ?_⟩) hst hpl
  exact run_fnSD (us := .ref a :: us) (vs := .ref a :: vs) F hr hb .nil (hx σ) I2 (.cons rfl r) (by rw [List.append_nil]; exact q2)
theorem pe_methSD0 {CX : CXT} {sp : Sp} {E : L2.St → XK} {C : Addr} {m : Str} {ta : TE} {pl : Sem Bool} (he : PE X o ta) (c : Cls X.K C) (hm : Meth X.K C m f) (F : FnOk X.prog X.w X.K X.mg X.base CX k f fd ps sp) (hr : Room k X.A) (hb : Binds X.K fd ps []) (hx : ∀ σ, PassesAt CX X σ (E σ))
    (ht : eval (.Call (.Attribute o m apos) [] [] pos) X.env = (do
      let ov ← eval o X.env
      standAt apos.atName
      let (f, first) ← holding [ov] (getMethod ov m pl)
      callWith pos f first (backTo pos (starEach [] X.env)) (backToKw pos (keywordEach [] X.env))) := by rfl) :
    PE X (.Call (.Attribute o m apos) [] [] pos) (tMethSD C m sp E ta tNil) := by
  refine ⟨fun pins s σ H Q I h => ?_⟩
  refine PySem.W.methodCall_KW (pl := pl) (thn (he.run pins s σ H _ I h) fun u s1 ⟨x, H1, I1, rx, a, dx, fs, ex, ea, l, q⟩ => ?_) ht
  subst ex
  obtain rfl : u = Value.ref a := rx
  refine getmeth_ok I1 ea c hm l ?_
  exact PySem.W.callWith_K0 (first := [.ref a]) I1.kIn hm.kp (run_fnSD (us := [.ref a]) (vs := [.ref a]) F hr hb .nil (hx σ) I1 (.cons rfl .nil) q)
def xMeth (C : Addr) (m : Str) (n : Nat) (F : List D → S → R D) (fo : XF) (fa : XA) : XF := fun Γ s => (fo Γ s).bind fun x s => match isIns C x s with
  | some (_, fs) => if (fs.lookup m).isNone = true then (fa Γ s).bind fun ds s => if (x :: ds).length = n then F (x :: ds) s else .bad else .bad
  | none => .bad
theorem t_meth {K : PySem.W.Frag} {C : Addr} {m : Str} {σ : L2.St} {H : Hp} {Q : VK} (h : tX K W (xMeth C m n F fo fa) σ H Q) : tMethSD C m (spF K n F) (WE W) (tX K W fo) (tXA K W fa) σ H Q := by
  obtain ⟨c, Γ, rfl, s, sl, w⟩ := h
  refine tX.here s sl ((w.bind s).monoL fun x c1 e1 s1 w1 v rv => ?_)
  split at w1
  · rename_i k fs h
    split at w1
    · rename_i hn
      obtain ⟨_, hg, a, dx, vs, rfl, h2, h3, h4⟩ := ins_at s1 h rv
      refine ⟨a, dx, vs, rfl, h3, h4.look.2 (Option.isNone_iff_eq_none.mp hn), ?_⟩
      refine tXA.here s1 (sl.mono e1) ((w1.bind s1).monoL fun ds c2 e2 s2 w2 us ru => ?_)
      exact call_to s2 (RepL.cons (rv.mono e2) ru) w2
    · exact w1.elim
  · exact w1.elim
theorem px_meth {C : Addr} {m : Str} {pl : Sem Bool} (cl : Cls X.K C) (hm : Meth X.K C m f) (G : FnOk X.prog X.w X.K X.mg X.base (L2.CX X.prog X.w) k f fd ps (spF X.K n F)) (hr : Room k X.A) (tk : Takes X W) (hb : Binds X.K fd ps []) (ho : PX X W o fo) (ha : PXA X W (e :: es) fa)
    (hst : starEach (e :: es) X.env = (false, eval e X.env) :: starEach es X.env := by rfl) (hpl : (backTo pos (starEach es X.env)).any (·.1) = false := by rfl)
    (ht : eval (.Call (.Attribute o m apos) (e :: es) [] pos) X.env = (do
      let ov ← eval o X.env
      standAt apos.atName
      let (f, first) ← holding [ov] (getMethod ov m pl)
      callWith pos f first (backTo pos (starEach (e :: es) X.env)) (backToKw pos (keywordEach [] X.env))) := by rfl) : PX X W (.Call (.Attribute o m apos) (e :: es) [] pos) (xMeth C m n F fo fa) :=
  (pe_methSD (E := WE W) ho cl hm G hr hb (passAt tk) ha hst hpl ht).weak fun σ H Q h => t_meth h
theorem px_meth0 {C : Addr} {m : Str} {pl : Sem Bool} (cl : Cls X.K C) (hm : Meth X.K C m f) (G : FnOk X.prog X.w X.K X.mg X.base (L2.CX X.prog X.w) k f fd ps (spF X.K n F)) (hr : Room k X.A) (tk : Takes X W) (hb : Binds X.K fd ps []) (ho : PX X W o fo)
    (ht : eval (.Call (.Attribute o m apos) [] [] pos) X.env = (do
      let ov ← eval o X.env
      standAt apos.atName
      let (f, first) ← holding [ov] (getMethod ov m pl)
      callWith pos f first (backTo pos (starEach [] X.env)) (backToKw pos (keywordEach [] X.env))) := by rfl) : PX X W (.Call (.Attribute o m apos) [] [] pos) (xMeth C m n F fo aNil) :=
  (pe_methSD0 (E := WE W) ho cl hm G hr hb (passAt tk) ht).weak fun σ H Q h => by
    obtain ⟨x, hx⟩ := (show ∃ y : Unit, True from ⟨(), trivial⟩)
    have := t_meth h
    obtain ⟨c, Γ, rfl, s, sl, w⟩ := h
    refine tX.here s sl ((w.bind s).monoL fun x c1 e1 s1 w1 v rv => ?_)
    split at w1
    · rename_i k fs h
      split at w1
      · rename_i hn
        obtain ⟨_, hg, a, dx, vs, rfl, h2, h3, h4⟩ := ins_at s1 h rv
        refine ⟨a, dx, vs, rfl, h3, h4.look.2 (Option.isNone_iff_eq_none.mp hn), ?_⟩
        exact call_to s1 (RepL.one rv) (w1 : Wants X.K c1 (if [_].length = n then F [_] c1.s else .bad) _ _)
      · exact w1.elim
    · exact w1.elim
end
end L3

set_option Elab.async false
set_option linter.all false
set_option maxRecDepth 100000
namespace L3
open PySem PySem.Spec PyProof.Rows L2

section
variable {X : Cx} {W : WX} {k : Nat} {f : Addr} {fd : FuncData} {ps : List Str} {n : Nat} {F : List D → S → R D} {x : Str} {p pos apos cpos : Pos} {e o : Expr} {es : List Expr} {fa : XA} {fo : XF}

/-! ### C(..) -/
theorem run_makeSD {CX : CXT} {sp : Sp} {E : L2.St → XK} {C : Addr} {pins : List (Addr × Obj)} {σ : L2.St} {H : Hp} {s : Shared} {Q : VK} {us : List Value} {vs : List V} (M : Mk X.K C f) (F : FnOk X.prog X.w X.K X.mg X.base CX k f fd ps sp) (hr : Room (k + 1) X.A) (hb : Binds X.K fd ps [])
    (hx : PassesAt CX X σ (E σ)) (I : L2.Inv X pins σ H s) (r : Vals vs us)
    (h : ∀ x dx, H x = none → H dx = none → dx ≠ x → sp (.ref x :: vs) (upd (upd H dx (.own x)) x (.ins C dx [])) (fun v H2 => v = .non ∧ Q (.ref x) H2) (E σ)) :
    wpAny (model X.prog X.w) X.A (call (.ref C) us) (EP X pins σ Q) X.xe s := by
  have hq := h (s.heap.objs.size + 1) s.heap.objs.size (I.hok.fresh (Nat.le_succ _)) (I.hok.fresh (Nat.le_refl _)) (Nat.ne_of_lt (Nat.lt_succ_self _))
  have I2 := L2.Inv.made (C := C) I
  have r2 : Vals (V.ref (s.heap.objs.size + 1) :: vs) (Value.ref (s.heap.objs.size + 1) :: us) := .cons rfl r
  have hl : (Value.ref (s.heap.objs.size + 1) :: us).length = ps.length := by
    have e := r2.length
    rw [F.len _ _ _ _ hq] at e
    exact e.symm
  have hl' : ((Value.ref (s.heap.objs.size + 1) :: us) ++ []).length = ps.length := by rw [List.append_nil]; exact hl
  have hb' := hb _ (Value.ref (s.heap.objs.size + 1) :: us) I2.kIn hl'
  rw [List.append_nil] at hb'
  refine wpAny_call (make_map (f := f) I.kIn M.makes M.init (beq_iff_eq.mp M.fn) (codeAny_mono (F.run _ X.stack _ _ ⟨Value.ref (s.heap.objs.size + 1) :: us, []⟩ (Value.ref (s.heap.objs.size + 1) :: us) _ _ (E σ) (hr.make C us [])
    (I2.env0.make C us []) hb' r2 hq) fun r s' hq' => ?_))
  cases r with
  | error e => exact hx pins _ _ e s' I2 hq'
  | ok fl =>
    cases fl with
    | ret u =>
      obtain ⟨v, H', I3, rv, ev, q3⟩ := I2.after hq'
      subst ev
      exact ⟨rv, ⟨V.ref (s.heap.objs.size + 1), H', I3, rfl, q3⟩⟩
    | next => exact False.elim hq'
    | brk => exact False.elim hq'
    | cont => exact False.elim hq'
def tMakeSD (C : Addr) (sp : Sp) (E : L2.St → XK) (t : TA) : TE := fun σ H Q => t σ H fun vs H1 => ∀ x dx, H1 x = none → H1 dx = none → dx ≠ x →
  sp (.ref x :: vs) (upd (upd H1 dx (.own x)) x (.ins C dx [])) (fun v H2 => v = .non ∧ Q (.ref x) H2) (E σ)
theorem pe_makeSD {CX : CXT} {sp : Sp} {E : L2.St → XK} {C : Addr} {t : TA} (M : Mk X.K C f) (F : FnOk X.prog X.w X.K X.mg X.base CX k f fd ps sp) (hr : Room (k + 1) X.A) (hg : Gl X x) (hm : X.mg x = some (.ref C)) (hb : Binds X.K fd ps []) (hx : ∀ σ, PassesAt CX X σ (E σ))
    (ha : PA X (e :: es) t) (hdb : (x == ("__debug__" : Str)) = false := by decide) (he : starEach (e :: es) X.env = (false, eval e X.env) :: starEach es X.env := by rfl) (hpl : (backTo pos (starEach es X.env)).any (·.1) = false := by rfl) :
    PE X (.Call (.Name x p) (e :: es) [] pos) (tMakeSD C sp E t) := by
  refine ⟨fun pins s σ H Q I h => ?_⟩
  refine wpAny_Call_Name_kw (ld_glob I hg hm ?_ hdb)
  refine PySem.W.callWith_K (h₀ := X.base) I.ok.mod.kin M.kp (thn (ha.run pos pins s σ H _ I h) fun us s1 ⟨vs, H1, I1, r, q⟩ => ⟨I1.kIn, ?_⟩) he hpl
  exact run_makeSD M F hr hb (hx σ) I1 r q
theorem pe_makeSD0 {CX : CXT} {sp : Sp} {E : L2.St → XK} {C : Addr} (M : Mk X.K C f) (F : FnOk X.prog X.w X.K X.mg X.base CX k f fd ps sp) (hr : Room (k + 1) X.A) (hg : Gl X x) (hm : X.mg x = some (.ref C)) (hb : Binds X.K fd ps []) (hx : ∀ σ, PassesAt CX X σ (E σ))
    (hdb : (x == ("__debug__" : Str)) = false := by decide) : PE X (.Call (.Name x p) [] [] pos) (tMakeSD C sp E tNil) := by
  refine ⟨fun pins s σ H Q I h => ?_⟩
  refine wpAny_Call_Name_kw (ld_glob I hg hm ?_ hdb)
  exact PySem.W.callWith_K0 I.kIn M.kp (run_makeSD (us := []) M F hr hb (hx σ) I .nil h)
/-- a new instance, then __init__ -/
def xMake (C : Addr) (n : Nat) (F : List D → S → R D) (fa : XA) : XF := fun Γ s => (fa Γ s).bind fun ds s0 => if ds.length + 1 = n then (F (.ref s0.nx :: ds) (s0.new (.ins C []))).bind fun _ s => .ok (.ref s0.nx) s else .bad
/-- what __init__ hands back is None -/
def NonRet (F : List D → S → R D) : Prop := ∀ ds s d s', F ds s = .ok d s' → d = .non
theorem make_to {K : PySem.W.Frag} {C : Addr} {c1 : C4} {σ : L2.St} {ds : List D} {vs : List V} {Q : VK} (hF : NonRet F) (s1 : Sim K c1) (rv : RepL K c1.G c1.m ds vs)
    (w1 : Wants K c1 (if ds.length + 1 = n then (F (.ref c1.s.nx :: ds) (c1.s.new (.ins C []))).bind fun _ s => .ok (.ref c1.s.nx) s else .bad) (kE K Q) (kX K W σ)) :
    ∀ x dx, c1.H x = none → c1.H dx = none → dx ≠ x → spF K n F (.ref x :: vs) (upd (upd c1.H dx (.own x)) x (.ins C dx [])) (fun v H2 => v = .non ∧ Q (.ref x) H2) (WE W σ) := by
  intro x dx hx hdx hne
  split at w1
  · rename_i hn
    have ea := side_ext (c := c1) (h := .own x) hdx
    have sa := side_sim (h := .own x) s1 hdx
    have hx2 : (c1.side dx (.own x)).H x = none := by
      show upd c1.H dx (.own x) x = none
      rw [upd_ne (Ne.symm hne)]; exact hx
    have eb := new_ext (o := .ins C []) (h := .ins C dx []) sa hx2
    have sb := new_sim (o := .ins C []) (h := .ins C dx []) sa hx2 ⟨dx, [], rfl, rfl⟩
    have e := ea.trans s1 eb
    have ref : ∀ c', Ext ((c1.side dx (.own x)).new x (.ins C []) (.ins C dx [])) c' → Rep K c'.G c'.m (.ref c1.s.nx) (.ref x) := fun c' e' => by
      simp only [Rep]
      refine ⟨x, e'.m _ _ ?_, rfl⟩
      show (if c1.s.nx = c1.s.nx then some x else _) = some x
      rw [if_pos rfl]
    refine ⟨by rw [List.length_cons, rv.len]; exact hn, _, .ref c1.s.nx :: ds, rfl, sb, RepL.cons (ref _ (Ext.refl _)) (rv.mono e), ?_⟩
    have hs : ((c1.side dx (.own x)).new x (.ins C []) (.ins C dx [])).s = c1.s.new (.ins C []) := rfl
    rw [hs]
    cases q : F (.ref c1.s.nx :: ds) (c1.s.new (.ins C [])) with
    | bad => rw [q] at w1; exact w1
    | exc ex s2 =>
      rw [q] at w1
      exact fun c' e' s' hq => w1 c' (e.trans s1 e') s' hq
    | ok d s2 =>
      rw [q] at w1
      have hd := hF _ _ _ _ q
      subst hd
      exact fun c' e' s' hq v rv' => ⟨rep_non.mp rv', w1 c' (e.trans s1 e') s' hq (.ref x) (ref c' e')⟩
  · exact w1.elim
theorem px_make {C : Addr} (hF : NonRet F) (M : Mk X.K C f) (G : FnOk X.prog X.w X.K X.mg X.base (L2.CX X.prog X.w) k f fd ps (spF X.K n F)) (hr : Room (k + 1) X.A) (tk : Takes X W) (hg : Gl X x) (hm : X.mg x = some (.ref C)) (hb : Binds X.K fd ps [])
    (ha : PXA X W (e :: es) fa) (hdb : (x == ("__debug__" : Str)) = false := by decide) (he : starEach (e :: es) X.env = (false, eval e X.env) :: starEach es X.env := by rfl) (hpl : (backTo pos (starEach es X.env)).any (·.1) = false := by rfl) :
    PX X W (.Call (.Name x p) (e :: es) [] pos) (xMake C n F fa) := (pe_makeSD (E := WE W) M G hr hg hm hb (passAt tk) ha hdb he hpl).weak fun σ H Q ⟨c, Γ, e, s, sl, w⟩ => by
  subst e
  exact tXA.here s sl ((w.bind s).monoL fun ds c1 e1 s1 w1 vs rv => make_to hF s1 rv w1)
theorem px_make0 {C : Addr} (hF : NonRet F) (M : Mk X.K C f) (G : FnOk X.prog X.w X.K X.mg X.base (L2.CX X.prog X.w) k f fd ps (spF X.K n F)) (hr : Room (k + 1) X.A) (tk : Takes X W) (hg : Gl X x) (hm : X.mg x = some (.ref C)) (hb : Binds X.K fd ps [])
    (hdb : (x == ("__debug__" : Str)) = false := by decide) : PX X W (.Call (.Name x p) [] [] pos) (xMake C n F aNil) := (pe_makeSD0 (E := WE W) M G hr hg hm hb (passAt tk) hdb).weak fun σ H Q ⟨c, Γ, e, s, sl, w⟩ => by
  subst e
  exact make_to (ds := []) hF s RepL.nil w

/-! ### o.f, a property -/
def noexc (r : R D) : R D := match r with
  | .exc _ _ => .bad
  | r => r
def xProp (C : Addr) (F : List D → S → R D) (g : XF) : XF := fun Γ s => (g Γ s).bind fun x s => match isIns C x s with
  | some _ => noexc (F [x] s)
  | none => .bad
theorem Wants.noexc {K : PySem.W.Frag} {c : C4} {r : R D} {Φ : D → C4 → Prop} {Ψ Ψ' : Exn → C4 → Prop} (h : Wants K c (noexc r) Φ Ψ) : Wants K c r Φ Ψ' := by
  cases r with
  | bad => exact h
  | ok d s => exact h
  | exc e s => exact h.elim
theorem px_prop {C p' g' : Addr} {fn : Str} {g : XF} (cl : Cls X.K C) (hp : PropOf X.K C fn p' g') (G : FnOk X.prog X.w X.K X.mg X.base (L2.CX X.prog X.w) k g' fd ps (spF X.K 1 F)) (hr : Room (k + 1) X.A) (hb : Binds X.K fd ps []) (he : PX X W e g)
    (hab : attributeBase e fn X.env (eval e X.env) = eval e X.env := by rfl) : PX X W (.Attribute e fn pos) (xProp C F g) := (pe_prop (E := E0) he cl hp G hr hb .nil passL hab).weak fun σ H Q ⟨c, Γ, e, s, sl, w⟩ => by
  subst e
  refine tX.here s sl ((w.bind s).monoL fun x c1 e1 s1 w1 v rv => ?_)
  split at w1
  · rename_i nf h
    obtain ⟨_, _, a, dx, vs, rfl, h2, h3, h4⟩ := ins_at (n := nf.1) (fs := nf.2) s1 h rv
    exact ⟨a, dx, vs, rfl, h3, rfl, c1, [x], rfl, s1, RepL.one rv, w1.noexc⟩
  · exact w1.elim

/-! ### built-in functions -/
def CallS (K : PySem.W.Frag) (r : List V → Hp → VK → Prop) (op : List D → S → R D) : Prop :=
  ∀ (c : C4) (ds : List D) (vs : List V) (Q : VK) (Ψ : Exn → C4 → Prop), Sim K c → RepL K c.G c.m ds vs → Wants K c (op ds c.s) (kE K Q) Ψ → r vs c.H Q
def xFn (op : List D → S → R D) (fa : XA) : XF := fun Γ s => (fa Γ s).bind op
theorem _root_.L2.CallR.weak {g : Value} {r r' : List V → Hp → VK → Prop} (h : CallR X g r) (w : ∀ xs H Q, r' xs H Q → r xs H Q) : CallR X g r' := fun pins s σ H xs us Q I rs q => h pins s σ H xs us Q I rs (w _ _ _ q)
theorem t_fn {K : PySem.W.Frag} {r : List V → Hp → VK → Prop} {op : List D → S → R D} {σ : L2.St} {H : Hp} {Q : VK} (ho : CallS K r op) (h : tX K W (xFn op fa) σ H Q) : tCB r (tXA K W fa) σ H Q := by
  obtain ⟨c, Γ, rfl, s, sl, w⟩ := h
  exact tXA.here s sl ((w.bind s).monoL fun ds c1 e1 s1 w1 vs rv => ho c1 ds vs Q _ s1 rv w1)
theorem px_fnB {id : String} {r : List V → Hp → VK → Prop} {op : List D → S → R D} (hc : CallR X (.builtin id) r) (ho : CallS X.K r op) (hg : Gl X x) (hm : X.mg x = none) (hv : bootBuiltins x = some (.builtin id)) (ha : PXA X W (e :: es) fa) (hn : x ≠ "__name__" := by decide) (hdb : (x == ("__debug__" : Str)) = false := by decide)
    (he : starEach (e :: es) X.env = (false, eval e X.env) :: starEach es X.env := by rfl) (hpl : (backTo pos (starEach es X.env)).any (·.1) = false := by rfl) : PX X W (.Call (.Name x p) (e :: es) [] pos) (xFn op fa) :=
  (pe_callB hc hg hm hv ha hn hdb he hpl).weak fun _ _ _ h => t_fn ho h
theorem px_fnT {T : String} {r : List V → Hp → VK → Prop} {op : List D → S → R D} (hc : CallR X (.type T) r) (ho : CallS X.K r op) (hg : Gl X x) (hm : X.mg x = none) (hv : bootBuiltins x = some (.type T)) (ha : PXA X W (e :: es) fa) (hn : x ≠ "__name__" := by decide) (hdb : (x == ("__debug__" : Str)) = false := by decide)
    (he : starEach (e :: es) X.env = (false, eval e X.env) :: starEach es X.env := by rfl) (hpl : (backTo pos (starEach es X.env)).any (·.1) = false := by rfl) : PX X W (.Call (.Name x p) (e :: es) [] pos) (xFn op fa) :=
  (pe_callTy hc hg hm hv ha hn hdb he hpl).weak fun _ _ _ h => t_fn ho h
end

section
variable {K : PySem.W.Frag} {c : C4}
theorem RepL.one' {G : Hp} {m : Mp} {d : D} {vs : List V} (h : RepL K G m [d] vs) : ∃ v, vs = [v] ∧ Rep K G m d v := by
  obtain ⟨v, t, rfl, h1, h2⟩ := h.uncons
  simp only [RepL] at h2
  subst h2
  exact ⟨v, rfl, h1⟩
theorem RepL.two' {G : Hp} {m : Mp} {d e : D} {vs : List V} (h : RepL K G m [d, e] vs) : ∃ v u, vs = [v, u] ∧ Rep K G m d v ∧ Rep K G m e u := by
  obtain ⟨v, t, rfl, h1, h2⟩ := h.uncons
  obtain ⟨u, rfl, h3⟩ := h2.one'
  exact ⟨v, u, rfl, h1, h3⟩
/-! dicts -/
theorem RepK.len {G : Hp} {m : Mp} : ∀ {ds : List (Key × D)} {vs : List (Key × V)}, RepK K G m ds vs → vs.length = ds.length
  | [], vs, h => by simp only [RepK] at h; rw [h]; rfl
  | (k, d) :: ds, vs, h => by
    simp only [RepK] at h
    obtain ⟨v, r, e, _, t⟩ := h
    rw [e, List.length_cons, List.length_cons, RepK.len t]
theorem RepT.len {G : Hp} {m : Mp} : ∀ {ds : List (List Key × D)} {vs : List (List Key × V)}, RepT K G m ds vs → vs.length = ds.length
  | [], vs, h => by simp only [RepT] at h; rw [h]; rfl
  | (k, d) :: ds, vs, h => by
    simp only [RepT] at h
    obtain ⟨v, r, e, _, t⟩ := h
    rw [e, List.length_cons, List.length_cons, RepT.len t]
/-- what a dict holds at a key; with a value put -/
def valD {κ : Type} [DecidableEq κ] (kvs : List (κ × D)) (k : κ) : Option D := (kvs.find? fun kv => decide (kv.1 = k)).map (·.2)
def putKD {κ : Type} [DecidableEq κ] (kvs : List (κ × D)) (k : κ) (v : D) : List (κ × D) :=
  if (kvs.any fun kv => decide (kv.1 = k)) = true then kvs.map (fun kv => if kv.1 = k then (kv.1, v) else kv) else kvs ++ [(k, v)]
theorem RepK.val {G : Hp} {m : Mp} {k : Key} : ∀ {ds : List (Key × D)} {vs : List (Key × V)}, RepK K G m ds vs → (∀ d, valD ds k = some d → ∃ v, valV vs k = some v ∧ Rep K G m d v) ∧ (valD ds k = none → valV vs k = none)
  | [], vs, h => by
    simp only [RepK] at h
    rw [h]
    exact ⟨fun d q => (by cases q), fun _ => rfl⟩
  | (k', d) :: ds, vs, h => by
    simp only [RepK] at h
    obtain ⟨v, r, rfl, h1, t⟩ := h
    unfold valD valV
    rw [List.find?_cons, List.find?_cons]
    cases e : decide (k' = k) with
    | true =>
      refine ⟨fun d' q => ?_, fun q => ?_⟩
      · cases q
        exact ⟨v, rfl, h1⟩
      · cases q
    | false => exact RepK.val t
theorem RepT.val {G : Hp} {m : Mp} {k : List Key} : ∀ {ds : List (List Key × D)} {vs : List (List Key × V)}, RepT K G m ds vs → (∀ d, valD ds k = some d → ∃ v, valV vs k = some v ∧ Rep K G m d v) ∧ (valD ds k = none → valV vs k = none)
  | [], vs, h => by
    simp only [RepT] at h
    rw [h]
    exact ⟨fun d q => (by cases q), fun _ => rfl⟩
  | (k', d) :: ds, vs, h => by
    simp only [RepT] at h
    obtain ⟨v, r, rfl, h1, t⟩ := h
    unfold valD valV
    rw [List.find?_cons, List.find?_cons]
    cases e : decide (k' = k) with
    | true =>
      refine ⟨fun d' q => ?_, fun q => ?_⟩
      · cases q
        exact ⟨v, rfl, h1⟩
      · cases q
    | false => exact RepT.val t
theorem RepK.any {G : Hp} {m : Mp} {k : Key} : ∀ {ds : List (Key × D)} {vs : List (Key × V)}, RepK K G m ds vs → (vs.any fun kv => decide (kv.1 = k)) = ds.any fun kv => decide (kv.1 = k)
  | [], vs, h => by simp only [RepK] at h; rw [h]; rfl
  | (k', d) :: ds, vs, h => by
    simp only [RepK] at h
    obtain ⟨v, r, rfl, h1, t⟩ := h
    rw [List.any_cons, List.any_cons, RepK.any t]
theorem RepT.any {G : Hp} {m : Mp} {k : List Key} : ∀ {ds : List (List Key × D)} {vs : List (List Key × V)}, RepT K G m ds vs → (vs.any fun kv => decide (kv.1 = k)) = ds.any fun kv => decide (kv.1 = k)
  | [], vs, h => by simp only [RepT] at h; rw [h]; rfl
  | (k', d) :: ds, vs, h => by
    simp only [RepT] at h
    obtain ⟨v, r, rfl, h1, t⟩ := h
    rw [List.any_cons, List.any_cons, RepT.any t]
theorem RepK.app {G : Hp} {m : Mp} {k : Key} {d : D} {v : V} (hr : Rep K G m d v) : ∀ {ds : List (Key × D)} {vs : List (Key × V)}, RepK K G m ds vs → RepK K G m (ds ++ [(k, d)]) (vs ++ [(k, v)])
  | [], vs, h => by
    simp only [RepK] at h
    rw [h]
    show RepK K G m [(k, d)] [(k, v)]
    simp only [RepK]
    exact ⟨v, [], rfl, hr, rfl⟩
  | (k', d') :: ds, vs, h => by
    simp only [RepK] at h
    obtain ⟨v', r, rfl, h1, t⟩ := h
    rw [List.cons_append, List.cons_append]
    simp only [RepK]
    exact ⟨v', _, rfl, h1, RepK.app hr t⟩
theorem RepT.app {G : Hp} {m : Mp} {k : List Key} {d : D} {v : V} (hr : Rep K G m d v) : ∀ {ds : List (List Key × D)} {vs : List (List Key × V)}, RepT K G m ds vs → RepT K G m (ds ++ [(k, d)]) (vs ++ [(k, v)])
  | [], vs, h => by
    simp only [RepT] at h
    rw [h]
    show RepT K G m [(k, d)] [(k, v)]
    simp only [RepT]
    exact ⟨v, [], rfl, hr, rfl⟩
  | (k', d') :: ds, vs, h => by
    simp only [RepT] at h
    obtain ⟨v', r, rfl, h1, t⟩ := h
    rw [List.cons_append, List.cons_append]
    simp only [RepT]
    exact ⟨v', _, rfl, h1, RepT.app hr t⟩
theorem RepK.upd {G : Hp} {m : Mp} {k : Key} {d : D} {v : V} (hr : Rep K G m d v) : ∀ {ds : List (Key × D)} {vs : List (Key × V)}, RepK K G m ds vs → RepK K G m (ds.map fun kv => if kv.1 = k then (kv.1, d) else kv) (vs.map fun kv => if kv.1 = k then (kv.1, v) else kv)
  | [], vs, h => by simp only [RepK] at h; rw [h]; simp [RepK]
  | (k', d') :: ds, vs, h => by
    simp only [RepK] at h
    obtain ⟨v', r, rfl, h1, t⟩ := h
    rw [List.map_cons, List.map_cons]
    by_cases e : k' = k
    · rw [if_pos e, if_pos e]
      simp only [RepK]
      exact ⟨v, _, rfl, hr, RepK.upd hr t⟩
    · rw [if_neg e, if_neg e]
      simp only [RepK]
      exact ⟨v', _, rfl, h1, RepK.upd hr t⟩
theorem RepT.upd {G : Hp} {m : Mp} {k : List Key} {d : D} {v : V} (hr : Rep K G m d v) : ∀ {ds : List (List Key × D)} {vs : List (List Key × V)}, RepT K G m ds vs → RepT K G m (ds.map fun kv => if kv.1 = k then (kv.1, d) else kv) (vs.map fun kv => if kv.1 = k then (kv.1, v) else kv)
  | [], vs, h => by simp only [RepT] at h; rw [h]; simp [RepT]
  | (k', d') :: ds, vs, h => by
    simp only [RepT] at h
    obtain ⟨v', r, rfl, h1, t⟩ := h
    rw [List.map_cons, List.map_cons]
    by_cases e : k' = k
    · rw [if_pos e, if_pos e]
      simp only [RepT]
      exact ⟨v, _, rfl, hr, RepT.upd hr t⟩
    · rw [if_neg e, if_neg e]
      simp only [RepT]
      exact ⟨v', _, rfl, h1, RepT.upd hr t⟩
theorem RepK.put {G : Hp} {m : Mp} {k : Key} {d : D} {v : V} {ds : List (Key × D)} {vs : List (Key × V)} (hr : Rep K G m d v) (h : RepK K G m ds vs) : RepK K G m (putKD ds k d) (putK vs k v) := by
  unfold putKD putK
  rw [h.any]
  split
  · exact h.upd hr
  · exact h.app hr
theorem RepT.put {G : Hp} {m : Mp} {k : List Key} {d : D} {v : V} {ds : List (List Key × D)} {vs : List (List Key × V)} (hr : Rep K G m d v) (h : RepT K G m ds vs) : RepT K G m (putKD ds k d) (putK vs k v) := by
  unfold putKD putK
  rw [h.any]
  split
  · exact h.upd hr
  · exact h.app hr
/-- a dict to be read -/
inductive DV where
  | k (kvs : List (Key × D)) | t (kvs : List (List Key × D))
def dicOf (d : D) (s : S) : Option DV := match d with
  | .dK kvs => some (.k kvs)
  | .dT kvs => some (.t kvs)
  | .ref n => match s.get n with
    | some (.dK kvs) => some (.k kvs)
    | some (.dT kvs) => some (.t kvs)
    | _ => none
  | _ => none
def keyOf : D → Option Key
  | .int i => some (.inl i)
  | .str x => some (.inr x)
  | _ => none
def keysOf : List D → Option (List Key)
  | [] => some []
  | d :: r => match keyOf d, keysOf r with
    | some k, some ks => some (k :: ks)
    | _, _ => none
def tkeyOf : D → Option (List Key)
  | .tup ds => keysOf ds
  | _ => none
theorem keyOf_ok {G : Hp} {m : Mp} {d : D} {v : V} {k : Key} (h : keyOf d = some k) (r : Rep K G m d v) : v = kV k := by
  cases d <;> simp only [keyOf, reduceCtorEq, Option.some.injEq] at h
  · subst h
    exact rep_int.mp r
  · subst h
    exact rep_str.mp r
theorem keysOf_ok {G : Hp} {m : Mp} : ∀ {ds : List D} {vs : List V} {ks : List Key}, keysOf ds = some ks → RepL K G m ds vs → vs = ks.map kV
  | [], vs, ks, h, r => by
    simp only [keysOf, Option.some.injEq] at h
    subst h
    simp only [RepL] at r
    exact r
  | d :: ds, vs, ks, h, r => by
    unfold keysOf at h
    split at h
    · rename_i k ks' h1 h2
      cases h
      obtain ⟨v, t, rfl, r1, r2⟩ := r.uncons
      rw [keyOf_ok h1 r1, keysOf_ok h2 r2]
      rfl
    · cases h
theorem tkeyOf_ok {d : D} {v : V} {ks : List Key} (s : Sim K c) (h : tkeyOf d = some ks) (r : Rep K c.G c.m d v) : ∃ b, v = .ref b ∧ c.H b = some (.tup (ks.map kV)) := by
  cases d <;> simp only [tkeyOf, reduceCtorEq] at h
  simp only [Rep] at r
  obtain ⟨p, vs, rfl, q, t⟩ := r
  rw [keysOf_ok h t] at q
  exact ⟨p, rfl, s.tup _ _ q⟩
def DicAt (K : PySem.W.Frag) (c : C4) (a : Addr) : DV → Prop
  | .k kvs => ∃ ks, Rd c.H a (.dK ks) ∧ RepK K c.G c.m kvs ks
  | .t kvs => ∃ ks, Rd c.H a (.dT ks) ∧ RepT K c.G c.m kvs ks
theorem dic_at {d : D} {v : V} {dv : DV} (s : Sim K c) (h : dicOf d c.s = some dv) (r : Rep K c.G c.m d v) : ∃ a, v = .ref a ∧ DicAt K c a dv := by
  cases d with
  | dK kvs =>
    cases h
    simp only [Rep] at r
    obtain ⟨p, ks, e, q, t⟩ := r
    exact ⟨p, e, ks, s.sub _ _ q, t⟩
  | dT kvs =>
    cases h
    simp only [Rep] at r
    obtain ⟨p, ks, e, q, t⟩ := r
    exact ⟨p, e, ks, s.sub _ _ q, t⟩
  | ref n =>
    simp only [dicOf] at h
    cases q : c.s.get n with
    | none => rw [q] at h; cases h
    | some o =>
      rw [q] at h
      obtain ⟨a, u, h1, h2, h3, h4, h5⟩ := s.at q r
      cases o with
      | lst ds => cases h
      | ins C fs => cases h
      | dK kvs =>
        cases h
        obtain ⟨ks, rfl, t⟩ := h5
        exact ⟨a, h1, ks, .inl h4, t⟩
      | dT kvs =>
        cases h
        obtain ⟨ks, rfl, t⟩ := h5
        exact ⟨a, h1, ks, .inl h4, t⟩
  | _ => cases h
/-- what a dict holds at a key: none: nothing is known -/
def dLook (dv : DV) (key : D) : Option (Option D) := match dv with
  | .k kvs => (keyOf key).map (valD kvs)
  | .t kvs => (tkeyOf key).map (valD kvs)
end
end L3

set_option Elab.async false
set_option linter.all false
set_option maxRecDepth 100000
namespace L3
open PySem PySem.Spec PyProof.Rows L2

/-! ### dicts: d[k], k in d, d.get(k), d.get(k, x), {} , d[k] = v -/
section
variable {K : PySem.W.Frag} {c : C4}
theorem look_at {d : D} {key : D} {v u : V} {dv : DV} {r : Option D} (s : Sim K c) (hd : dicOf d c.s = some dv) (rd : Rep K c.G c.m d v) (rk : Rep K c.G c.m key u) (hl : dLook dv key = some r) :
    ∃ a o, v = .ref a ∧ DGet c.H a u o ∧ (∀ x, r = some x → ∃ w, o = some w ∧ Rep K c.G c.m x w) ∧ (r = none → o = none) := by
  obtain ⟨a, rfl, h⟩ := dic_at s hd rd
  cases dv with
  | k kvs =>
    obtain ⟨ks, h1, h2⟩ := h
    simp only [dLook, Option.map_eq_some_iff] at hl
    obtain ⟨k, hk, rfl⟩ := hl
    exact ⟨a, valV ks k, rfl, .inl ⟨ks, k, h1, keyOf_ok hk rk, rfl⟩, fun x e => h2.val.1 x e, fun e => h2.val.2 e⟩
  | t kvs =>
    obtain ⟨ks, h1, h2⟩ := h
    simp only [dLook, Option.map_eq_some_iff] at hl
    obtain ⟨k, hk, rfl⟩ := hl
    obtain ⟨b, rfl, hb⟩ := tkeyOf_ok s hk rk
    exact ⟨a, valV ks k, rfl, .inr ⟨ks, k, b, h1, rfl, hb, rfl⟩, fun x e => h2.val.1 x e, fun e => h2.val.2 e⟩
end
def dGet (x key : D) (s : S) : R D := match dicOf x s with
  | some dv => match dLook dv key with
    | some (some d) => .ok d s
    | _ => .bad
  | none => .bad
def dIn (neg : Bool) (key x : D) (s : S) : R D := match dicOf x s with
  | some dv => match dLook dv key with
    | some o => .ok (.bl (if neg = true then !o.isSome else o.isSome)) s
    | none => .bad
  | none => .bad
def dGetOr (x key z : D) (s : S) : R D := match dicOf x s with
  | some dv => match dLook dv key with
    | some o => .ok (o.getD z) s
    | none => .bad
  | none => .bad
section
variable {X : Cx} {W : WX} {a b o e i value : Expr} {pos pos' apos cpos : Pos} {f g h : XF}
theorem px_dget (hu : X.A.units + 1 < cLine) (ho : PX X W o f) (hi : PX X W i g) (hs : NoSl i) : PX X W (.Subscript o i pos) (xBin dGet f g) := (pe_dget hu ho hi hs).weak fun σ H Q ⟨c, Γ, e, s, sl, w⟩ => by
  subst e
  refine tX.here s sl ((w.bind s).monoL fun x c1 e1 s1 w1 v rv => ?_)
  refine tX.here s1 (sl.mono e1) ((w1.bind s1).monoL fun y c2 e2 s2 w2 u ru => ?_)
  unfold dGet at w2
  split at w2
  · rename_i dv hd
    split at w2
    · rename_i d hl
      obtain ⟨a, o, rfl, h1, h2, _⟩ := look_at s2 hd (rv.mono e2) ru hl
      obtain ⟨w', rfl, r'⟩ := h2 d rfl
      exact ⟨a, w', rfl, h1, w2.here s2 _ r'⟩
    · exact w2.elim
  · exact w2.elim
theorem isSome_of {K : PySem.W.Frag} {G : Hp} {m : Mp} {r : Option D} {o : Option V} (h1 : ∀ x, r = some x → ∃ w, o = some w ∧ Rep K G m x w) (h2 : r = none → o = none) : o.isSome = r.isSome := by
  cases r with
  | none => rw [h2 rfl]; rfl
  | some x =>
    obtain ⟨w, e, _⟩ := h1 x rfl
    rw [e]; rfl
theorem px_din (hu : X.A.units + 1 < cLine) (hi : PX X W i g) (ho : PX X W o f) (hm : behindInMarks .In o = false) : PX X W (.Compare i [.In] [o] pos) (xBin (dIn false) g f) := (pe_cmp (pc_din hu hi ho) hm).weak fun σ H Q ⟨c, Γ, e, s, sl, w⟩ => by
  subst e
  refine tX.here s sl ((w.bind s).monoL fun y c1 e1 s1 w1 u ru => ?_)
  refine tX.here s1 (sl.mono e1) ((w1.bind s1).monoL fun x c2 e2 s2 w2 v rv => ?_)
  unfold dIn at w2
  split at w2
  · rename_i dv hd
    split at w2
    · rename_i r hl
      obtain ⟨a, o, rfl, h1, h2, h3⟩ := look_at s2 hd rv (ru.mono e2) hl
      refine ⟨a, o, rfl, h1, ?_⟩
      rw [isSome_of h2 h3]
      exact w2.here s2 _ (rep_bl.mpr rfl)
    · exact w2.elim
  · exact w2.elim
theorem px_dnotin (hu : X.A.units + 1 < cLine) (hi : PX X W i g) (ho : PX X W o f) (hm : behindInMarks .NotIn o = false) : PX X W (.Compare i [.NotIn] [o] pos) (xBin (dIn true) g f) := (pe_cmp (pc_dnotin hu hi ho) hm).weak fun σ H Q ⟨c, Γ, e, s, sl, w⟩ => by
  subst e
  refine tX.here s sl ((w.bind s).monoL fun y c1 e1 s1 w1 u ru => ?_)
  refine tX.here s1 (sl.mono e1) ((w1.bind s1).monoL fun x c2 e2 s2 w2 v rv => ?_)
  unfold dIn at w2
  split at w2
  · rename_i dv hd
    split at w2
    · rename_i r hl
      obtain ⟨a, o, rfl, h1, h2, h3⟩ := look_at s2 hd rv (ru.mono e2) hl
      refine ⟨a, o, rfl, h1, ?_⟩
      rw [isSome_of h2 h3]
      exact w2.here s2 _ (rep_bl.mpr rfl)
    · exact w2.elim
  · exact w2.elim
/-- a comparison of a dict as a test -/
theorem pt_dcmp {op : CmpOp} {t : TE} {ff : XF} (h : PC X op a b t) (h1 : behindInMarks op b = false) (w : ∀ σ H Q, tX X.K W ff σ H Q → t σ H Q) : PXT X W (.Compare a [op] [b] pos) (bOf ff) := (pt_cmp h h1).weak fun σ H Q ⟨c, Γ, e, s, l, wn⟩ => by
  subst e
  refine w _ _ _ (tX.here s l ((wn.bind s).monoL fun x c1 e1 s1 w1 v rv => ?_))
  split at w1
  · rw [rep_bl] at rv
    exact ⟨_, rv, w1.here s1⟩
  · exact w1.elim
theorem t_din {σ : L2.St} {H : Hp} {Q : VK} (h : tX X.K W (xBin (dIn false) g f) σ H Q) : tDIn (tX X.K W g) (tX X.K W f) σ H Q := by
  obtain ⟨c, Γ, rfl, s, sl, w⟩ := h
  refine tX.here s sl ((w.bind s).monoL fun y c1 e1 s1 w1 u ru => ?_)
  refine tX.here s1 (sl.mono e1) ((w1.bind s1).monoL fun x c2 e2 s2 w2 v rv => ?_)
  unfold dIn at w2
  split at w2
  · rename_i dv hd
    split at w2
    · rename_i r hl
      obtain ⟨a, o, rfl, h1, h2, h3⟩ := look_at s2 hd rv (ru.mono e2) hl
      refine ⟨a, o, rfl, h1, ?_⟩
      rw [isSome_of h2 h3]
      exact w2.here s2 _ (rep_bl.mpr rfl)
    · exact w2.elim
  · exact w2.elim
theorem t_dnotin {σ : L2.St} {H : Hp} {Q : VK} (h : tX X.K W (xBin (dIn true) g f) σ H Q) : tDNotIn (tX X.K W g) (tX X.K W f) σ H Q := by
  obtain ⟨c, Γ, rfl, s, sl, w⟩ := h
  refine tX.here s sl ((w.bind s).monoL fun y c1 e1 s1 w1 u ru => ?_)
  refine tX.here s1 (sl.mono e1) ((w1.bind s1).monoL fun x c2 e2 s2 w2 v rv => ?_)
  unfold dIn at w2
  split at w2
  · rename_i dv hd
    split at w2
    · rename_i r hl
      obtain ⟨a, o, rfl, h1, h2, h3⟩ := look_at s2 hd rv (ru.mono e2) hl
      refine ⟨a, o, rfl, h1, ?_⟩
      rw [isSome_of h2 h3]
      exact w2.here s2 _ (rep_bl.mpr rfl)
    · exact w2.elim
  · exact w2.elim
theorem pt_din (hu : X.A.units + 1 < cLine) (hi : PX X W a g) (ho : PX X W b f) (hm : behindInMarks .In b = false) : PXT X W (.Compare a [.In] [b] pos) (bOf (xBin (dIn false) g f)) := pt_dcmp (pc_din hu hi ho) hm fun _ _ _ h => t_din h
theorem pt_dnotin (hu : X.A.units + 1 < cLine) (hi : PX X W a g) (ho : PX X W b f) (hm : behindInMarks .NotIn b = false) : PXT X W (.Compare a [.NotIn] [b] pos) (bOf (xBin (dIn true) g f)) := pt_dcmp (pc_dnotin hu hi ho) hm fun _ _ _ h => t_dnotin h
theorem isD_of {K : PySem.W.Frag} {c : C4} {x : D} {v : V} {dv : DV} (s : Sim K c) (hd : dicOf x c.s = some dv) (r : Rep K c.G c.m x v) : ∃ a, v = .ref a ∧ IsD c.H a := by
  obtain ⟨a, rfl, h⟩ := dic_at s hd r
  cases dv with
  | k kvs => obtain ⟨ks, h1, _⟩ := h; exact ⟨a, rfl, .inl ⟨ks, h1⟩⟩
  | t kvs => obtain ⟨ks, h1, _⟩ := h; exact ⟨a, rfl, .inr ⟨ks, h1⟩⟩
def xDGet1 (f g : XF) : XF := fun Γ s => (f Γ s).bind fun x s => if (dicOf x s).isSome = true then (g Γ s).bind fun y s => dGetOr x y .non s else .bad
def xDGet2 (f g h : XF) : XF := fun Γ s => (f Γ s).bind fun x s => if (dicOf x s).isSome = true then (g Γ s).bind fun y s => (h Γ s).bind fun z s => dGetOr x y z s else .bad
theorem px_dget1 (hu : X.A.units + 1 < cLine) (ho : PX X W o f) (he : PX X W e g) (m : M1 X o "get" apos e cpos) : PX X W (.Call (.Attribute o "get" apos) [e] [] cpos) (xDGet1 f g) := (pe_dget1 hu ho he m).weak fun σ H Q ⟨c, Γ, e, s, sl, w⟩ => by
  subst e
  refine tX.here s sl ((w.bind s).monoL fun x c1 e1 s1 w1 v rv => ?_)
  split at w1
  · rename_i hs
    obtain ⟨dv0, hd0⟩ := Option.isSome_iff_exists.mp hs
    obtain ⟨a, ea, hi⟩ := isD_of s1 hd0 rv
    refine ⟨a, ea, hi, tX.here s1 (sl.mono e1) ((w1.bind s1).monoL fun y c2 e2 s2 w2 u ru => ?_)⟩
    unfold dGetOr at w2
    split at w2
    · rename_i dv hd
      split at w2
      · rename_i r hl
        obtain ⟨a', o, e', h1, h2, h3⟩ := look_at s2 hd (rv.mono e2) ru hl
        rw [ea] at e'; cases e'
        refine ⟨o, h1, w2.here s2 _ ?_⟩
        cases r with
        | none => rw [h3 rfl]; exact rep_non.mpr rfl
        | some d => obtain ⟨w', rfl, r'⟩ := h2 d rfl; exact r'
      · exact w2.elim
    · exact w2.elim
  · exact w1.elim
theorem px_dget2 {z : Expr} (hu : X.A.units + 1 < cLine) (ho : PX X W o f) (he : PX X W e g) (hz : PX X W z h) (m : M2 X o "get" apos e z cpos) : PX X W (.Call (.Attribute o "get" apos) [e, z] [] cpos) (xDGet2 f g h) := (pe_dget2 hu ho he hz m).weak fun σ H Q ⟨c, Γ, e, s, sl, w⟩ => by
  subst e
  refine tX.here s sl ((w.bind s).monoL fun x c1 e1 s1 w1 v rv => ?_)
  split at w1
  · rename_i hs
    obtain ⟨dv0, hd0⟩ := Option.isSome_iff_exists.mp hs
    obtain ⟨a, ea, hi⟩ := isD_of s1 hd0 rv
    refine ⟨a, ea, hi, tX.here s1 (sl.mono e1) ((w1.bind s1).monoL fun y c2 e2 s2 w2 u ru => ?_)⟩
    refine tX.here s2 ((sl.mono e1).mono e2) ((w2.bind s2).monoL fun z c3 e3 s3 w3 t rt => ?_)
    unfold dGetOr at w3
    split at w3
    · rename_i dv hd
      split at w3
      · rename_i r hl
        obtain ⟨a', o, e', h1, h2, h3⟩ := look_at s3 hd ((rv.mono e2).mono e3) (ru.mono e3) hl
        rw [ea] at e'; cases e'
        refine ⟨o, h1, w3.here s3 _ ?_⟩
        cases r with
        | none => rw [h3 rfl]; exact rt
        | some d => obtain ⟨w', rfl, r'⟩ := h2 d rfl; exact r'
      · exact w3.elim
    · exact w3.elim
  · exact w1.elim
/-- {}: a new numbered dict; t: its keys will be tuples -/
def xDNew (t : Bool) : XF := fun _ s => .ok (.ref s.nx) (s.new (if t = true then .dT [] else .dK []))
theorem px_dnew (t : Bool) : PX X W (.Dict [] [] pos) (xDNew t) := by
  cases t with
  | false =>
    refine pe_dnewK.weak fun σ H Q ⟨c, Γ, e, s, sl, w⟩ => ?_
    subst e
    intro p hp
    have e := new_ext (o := .dK []) (h := .dK []) s hp
    refine w.to e (new_sim s hp ⟨[], rfl, by simp only [RepK]⟩) rfl _ ?_
    simp only [Rep]
    exact ⟨p, by show (if c.s.nx = c.s.nx then some p else _) = some p; rw [if_pos rfl], rfl⟩
  | true =>
    refine pe_dnewT.weak fun σ H Q ⟨c, Γ, e, s, sl, w⟩ => ?_
    subst e
    intro p hp
    have e := new_ext (o := .dT []) (h := .dT []) s hp
    refine w.to e (new_sim s hp ⟨[], rfl, by simp only [RepT]⟩) rfl _ ?_
    simp only [Rep]
    exact ⟨p, by show (if c.s.nx = c.s.nx then some p else _) = some p; rw [if_pos rfl], rfl⟩
/-- d[k] = v -/
def dPut (x key v : D) (s : S) : R Unit := match x with
  | .ref n => match s.get n with
    | some (.dK kvs) => match keyOf key with
      | some k => if kvs.length < LIM then .ok () (s.put n (.dK (putKD kvs k v))) else .bad
      | none => .bad
    | some (.dT kvs) => match tkeyOf key with
      | some k => if kvs.length < LIM then .ok () (s.put n (.dT (putKD kvs k v))) else .bad
      | none => .bad
    | _ => .bad
  | _ => .bad
theorem put_at {K : PySem.W.Frag} {c : C4} {x key v : D} {xv kv vv : V} {s' : S} (s : Sim K c) (h : dPut x key v c.s = .ok () s') (rx : Rep K c.G c.m x xv) (rk : Rep K c.G c.m key kv) (rv : Rep K c.G c.m v vv) :
    ∃ a c', xv = .ref a ∧ DPut c.H a kv vv c'.H ∧ Ext c c' ∧ Sim K c' ∧ c'.s = s' := by
  unfold dPut at h
  split at h
  · rename_i n
    split at h
    · rename_i kvs hg
      split at h
      · rename_i k hk
        split at h
        · rename_i hl
          cases h
          obtain ⟨a, u, h1, h2, h3, h4, ks, rfl, t⟩ := s.at hg rx
          exact ⟨a, c.wr n (.dK (putKD kvs k v)) a (.dK (putK ks k vv)), h1, .inl ⟨ks, k, h4, keyOf_ok hk rk, lim_lt (by rw [t.len]; exact hl), rfl⟩, wr_ext s h2 hg, wr_sim s h2 hg ⟨_, rfl, t.put rv⟩, rfl⟩
        · cases h
      · cases h
    · rename_i kvs hg
      split at h
      · rename_i k hk
        split at h
        · rename_i hl
          cases h
          obtain ⟨a, u, h1, h2, h3, h4, ks, rfl, t⟩ := s.at hg rx
          obtain ⟨b, rfl, hb⟩ := tkeyOf_ok s hk rk
          exact ⟨a, c.wr n (.dT (putKD kvs k v)) a (.dT (putK ks k vv)), h1, .inr ⟨ks, k, b, h4, rfl, hb, lim_lt (by rw [t.len]; exact hl), rfl⟩, wr_ext s h2 hg, wr_sim s h2 hg ⟨_, rfl, t.put rv⟩, rfl⟩
        · cases h
      · cases h
    · cases h
  · cases h
theorem dPut_exc {x key v : D} {s : S} {e : Exn} {s' : S} : dPut x key v s ≠ .exc e s' := fun h => by
  unfold dPut at h
  repeat (first | cases h | split at h)
def sDPut (fo fi fv : XF) : XS := fun Γ s => liftE (fv Γ s) Γ fun v s => liftE (fo Γ s) Γ fun x s => liftE (fi Γ s) Γ fun y s => (dPut x y v s).bind fun _ s => .ok (.nx Γ) s
theorem ks_dput (hu : X.A.units + 1 < cLine) (ho : PX X W o f) (hi : PX X W i g) (hv : PX X W value h) (hs : swapsWith value (some (.Subscript o i pos')) pos.line X.env = pure false := by rfl) :
    PXS X W (.Assign [.Subscript o i pos'] value pos) (sDPut f g h) := ps_of (ps_dput hu ho hi hv hs) fun c Γ σ D s l w => by
  refine tX.here s l ((w.lift s l).monoL fun v c1 e1 s1 w1 vv rv => ?_)
  have l1 := l.mono e1
  refine tX.here s1 l1 ((w1.lift s1 l1).monoL fun x c2 e2 s2 w2 xv rx => ?_)
  have l2 := l1.mono e2
  refine tX.here s2 l2 ((w2.lift s2 l2).monoL fun y c3 e3 s3 w3 yv ry => ?_)
  have l3 := l2.mono e3
  cases q : dPut x y v c3.s with
  | bad => rw [q] at w3; exact w3.elim
  | exc ex s' => exact absurd q dPut_exc
  | ok u s' =>
    obtain ⟨a, c', h1, h2, h3, h4, h5⟩ := put_at s3 q (rx.mono e3) ry ((rv.mono e2).mono e3)
    rw [q] at w3
    exact ⟨a, c'.H, h1, h2, w3.to h3 h4 h5 σ (l3.mono h3)⟩

/-! ### xs[i] = v -/
def lPut (x i v : D) (s : S) : R Unit := match x, i with
  | .ref n, .int k => match s.get n with
    | some (.lst ds) => match ixN ds.length k with
      | some j => .ok () (s.put n (.lst (ds.set j v)))
      | none => .bad
    | _ => .bad
  | _, _ => .bad
def gSubD (fo fi : XF) : D → Sl → S → R Sl := fun d Γ s => (fo Γ s).bind fun x s => (fi Γ s).bind fun y s => (lPut x y d s).bind fun _ s => .ok Γ s
theorem Wants.kF {K : PySem.W.Frag} {c : C4} {α : Type} {r : R α} {Φ : α → C4 → Prop} {Ψ : Exn → C4 → Prop} (h : Wants K c r Φ L3.kF) : Wants K c r Φ Ψ := h.mono (fun _ _ _ _ q => q) fun _ _ _ _ q => q.elim
theorem lPut_at {K : PySem.W.Frag} {c : C4} {x i v : D} {xv iv vv : V} {s' : S} (s : Sim K c) (h : lPut x i v c.s = .ok () s') (rx : Rep K c.G c.m x xv) (ri : Rep K c.G c.m i iv) (rv : Rep K c.G c.m v vv) :
    ∃ a xs k j c', xv = .ref a ∧ iv = .int k ∧ c.H a = some (.lst xs) ∧ ixN xs.length k = some j ∧ c'.H = upd c.H a (.lst (xs.set j vv)) ∧ Ext c c' ∧ Sim K c' ∧ c'.s = s' := by
  unfold lPut at h
  split at h
  · rename_i n k
    split at h
    · rename_i ds hg
      split at h
      · rename_i j hj
        cases h
        obtain ⟨a, u, h1, h2, h3, h4, vs, rfl, t⟩ := s.at hg rx
        exact ⟨a, vs, k, j, c.wr n (.lst (ds.set j v)) a (.lst (vs.set j vv)), h1, rep_int.mp ri, h4, by rw [t.len]; exact hj, rfl, wr_ext s h2 hg, wr_sim s h2 hg ⟨_, rfl, t.set rv j⟩, rfl⟩
      · cases h
    · cases h
  · cases h
theorem lPut_exc {x key v : D} {s : S} {e : Exn} {s' : S} : lPut x key v s ≠ .exc e s' := fun h => by
  unfold lPut at h
  repeat (first | cases h | split at h)
theorem kg_sub (ho : PX X W o f) (hi : PX X W i g)
    (ha : ∀ v, assign (.Subscript o i pos) X.env v = (do
      let ov ← holding [v] (eval o X.env)
      let iv ← holding [v, ov] (eval i X.env)
      standAt pos
      holding [v, ov, iv] (setItem ov iv v)
      release [v, ov, iv] []) := by intro _; rfl) : PXG X [] (.Subscript o i pos) (gSubD f g) := (pg_sub ho hi set_list ha).weak fun v σ H Q ⟨c, Γ, d, e, s, l, r, w⟩ => by
  subst e
  refine tX.here s l ((w.bind s).kF.monoL fun x c1 e1 s1 w1 xv rx => ?_)
  have l1 := l.mono e1
  refine tX.here s1 l1 ((w1.bind s1).kF.monoL fun y c2 e2 s2 w2 yv ry => ?_)
  have l2 := l1.mono e2
  cases q : lPut x y d c2.s with
  | bad => rw [q] at w2; exact w2.elim
  | exc ex s' => exact absurd q lPut_exc
  | ok u s' =>
    obtain ⟨a, xs, k, j, c', h1, h2, h3, h4, h5, h6, h7, h8⟩ := lPut_at s2 q (rx.mono e2) ry ((r.mono e1).mono e2)
    rw [q] at w2
    refine ⟨a, xs, k, j, h1, h2, h3, h4, ?_⟩
    rw [← h5]
    exact w2.to h6 h7 h8 σ (l2.mono h6) ⟨rfl, fun _ _ => rfl⟩
end

/-! ### len, int, str, isinstance, list, tuple, max, min, sum, all -/
section
variable {K : PySem.W.Frag} {c : C4}
def oLen : List D → S → R D
  | [x], s => match x with
    | .str z => if z.length ≤ LIM then .ok (.int z.length) s else .bad
    | .tup ds => .ok (.int ds.length) s
    | x => match dicOf x s with
      | some (.k kvs) => .ok (.int kvs.length) s
      | some (.t kvs) => .ok (.int kvs.length) s
      | none => match lstOf x s with
        | some ds => .ok (.int ds.length) s
        | none => .bad
  | _, _ => .bad
def oIntC : List D → S → R D
  | [.int i], s => .ok (.int i) s
  | [.bl b], s => .ok (.int (if b = true then 1 else 0)) s
  | [.str z], s => match PySem.intText? z with
    | some n => if z.length ≤ 640 then .ok (.int n) s else .bad
    | none => .bad
  | _, _ => .bad
def oStrC : List D → S → R D
  | [.int i], s => if sm i = true then .ok (.str (toString i)) s else .bad
  | [.str z], s => .ok (.str z) s
  | _, _ => .bad
def tyN (x : D) (s : S) : Option String := match x with
  | .non => some "NoneType"
  | .bl _ => some "bool"
  | .int _ => some "int"
  | .str _ => some "str"
  | .tup _ => some "tuple"
  | .lst _ => some "list"
  | .dK _ => some "dict"
  | .dT _ => some "dict"
  | .ref n => match s.get n with
    | some (.lst _) => some "list"
    | some (.dK _) => some "dict"
    | some (.dT _) => some "dict"
    | _ => none
  | _ => none
def isiB (a b : String) : Option Bool := if a ∈ ["NoneType", "bool", "int", "str", "tuple", "list", "dict"] ∧ b ∈ ["bool", "int", "str", "tuple", "list"] then some (a == b || (a == "bool" && b == "int")) else none
theorem isiB_ok {a b : String} {r : Bool} (h : isiB a b = some r) : PySem.W.kitOne K (.type a) (.type b) = some r := by
  have all : ∀ a ∈ ["NoneType", "bool", "int", "str", "tuple", "list", "dict"], ∀ b ∈ ["bool", "int", "str", "tuple", "list"], kitB a b = some (a == b || (a == "bool" && b == "int")) := by decide +kernel
  unfold isiB at h
  split at h
  · rename_i hh
    cases h
    exact kit_ty (all a hh.1 b hh.2)
  · cases h
def oIsi : List D → S → R D
  | [x, .ty b], s => match tyN x s with
    | some a => match isiB a b with
      | some r => .ok (.bl r) s
      | none => .bad
    | none => .bad
  | _, _ => .bad
def oListC (own : Bool) : List D → S → R D
  | [.tup ds], s => newL own ds s
  | [x], s => match lstOf x s with
    | some ds => newL own ds s
    | none => .bad
  | _, _ => .bad
def oTupC : List D → S → R D
  | [.tup ds], s => .ok (.tup ds) s
  | [x], s => match lstOf x s with
    | some ds => newT ds s
    | none => .bad
  | _, _ => .bad
def oMax2 : List D → S → R D
  | [.int i, .int j], s => .ok (.int (if j > i then j else i)) s
  | _, _ => .bad
def oMin2 : List D → S → R D
  | [.int i, .int j], s => .ok (.int (if j < i then j else i)) s
  | _, _ => .bad
def intsOf : List D → Option (List Int)
  | [] => some []
  | .int i :: r => (intsOf r).map (i :: ·)
  | _ => none
def blsOf : List D → Option (List Bool)
  | [] => some []
  | .bl i :: r => (blsOf r).map (i :: ·)
  | _ => none
def strsOf : List D → Option (List Str)
  | [] => some []
  | .str i :: r => (strsOf r).map (i :: ·)
  | _ => none
theorem intsOf_eq : ∀ {ds : List D} {ns : List Int}, intsOf ds = some ns → ds = ns.map .int
  | [], ns, h => by cases h; rfl
  | d :: r, ns, h => by
    cases d <;> simp only [intsOf, reduceCtorEq, Option.map_eq_some_iff] at h
    obtain ⟨t, h1, rfl⟩ := h
    rw [intsOf_eq h1]; rfl
theorem blsOf_eq : ∀ {ds : List D} {ns : List Bool}, blsOf ds = some ns → ds = ns.map .bl
  | [], ns, h => by cases h; rfl
  | d :: r, ns, h => by
    cases d <;> simp only [blsOf, reduceCtorEq, Option.map_eq_some_iff] at h
    obtain ⟨t, h1, rfl⟩ := h
    rw [blsOf_eq h1]; rfl
theorem strsOf_eq : ∀ {ds : List D} {ns : List Str}, strsOf ds = some ns → ds = ns.map .str
  | [], ns, h => by cases h; rfl
  | d :: r, ns, h => by
    cases d <;> simp only [strsOf, reduceCtorEq, Option.map_eq_some_iff] at h
    obtain ⟨t, h1, rfl⟩ := h
    rw [strsOf_eq h1]; rfl
theorem intsOf_map : ∀ (ns : List Int), intsOf (ns.map .int) = some ns
  | [] => rfl
  | n :: r => by rw [List.map_cons]; simp only [intsOf, intsOf_map r]; rfl
theorem blsOf_map : ∀ (ns : List Bool), blsOf (ns.map .bl) = some ns
  | [] => rfl
  | n :: r => by rw [List.map_cons]; simp only [blsOf, blsOf_map r]; rfl
theorem strsOf_map : ∀ (ns : List Str), strsOf (ns.map .str) = some ns
  | [] => rfl
  | n :: r => by rw [List.map_cons]; simp only [strsOf, strsOf_map r]; rfl
def oSumC : List D → S → R D
  | [x], s => match (lstOf x s).bind intsOf with
    | some ns => .ok (.int ns.sum) s
    | none => .bad
  | _, _ => .bad
def oAllC : List D → S → R D
  | [x], s => match (lstOf x s).bind blsOf with
    | some ns => .ok (.bl (ns.all id)) s
    | none => .bad
  | _, _ => .bad
theorem oLen_ok : CallS K (fun xs H Q => (∃ x n, xs = [x] ∧ LenV K x H n ∧ Q (.int n) H) ∨ (∃ a kvs, xs = [V.ref a] ∧ Rd H a (.dK kvs) ∧ Q (.int kvs.length) H) ∨ ∃ a kvs, xs = [V.ref a] ∧ Rd H a (.dT kvs) ∧ Q (.int kvs.length) H) oLen := by
  intro c ds vs Q Ψ s r w
  unfold oLen at w
  split at w
  · rename_i x
    obtain ⟨v, rfl, rx⟩ := r.one'
    split at w
    · rw [rep_str] at rx
      subst rx
      split at w
      · rename_i hl
        exact .inl ⟨_, _, rfl, ⟨lim_le hl, rfl⟩, w.here s _ (rep_int.mpr rfl)⟩
      · exact w.elim
    · rename_i ds
      obtain ⟨p, vs, rfl, h1, r1⟩ := tup_at s rx
      exact .inl ⟨_, vs.length, rfl, .inr ⟨vs, h1, rfl⟩, by rw [r1.len]; exact w.here s _ (rep_int.mpr rfl)⟩
    · split at w
      · rename_i kvs hd
        obtain ⟨a, rfl, ks, h1, h2⟩ := dic_at s hd rx
        exact .inr (.inl ⟨a, ks, rfl, h1, by rw [h2.len]; exact w.here s _ (rep_int.mpr rfl)⟩)
      · rename_i kvs hd
        obtain ⟨a, rfl, ks, h1, h2⟩ := dic_at s hd rx
        exact .inr (.inr ⟨a, ks, rfl, h1, by rw [h2.len]; exact w.here s _ (rep_int.mpr rfl)⟩)
      · split at w
        · rename_i ds hl
          obtain ⟨p, vs, rfl, h1, r1⟩ := lst_at s hl rx
          exact .inl ⟨_, vs.length, rfl, .inl ⟨vs, h1, rfl⟩, by rw [r1.len]; exact w.here s _ (rep_int.mpr rfl)⟩
        · exact w.elim
  · exact w.elim
theorem oIntC_ok : CallS K (fun xs H Q => ((∃ i, xs = [.int i] ∧ Q (.int i) H) ∨ ∃ k, xs = [.bl k] ∧ Q (.int (if k then 1 else 0)) H) ∨ ∃ a n, xs = [.str a] ∧ PySem.intText? a = some n ∧ a.length ≤ 640 ∧ Q (.int n) H) oIntC := by
  intro c ds vs Q Ψ s r w
  unfold oIntC at w
  split at w
  · obtain ⟨v, rfl, rx⟩ := r.one'
    rw [rep_int] at rx
    subst rx
    exact .inl (.inl ⟨_, rfl, w.here s _ (rep_int.mpr rfl)⟩)
  · obtain ⟨v, rfl, rx⟩ := r.one'
    rw [rep_bl] at rx
    subst rx
    exact .inl (.inr ⟨_, rfl, w.here s _ (rep_int.mpr rfl)⟩)
  · obtain ⟨v, rfl, rx⟩ := r.one'
    rw [rep_str] at rx
    subst rx
    split at w
    · rename_i n hn
      split at w
      · rename_i hl
        exact .inr ⟨_, n, rfl, hn, hl, w.here s _ (rep_int.mpr rfl)⟩
      · exact w.elim
    · exact w.elim
  · exact w.elim
theorem oStrC_ok : CallS K (fun xs H Q => (∃ i, xs = [.int i] ∧ i.natAbs.log2 < 1920 ∧ Q (.str (toString i)) H) ∨ ∃ a, xs = [.str a] ∧ Q (.str a) H) oStrC := by
  intro c ds vs Q Ψ s r w
  unfold oStrC at w
  split at w
  · obtain ⟨v, rfl, rx⟩ := r.one'
    rw [rep_int] at rx
    subst rx
    split at w
    · rename_i h
      exact .inl ⟨_, rfl, Nat.lt_trans (sm_log h) (by decide), w.here s _ (rep_str.mpr rfl)⟩
    · exact w.elim
  · obtain ⟨v, rfl, rx⟩ := r.one'
    rw [rep_str] at rx
    subst rx
    exact .inr ⟨_, rfl, w.here s _ (rep_str.mpr rfl)⟩
  · exact w.elim
theorem rd_lst {H : Hp} {a : Addr} {xs : List V} (h : Rd H a (.lst xs)) : TyX K H (.ref a) (.type "list") := h.elim (fun e => .base (.lst e)) fun ⟨_, e⟩ => .base (.frz e)
theorem rd_dT {H : Hp} {a : Addr} {xs : List (List Key × V)} (h : H a = some (.dT xs)) : TyX K H (.ref a) (.type "dict") := .base (.dT h)
theorem ty_at {x : D} {v : V} {n : String} (s : Sim K c) (h : tyN x c.s = some n) (r : Rep K c.G c.m x v) (hd : ∀ ks, x ≠ .dT ks) : TyX K c.H v (.type n) := by
  cases x with
  | non => cases h; rw [rep_non] at r; subst r; exact .base .non
  | bl b => cases h; rw [rep_bl] at r; subst r; exact .base (.bl _)
  | int b => cases h; rw [rep_int] at r; subst r; exact .base (.int _)
  | str b => cases h; rw [rep_str] at r; subst r; exact .base (.str _)
  | ty b => cases h
  | raw b => cases h
  | tup ds =>
    cases h
    simp only [Rep] at r
    obtain ⟨p, vs, rfl, q, t⟩ := r
    exact .base (.tup (s.tup _ _ q))
  | lst ds =>
    cases h
    simp only [Rep] at r
    obtain ⟨p, vs, rfl, q, t⟩ := r
    exact rd_lst (s.sub _ _ q)
  | dK ds =>
    cases h
    simp only [Rep] at r
    obtain ⟨p, vs, rfl, q, t⟩ := r
    rcases s.sub _ _ q with e | ⟨o, e⟩
    · exact .base (.dK e)
    · exact .fDict e
  | dT ds => exact absurd rfl (hd ds)
  | ref k =>
    simp only [tyN] at h
    cases q : c.s.get k with
    | none => rw [q] at h; cases h
    | some o =>
      rw [q] at h
      obtain ⟨a, u, rfl, h2, h3, h4, h5⟩ := s.at q r
      cases o with
      | lst ds => cases h; obtain ⟨vs, rfl, t⟩ := h5; exact .base (.lst h4)
      | dK ds => cases h; obtain ⟨vs, rfl, t⟩ := h5; exact .base (.dK h4)
      | dT ds => cases h; obtain ⟨vs, rfl, t⟩ := h5; exact .base (.dT h4)
      | ins C fs => cases h
def notDT : D → Bool
  | .dT _ => false
  | _ => true
theorem oIsi_ok : CallS K (rIsi K) (fun ds s => match ds with
  | x :: _ => if notDT x = true then oIsi ds s else .bad
  | [] => .bad) := by
  intro c ds vs Q Ψ s r w
  dsimp only at w
  split at w
  · rename_i x rest
    split at w
    · rename_i hn
      unfold oIsi at w
      split at w
      · rename_i x' b e
        injection e with e1 e2
        subst e1; subst e2
        obtain ⟨v, u, rfl, rx, ru⟩ := r.two'
        split at w
        · rename_i a ha
          split at w
          · rename_i rr hr
            simp only [Rep] at ru
            subst ru
            exact ⟨v, _, .type a, .type b, rr, rfl, .ty b, ty_at s ha rx (fun ks e => by rw [e] at hn; cases hn), isiB_ok hr, w.here s _ (rep_bl.mpr rfl)⟩
          · exact w.elim
        · exact w.elim
      · exact w.elim
    · exact w.elim
  · exact w.elim
theorem oListC_ok {own : Bool} : CallS K (fun xs H Q => ∃ p ys, xs = [.ref p] ∧ (SqL K H p ys ∨ SqT K H p ys) ∧ ∀ l, H l = none → Q (.ref l) (upd H l (.lst ys))) (oListC own) := by
  intro c ds vs Q Ψ s r w
  unfold oListC at w
  split at w
  · obtain ⟨v, rfl, rx⟩ := r.one'
    obtain ⟨p, vs, rfl, h1, r1⟩ := tup_at s rx
    exact ⟨p, vs, rfl, .inr h1, new_list s w r1⟩
  · obtain ⟨v, rfl, rx⟩ := r.one'
    split at w
    · rename_i ds hl
      obtain ⟨p, vs, rfl, h1, r1⟩ := lst_at s hl rx
      exact ⟨p, vs, rfl, .inl h1, new_list s w r1⟩
    · exact w.elim
  · exact w.elim
theorem oTupC_ok : CallS K (fun xs H Q => ∃ p ys, xs = [.ref p] ∧ ((SqL K H p ys ∧ ∀ l, H l = none → Q (.ref l) (upd H l (.tup ys))) ∨ (SqT K H p ys ∧ Q (.ref p) H))) oTupC := by
  intro c ds vs Q Ψ s r w
  unfold oTupC at w
  split at w
  · obtain ⟨v, rfl, rx⟩ := r.one'
    obtain ⟨p, vs, rfl, h1, r1⟩ := tup_at s rx
    exact ⟨p, vs, rfl, .inr ⟨h1, w.here s _ rx⟩⟩
  · obtain ⟨v, rfl, rx⟩ := r.one'
    split at w
    · rename_i ds hl
      obtain ⟨p, vs, rfl, h1, r1⟩ := lst_at s hl rx
      exact ⟨p, vs, rfl, .inl ⟨h1, new_tup s w r1⟩⟩
    · exact w.elim
  · exact w.elim
theorem oMax2_ok : CallS K (fun xs H Q => ∃ i j, xs = [.int i, .int j] ∧ Q (.int (if j > i then j else i)) H) oMax2 := by
  intro c ds vs Q Ψ s r w
  unfold oMax2 at w
  split at w
  · obtain ⟨v, u, rfl, rx, ru⟩ := r.two'
    rw [rep_int] at rx ru
    subst rx; subst ru
    exact ⟨_, _, rfl, w.here s _ (rep_int.mpr rfl)⟩
  · exact w.elim
theorem oMin2_ok : CallS K (fun xs H Q => ∃ i j, xs = [.int i, .int j] ∧ Q (.int (if j < i then j else i)) H) oMin2 := by
  intro c ds vs Q Ψ s r w
  unfold oMin2 at w
  split at w
  · obtain ⟨v, u, rfl, rx, ru⟩ := r.two'
    rw [rep_int] at rx ru
    subst rx; subst ru
    exact ⟨_, _, rfl, w.here s _ (rep_int.mpr rfl)⟩
  · exact w.elim
theorem oSumC_ok : CallS K (rSum K) oSumC := by
  intro c ds vs Q Ψ s r w
  unfold oSumC at w
  split at w
  · obtain ⟨v, rfl, rx⟩ := r.one'
    split at w
    · rename_i ns h
      obtain ⟨ds, hl, hi⟩ := Option.bind_eq_some_iff.mp h
      obtain ⟨p, vs, rfl, h1, r1⟩ := lst_at s hl rx
      rw [intsOf_eq hi] at r1
      rw [r1.ints] at h1
      exact ⟨p, ns, rfl, h1, w.here s _ (rep_int.mpr rfl)⟩
    · exact w.elim
  · exact w.elim
theorem oAllC_ok : CallS K (rAll K) oAllC := by
  intro c ds vs Q Ψ s r w
  unfold oAllC at w
  split at w
  · obtain ⟨v, rfl, rx⟩ := r.one'
    split at w
    · rename_i ns h
      obtain ⟨ds, hl, hi⟩ := Option.bind_eq_some_iff.mp h
      obtain ⟨p, vs, rfl, h1, r1⟩ := lst_at s hl rx
      rw [blsOf_eq hi] at r1
      rw [r1.bls] at h1
      exact ⟨p, ns, rfl, h1, w.here s _ (rep_bl.mpr rfl)⟩
    · exact w.elim
  · exact w.elim
end
theorem call_lenRd {X : Cx} : CallR X (.builtin "len") (fun xs H Q => ∃ a kvs, xs = [V.ref a] ∧ Rd H a (.dK kvs) ∧ Q (.int kvs.length) H) := by
  intro pins s σ H xs us Q I rs h
  obtain ⟨a, kvs, rfl, e, q⟩ := h
  obtain ⟨u, rfl, rx⟩ := vals1 rs
  cases rx
  exact d_len I e fun t s' I' => ⟨.int kvs.length, H, I', ⟨_, rfl⟩, q⟩
theorem call_lenRdT {X : Cx} : CallR X (.builtin "len") (fun xs H Q => ∃ a kvs, xs = [V.ref a] ∧ Rd H a (.dT kvs) ∧ Q (.int kvs.length) H) := by
  intro pins s σ H xs us Q I rs h
  obtain ⟨a, kvs, rfl, e, q⟩ := h
  obtain ⟨u, rfl, rx⟩ := vals1 rs
  cases rx
  obtain ⟨hz, hd, ys, rel, dd⟩ := dt_rd I.hok e
  have hl : kvs.length = ys.length := Paired.length rel
  refine call_len_dictH hd dd (by have := line63; omega) ?_
  exact ⟨.int kvs.length, H, I.tok _, ⟨_, by rw [hl]⟩, q⟩
end L3

set_option Elab.async false
set_option linter.all false
set_option maxRecDepth 100000
namespace L3
open PySem PySem.Spec PyProof.Rows L2

section
variable {X : Cx} {W : WX} {e o : Expr} {es : List Expr} {p pos apos cpos : Pos} {fa : XA} {fo : XF}
/-! ### the built-ins by name -/
theorem px_len (hg : Gl X "len") (hm : X.mg "len" = none) (ha : PXA X W (e :: es) fa) (he : starEach (e :: es) X.env = (false, eval e X.env) :: starEach es X.env := by rfl) (hpl : (backTo pos (starEach es X.env)).any (·.1) = false := by rfl) :
    PX X W (.Call (.Name "len" p) (e :: es) [] pos) (xFn oLen fa) := px_fnB (call_len.or (call_lenRd.or call_lenRdT)) oLen_ok hg hm PySem.boot_len ha (by decide) (by decide) he hpl
theorem px_intC (hg : Gl X "int") (hm : X.mg "int" = none) (ha : PXA X W (e :: es) fa) (he : starEach (e :: es) X.env = (false, eval e X.env) :: starEach es X.env := by rfl) (hpl : (backTo pos (starEach es X.env)).any (·.1) = false := by rfl) :
    PX X W (.Call (.Name "int" p) (e :: es) [] pos) (xFn oIntC fa) := px_fnT (call_int1.or call_int_str) oIntC_ok hg hm boot_int ha (by decide) (by decide) he hpl
theorem px_strC (hg : Gl X "str") (hm : X.mg "str" = none) (ha : PXA X W (e :: es) fa) (he : starEach (e :: es) X.env = (false, eval e X.env) :: starEach es X.env := by rfl) (hpl : (backTo pos (starEach es X.env)).any (·.1) = false := by rfl) :
    PX X W (.Call (.Name "str" p) (e :: es) [] pos) (xFn oStrC fa) := px_fnT (call_str_int.or SkE.call_str_str) oStrC_ok hg hm (by decide +kernel) ha (by decide) (by decide) he hpl
def oIsiG (ds : List D) (s : S) : R D := match ds with
  | x :: _ => if notDT x = true then oIsi ds s else .bad
  | [] => .bad
theorem px_isi (hg : Gl X "isinstance") (hm : X.mg "isinstance" = none) (ha : PXA X W (e :: es) fa) (he : starEach (e :: es) X.env = (false, eval e X.env) :: starEach es X.env := by rfl) (hpl : (backTo pos (starEach es X.env)).any (·.1) = false := by rfl) :
    PX X W (.Call (.Name "isinstance" p) (e :: es) [] pos) (xFn oIsiG fa) := px_fnB call_isi oIsi_ok hg hm (by decide +kernel) ha (by decide) (by decide) he hpl
theorem px_listC (own : Bool) (hg : Gl X "list") (hm : X.mg "list" = none) (ha : PXA X W (e :: es) fa) (he : starEach (e :: es) X.env = (false, eval e X.env) :: starEach es X.env := by rfl) (hpl : (backTo pos (starEach es X.env)).any (·.1) = false := by rfl) :
    PX X W (.Call (.Name "list" p) (e :: es) [] pos) (xFn (oListC own) fa) := px_fnT call_list_of oListC_ok hg hm (by decide +kernel) ha (by decide) (by decide) he hpl
theorem px_tupC (hg : Gl X "tuple") (hm : X.mg "tuple" = none) (ha : PXA X W (e :: es) fa) (he : starEach (e :: es) X.env = (false, eval e X.env) :: starEach es X.env := by rfl) (hpl : (backTo pos (starEach es X.env)).any (·.1) = false := by rfl) :
    PX X W (.Call (.Name "tuple" p) (e :: es) [] pos) (xFn oTupC fa) := px_fnT call_tuple_of oTupC_ok hg hm (by decide +kernel) ha (by decide) (by decide) he hpl
theorem px_max2 (hc : X.calm = true) (hg : Gl X "max") (hm : X.mg "max" = none) (ha : PXA X W (e :: es) fa) (he : starEach (e :: es) X.env = (false, eval e X.env) :: starEach es X.env := by rfl) (hpl : (backTo pos (starEach es X.env)).any (·.1) = false := by rfl) :
    PX X W (.Call (.Name "max" p) (e :: es) [] pos) (xFn oMax2 fa) := px_fnB (call_max2 hc) oMax2_ok hg hm (by decide +kernel) ha (by decide) (by decide) he hpl
theorem px_min2 (hc : X.calm = true) (hg : Gl X "min") (hm : X.mg "min" = none) (ha : PXA X W (e :: es) fa) (he : starEach (e :: es) X.env = (false, eval e X.env) :: starEach es X.env := by rfl) (hpl : (backTo pos (starEach es X.env)).any (·.1) = false := by rfl) :
    PX X W (.Call (.Name "min" p) (e :: es) [] pos) (xFn oMin2 fa) := px_fnB (call_min2 hc) oMin2_ok hg hm (by decide +kernel) ha (by decide) (by decide) he hpl
theorem px_sumC (hc : X.calm = true) (hg : Gl X "sum") (hm : X.mg "sum" = none) (ha : PXA X W (e :: es) fa) (he : starEach (e :: es) X.env = (false, eval e X.env) :: starEach es X.env := by rfl) (hpl : (backTo pos (starEach es X.env)).any (·.1) = false := by rfl) :
    PX X W (.Call (.Name "sum" p) (e :: es) [] pos) (xFn oSumC fa) := px_fnB (cr_sum hc) oSumC_ok hg hm (by decide +kernel) ha (by decide) (by decide) he hpl
theorem px_allC (hc : X.calm = true) (hg : Gl X "all") (hm : X.mg "all" = none) (ha : PXA X W (e :: es) fa) (he : starEach (e :: es) X.env = (false, eval e X.env) :: starEach es X.env := by rfl) (hpl : (backTo pos (starEach es X.env)).any (·.1) = false := by rfl) :
    PX X W (.Call (.Name "all" p) (e :: es) [] pos) (xFn oAllC fa) := px_fnB (cr_all hc) oAllC_ok hg hm (by decide +kernel) ha (by decide) (by decide) he hpl

/-! ### methods of built-in types -/
/-- is it of that type -/
def isTy (T : String) (x : D) (s : S) : Bool := match x with
  | .str _ => T == "str"
  | x => T == "list" && (lstOf x s).isSome
theorem isTy_ok {K : PySem.W.Frag} {c : C4} {T : String} {x : D} {v : V} (s : Sim K c) (h : isTy T x c.s = true) (r : Rep K c.G c.m x v) : tyV K T v c.H := by
  unfold isTy at h
  split at h
  · rw [rep_str] at r
    subst r
    show T = "str"
    simpa using h
  · rw [Bool.and_eq_true] at h
    obtain ⟨ds, hd⟩ := Option.isSome_iff_exists.mp h.2
    obtain ⟨p, vs, rfl, h1, r1⟩ := lst_at s hd r
    exact .inl ⟨by simpa using h.1, vs, h1⟩
def MtS (K : PySem.W.Frag) (r : V → List V → Hp → VK → Prop) (op : D → List D → S → R D) : Prop :=
  ∀ (c : C4) (x : D) (ds : List D) (v : V) (vs : List V) (Q : VK) (Ψ : Exn → C4 → Prop), Sim K c → Rep K c.G c.m x v → RepL K c.G c.m ds vs → Wants K c (op x ds c.s) (kE K Q) Ψ → r v vs c.H Q
def xBM (T : String) (op : D → List D → S → R D) (fo : XF) (fa : XA) : XF := fun Γ s => (fo Γ s).bind fun x s => if isTy T x s = true then (fa Γ s).bind fun ds s => op x ds s else .bad
theorem px_bm {T id : String} {name : Str} {r : V → List V → Hp → VK → Prop} {op : D → List D → S → R D} (pa : PlainAttrs T) (slot : Slot T name id) (hty : typeOf (.builtin id) = pure (.type "method_descriptor")) (hm : MtR X id r) (ho' : MtS X.K r op) (ho : PX X W o fo) (ha : PXA X W (e :: es) fa)
    (hbase : attributeBase o name X.env (eval o X.env) = eval o X.env := by rfl)
    (hfew : ((backTo cpos (starEach (e :: es) X.env)).all (fun x => !x.1) && (backToKw cpos (keywordEach [] X.env)).all (fun x => x.1.isSome)
      && decide ((e :: es).length + ([] : List Keyword).length + (if ([] : List Keyword).isEmpty then 0 else 1) < 30)) = true := by rfl)
    (hline : (apos.endLine == cpos.line) = true := by rfl) (hs : starEach (e :: es) X.env = (false, eval e X.env) :: starEach es X.env := by rfl) (hplain : (backTo cpos (starEach es X.env)).any (·.1) = false := by rfl) :
    PX X W (.Call (.Attribute o name apos) (e :: es) [] cpos) (xBM T op fo fa) := (pe_bm pa slot hty hm ho ha hbase hfew hline hs hplain).weak fun σ H Q ⟨c, Γ, e, s, sl, w⟩ => by
  subst e
  refine tX.here s sl ((w.bind s).monoL fun x c1 e1 s1 w1 v rv => ?_)
  split at w1
  · rename_i ht
    exact ⟨isTy_ok s1 ht rv, tXA.here s1 (sl.mono e1) ((w1.bind s1).monoL fun ds c2 e2 s2 w2 vs rvs => ho' c2 x ds v vs Q _ s2 (rv.mono e2) rvs w2)⟩
  · exact w1.elim
theorem px_bm0 {T id : String} {name : Str} {r : V → List V → Hp → VK → Prop} {op : D → List D → S → R D} (pa : PlainAttrs T) (slot : Slot T name id) (hty : typeOf (.builtin id) = pure (.type "method_descriptor")) (hm : MtR X id r) (ho' : MtS X.K r op) (ho : PX X W o fo)
    (hbase : attributeBase o name X.env (eval o X.env) = eval o X.env := by rfl) (hline : (apos.endLine == cpos.line) = true := by rfl) :
    PX X W (.Call (.Attribute o name apos) [] [] cpos) (xBM T op fo aNil) := (pe_bm0 pa slot hty hm ho hbase hline).weak fun σ H Q ⟨c, Γ, e, s, sl, w⟩ => by
  subst e
  refine tX.here s sl ((w.bind s).monoL fun x c1 e1 s1 w1 v rv => ?_)
  split at w1
  · rename_i ht
    exact ⟨isTy_ok s1 ht rv, ho' c1 x [] v [] Q _ s1 rv RepL.nil w1⟩
  · exact w1.elim
end
section
variable {K : PySem.W.Frag} {c : C4}
/-- a numbered list changed -/
theorem lst_put {n : Nat} {ds es : List D} {v : V} {Q : VK} {d : D} {Ψ : Exn → C4 → Prop} (s : Sim K c) (hg : c.s.get n = some (.lst ds)) (r : Rep K c.G c.m (.ref n) v) (w : Wants K c (.ok d (c.s.put n (.lst es))) (kE K Q) Ψ) :
    ∃ a vs, v = .ref a ∧ c.H a = some (.lst vs) ∧ RepL K c.G c.m ds vs ∧ ∀ us, RepL K c.G c.m es us → ∀ u, Rep K c.G c.m d u → Q u (upd c.H a (.lst us)) := by
  obtain ⟨a, u, h1, h2, h3, h4, vs, rfl, t⟩ := s.at hg r
  refine ⟨a, vs, h1, h4, t, fun us ru u rd => ?_⟩
  have e := wr_ext (h := .lst us) (o' := .lst es) s h2 hg
  exact w.to e (wr_sim s h2 hg ⟨us, rfl, ru⟩) rfl u (rd.mono e)
def mAppend (x : D) (ds : List D) (s : S) : R D := match x, ds with
  | .ref n, [d] => match s.get n with
    | some (.lst es) => if es.length < LIM then .ok .non (s.put n (.lst (es ++ [d]))) else .bad
    | _ => .bad
  | _, _ => .bad
theorem mAppend_ok : MtS K rAppend mAppend := by
  intro c x ds v vs Q Ψ s rx rs w
  unfold mAppend at w
  split at w
  · split at w
    · rename_i hg
      split at w
      · rename_i hl
        obtain ⟨y, rfl, ry⟩ := rs.one'
        obtain ⟨a, us, rfl, h1, r1, q⟩ := lst_put s hg rx w
        exact ⟨a, us, y, rfl, rfl, h1, lim_lt (by rw [r1.len]; exact hl), q _ (r1.app (RepL.one ry)) _ (rep_non.mpr rfl)⟩
      · exact w.elim
    · exact w.elim
  · exact w.elim
def mPop (x : D) (ds : List D) (s : S) : R D := match x, ds with
  | .ref n, [] => match s.get n with
    | some (.lst es) => match es[es.length - 1]? with
      | some d => .ok d (s.put n (.lst es.dropLast))
      | none => .bad
    | _ => .bad
  | _, _ => .bad
theorem RepL.dropLast {G : Hp} {m : Mp} {ds : List D} {vs : List V} (h : RepL K G m ds vs) : RepL K G m ds.dropLast vs.dropLast := by
  rw [List.dropLast_eq_take, List.dropLast_eq_take, h.len]
  exact h.take _
theorem mPop_ok : MtS K rPop mPop := by
  intro c x ds v vs Q Ψ s rx rs w
  unfold mPop at w
  split at w
  · split at w
    · rename_i hg
      split at w
      · rename_i d hd
        have e : vs = [] := by simpa only [RepL] using rs
        subst e
        obtain ⟨a, us, rfl, h1, r1, q⟩ := lst_put s hg rx w
        obtain ⟨y, h2, ry⟩ := r1.get hd
        exact ⟨a, us, y, rfl, rfl, h1, by rw [r1.len]; exact h2, q _ r1.dropLast _ ry⟩
      · exact w.elim
    · exact w.elim
  · exact w.elim
def mPopAt (x : D) (ds : List D) (s : S) : R D := match x, ds with
  | .ref n, [.int i] => match s.get n with
    | some (.lst es) => if small62 i = true then (match seqIndex? i es.length with
      | some k => match es[k]? with
        | some d => .ok d (s.put n (.lst (es.eraseIdx k)))
        | none => .bad
      | none => .bad) else .bad
    | _ => .bad
  | _, _ => .bad
theorem RepL.erase {G : Hp} {m : Mp} : ∀ {ds : List D} {vs : List V} (k : Nat), RepL K G m ds vs → RepL K G m (ds.eraseIdx k) (vs.eraseIdx k)
  | [], vs, k, h => by
    have e : vs = [] := by simpa only [RepL] using h
    rw [e]; exact RepL.nil
  | d :: ds, vs, 0, h => by
    obtain ⟨v, r, rfl, _, t⟩ := h.uncons
    exact t
  | d :: ds, vs, k + 1, h => by
    obtain ⟨v, r, rfl, h1, t⟩ := h.uncons
    exact RepL.cons h1 (RepL.erase k t)
theorem mPopAt_ok : MtS K rPopAt mPopAt := by
  intro c x ds v vs Q Ψ s rx rs w
  unfold mPopAt at w
  split at w
  · rename_i n i
    split at w
    · rename_i hg
      split at w
      · rename_i hs
        split at w
        · rename_i k hk
          split at w
          · rename_i d hd
            obtain ⟨y, rfl, ry⟩ := rs.one'
            rw [rep_int] at ry
            subst ry
            have h62 := small62_ok hs
            obtain ⟨a, us, rfl, h1, r1, q⟩ := lst_put s hg rx w
            obtain ⟨z, h2, rz⟩ := r1.get hd
            exact ⟨a, us, i, k, z, rfl, rfl, h1, by omega, by omega, by rw [r1.len]; exact hk, h2, q _ (r1.erase k) _ rz⟩
          · exact w.elim
        · exact w.elim
      · exact w.elim
    · exact w.elim
  · exact w.elim
def mClear (x : D) (ds : List D) (s : S) : R D := match x, ds with
  | .ref n, [] => match s.get n with
    | some (.lst es) => .ok .non (s.put n (.lst []))
    | _ => .bad
  | _, _ => .bad
theorem mClear_ok : MtS K rClear mClear := by
  intro c x ds v vs Q Ψ s rx rs w
  unfold mClear at w
  split at w
  · split at w
    · rename_i hg
      have e : vs = [] := by simpa only [RepL] using rs
      subst e
      obtain ⟨a, us, rfl, h1, r1, q⟩ := lst_put s hg rx w
      exact ⟨a, us, rfl, rfl, h1, q _ RepL.nil _ (rep_non.mpr rfl)⟩
    · exact w.elim
  · exact w.elim
def mSplit (own : Bool) (x : D) (ds : List D) (s : S) : R D := match x, ds with
  | .str a, [.str b] => if b.length ≠ 0 ∧ a.length + 2 ≤ LIM then newL own ((Txt.split a b).map .str) s else .bad
  | _, _ => .bad
theorem mSplit_ok {own : Bool} : MtS K (fun x xs H Q => ∃ a b, x = .str a ∧ xs = [.str b] ∧ (b.length == 0) = false ∧ a.length + 2 ≤ sizeLine ∧ rNewStrs (Txt.split a b) H Q) (mSplit own) := by
  intro c x ds v vs Q Ψ s rx rs w
  unfold mSplit at w
  split at w
  · rename_i a b
    split at w
    · rename_i h
      obtain ⟨y, rfl, ry⟩ := rs.one'
      rw [rep_str] at ry rx
      subst ry; subst rx
      exact ⟨a, b, rfl, rfl, by simpa using h.1, lim_le h.2, new_list s w (RepL.strs.mpr rfl)⟩
    · exact w.elim
  · exact w.elim
def mJoin (x : D) (ds : List D) (s : S) : R D := match x, ds with
  | .str a, [y] => match (match y with | .tup es => some es | y => lstOf y s).bind strsOf with
    | some ys => if (ys.map (·.length)).sum + ys.length * a.length ≤ LIM then .ok (.str (Txt.join a ys)) s else .bad
    | none => .bad
  | _, _ => .bad
theorem mJoin_ok : MtS K (fun x xs H Q => ∃ a p, ∃ ys : List Str, x = .str a ∧ xs = [.ref p] ∧ (SqL K H p (ys.map V.str) ∨ SqT K H p (ys.map V.str)) ∧ (ys.map (·.length)).sum + ys.length * a.length ≤ 16777216 ∧ Q (.str (Txt.join a ys)) H) mJoin := by
  intro c x ds v vs Q Ψ s rx rs w
  unfold mJoin at w
  split at w
  · rename_i a y
    split at w
    · rename_i ys hys
      split at w
      · rename_i hl
        obtain ⟨u, rfl, ru⟩ := rs.one'
        rw [rep_str] at rx
        subst rx
        have hl' : (ys.map (·.length)).sum + ys.length * a.length ≤ 16777216 := Nat.le_trans hl (by decide)
        obtain ⟨es, h1, h2⟩ := Option.bind_eq_some_iff.mp hys
        have he := strsOf_eq h2
        subst he
        split at h1
        · cases h1
          obtain ⟨p, us, rfl, k1, k2⟩ := tup_at s ru
          rw [RepL.strs.mp k2] at k1
          exact ⟨a, p, ys, rfl, rfl, .inr k1, hl', w.here s _ (rep_str.mpr rfl)⟩
        · obtain ⟨p, us, rfl, k1, k2⟩ := lst_at s h1 ru
          rw [RepL.strs.mp k2] at k1
          exact ⟨a, p, ys, rfl, rfl, .inl k1, hl', w.here s _ (rep_str.mpr rfl)⟩
      · exact w.elim
    · exact w.elim
  · exact w.elim
end
section
variable {X : Cx} {W : WX} {e o : Expr} {es : List Expr} {p pos apos cpos : Pos} {fa : XA} {fo : XF}
theorem px_append (ho : PX X W o fo) (ha : PXA X W [e] fa) (hbase : attributeBase o "append" X.env (eval o X.env) = eval o X.env := by rfl)
    (hfew : ((backTo cpos (starEach [e] X.env)).all (fun x => !x.1) && (backToKw cpos (keywordEach [] X.env)).all (fun x => x.1.isSome) && decide (([e]).length + ([] : List Keyword).length + (if ([] : List Keyword).isEmpty then 0 else 1) < 30)) = true := by rfl)
    (hline : (apos.endLine == cpos.line) = true := by rfl) (hs : starEach (e :: []) X.env = (false, eval e X.env) :: starEach [] X.env := by rfl) (hplain : (backTo cpos (starEach [] X.env)).any (·.1) = false := by rfl) :
    PX X W (.Call (.Attribute o "append" apos) [e] [] cpos) (xBM "list" mAppend fo fa) := px_bm PySem.F.plainAttrs_list PySem.F.slot_list_append PySem.F.type_list_append mt_append mAppend_ok ho ha hbase hfew hline hs hplain
theorem px_pop (ho : PX X W o fo) (hbase : attributeBase o "pop" X.env (eval o X.env) = eval o X.env := by rfl) (hline : (apos.endLine == cpos.line) = true := by rfl) :
    PX X W (.Call (.Attribute o "pop" apos) [] [] cpos) (xBM "list" mPop fo aNil) := px_bm0 PySem.F.plainAttrs_list PySem.F.slot_list_pop PySem.F.type_list_pop mt_pop mPop_ok ho hbase hline
theorem px_clear (ho : PX X W o fo) (hbase : attributeBase o "clear" X.env (eval o X.env) = eval o X.env := by rfl) (hline : (apos.endLine == cpos.line) = true := by rfl) :
    PX X W (.Call (.Attribute o "clear" apos) [] [] cpos) (xBM "list" mClear fo aNil) := px_bm0 PySem.F.plainAttrs_list PySem.F.slot_list_clear PySem.F.type_list_clear mt_clear mClear_ok ho hbase hline
theorem px_popAt (ho : PX X W o fo) (ha : PXA X W [e] fa) (hbase : attributeBase o "pop" X.env (eval o X.env) = eval o X.env := by rfl)
    (hfew : ((backTo cpos (starEach [e] X.env)).all (fun x => !x.1) && (backToKw cpos (keywordEach [] X.env)).all (fun x => x.1.isSome) && decide (([e]).length + ([] : List Keyword).length + (if ([] : List Keyword).isEmpty then 0 else 1) < 30)) = true := by rfl)
    (hline : (apos.endLine == cpos.line) = true := by rfl) (hs : starEach (e :: []) X.env = (false, eval e X.env) :: starEach [] X.env := by rfl) (hplain : (backTo cpos (starEach [] X.env)).any (·.1) = false := by rfl) :
    PX X W (.Call (.Attribute o "pop" apos) [e] [] cpos) (xBM "list" mPopAt fo fa) := px_bm PySem.F.plainAttrs_list PySem.F.slot_list_pop PySem.F.type_list_pop mt_popAt mPopAt_ok ho ha hbase hfew hline hs hplain
theorem px_split (own : Bool) (ho : PX X W o fo) (ha : PXA X W [e] fa) (hbase : attributeBase o "split" X.env (eval o X.env) = eval o X.env := by rfl)
    (hfew : ((backTo cpos (starEach [e] X.env)).all (fun x => !x.1) && (backToKw cpos (keywordEach [] X.env)).all (fun x => x.1.isSome) && decide (([e]).length + ([] : List Keyword).length + (if ([] : List Keyword).isEmpty then 0 else 1) < 30)) = true := by rfl)
    (hline : (apos.endLine == cpos.line) = true := by rfl) (hs : starEach (e :: []) X.env = (false, eval e X.env) :: starEach [] X.env := by rfl) (hplain : (backTo cpos (starEach [] X.env)).any (·.1) = false := by rfl) :
    PX X W (.Call (.Attribute o "split" apos) [e] [] cpos) (xBM "str" (mSplit own) fo fa) := px_bm PySem.F.plainAttrs_str PySem.F.slot_str_split PySem.F.type_str_split mt_split mSplit_ok ho ha hbase hfew hline hs hplain
theorem px_join (ho : PX X W o fo) (ha : PXA X W [e] fa) (hbase : attributeBase o "join" X.env (eval o X.env) = eval o X.env := by rfl)
    (hfew : ((backTo cpos (starEach [e] X.env)).all (fun x => !x.1) && (backToKw cpos (keywordEach [] X.env)).all (fun x => x.1.isSome) && decide (([e]).length + ([] : List Keyword).length + (if ([] : List Keyword).isEmpty then 0 else 1) < 30)) = true := by rfl)
    (hline : (apos.endLine == cpos.line) = true := by rfl) (hs : starEach (e :: []) X.env = (false, eval e X.env) :: starEach [] X.env := by rfl) (hplain : (backTo cpos (starEach [] X.env)).any (·.1) = false := by rfl) :
    PX X W (.Call (.Attribute o "join" apos) [e] [] cpos) (xBM "str" mJoin fo fa) := px_bm PySem.F.plainAttrs_str PySem.F.slot_str_join PySem.F.type_str_join mt_join mJoin_ok ho ha hbase hfew hline hs hplain

/-! ### slices -/
abbrev XO := Sl → S → R (Option Int)
def tXO (K : PySem.W.Frag) (W : WX) (f : XO) : TO := fun σ H Q => ∃ c Γ, c.H = H ∧ Sim K c ∧ SlR K c Γ σ ∧ Wants K c (f Γ c.s) (fun o c' => Q o c'.H) (kX K W σ)
abbrev PXO (X : Cx) (W : WX) (e : Option Expr) (f : XO) : Prop := PO X e (tXO X.K W f)
theorem _root_.L2.PO.weak {X : Cx} {e : Option Expr} {t t' : TO} (h : PO X e t) (w : ∀ σ H Q, t' σ H Q → t σ H Q) : PO X e t' := ⟨fun pins s σ H Q I q => h.run pins s σ H Q I (w _ _ _ q)⟩
def oNo : XO := fun _ s => .ok none s
def oAt (f : XF) : XO := fun Γ s => (f Γ s).bind fun d s => match d with
  | .int i => .ok (some i) s
  | _ => .bad
theorem ko_none : PXO X W none oNo := po_none.weak fun σ H Q ⟨c, Γ, e, s, sl, w⟩ => by
  subst e
  exact w.here s
theorem ko_some {f : XF} (he : PX X W e f) : PXO X W (some e) (oAt f) := (po_some he).weak fun σ H Q ⟨c, Γ, e, s, sl, w⟩ => by
  subst e
  refine tX.here s sl ((w.bind s).monoL fun d c1 e1 s1 w1 v rv => ?_)
  split at w1
  · rw [rep_int] at rv
    exact ⟨_, rv, w1.here s1⟩
  · exact w1.elim
def cutD (xs : List D) (lo hi : Option Int) : List D := (xs.drop (HT.sIx xs.length 0 lo)).take (HT.sIx xs.length xs.length hi - HT.sIx xs.length 0 lo)
theorem RepL.cut {K : PySem.W.Frag} {G : Hp} {m : Mp} {ds : List D} {vs : List V} (h : RepL K G m ds vs) (lo hi : Option Int) : RepL K G m (cutD ds lo hi) (cutV vs lo hi) := by
  unfold cutD cutV
  rw [h.len]
  exact (h.drop _).take _
def oSl (own : Bool) (x : D) (lo hi : Option Int) (s : S) : R D := match x with
  | .str z => if z.length ≤ LIM then .ok (.str (cutS z lo hi)) s else .bad
  | .tup ds => newT (cutD ds lo hi) s
  | x => match lstOf x s with
    | some ds => newL own (cutD ds lo hi) s
    | none => .bad
def xSl (own : Bool) (f : XF) (g h : XO) : XF := fun Γ s => (f Γ s).bind fun x s => (g Γ s).bind fun lo s => (h Γ s).bind fun hi s => oSl own x lo hi s
theorem px_sl (own : Bool) {f : XF} {g h : XO} {lo hi : Option Expr} {p2 : Pos} (he : PX X W e f) (hl : PXO X W lo g) (hu : PXO X W hi h) : PX X W (.Subscript e (.Slice lo hi none p2) pos) (xSl own f g h) :=
  (pe_slice (sl_list.or (sl_tupA.or sl_str)) he hl hu).weak fun σ H Q ⟨c, Γ, e, s, sl, w⟩ => by
    subst e
    refine tX.here s sl ((w.bind s).monoL fun x c1 e1 s1 w1 v rv => ?_)
    have l1 := sl.mono e1
    refine ⟨c1, Γ, rfl, s1, l1, (w1.bind s1).monoL fun lo c2 e2 s2 w2 => ?_⟩
    have l2 := l1.mono e2
    refine ⟨c2, Γ, rfl, s2, l2, (w2.bind s2).monoL fun hi c3 e3 s3 w3 => ?_⟩
    replace rv := (rv.mono e2).mono e3
    unfold oSl at w3
    split at w3
    · rw [rep_str] at rv
      subst rv
      split at w3
      · rename_i hz
        exact .inr (.inr ⟨_, rfl, lim_le hz, w3.here s3 _ (rep_str.mpr rfl)⟩)
      · exact w3.elim
    · rename_i ds
      obtain ⟨p, vs, rfl, h1, r1⟩ := tup_at s3 rv
      refine .inr (.inl ⟨p, vs, rfl, h1, fun hw => ?_, fun _ => new_tup s3 w3 (r1.cut lo hi)⟩)
      have ed : cutD ds lo hi = ds := by
        unfold cutD
        rw [← r1.len, hw.1, hw.2, List.drop_zero, Nat.sub_zero, r1.len]
        exact List.take_length
      rw [ed] at w3
      exact w3.here s3 _ rv
    · split at w3
      · rename_i ds hd
        obtain ⟨p, vs, rfl, h1, r1⟩ := lst_at s3 hd rv
        exact .inl ⟨p, vs, rfl, h1, new_list s3 w3 (r1.cut lo hi)⟩
      · exact w3.elim
end
end L3

set_option Elab.async false
set_option linter.all false
set_option maxRecDepth 100000
namespace L3
open PySem PySem.Spec PyProof.Rows L2

/-! ### comprehensions -/
/-- slots forgotten -/
def wipeD (Γ : Sl) : List Nat → Sl
  | [] => Γ
  | v :: vs => (wipeD Γ vs).set v none
theorem SlR.wipe {K : PySem.W.Frag} {c : C4} {Γ : Sl} {σ : L2.St} (l : SlR K c Γ σ) : ∀ vs : List Nat, SlR K c (wipeD Γ vs) (wipe σ vs)
  | [] => l
  | v :: vs => (SlR.wipe l vs).unset v
theorem wipe_get {σ : L2.St} {i : Nat} : ∀ {vs : List Nat}, i ∉ vs → (wipe σ vs)[i]? = σ[i]?
  | [], _ => rfl
  | v :: vs, h => by
    have h1 : i ≠ v := fun e => h (by rw [e]; exact List.mem_cons_self)
    unfold wipe
    rw [List.getElem?_set_ne (Ne.symm h1), wipe_get fun z => h (List.mem_cons_of_mem _ z)]
theorem wipe_in {σ : L2.St} {i : Nat} : ∀ {vs : List Nat}, i ∈ vs → i < σ.length → (wipe σ vs)[i]? = some none
  | [], h, _ => by cases h
  | v :: vs, h, hl => by
    unfold wipe
    by_cases e : i = v
    · subst e
      rw [List.getElem?_set_self (by rw [wipe_length]; exact hl)]
    · rw [List.getElem?_set_ne (Ne.symm e)]
      rcases List.mem_cons.mp h with z | z
      · exact absurd z e
      · exact wipe_in z hl
/-- a store into the wiped slots, wiped -/
theorem wipe_eq {σ σ' : L2.St} {vs us : List Nat} (hu : ∀ i ∈ us, i ∈ vs) (h : σ'.length = (wipe σ vs).length ∧ ∀ i, i ∉ us → σ'[i]? = (wipe σ vs)[i]?) : wipe σ' vs = wipe σ vs := by
  have hlen : σ'.length = σ.length := by rw [h.1, wipe_length]
  refine List.ext_getElem? fun i => ?_
  by_cases hi : i ∈ vs
  · by_cases hl : i < σ.length
    · rw [wipe_in hi hl, wipe_in hi (by omega)]
    · rw [List.getElem?_eq_none (by rw [wipe_length]; omega), List.getElem?_eq_none (by rw [wipe_length]; omega)]
  · rw [wipe_get hi, h.2 i fun z => hi (hu i z)]
def noX {α : Type} (r : R α) : R α := match r with
  | .exc _ _ => .bad
  | r => r
theorem Wants.noX {K : PySem.W.Frag} {c : C4} {α : Type} {r : R α} {Φ : α → C4 → Prop} {Ψ Ψ' : Exn → C4 → Prop} (h : Wants K c (noX r) Φ Ψ) : Wants K c r Φ Ψ' := by
  cases r with
  | bad => exact h
  | ok d s => exact h
  | exc e s => exact h.elim
/-- one clause walked -/
def compL (ch : S → Bool) (g : D → Sl → S → R Sl) (t : XB) (e : XF) (Γ : Sl) : List D → List D → S → R (List D)
  | [], acc => fun s => if ch s = true then .ok acc s else .bad
  | d :: r, acc => fun s => if ch s = true then (noX (g d Γ s)).bind fun Γ' s => (noX (t Γ' s)).bind fun b s =>
      if b = true then (noX (e Γ' s)).bind fun y s => if acc.length < LIM then compL ch g t e Γ r (acc ++ [y]) s else .bad else compL ch g t e Γ r acc s else .bad
def bYes : XB := fun _ s => .ok true s
def xComp (own : Bool) (vs : List Nat) (it : XI) (g : D → Sl → S → R Sl) (t : XB) (e : XF) : XF := fun Γ s => (it Γ s).bind fun p s => (compL p.chk g t e (wipeD Γ vs) p.ds [] s).bind fun acc s => newL own acc s
abbrev PXTs (X : Cx) (W : WX) (ifs : List Expr) (f : XB) : Prop := PTs X ifs (tXB X.K W f)
theorem kts_nil {X : Cx} {W : WX} : PXTs X W [] bYes := ⟨fun pins s σ H Q I ⟨c, Γ, e, sm, l, w⟩ => by
  subst e
  exact pts_nil.run pins s σ c.H Q I (w.here sm)⟩
theorem kts_one {X : Cx} {W : WX} {c : Expr} {f : XB} (h : PXT X W c f) : PXTs X W [c] f := pts_one h
section
variable {K : PySem.W.Frag} {c c0 : C4}
/-- Wants, told from an earlier state -/
theorem Wants.bindAt {α β : Type} {r : R α} {f : α → S → R β} {Φ : β → C4 → Prop} {Ψ : Exn → C4 → Prop} (s0 : Sim K c0) (e : Ext c0 c) (s : Sim K c) (h : Wants K c0 (r.bind f) Φ Ψ) : Wants K c r (fun a c' => Wants K c0 (f a c'.s) Φ Ψ) Ψ := by
  cases r with
  | bad => exact h
  | exc ex s2 => exact fun c' e' s' q => h c' (e.trans s0 e') s' q
  | ok a s2 =>
    intro c' e' s' q
    subst q
    exact h
/-- an untold thing written -/
def C4.tmp (c : C4) (p : Addr) (h : HO) : C4 := { c with H := upd c.H p h }
theorem tmp_ext {p : Addr} {h : HO} (e : Ext c0 c) (h0 : c0.H p = none) : Ext c0 (c.tmp p h) := by
  refine ⟨e.g, e.m, e.nx, fun a o q no => ?_, fun a q => ?_, e.gn, e.ow⟩
  · show upd c.H p h a = some o
    rw [upd_ne (ne_of_none q h0)]
    exact e.fr a o q no
  · show upd c.H p h a ≠ none
    by_cases ea : a = p
    · rw [ea, upd_same]; simp
    · rw [upd_ne ea]; exact e.th a q
theorem tmp_sim {p : Addr} {h : HO} (s : Sim K c) (hg : c.G p = none) (ho : ¬ Owns c p) : Sim K (c.tmp p h) := by
  refine ⟨fun a o q => ?_, fun a xs q => ?_, s.low, fun n o q => ?_, s.nd, s.inj⟩
  · have ne : a ≠ p := ne_of_none q hg
    exact rd_mono (fun o z => by show upd c.H p h a = some o; rw [upd_ne ne]; exact z) (s.sub a o q)
  · have ne : a ≠ p := ne_of_none q hg
    show upd c.H p h a = some (.tup xs)
    rw [upd_ne ne]; exact s.tup a xs q
  · obtain ⟨a, u, h1, h2, h3, h4⟩ := s.own n o q
    have ne : a ≠ p := fun e => ho ⟨n, o, q, by rw [h1, e]⟩
    exact ⟨a, u, h1, h2, by show upd c.H p h a = some u; rw [upd_ne ne]; exact h3, h4⟩
/-- the list at p as an object of its own -/
theorem tmp_new {own : Bool} {ds : List D} {vs : List V} {p : Addr} {Q : VK} {Ψ : Exn → C4 → Prop} (s0 : Sim K c0) (s : Sim K c) (e : Ext c0 c) (hg : c.G p = none) (ho : ¬ Owns c p) (h0 : c0.H p = none) (hp : c.H p = some (.lst vs)) (r : RepL K c.G c.m ds vs)
    (w : Wants K c0 (newL own ds c.s) (kE K Q) Ψ) : Q (.ref p) c.H := by
  unfold newL at w
  cases own with
  | true =>
    rw [if_pos rfl] at w
    have key : ∀ n o, (n, o) ∈ c.s.A → ∃ a u, c.m n = some a ∧ n ≠ c.s.nx ∧ a ≠ p ∧ c.G a = none ∧ c.H a = some u ∧ RepO K c.G c.m o u := fun n o q => by
      obtain ⟨a, u, h1, h2, h3, h4⟩ := s.own n o q
      exact ⟨a, u, h1, Nat.ne_of_lt (s.low n a h1), fun e => ho ⟨n, o, q, by rw [h1, e]⟩, h2, h3, h4⟩
    let m' : Mp := fun n => if n = c.s.nx then some p else c.m n
    have mm : ∀ n a, c.m n = some a → m' n = some a := fun n a q => by
      show (if n = c.s.nx then some p else c.m n) = some a
      rw [if_neg (Nat.ne_of_lt (s.low n a q))]; exact q
    have mp : m' c.s.nx = some p := by show (if c.s.nx = c.s.nx then some p else _) = some p; rw [if_pos rfl]
    have e2 : Ext c0 ⟨c.G, m', c.s.new (.lst ds), c.H⟩ := by
      refine ⟨e.g, fun n a q => mm _ _ (e.m n a q), Nat.le_trans e.nx (Nat.le_succ _), e.fr, e.th, e.gn, fun n o q => ?_⟩
      rcases List.mem_cons.mp q with z | z
      · cases z; exact .inr ⟨p, mp, h0⟩
      · rcases e.ow n o z with y | ⟨a, ha, hn⟩
        · exact .inl y
        · exact .inr ⟨a, mm _ _ ha, hn⟩
    refine w.to e2 ⟨s.sub, s.tup, fun n a q => ?_, fun n u q => ?_, ?_, fun n u n' u' a q q' hm hm' => ?_⟩ rfl _ ?_
    · have q' : (if n = c.s.nx then some p else c.m n) = some a := q
      show n < c.s.nx + 1
      by_cases z : n = c.s.nx
      · omega
      · rw [if_neg z] at q'
        have := s.low n a q'
        omega
    · rcases List.mem_cons.mp q with z | z
      · cases z
        exact ⟨p, .lst vs, mp, hg, hp, vs, rfl, RepL.mono0 (fun _ _ z => z) mm _ _ r⟩
      · obtain ⟨a, x, h1, h2, h3, h4, h5, h6⟩ := key n u z
        exact ⟨a, x, mm _ _ h1, h4, h5, RepO.mono0 (fun _ _ z => z) mm _ _ h6⟩
    · show (c.s.nx :: c.s.A.map (·.1)).Nodup
      refine List.nodup_cons.mpr ⟨fun z => ?_, s.nd⟩
      obtain ⟨⟨n, u⟩, q, hz⟩ := List.mem_map.mp z
      obtain ⟨a, x, h1, h2, _⟩ := key n u q
      exact h2 hz
    · have hm : m' n = some a := hm
      have hm' : m' n' = some a := hm'
      rcases List.mem_cons.mp q with z | z
      · cases z
        rcases List.mem_cons.mp q' with y | y
        · cases y; rfl
        · obtain ⟨b, x, h1, h2, h3, _⟩ := key n' u' y
          have hb := mm _ _ h1
          rw [hm'] at hb; cases hb
          rw [mp] at hm; cases hm
          exact absurd rfl h3
      · obtain ⟨b, x, h1, h2, h3, _⟩ := key n u z
        have hb := mm _ _ h1
        rw [hm] at hb; cases hb
        rcases List.mem_cons.mp q' with y | y
        · cases y
          rw [mp] at hm'; cases hm'
          exact absurd rfl h3
        · obtain ⟨b', x', g1, g2, g3, _⟩ := key n' u' y
          have hb' := mm _ _ g1
          rw [hm'] at hb'; cases hb'
          exact s.inj n u n' u' a z y h1 g1
    · simp only [Rep]
      exact ⟨p, mp, rfl⟩
  | false =>
    rw [if_neg Bool.false_ne_true] at w
    have gm : ∀ a o, c.G a = some o → upd c.G p (.lst vs) a = some o := ext_of _ hg
    have e2 : Ext c0 ⟨upd c.G p (.lst vs), c.m, c.s, c.H⟩ := by
      refine ⟨fun a o q => gm _ _ (e.g a o q), e.m, e.nx, e.fr, e.th, fun a q g no => ?_, e.ow⟩
      show upd c.G p (.lst vs) a = none
      rw [upd_ne (fun ea => q (by rw [ea]; exact h0))]
      exact e.gn a q g no
    refine w.to e2 ⟨fun a o q => ?_, fun a xs q => ?_, s.low, fun n o q => ?_, s.nd, s.inj⟩ rfl _ ?_
    · have q : upd c.G p (.lst vs) a = some o := q
      by_cases ea : a = p
      · subst ea
        rw [upd_same] at q; cases q
        exact .inl hp
      · rw [upd_ne ea] at q
        exact s.sub a o q
    · have q : upd c.G p (.lst vs) a = some (.tup xs) := q
      by_cases ea : a = p
      · subst ea
        rw [upd_same] at q; cases q
      · rw [upd_ne ea] at q
        exact s.tup a xs q
    · obtain ⟨a, u, h1, h2, h3, h4⟩ := s.own n o q
      have ne : a ≠ p := fun e => ho ⟨n, o, q, by rw [h1, e]⟩
      exact ⟨a, u, h1, by show upd c.G p (.lst vs) a = none; rw [upd_ne ne]; exact h2, h3, RepO.mono0 gm (fun _ _ z => z) _ _ h4⟩
    · simp only [Rep]
      exact ⟨p, vs, rfl, upd_same, RepL.mono0 gm (fun _ _ z => z) _ _ r⟩
end
theorem t_comp {K : PySem.W.Frag} {W : WX} {o : Bool} {us : List Nat} {own : List (Str × Nat)} {fi : XI} {g : D → Sl → S → R Sl} {t : XB} {fe : XF} (hu : ∀ i ∈ us, i ∈ own.map (·.2)) (σ : L2.St) (H : Hp) (Q : VK) (h : tX K W (xComp o (own.map (·.2)) fi g t fe) σ H Q) :
    tLc (tXI K W fi) (tXG K us g) (tXB K WN t) (tX K WN fe) (own.map (·.2)) σ H Q := by
  obtain ⟨c, Γ, e, s, l, w⟩ := h
  subst e
  refine ⟨c, Γ, rfl, s, l, (w.bind s).monoL fun p c1 e1 s1 w1 J hJ D hD => ?_⟩
  have gD := s1.gnone hD
  have oD := s1.notOwn hD
  let St : Nat → Hp → Prop := fun i H => ∃ c2 acc accV, c2.H = H ∧ Ext c1 c2 ∧ Sim K c2 ∧ c2.H D = some (.lst accV) ∧ c2.G D = none ∧ ¬ Owns c2 D ∧ RepL K c2.G c2.m acc accV ∧
    Wants K c1 ((compL p.chk g t fe (wipeD Γ (own.map (·.2))) (p.ds.drop i) acc c2.s).bind fun acc s => newL o acc s) (kE K Q) (kX K W σ)
  have l1 := l.mono e1
  refine ⟨fun i m H => m = p.ds.length - i ∧ i ≤ p.ds.length ∧ St i H, ⟨p.ds.length, by simp, Nat.zero_le _, c1.tmp D (.lst []), [], [], rfl, tmp_ext (Ext.refl _) hD, tmp_sim s1 gD oD, upd_same, gD, oD, RepL.nil, w1⟩, ?_⟩
  rintro i m H ⟨rfl, hi, c2, acc, accV, rfl, e2, s2, hV, gV, oV, rV, w2⟩
  by_cases hlt : i < p.ds.length
  · rw [List.drop_eq_getElem_cons hlt] at w2
    unfold compL at w2
    split at w2
    · rename_i hch
      obtain ⟨h1, _⟩ := hJ c2 e2 s2 hch i
      obtain ⟨hgo, hy⟩ := h1 p.ds[i] (List.getElem?_eq_getElem hlt)
      refine .inr ⟨hgo, St (i + 1), fun H' q => ⟨p.ds.length - (i + 1), by omega, rfl, hlt, q⟩, fun x H' y => ?_⟩
      obtain ⟨c3, e3, s3, es, eh, r3⟩ := hy x H' y
      rw [← eh]
      rw [← es] at w2
      have x3 := e2.trans s1 e3
      have nV : c2.H D ≠ none := by rw [hV]; simp
      have hV3 := e3.fr D _ hV oV
      have gV3 := e3.gn D nV gV oV
      have oV3 := e3.notOwn s2 nV oV
      have rV3 := rV.mono e3
      have l3 := (l1.mono x3).wipe (own.map (·.2))
      have w3 : Wants K c1 ((noX (g p.ds[i] (wipeD Γ (own.map (·.2))) c3.s)).bind fun Γ' s => ((noX (t Γ' s)).bind fun b s => if b = true then (noX (fe Γ' s)).bind fun y s => if acc.length < LIM then compL p.chk g t fe (wipeD Γ (own.map (·.2))) (p.ds.drop (i + 1)) (acc ++ [y]) s else .bad else compL p.chk g t fe (wipeD Γ (own.map (·.2))) (p.ds.drop (i + 1)) acc s).bind fun acc s => newL o acc s) (kE K Q) (kX K W σ) := by
        generalize noX (g p.ds[i] (wipeD Γ (own.map (·.2))) c3.s) = r at w2 ⊢
        cases r <;> exact w2
      refine ⟨c3, wipeD Γ (own.map (·.2)), p.ds[i], rfl, s3, l3, r3, (w3.bindAt s1 x3 s3).noX.monoL fun Γ4 c4 e4 s4 w4 σ4 l4 ag => ?_⟩
      have x4 := x3.trans s1 e4
      have nV3 : c3.H D ≠ none := by rw [hV3]; simp
      have hV4 := e4.fr D _ hV3 oV3
      have gV4 := e4.gn D nV3 gV3 oV3
      have oV4 := e4.notOwn s3 nV3 oV3
      have rV4 := rV3.mono e4
      refine ⟨wipe_eq hu ag, ?_⟩
      have w4' : Wants K c1 ((noX (t Γ4 c4.s)).bind fun b s => (if b = true then (noX (fe Γ4 s)).bind fun y s => if acc.length < LIM then compL p.chk g t fe (wipeD Γ (own.map (·.2))) (p.ds.drop (i + 1)) (acc ++ [y]) s else .bad else compL p.chk g t fe (wipeD Γ (own.map (·.2))) (p.ds.drop (i + 1)) acc s).bind fun acc s => newL o acc s) (kE K Q) (kX K W σ) := by
        generalize noX (t Γ4 c4.s) = r at w4 ⊢
        cases r <;> exact w4
      refine tXB.here s4 l4 ((w4'.bindAt s1 x4 s4).noX.monoL fun b c5 e5 s5 w5 => ?_)
      have x5 := x4.trans s1 e5
      have nV4 : c4.H D ≠ none := by rw [hV4]; simp
      have hV5 := e5.fr D _ hV4 oV4
      have gV5 := e5.gn D nV4 gV4 oV4
      have oV5 := e5.notOwn s4 nV4 oV4
      have rV5 := rV4.mono e5
      show if b = true then _ else _
      cases b with
      | false =>
        rw [if_neg Bool.false_ne_true] at w5 ⊢
        exact ⟨c5, acc, accV, rfl, x5, s5, hV5, gV5, oV5, rV5, w5⟩
      | true =>
        rw [if_pos rfl] at w5 ⊢
        have w5' : Wants K c1 ((noX (fe Γ4 c5.s)).bind fun y s => (if acc.length < LIM then compL p.chk g t fe (wipeD Γ (own.map (·.2))) (p.ds.drop (i + 1)) (acc ++ [y]) s else .bad).bind fun acc s => newL o acc s) (kE K Q) (kX K W σ) := by
          generalize noX (fe Γ4 c5.s) = r at w5 ⊢
          cases r <;> exact w5
        refine tX.here s5 (l4.mono e5) ((w5'.bindAt s1 x5 s5).noX.monoL fun d c6 e6 s6 w6 v rv => ?_)
        have x6 := x5.trans s1 e6
        have nV5 : c5.H D ≠ none := by rw [hV5]; simp
        have hV6 := e6.fr D _ hV5 oV5
        have gV6 := e6.gn D nV5 gV5 oV5
        have oV6 := e6.notOwn s5 nV5 oV5
        have rV6 := rV5.mono e6
        split at w6
        · rename_i hl
          exact ⟨accV, hV6, lim_lt (by rw [rV6.len]; exact hl), c6.tmp D (.lst (accV ++ [v])), acc ++ [d], accV ++ [v], rfl, tmp_ext x6 hD, tmp_sim s6 gV6 oV6, upd_same, gV6, oV6, rV6.app (RepL.one rv), w6⟩
        · exact w6.elim
    · exact w2.elim
  · have ei : i = p.ds.length := by omega
    rw [ei, List.drop_length] at w2
    unfold compL at w2
    split at w2
    · rename_i hch
      exact .inl ⟨(hJ c2 e2 s2 hch i).2 (by omega), tmp_new s1 s2 e2 gV oV hD hV rV w2⟩
    · exact w2.elim
theorem px_comp {X : Cx} {W : WX} (o : Bool) {us : List Nat} {elt tg iter : Expr} {ifs : List Expr} {scope : Scope} {own : List (Str × Nat)} {pos : Pos} {fi : XI} {g : D → Sl → S → R Sl} {t : XB} {fe : XF} (hc : X.calm = true) (hN : X.N.Nodup) (hu : ∀ i ∈ us, i ∈ own.map (·.2)) (hi : PXI X W tg iter fi) (ok : BlkOk X.N X.env.scope scope own)
    (hg : ∀ (s : Shared) (H : Hp) (C : Addr) (cl : List (Str × Addr)) (fp : List Addr), PXG (X.blk s H scope (compEnvC scope cl C X.env) fp) us tg g) (ht : ∀ (s : Shared) (H : Hp) (C : Addr) (cl : List (Str × Addr)) (fp : List Addr), PXTs (X.blk s H scope (compEnvC scope cl C X.env) fp) WN ifs t)
    (he : ∀ (s : Shared) (H : Hp) (C : Addr) (cl : List (Str × Addr)) (fp : List Addr), PX (X.blk s H scope (compEnvC scope cl C X.env) fp) WN elt fe) (hs : ∀ x, foldedSetIterable iter X.env x = pure x := by intro _; rfl) :
    PX X W (.ListComp elt [⟨tg, iter, ifs, 0⟩] scope pos) (xComp o (own.map (·.2)) fi g t fe) := (pe_lc (wi := tXI X.K W fi) (g := tXG X.K us g) (tt := tXB X.K WN t) (te := tX X.K WN fe) hc hN hi ok hg ht he hs).weak fun σ H Q h => t_comp hu σ H Q h
theorem ks_setLc (i : Nat) {y : Str} {py spos : Pos} {X : Cx} {W : WX} (o : Bool) {us : List Nat} {elt tg iter : Expr} {ifs : List Expr} {scope : Scope} {own : List (Str × Nat)} {pos : Pos} {fi : XI} {g : D → Sl → S → R Sl} {t : XB} {fe : XF} (hc : X.calm = true) (hN : X.N.Nodup) (hy : X.N[i]? = some y) (hyl : X.env.scope.names.lookup y = some .local) (hsw : swapsWith (.ListComp elt [⟨tg, iter, ifs, 0⟩] scope pos) (some (.Name y py)) spos.line X.env = pure true) (hu : ∀ i ∈ us, i ∈ own.map (·.2)) (hi : PXI X W tg iter fi) (ok : BlkOk X.N X.env.scope scope own)
    (hg : ∀ (s : Shared) (H : Hp) (C : Addr) (cl : List (Str × Addr)) (fp : List Addr), PXG (X.blk s H scope (compEnvC scope cl C X.env) fp) us tg g) (ht : ∀ (s : Shared) (H : Hp) (C : Addr) (cl : List (Str × Addr)) (fp : List Addr), PXTs (X.blk s H scope (compEnvC scope cl C X.env) fp) WN ifs t)
    (he : ∀ (s : Shared) (H : Hp) (C : Addr) (cl : List (Str × Addr)) (fp : List Addr), PX (X.blk s H scope (compEnvC scope cl C X.env) fp) WN elt fe) (hs : ∀ x, foldedSetIterable iter X.env x = pure x := by intro _; rfl) :
    PXS X W (.Assign [.Name y py] (.ListComp elt [⟨tg, iter, ifs, 0⟩] scope pos) spos) (sSet i (xComp o (own.map (·.2)) fi g t fe)) :=
  ps_of (ps_setLc (wi := tXI X.K W fi) (g := tXG X.K us g) (tt := tXB X.K WN t) (te := tX X.K WN fe) hc hN hy hyl hsw hi ok hg ht he hs) fun c Γ σ D s l w =>
    t_comp hu σ c.H _ (tX.here s l ((w.lift s l).monoL fun d c1 e1 s1 w1 v rv => w1.here s1 _ ((l.mono e1).set rv i)))
end L3

set_option Elab.async false
set_option linter.all false
set_option maxRecDepth 100000
namespace L3
open PySem PySem.Spec PyProof.Rows L2

/-! ### a op b op' c -/
def xChain (o o' : D → D → S → R D) (f g h : XF) : XF := fun Γ s => (f Γ s).bind fun x s => (g Γ s).bind fun y s => (o x y s).bind fun r s => match r with
  | .bl true => (h Γ s).bind fun z s => o' y z s
  | .bl false => .ok (.bl false) s
  | _ => .bad
section
variable {X : Cx} {W : WX} {a b e o c i : Expr} {pos : Pos} {f g h : XF}
theorem t_chain {K : PySem.W.Frag} {r r' : R2} {o o' : D → D → S → R D} (ho : OpS K r o) (ho' : OpS K r' o') {σ : L2.St} {H : Hp} {Q : VK} (q : tX K W (xChain o o' f g h) σ H Q) : tChain r r' (tX K W f) (tX K W g) (tX K W h) σ H Q := by
  obtain ⟨c, Γ, rfl, s, l, w⟩ := q
  refine tX.here s l ((w.bind s).monoL fun x c1 e1 s1 w1 v rv => ?_)
  have l1 := l.mono e1
  refine tX.here s1 l1 ((w1.bind s1).monoL fun y c2 e2 s2 w2 u ru => ?_)
  have l2 := l1.mono e2
  refine ho c2 x y v u _ _ s2 (rv.mono e2) ru ((w2.bind s2).monoL fun z c3 e3 s3 w3 zv rz => ?_)
  split at w3
  · rw [rep_bl] at rz
    refine ⟨true, rz, ?_⟩
    rw [if_pos rfl]
    refine tX.here s3 (l2.mono e3) ((w3.bind s3).monoL fun t c4 e4 s4 w4 tv rt => ?_)
    exact ho' c4 y t u tv Q _ s4 ((ru.mono e3).mono e4) rt w4
  · rw [rep_bl] at rz
    refine ⟨false, rz, ?_⟩
    rw [if_neg Bool.false_ne_true]
    exact w3.here s3 _ (rep_bl.mpr rfl)
  · exact w3.elim
theorem px_chain {op op' : CmpOp} {r r' : R2} {o o' : D → D → S → R D} (hr : OpR X (compareOp op) r) (ho : OpS X.K r o) (hr' : OpR X (compareOp op') r') (ho' : OpS X.K r' o') (ha : PX X W a f) (hb : PX X W b g) (hc : PX X W c h)
    (hm : lastMarks [op, op'] [b, c] = false := by with_unfolding_all rfl) : PX X W (.Compare a [op, op'] [b, c] pos) (xChain o o' f g h) := (pe_chain hr hr' ha hb hc hm).weak fun _ _ _ q => t_chain ho ho' q
theorem pt_chain' {op op' : CmpOp} {r r' : R2} {o o' : D → D → S → R D} (hr : OpR X (compareOp op) r) (ho : OpS X.K r o) (hr' : OpR X (compareOp op') r') (ho' : OpS X.K r' o') (ha : PX X W a f) (hb : PX X W b g) (hc : PX X W c h)
    (hm : lastMarks [op, op'] [b, c] = false := by with_unfolding_all rfl) : PXT X W (.Compare a [op, op'] [b, c] pos) (bOf (xChain o o' f g h)) := (pt_chain hr hr' ha hb hc hm).weak fun σ H Q ⟨c, Γ, e, s, l, w⟩ => by
  subst e
  refine t_chain ho ho' (tX.here s l ((w.bind s).monoL fun x c1 e1 s1 w1 v rv => ?_))
  split at w1
  · rw [rep_bl] at rv
    exact ⟨_, rv, w1.here s1⟩
  · exact w1.elim

/-! ### for c in a text -/
def signs (z : Str) : List D := z.cps.toList.map fun c => .str ⟨#[c]⟩
theorem walks_str {K : PySem.W.Frag} {z : Str} {c : C4} : Walks K (Its z) ⟨signs z, yes⟩ c := by
  intro c' e s' hc i
  refine ⟨fun d hd => ?_, fun hl => (by simpa [signs] using hl : z.cps.size ≤ i)⟩
  have hd' : (signs z)[i]? = some d := hd
  unfold signs at hd'
  rw [List.getElem?_map, Array.getElem?_toList] at hd'
  cases q : z.cps[i]? with
  | none => rw [q] at hd'; cases hd'
  | some k =>
    rw [q] at hd'
    have ed : D.str ⟨#[k]⟩ = d := by simpa using hd'
    subst ed
    refine ⟨(Array.getElem?_eq_some_iff.mp q).1, fun x H' y => ?_⟩
    obtain ⟨rfl, c2, h2, rfl⟩ := y
    have e2 : k = c2 := Option.some.inj (q.symm.trans h2)
    subst e2
    exact ⟨c', Ext.refl _, s', rfl, rfl, rep_str.mpr rfl⟩
def iStrS (f : XF) : XI := fun Γ s => (f Γ s).bind fun d s => match d with
  | .str z => .ok ⟨signs z, yes⟩ s
  | _ => .bad
theorem ki_str {tg l : Expr} (hl : PX X W l f) : PXI X W tg l (iStrS f) := (pi_str hl).weak fun σ H R ⟨c, Γ, e, s, sl, w⟩ => by
  subst e
  refine tX.here s sl ((w.bind s).monoL fun d c1 e1 s1 w1 v rv => ?_)
  split at w1
  · rw [rep_str] at rv
    exact ⟨_, rv, w1.here s1 _ walks_str⟩
  · exact w1.elim

/-! ### x in a tuple of texts that the module holds -/
def KTup (K : PySem.W.Frag) (a : Addr) (zs : List Str) : Prop := ∃ (o : Obj) (its : Array Value) (n : Nat), K.lookup a = some o ∧ o.cls = .type "tuple" ∧ o.data = .seq its n ∧ its.size ≤ sizeLine ∧ Vals (zs.map .str) its.toList
theorem dp_strs {K : PySem.W.Frag} {H : Hp} : ∀ zs : List Str, DpAll K H (zs.map .str) (zs.map .str)
  | [] => .nil
  | z :: r => .cons (.str z) (dp_strs r)
def xInC (neg : Bool) (zs : List Str) (f : XF) : XF := fun Γ s => (f Γ s).bind fun d s => match d with
  | .str z => if PyData.strOk z = true then .ok (.bl (if neg = true then !zs.contains z else zs.contains z)) s else .bad
  | _ => .bad
theorem any_strs {z : Str} : ∀ zs : List Str, ((zs.map PyData.str).any fun y => PyData.eqv y (.str z)) = zs.contains z
  | [] => rfl
  | y :: r => by
    rw [List.map_cons, List.any_cons, any_strs r, List.contains_cons]
    congr 1
    show (y == z) = (z == y)
    exact Bool.eq_iff_iff.mpr ⟨fun h => by simp at h ⊢; exact h.symm, fun h => by simp at h ⊢; exact h.symm⟩
theorem t_inC {neg : Bool} {zs : List Str} {q : Addr} {σ : L2.St} {H : Hp} {Q : VK} (hq : KTup X.K q zs) (hs : (PyData.tuple (zs.map .str)).canLay0 = true) (hd : (PyData.tuple (zs.map .str)).depth ≤ 2) (h : tX X.K W (xInC neg zs f) σ H Q) :
    tOp (rInT X.K neg) (tX X.K W f) (tC (.ref q)) σ H Q := by
  obtain ⟨c, Γ, rfl, s, sl, w⟩ := h
  refine tX.here s sl ((w.bind s).monoL fun d c1 e1 s1 w1 v rv => ?_)
  split at w1
  · rename_i z
    split at w1
    · rename_i hz
      rw [rep_str] at rv
      subst rv
      refine ⟨.str z, zs.map .str, .str z, .tup (.inr hq) (dp_strs zs), shaped_of (n := 1) (by unfold PyData.canLay0; exact hz) (by unfold PyData.depth; omega) (by decide), shaped_of hs hd (by decide), ?_⟩
      rw [any_strs]
      exact w1.here s1 _ (rep_bl.mpr rfl)
    · exact w1.elim
  · exact w1.elim
theorem px_inC {x : Str} {q : Addr} {p : Pos} (zs : List Str) (hu : X.A.units + 65 < cLine) (ha : PX X W a f) (hg : Gl X x) (hm : X.mg x = some (.ref q)) (hq : KTup X.K q zs) (hs : (PyData.tuple (zs.map .str)).canLay0 = true := by decide +kernel) (hd : (PyData.tuple (zs.map .str)).depth ≤ 2 := by decide +kernel)
    (hdb : (x == ("__debug__" : Str)) = false := by decide) : PX X W (.Compare a [.In] [.Name x p] pos) (xInC false zs f) :=
  (pe_cmpR (op_inT hu) ha (pe_glob (v := .ref q) hg hm rfl hdb) (by with_unfolding_all rfl)).weak fun _ _ _ h => t_inC hq hs hd h
theorem pt_inC {x : Str} {q : Addr} {p : Pos} (zs : List Str) (hu : X.A.units + 65 < cLine) (ha : PX X W a f) (hg : Gl X x) (hm : X.mg x = some (.ref q)) (hq : KTup X.K q zs) (hs : (PyData.tuple (zs.map .str)).canLay0 = true := by decide +kernel) (hd : (PyData.tuple (zs.map .str)).depth ≤ 2 := by decide +kernel)
    (hdb : (x == ("__debug__" : Str)) = false := by decide) : PXT X W (.Compare a [.In] [.Name x p] pos) (bOf (xInC false zs f)) :=
  (pt_cmpR (op_inT hu) ha (pe_glob (v := .ref q) hg hm rfl hdb) (by with_unfolding_all rfl)).weak fun σ H Q ⟨c, Γ, e, s, l, w⟩ => by
    subst e
    refine t_inC hq hs hd (tX.here s l ((w.bind s).monoL fun x c1 e1 s1 w1 v rv => ?_))
    split at w1
    · rw [rep_bl] at rv
      exact ⟨_, rv, w1.here s1⟩
    · exact w1.elim
end

/-! ### match -/
/-- what a pattern finds: nothing, or what its names get -/
abbrev XP := D → S → R (Option (List D))
abbrev tP := V → L2.St → Hp → (Option (List V) → Hp → Prop) → Prop
structure PP (X : Cx) (p : Pattern) (xs : List Str) (t : tP) : Prop where
  run : ∀ (pins : List (Addr × Obj)) (s : Shared) (σ : L2.St) (H : Hp) (v : V) (u : Value) (Q : Option (List V) → Hp → Prop), L2.Inv X pins σ H s → RelV v u → t v σ H Q →
    wpAny (model X.prog X.w) X.A (matchPattern p X.env u) (fun r s' => ∃ H', L2.Inv X pins σ H' s' ∧ match r with
      | none => Q none H'
      | some bs => ∃ vs, bs.map (·.1) = xs ∧ Vals vs (bs.map (·.2)) ∧ Q (some vs) H') X.xe s
structure PPs (X : Cx) (ps : List Pattern) (xs : List Str) (t : List V → L2.St → Hp → (Option (List V) → Hp → Prop) → Prop) : Prop where
  run : ∀ (pins : List (Addr × Obj)) (s : Shared) (σ : L2.St) (H : Hp) (vs : List V) (us : List Value) (Q : Option (List V) → Hp → Prop), L2.Inv X pins σ H s → Vals vs us → t vs σ H Q →
    wpAny (model X.prog X.w) X.A (matchEach ps X.env us) (fun r s' => ∃ H', L2.Inv X pins σ H' s' ∧ match r with
      | none => Q none H'
      | some bs => ∃ vs, bs.map (·.1) = xs ∧ Vals vs (bs.map (·.2)) ∧ Q (some vs) H') X.xe s
structure PM (X : Cx) (cs : List MatchCase) (t : V → TS) : Prop where
  run : ∀ (pins : List (Addr × Obj)) (s : Shared) (σ : L2.St) (H : Hp) (v : V) (u : Value) (D : Ends) (first : Bool), L2.Inv X pins σ H s → RelV v u → t v D σ H → wpAny (model X.prog X.w) X.A (matchCases cs X.env u first) (L2.SP X pins D) X.xe s

def tXP (K : PySem.W.Frag) (f : XP) : tP := fun v σ H Q => ∃ c d, c.H = H ∧ Sim K c ∧ Rep K c.G c.m d v ∧ Wants K c (f d c.s) (fun o c' => match o with
  | none => Q none c'.H
  | some ds => ∀ vs, RepL K c'.G c'.m ds vs → Q (some vs) c'.H) kF
def tXPs (K : PySem.W.Frag) (f : List D → S → R (Option (List D))) : List V → L2.St → Hp → (Option (List V) → Hp → Prop) → Prop := fun v σ H Q => ∃ c d, c.H = H ∧ Sim K c ∧ RepL K c.G c.m d v ∧ Wants K c (f d c.s) (fun o c' => match o with
  | none => Q none c'.H
  | some ds => ∀ vs, RepL K c'.G c'.m ds vs → Q (some vs) c'.H) kF
abbrev PXP (X : Cx) (p : Pattern) (xs : List Str) (f : XP) : Prop := PP X p xs (tXP X.K f)
abbrev PXPs (X : Cx) (ps : List Pattern) (xs : List Str) (f : List D → S → R (Option (List D))) : Prop := PPs X ps xs (tXPs X.K f)
/-- _ -/
def pAny : XP := fun _ s => .ok (some []) s
def pName : XP := fun d s => .ok (some [d]) s
/-- a written text -/
def pStr (z : Str) : XP := fun d s => match d with
  | .str y => .ok (if y = z then some [] else none) s
  | _ => .bad
def pInt (z : Int) : XP := fun d s => match d with
  | .int y => .ok (if y = z then some [] else none) s
  | _ => .bad
def psNil : List D → S → R (Option (List D)) := fun _ s => .ok (some []) s
def psCons (f : XP) (g : List D → S → R (Option (List D))) : List D → S → R (Option (List D)) := fun ds s => match ds with
  | d :: r => (f d s).bind fun o s => match o with
    | none => .ok none s
    | some xs => (g r s).bind fun o s => match o with
      | none => .ok none s
      | some ys => .ok (some (xs ++ ys)) s
  | [] => .bad
def pSeq (n : Nat) (f : List D → S → R (Option (List D))) : XP := fun d s => match lstOf d s with
  | some ds => if ds.length ≤ LIM then (if ds.length = n then f ds s else .ok none s) else .bad
  | none => .bad
section
variable {X : Cx} {W : WX} {pos : Pos}
theorem kp_any : PXP X (.MatchAs none none pos) [] pAny := ⟨fun pins s σ H v u Q I r ⟨c, d, e, sm, rd, w⟩ => by
  subst e
  exact wpAny_matchPattern_Capture ⟨_, I, [], rfl, .nil, w.here sm _ RepL.nil⟩⟩
theorem kp_name {x : Str} : PXP X (.MatchAs none (some x) pos) [x] pName := ⟨fun pins s σ H v u Q I r ⟨c, d, e, sm, rd, w⟩ => by
  subst e
  exact wpAny_matchPattern_Capture ⟨_, I, [v], rfl, .cons r .nil, w.here sm _ (RepL.one rd)⟩⟩
theorem kp_str {z : Str} {j pos'} : PXP X (.MatchValue (.Constant (.str z) j pos') pos) [] (pStr z) := ⟨fun pins s σ H v u Q I r ⟨c, d, e, sm, rd, w⟩ => by
  subst e
  refine wpAny_matchPattern_Value (thn ((pe_str (X := X) (x := z) (pos := pos')).run pins s σ c.H (fun y H' => y = .str z ∧ H' = c.H) I ⟨rfl, rfl⟩) fun y s1 ⟨y', H1, I1, ry, e1, e2⟩ => ?_)
  subst e1; subst e2
  unfold pStr at w
  split at w
  · rename_i y0
    rw [rep_str] at rd
    subst rd
    have hq : rEq (.str y0) (.str z) c.H (fun b H' => b = .bl (decide (y0 = z)) ∧ H' = c.H) := ⟨rfl, by rw [dec_strV], rfl⟩
    refine thn (op_eq (X := X) pins s1 σ c.H _ _ u y _ I1 r ry hq) fun b s2 ⟨b', H2, I2, rb, e3, e4⟩ => ?_
    subst e3; subst e4
    cases rb
    refine wpAny_truthy_bool ?_
    by_cases ez : y0 = z
    · rw [if_pos ez] at w
      rw [decide_eq_true ez, if_pos rfl]
      exact ⟨_, I2, [], rfl, .nil, w.here sm _ RepL.nil⟩
    · rw [if_neg ez] at w
      rw [decide_eq_false ez, if_neg Bool.false_ne_true]
      exact ⟨_, I2, w.here sm⟩
  · exact w.elim⟩
theorem kp_int {z : Int} {j pos'} : PXP X (.MatchValue (.Constant (.int z) j pos') pos) [] (pInt z) := ⟨fun pins s σ H v u Q I r ⟨c, d, e, sm, rd, w⟩ => by
  subst e
  refine wpAny_matchPattern_Value (thn ((pe_int (X := X) (i := z) (pos := pos')).run pins s σ c.H (fun y H' => y = .int z ∧ H' = c.H) I ⟨rfl, rfl⟩) fun y s1 ⟨y', H1, I1, ry, e1, e2⟩ => ?_)
  subst e1; subst e2
  unfold pInt at w
  split at w
  · rename_i y0
    rw [rep_int] at rd
    subst rd
    have hq : rEq (.int y0) (.int z) c.H (fun b H' => b = .bl (decide (y0 = z)) ∧ H' = c.H) := ⟨rfl, by
      congr 1
      by_cases ez : y0 = z
      · subst ez; simp
      · rw [decide_eq_false ez, decide_eq_false fun q => ez (V.int.inj q)], rfl⟩
    refine thn (op_eq (X := X) pins s1 σ c.H _ _ u y _ I1 r ry hq) fun b s2 ⟨b', H2, I2, rb, e3, e4⟩ => ?_
    subst e3; subst e4
    cases rb
    refine wpAny_truthy_bool ?_
    by_cases ez : y0 = z
    · rw [if_pos ez] at w
      rw [decide_eq_true ez, if_pos rfl]
      exact ⟨_, I2, [], rfl, .nil, w.here sm _ RepL.nil⟩
    · rw [if_neg ez] at w
      rw [decide_eq_false ez, if_neg Bool.false_ne_true]
      exact ⟨_, I2, w.here sm⟩
  · exact w.elim⟩
theorem kps_nil : PXPs X [] [] psNil := ⟨fun pins s σ H vs us Q I r ⟨c, d, e, sm, rd, w⟩ => by
  subst e
  exact wpAny_matchEach_nil ⟨_, I, [], rfl, .nil, w.here sm _ RepL.nil⟩⟩
theorem _root_.L2.Vals.app {xs ys : List V} {us vs : List Value} (h : Vals xs us) (k : Vals ys vs) : Vals (xs ++ ys) (us ++ vs) := h.append k
theorem kps_cons {p : Pattern} {ps : List Pattern} {xs ys : List Str} {f : XP} {g : List D → S → R (Option (List D))} (h1 : PXP X p xs f) (h2 : PXPs X ps ys g) (hp : p.isStar = false := by rfl) : PXPs X (p :: ps) (xs ++ ys) (psCons f g) := ⟨fun pins s σ H vs us Q I r ⟨c, ds, e, sm, rd, w⟩ => by
  subst e
  unfold psCons at w
  cases ds with
  | nil => exact w.elim
  | cons d dr =>
    obtain ⟨v, vr, rfl, r1, r2⟩ := rd.uncons
    cases r with
    | cons ru rus =>
      dsimp only at w
      refine wpAny_matchEach_cons (thn (h1.run pins s σ c.H v _ (fun o H' => ∃ c' o', c'.H = H' ∧ Ext c c' ∧ Sim X.K c' ∧ (match o, o' with
        | none, none => True
        | some vs, some ds => RepL X.K c'.G c'.m ds vs
        | _, _ => False) ∧ Wants X.K c' (match o' with
        | none => .ok none c'.s
        | some xs => (g dr c'.s).bind fun o s => match o with
          | none => .ok none s
          | some ys => .ok (some (xs ++ ys)) s) (fun o c' => match o with
            | none => Q none c'.H
            | some ds => ∀ vs, RepL X.K c'.G c'.m ds vs → Q (some vs) c'.H) kF) I ru ⟨c, d, rfl, sm, r1, ?_⟩) fun o s1 ho => ?_) hp
      · refine (Wants.bind sm w).monoL fun o c1 e1 s1 w1 => ?_
        cases o with
        | none => exact ⟨c1, none, rfl, e1, s1, trivial, w1⟩
        | some ds => exact fun vs rv => ⟨c1, some ds, rfl, e1, s1, rv, w1⟩
      · obtain ⟨H1, I1, ho⟩ := ho
        cases o with
        | none =>
          obtain ⟨c1, o', rfl, e1, s1', m1, w1⟩ := ho
          cases o' with
          | none => exact ⟨_, I1, w1.here s1'⟩
          | some _ => exact m1.elim
        | some bs =>
          obtain ⟨vs, hn, hv, c1, o', rfl, e1, s1', m1, w1⟩ := ho
          cases o' with
          | none => exact m1.elim
          | some ds =>
            dsimp only at w1 m1
            refine thn (h2.run pins s1 σ c1.H vr _ (fun o H' => match o with
              | none => Q none H'
              | some us => Q (some (vs ++ us)) H') I1 rus ⟨c1, dr, rfl, s1', r2.mono e1, ?_⟩) fun o s2 ho => ?_
            · refine (Wants.bind s1' w1).monoL fun o c2 e2 s2 w2 => ?_
              cases o with
              | none => exact w2.here s2
              | some es => exact fun us ru => w2.here s2 _ ((m1.mono e2).app ru)
            · obtain ⟨H2, I2, ho⟩ := ho
              cases o with
              | none => exact ⟨H2, I2, ho⟩
              | some bs2 =>
                obtain ⟨us, hn2, hv2, q⟩ := ho
                exact ⟨H2, I2, vs ++ us, by rw [List.map_append, hn, hn2], by rw [List.map_append]; exact hv.append hv2, q⟩⟩
theorem kp_seq {ps : List Pattern} {xs : List Str} {n : Nat} {g : List D → S → R (Option (List D))} (hc : X.calm = true) (h : PXPs X ps xs g) (hn : ps.length = n := by rfl) (hstar : ps.findIdx? (·.isStar) = none := by rfl)
    (hwild : (ps.all fun p => p.isWildcard || (p.isStar && p.names.isEmpty)) = false := by rfl) : PXP X (.MatchSequence ps pos) xs (pSeq n g) := ⟨fun pins s σ H v u Q I r ⟨c, d, e, sm, rd, w⟩ => by
  subst e
  unfold pSeq at w
  split at w
  · rename_i ds hd
    split at w
    · rename_i hlim
      obtain ⟨p, vs, rfl, hq, rv⟩ := lst_at sm hd rd
      cases r
      obtain ⟨its, rv', pl, hz⟩ := I.list hq
      have hlen : its.toArray.size = ds.length := by rw [List.size_toArray, ← rv'.length, rv.len]
      have hfit : (its.toArray.size : Int) < 2 ^ 63 := by
        rw [hlen]
        have : ds.length ≤ LIM := hlim
        have h2 : LIM < 2 ^ 63 := by decide
        omega
      by_cases hl : ds.length = n
      · rw [if_pos hl] at w
        refine PyProof.Rows.matchSeq_list_hit pl.isList hfit (by rw [hlen, hl, hn]) ?_ hstar hwild
        have hsz : ps.length = its.toArray.size := by rw [hlen, hl, hn]
        rw [hsz]
        refine PySem.W.kun_itemsOf (I.ok.hd hc) (s := { s with toks := s.toks + 1 + 1 }) pl.isList fun h' hx => ?_
        have I0 : L2.Inv X pins σ c.H { s with toks := s.toks + 1 + 1 } := I.tok _
        have I1 : L2.Inv X pins σ c.H { s with heap := h', toks := s.toks + 1 + 1 } := I0.kept (t' := s.toks + 1 + 1) fun b o e => hx b o (Nat.ne_of_lt (Heap.lt_size e)) e
        exact h.run pins _ σ c.H vs _ Q I1 (by simpa using rv') ⟨c, ds, rfl, sm, rv, w⟩
      · rw [if_neg hl] at w
        exact PyProof.Rows.matchSeq_list_miss pl.isList hfit (by rw [hlen, hn]; exact hl) ⟨_, I.tok _, w.here sm⟩ hstar hwild
    · exact w.elim
  · exact w.elim⟩

/-! cases -/
abbrev XM := D → Sl → S → R Fl
def mNil : XM := fun _ Γ s => .ok (.nx Γ) s
def mBad : XM := fun _ _ _ => .bad
def setAll : List Nat → List D → Sl → Option Sl
  | [], [], Γ => some Γ
  | i :: is, d :: ds, Γ => setAll is ds (Γ.set i (some d))
  | _, _, _ => none
/-- one case: pattern, its slots, guard, suite, the cases behind it -/
def mCase (p : XP) (is : List Nat) (t : XB) (b : XS) (rest : XM) : XM := fun d Γ s => (p d s).bind fun o s => match o with
  | none => rest d Γ s
  | some ds => match setAll is ds Γ with
    | some Γ' => liftE (t Γ' s) Γ' fun r s => if r = true then b Γ' s else rest d Γ' s
    | none => .bad
def tXM (K : PySem.W.Frag) (W : WX) (f : XM) : V → TS := fun v D σ H => ∃ c Γ d, c.H = H ∧ Sim K c ∧ SlR K c Γ σ ∧ Rep K c.G c.m d v ∧ Wants K c (f d Γ c.s) (kS K W D) kF
abbrev PXM (X : Cx) (W : WX) (cs : List MatchCase) (f : XM) : Prop := PM X cs (tXM X.K W f)
theorem km_nil : PXM X W [] mNil := ⟨fun pins s σ H v u D first I r ⟨c, Γ, d, e, sm, l, rd, w⟩ => by
  subst e
  exact wpAny_matchCases_nil ⟨σ, _, I, w.here sm σ l⟩⟩
theorem km_never {cs : List MatchCase} : PXM X W cs mBad := ⟨fun pins s σ H v u D first I r ⟨c, Γ, d, e, sm, l, rd, w⟩ => w.elim⟩
/-- names to slots -/
inductive Slots (X : Cx) : List Str → List Nat → Prop where
  | nil : Slots X [] []
  | cons {x : Str} {xs : List Str} (i : Nat) {is : List Nat} (hi : X.N[i]? = some x) (hx : Loc X.env.scope x) (hf : X.fn x = true ∨ X.env.scope.names.lookup x = some .local) (h : Slots X xs is) : Slots X (x :: xs) (i :: is)
theorem bind_all {pins : List (Addr × Obj)} {c : C4} {Q : Unit → Shared → Prop} (hN : X.N.Nodup) : ∀ {xs : List Str} {is : List Nat} (hs : Slots X xs is) {bs : List (Str × Value)} {vs : List V} {ds : List D} {Γ Γ' : Sl} {σ : L2.St} {s : Shared}, L2.Inv X pins σ c.H s → bs.map (·.1) = xs → Vals vs (bs.map (·.2)) →
    RepL X.K c.G c.m ds vs → SlR X.K c Γ σ → setAll is ds Γ = some Γ' → (∀ σ' s', L2.Inv X pins σ' c.H s' → SlR X.K c Γ' σ' → Q () s') → wpAny (model X.prog X.w) X.A (assignInOrder (bs.map fun (n, _) => bindName X.env n) (bs.map (·.2))) Q X.xe s
  | _, _, .nil, bs, vs, ds, Γ, Γ', σ, s, I, hn, hv, rd, l, hset, k => by
    have : bs = [] := by
      cases bs with
      | nil => rfl
      | cons b r => cases hn
    subst this
    cases hv
    cases ds with
    | nil => cases hset; exact wpAny_assignInOrder_none (k σ s I l)
    | cons a b => simp only [RepL] at rd; obtain ⟨_, _, h, _⟩ := rd; cases h
  | _, _, .cons i hi hx hf h, bs, vs, ds, Γ, Γ', σ, s, I, hn, hv, rd, l, hset, k => by
    cases bs with
    | nil => cases hn
    | cons b r =>
      obtain ⟨y, u⟩ := b
      rw [List.map_cons] at hn hv
      injection hn with e1 e2
      dsimp only at e1
      subst e1
      cases hv with
      | cons ru rus =>
        cases ds with
        | nil => cases hset
        | cons d dr =>
          obtain ⟨v', t, he, r1, r2⟩ := rd.uncons
          injection he with e3 e4
          subst e3; subst e4
          rw [List.map_cons, List.map_cons]
          refine wpAny_assignInOrder_more (wpAny_bindName (store_ok I hN hi hx ru (fun s' I' => ?_) hf))
          exact bind_all hN h I' e2 rus r2 (l.set r1 i) hset k
theorem km_case {p : Pattern} {xs : List Str} {is : List Nat} {fp : XP} {cg : Expr} {t : XB} {body : List Stmt} {b : XS} {rest : List MatchCase} {fr : XM} (hN : X.N.Nodup) (hp : PXP X p xs fp) (hs : Slots X xs is) (hg : PXT X W cg t) (hb : PXSs X W body b) (hr : PXM X W rest fr) :
    PXM X W (⟨p, some cg, body⟩ :: rest) (mCase fp is t b fr) := ⟨fun pins s σ H v u D first I r ⟨c, Γ, d, e, sm, l, rd, w⟩ => by
  subst e
  unfold mCase at w
  refine wpAny_matchCases_cons (thn (hp.run pins s σ c.H v u (fun o H' => ∃ c', c'.H = H' ∧ Ext c c' ∧ Sim X.K c' ∧ match o with
    | none => Wants X.K c' (fr d Γ c'.s) (kS X.K W D) kF
    | some vs => ∃ ds, RepL X.K c'.G c'.m ds vs ∧ Wants X.K c' (match setAll is ds Γ with
      | some Γ' => liftE (t Γ' c'.s) Γ' fun r s => if r = true then b Γ' s else fr d Γ' s
      | none => .bad) (kS X.K W D) kF) I r ⟨c, d, rfl, sm, rd, ?_⟩) fun o s1 ho => ?_)
  · refine (Wants.bind sm w).monoL fun o c1 e1 s1 w1 => ?_
    cases o with
    | none => exact ⟨c1, rfl, e1, s1, w1⟩
    | some ds => exact fun vs rv => ⟨c1, rfl, e1, s1, ds, rv, w1⟩
  · obtain ⟨H1, I1, ho⟩ := ho
    cases o with
    | none =>
      obtain ⟨c1, rfl, e1, s1', w1⟩ := ho
      exact hr.run pins s1 σ c1.H v u D false I1 r ⟨c1, Γ, d, rfl, s1', l.mono e1, rd.mono e1, w1⟩
    | some bs =>
      obtain ⟨vs, hn, hv, c1, rfl, e1, s1', ds, rds, w1⟩ := ho
      split at w1
      · rename_i Γ' hset
        refine bind_all hN hs I1 hn hv rds (l.mono e1) hset fun σ' s2 I2 l2 => ?_
        dsimp only
        refine thn (hg.run pins s2 σ' c1.H (fun r H' => ∃ c2, c2.H = H' ∧ Ext c1 c2 ∧ Sim X.K c2 ∧ Wants X.K c2 (if r = true then b Γ' c2.s else fr d Γ' c2.s) (kS X.K W D) kF) I2 (tXB.here s1' l2 ((w1.lift s1' l2).monoL fun r c2 e2 s2 w2 => ⟨c2, rfl, e2, s2, w2⟩))) fun r s3 ⟨H3, I3, c2, e3, e2, sm2, w2⟩ => ?_
        subst e3
        cases r with
        | true => exact hb.run pins s3 σ' c2.H D I3 ⟨c2, Γ', rfl, sm2, l2.mono e2, w2⟩
        | false => exact hr.run pins s3 σ' c2.H v u D false I3 r ⟨c2, Γ', d, rfl, sm2, l2.mono e2, (rd.mono e1).mono e2, w2⟩
      · exact w1.elim⟩
theorem km_case0 {p : Pattern} {xs : List Str} {is : List Nat} {fp : XP} {body : List Stmt} {b : XS} {rest : List MatchCase} {fr : XM} (hN : X.N.Nodup) (hp : PXP X p xs fp) (hs : Slots X xs is) (hb : PXSs X W body b) (hr : PXM X W rest fr) :
    PXM X W (⟨p, none, body⟩ :: rest) (mCase fp is bYes b fr) := ⟨fun pins s σ H v u D first I r ⟨c, Γ, d, e, sm, l, rd, w⟩ => by
  subst e
  unfold mCase at w
  refine wpAny_matchCases_cons (thn (hp.run pins s σ c.H v u (fun o H' => ∃ c', c'.H = H' ∧ Ext c c' ∧ Sim X.K c' ∧ match o with
    | none => Wants X.K c' (fr d Γ c'.s) (kS X.K W D) kF
    | some vs => ∃ ds, RepL X.K c'.G c'.m ds vs ∧ Wants X.K c' (match setAll is ds Γ with
      | some Γ' => liftE (bYes Γ' c'.s) Γ' fun r s => if r = true then b Γ' s else fr d Γ' s
      | none => .bad) (kS X.K W D) kF) I r ⟨c, d, rfl, sm, rd, ?_⟩) fun o s1 ho => ?_)
  · refine (Wants.bind sm w).monoL fun o c1 e1 s1 w1 => ?_
    cases o with
    | none => exact ⟨c1, rfl, e1, s1, w1⟩
    | some ds => exact fun vs rv => ⟨c1, rfl, e1, s1, ds, rv, w1⟩
  · obtain ⟨H1, I1, ho⟩ := ho
    cases o with
    | none =>
      obtain ⟨c1, rfl, e1, s1', w1⟩ := ho
      exact hr.run pins s1 σ c1.H v u D false I1 r ⟨c1, Γ, d, rfl, s1', l.mono e1, rd.mono e1, w1⟩
    | some bs =>
      obtain ⟨vs, hn, hv, c1, rfl, e1, s1', ds, rds, w1⟩ := ho
      split at w1
      · rename_i Γ' hset
        refine bind_all hN hs I1 hn hv rds (l.mono e1) hset fun σ' s2 I2 l2 => ?_
        exact hb.run pins s2 σ' c1.H D I2 ⟨c1, Γ', rfl, s1', l2, w1⟩
      · exact w1.elim⟩
def sMatch (f : XF) (m : XM) : XS := fun Γ s => liftE (f Γ s) Γ fun d s => m d Γ s
theorem ks_match {e : Expr} {cs : List MatchCase} {f : XF} {m : XM} (he : PX X W e f) (hm : PXM X W cs m) : PXS X W (.Match e cs pos) (sMatch f m) := ⟨fun pins s σ H D I ⟨c, Γ, e1, sm, l, w⟩ => by
  subst e1
  refine wpAny_Match (thn (he.run pins s σ c.H (fun v H' => ∃ c' d, c'.H = H' ∧ Ext c c' ∧ Sim X.K c' ∧ Rep X.K c'.G c'.m d v ∧ Wants X.K c' (m d Γ c'.s) (kS X.K W D) kF) I (tX.here sm l ((w.lift sm l).monoL fun d c1 e1 s1 w1 v rv => ⟨c1, d, rfl, e1, s1, rv, w1⟩))) fun u s1 ⟨v, H1, I1, ru, c1, d, e2, e1, s1', rd, w1⟩ => ?_)
  subst e2
  exact hm.run pins s1 σ c1.H v u D true I1 ru ⟨c1, Γ, d, rfl, s1', l.mono e1, rd, w1⟩⟩
end

/-! ### len(o) by an own __len__ -/
section
variable {X : Cx} {W : WX} {k : Nat} {f : Addr} {fd : FuncData} {ps : List Str} {F : List D → S → R D} {p pos : Pos} {e : Expr}
def rLenO (C : Addr) (sp : Sp) : List V → Hp → VK → Prop := fun xs H Q => ∃ a dx fs, xs = [.ref a] ∧ H a = some (.ins C dx fs) ∧ sp [.ref a] H (fun v H' => ∃ n : Int, v = .int n ∧ 0 ≤ n ∧ n < 2 ^ 63 ∧ Q (.int n) H') E0
theorem call_lenO {C : Addr} {sp : Sp} (hs : PySem.W.findIn X.K (.ref C) "__len__" = some (some (.ref f))) (hf : PySem.W.isFn X.K (.ref f) = true) (G : FnOk X.prog X.w X.K X.mg X.base (L2.CX X.prog X.w) k f fd ps sp) (hr : Room (k + 1) X.A) (hb : Binds X.K fd ps []) :
    CallR X (.builtin "len") (rLenO C sp) := by
  intro pins s σ H xs us Q I rs h
  obtain ⟨a, dx, fs, rfl, ea, hsp⟩ := h
  obtain ⟨u, rfl, ru⟩ := vals1 rs
  obtain rfl : u = Value.ref a := ru
  obtain ⟨mA, O, _, _, _, _⟩ := ins_get I.hok ea
  obtain ⟨od, J, _⟩ := O.look
  obtain ⟨m, hF⟩ := I.fr
  refine PySem.W.len_K hF I.ok.mod.kin J hs hf ?_
  have hl : ([Value.ref a] ++ []).length = ps.length := G.len _ _ _ _ hsp
  refine wpAny_call (codeAny_mono (G.run X.A.in1 X.stack s H ⟨[.ref a], []⟩ ([Value.ref a] ++ []) [V.ref a] _ E0 hr.in1 I.env0.in1 (hb _ [.ref a] I.kIn hl) (.cons (show RelV (.ref a) (.ref a) from rfl) .nil) hsp) fun r s' hq => ?_)
  cases r with
  | error er => exact passL (X := X) pins σ H s er s' I hq
  | ok fl =>
    cases fl with
    | ret u =>
      obtain ⟨v, H', I3, rv, n, rfl, h0, h1, q3⟩ := I.after hq
      obtain ⟨t, rfl⟩ := rv
      exact ⟨⟨h0, h1⟩, .int n, H', I3.tok _, ⟨_, rfl⟩, q3⟩
    | next => exact False.elim hq
    | brk => exact False.elim hq
    | cont => exact False.elim hq
def oLenO (C : Addr) (F : List D → S → R D) : List D → S → R D := fun ds s => match ds with
  | [x] => match isIns C x s with
    | some _ => (noexc (F [x] s)).bind fun d s => match d with
      | .int n => if 0 ≤ n ∧ n < 2 ^ 63 then .ok (.int n) s else .bad
      | _ => .bad
    | none => .bad
  | _ => .bad
theorem oLenO_ok {K : PySem.W.Frag} {C : Addr} : CallS K (rLenO C (spF K 1 F)) (oLenO C F) := by
  intro c ds vs Q Ψ s r w
  unfold oLenO at w
  split at w
  · rename_i x
    obtain ⟨v, rfl, rv⟩ := r.one'
    split at w
    · rename_i nf h
      obtain ⟨_, _, a, dx, vs, rfl, h2, h3, h4⟩ := ins_at (n := nf.1) (fs := nf.2) s h rv
      refine ⟨a, dx, vs, rfl, h3, rfl, c, [x], rfl, s, RepL.one rv, ?_⟩
      refine Wants.noexc (Ψ := Ψ) ((Wants.bind s w).monoL fun d c1 e1 s1 w1 u ru => ?_)
      split at w1
      · rename_i n
        split at w1
        · rename_i hn
          rw [rep_int] at ru
          exact ⟨n, ru, hn.1, hn.2, w1.here s1 _ (rep_int.mpr rfl)⟩
        · exact w1.elim
      · exact w1.elim
    · exact w.elim
  · exact w.elim
theorem px_lenO {C : Addr} {es : List Expr} {fa : XA} (hs : PySem.W.findIn X.K (.ref C) "__len__" = some (some (.ref f))) (hf : PySem.W.isFn X.K (.ref f) = true) (G : FnOk X.prog X.w X.K X.mg X.base (L2.CX X.prog X.w) k f fd ps (spF X.K 1 F)) (hr : Room (k + 1) X.A) (hb : Binds X.K fd ps [])
    (hg : Gl X "len") (hm : X.mg "len" = none) (ha : PXA X W (e :: es) fa) (he : starEach (e :: es) X.env = (false, eval e X.env) :: starEach es X.env := by rfl) (hpl : (backTo pos (starEach es X.env)).any (·.1) = false := by rfl) :
    PX X W (.Call (.Name "len" p) (e :: es) [] pos) (xFn (oLenO C F) fa) := px_fnB (call_lenO hs hf G hr hb) oLenO_ok hg hm PySem.boot_len ha (by decide) (by decide) he hpl
end
end L3

set_option Elab.async false
set_option linter.all false
set_option maxRecDepth 100000
namespace L3
open PySem PySem.Spec PyProof.Rows L2

/-! ### where a def stands -/
inductive Lo where
  | g (x : Str) | m (x f : Str) | p (x f : Str)
def pad (K : PySem.W.Frag) (x f : Str) : Addr := match PySem.W.recIn K (He.ma K (He.ga K x) f) "property" with
  | some (.ref g :: _) => g
  | _ => 0
def ad (K : PySem.W.Frag) : Lo → Addr
  | .g x => He.ga K x
  | .m x f => He.ma K (He.ga K x) f
  | .p x f => pad K x f

/-- a def that does what F does -/
def fdOf (K : PySem.W.Frag) (a : Addr) : Option FuncData := match K.lookup a with
  | some ⟨_, _, .func fd, _⟩ => some fd
  | _ => none
structure Good (P : Program) (w : World) (K : PySem.W.Frag) (mg : Str → Option Value) (base : Heap) (k : Nat) (a : Addr) (ps : List Str) (n : Nat) (F : List D → S → R D) : Prop where
  had : ∃ fd, fdOf K a = some fd ∧ PySem.W.keepIn K (.ref a) = true ∧ Binds K fd ps [] ∧ FnOk P w K mg base (L2.CX P w) k a fd ps (spF K n F)
theorem Good.ex {P : Program} {w : World} {K : PySem.W.Frag} {mg : Str → Option Value} {base : Heap} {k : Nat} {a : Addr} {ps : List Str} {n : Nat} {F : List D → S → R D} (G : Good P w K mg base k a ps n F) :
    ∃ fd, PySem.W.keepIn K (.ref a) = true ∧ Binds K fd ps [] ∧ FnOk P w K mg base (L2.CX P w) k a fd ps (spF K n F) := G.had.imp fun _ h => h.2
theorem fdOf_fun {K : PySem.W.Frag} {qual name : Str} {st : Stmt} {a : Addr} {fd : FuncData} (F : Fun K name qual st a fd) : fdOf K a = some fd := by
  obtain ⟨oc, od, kV, doc, pm, an, cdv, ct, osl, e, l, c⟩ := F.ex
  unfold fdOf
  rw [l]
/-- what the top has made of a def -/
structure Def (K : PySem.W.Frag) (qual name : Str) (st : Stmt) (a : Addr) : Prop where
  ex : ∃ fd, Fun K name qual st a fd

section
variable {P : Program} {w : World} {K : PySem.W.Frag} {mg : Str → Option Value} {base : Heap}
theorem good_of {x qual : Str} {st : Stmt} {f : Addr} {N ps : List Str} {k : Nat} {body : XS} (n m : Nat) (F : Def K qual x st f) (S : FnScope N ps (defScope st)) (hn : ps.length = n) (hm : N.length = m)
    (hb : ∀ (kV doc pm : Value) (an : Option Addr) (cdv ct : Value) (us : List Value), us.length = ps.length → bindArgs (PySem.W.fnOf x qual (defArgs st) (defBody st) (defScope st) .none kV doc pm an cdv ct) ⟨us, []⟩ = pure (ps.zip us))
    (hbody : ∀ (cdv : Value) (A : Around) (outer : List Env) (s : Shared) (H : Hp) (E : XK), Room k (A.deeper (envOfC qual (defScope st) s.heap.objs.size f cdv)) →
      PXSs (cxOf (L2.CX P w) P w K mg base N qual (defScope st) f cdv A outer s H E) (wE E) (defBody st) body) : Good P w K mg base (k + 1) f ps n (fnB m body) := by
  obtain ⟨fd, F⟩ := F.ex
  exact ⟨fd, fdOf_fun F, F.kp, F.binds hb, fn_ok n m F S hn hm hbody⟩
theorem Good.to {k n : Nat} {a : Addr} {ps : List Str} {F G : List D → S → R D} (h : Good P w K mg base k a ps n F) (e : ∀ ds s, G ds s ≠ .bad → F ds s = G ds s) : Good P w K mg base k a ps n G := by
  obtain ⟨fd, h0, h1, h2, h3⟩ := h.had
  exact ⟨fd, h0, h1, h2, fn_to h3 e⟩
end

section
variable {X : Cx} {W : WX} {j k : Nat} {f : Addr} {ps : List Str} {n : Nat} {F : List D → S → R D} {x : Str} {p pos apos : Pos} {e o : Expr} {es : List Expr} {fa : XA} {fo : XF}
theorem qx_call (G : Good X.prog X.w X.K X.mg X.base k f ps n F) (hr : Room j X.A) (hk : k ≤ j) (tk : Takes X W) (hg : Gl X x) (hm : X.mg x = some (.ref f))
    (ha : PXA X W (e :: es) fa) (hdb : (x == ("__debug__" : Str)) = false := by decide) (he : starEach (e :: es) X.env = (false, eval e X.env) :: starEach es X.env := by rfl) (hpl : (backTo pos (starEach es X.env)).any (·.1) = false := by rfl) :
    PX X W (.Call (.Name x p) (e :: es) [] pos) (xCall n F fa) := by
  obtain ⟨fd, h1, h2, h3⟩ := G.ex
  exact px_call h3 (hr.mono hk) tk hg hm h1 h2 ha hdb he hpl
theorem qx_meth {C : Addr} {m : Str} {pl : Sem Bool} (G : Good X.prog X.w X.K X.mg X.base k f ps n F) (hr : Room j X.A) (hk : k ≤ j) (tk : Takes X W) (cl : Cls X.K C) (hm : Meth X.K C m f) (ho : PX X W o fo) (ha : PXA X W (e :: es) fa)
    (hst : starEach (e :: es) X.env = (false, eval e X.env) :: starEach es X.env := by rfl) (hpl : (backTo pos (starEach es X.env)).any (·.1) = false := by rfl)
    (ht : eval (.Call (.Attribute o m apos) (e :: es) [] pos) X.env = (do
      let ov ← eval o X.env
      standAt apos.atName
      let (f, first) ← holding [ov] (getMethod ov m pl)
      callWith pos f first (backTo pos (starEach (e :: es) X.env)) (backToKw pos (keywordEach [] X.env))) := by rfl) : PX X W (.Call (.Attribute o m apos) (e :: es) [] pos) (xMeth C m n F fo fa) := by
  obtain ⟨fd, h1, h2, h3⟩ := G.ex
  exact px_meth cl hm h3 (hr.mono hk) tk h2 ho ha hst hpl ht
theorem qx_meth0 {C : Addr} {m : Str} {pl : Sem Bool} (G : Good X.prog X.w X.K X.mg X.base k f ps n F) (hr : Room j X.A) (hk : k ≤ j) (tk : Takes X W) (cl : Cls X.K C) (hm : Meth X.K C m f) (ho : PX X W o fo)
    (ht : eval (.Call (.Attribute o m apos) [] [] pos) X.env = (do
      let ov ← eval o X.env
      standAt apos.atName
      let (f, first) ← holding [ov] (getMethod ov m pl)
      callWith pos f first (backTo pos (starEach [] X.env)) (backToKw pos (keywordEach [] X.env))) := by rfl) : PX X W (.Call (.Attribute o m apos) [] [] pos) (xMeth C m n F fo aNil) := by
  obtain ⟨fd, h1, h2, h3⟩ := G.ex
  exact px_meth0 cl hm h3 (hr.mono hk) tk h2 ho ht
theorem qx_make {C : Addr} (G : Good X.prog X.w X.K X.mg X.base k f ps n F) (hr : Room j X.A) (hk : k + 1 ≤ j) (tk : Takes X W) (hF : NonRet F) (M : Mk X.K C f) (hg : Gl X x) (hm : X.mg x = some (.ref C))
    (ha : PXA X W (e :: es) fa) (hdb : (x == ("__debug__" : Str)) = false := by decide) (he : starEach (e :: es) X.env = (false, eval e X.env) :: starEach es X.env := by rfl) (hpl : (backTo pos (starEach es X.env)).any (·.1) = false := by rfl) :
    PX X W (.Call (.Name x p) (e :: es) [] pos) (xMake C n F fa) := by
  obtain ⟨fd, h1, h2, h3⟩ := G.ex
  exact px_make hF M h3 (hr.mono hk) tk hg hm h2 ha hdb he hpl
theorem qx_make0 {C : Addr} (G : Good X.prog X.w X.K X.mg X.base k f ps n F) (hr : Room j X.A) (hk : k + 1 ≤ j) (tk : Takes X W) (hF : NonRet F) (M : Mk X.K C f) (hg : Gl X x) (hm : X.mg x = some (.ref C)) (hdb : (x == ("__debug__" : Str)) = false := by decide) :
    PX X W (.Call (.Name x p) [] [] pos) (xMake C n F aNil) := by
  obtain ⟨fd, h1, h2, h3⟩ := G.ex
  exact px_make0 hF M h3 (hr.mono hk) tk hg hm h2 hdb
theorem qx_prop {C p' : Addr} {fn : Str} {g : XF} (G : Good X.prog X.w X.K X.mg X.base k f ps 1 F) (hr : Room j X.A) (hk : k + 1 ≤ j) (cl : Cls X.K C) (hp : PropOf X.K C fn p' f) (he : PX X W e g)
    (hab : attributeBase e fn X.env (eval e X.env) = eval e X.env := by rfl) : PX X W (.Attribute e fn pos) (xProp C F g) := by
  obtain ⟨fd, h1, h2, h3⟩ := G.ex
  exact px_prop cl hp h3 (hr.mono hk) h2 he hab
theorem qx_lenO {C : Addr} (G : Good X.prog X.w X.K X.mg X.base k f ps 1 F) (hr : Room j X.A) (hk : k + 1 ≤ j) (hs : Meth X.K C "__len__" f)
    (hg : Gl X "len") (hm : X.mg "len" = none) (ha : PXA X W (e :: es) fa) (he : starEach (e :: es) X.env = (false, eval e X.env) :: starEach es X.env := by rfl) (hpl : (backTo pos (starEach es X.env)).any (·.1) = false := by rfl) :
    PX X W (.Call (.Name "len" p) (e :: es) [] pos) (xFn (oLenO C F) fa) := by
  obtain ⟨fd, h1, h2, h3⟩ := G.ex
  exact px_lenO hs.at_ hs.fn h3 (hr.mono hk) h2 hg hm ha he hpl
theorem qx_globI {i : Int} (hg : Gl X x) (hm : ∃ t, X.mg x = some (.int i t)) (hd : (x == ("__debug__" : Str)) = false := by decide) : PX X W (.Name x pos) (xC (.int i)) := let ⟨_, h⟩ := hm; px_globI hg h hd
theorem qx_globS {z : Str} (hg : Gl X x) (hm : ∃ t, X.mg x = some (.str z t)) (hd : (x == ("__debug__" : Str)) = false := by decide) : PX X W (.Name x pos) (xC (.str z)) := let ⟨_, h⟩ := hm; px_globS hg h hd
theorem hu64 (hr : Room j X.A) : X.A.units + 64 < cLine := by have := hr.units; omega
theorem hu65 (hr : Room (j + 1) X.A) : X.A.units + 65 < cLine := hr.in1.units
theorem hu1 (hr : Room j X.A) : X.A.units + 1 < cLine := by have := hr.units; omega
end

/-! ### the head -/
def fnAt (K : PySem.W.Frag) (a : Addr) : He.FnV := match K.lookup a with
  | some ⟨_, _, .func fd, _⟩ => some (fd.name, fd.qualname, fd.params, fd.body, fd.scope, fd.globals, fd.closure, fd.defaults, fd.builtins)
  | _ => none
def codeAt (K : PySem.W.Frag) (a : Addr) (q : Str) : Bool := PySem.W.keepIn K (.ref a) && match K.lookup a with
  | some ⟨_, _, .func fd, _⟩ => PySem.W.codeIn K fd.code q
  | _ => false
structure FD where
  at_ : Lo
  name : Str
  qual : Str
  st : Stmt
def FD.val (d : FD) : He.FnV := some (d.name, d.qual, defArgs d.st, .stmts (defBody d.st), defScope d.st, mainGlobals, [], .none, builtinsNs)
theorem def_ok {K : PySem.W.Frag} {d : FD} (e : fnAt K (ad K d.at_) = d.val) (c : codeAt K (ad K d.at_) d.qual = true) : Def K d.qual d.name d.st (ad K d.at_) := by
  obtain ⟨kp, c2⟩ := He.ba c
  unfold fnAt at e
  cases q : K.lookup (ad K d.at_) with
  | none =>
    rw [q] at c2
    cases c2
  | some o =>
    obtain ⟨oc, od, dt, osl⟩ := o
    rw [q] at c2 e
    cases dt with
    | func fd =>
      obtain ⟨n1, n2, n3, n4, n5, n6, n7, n8, n9, n10, n11, n12, n13, n14, n15⟩ := fd
      have e2 : (some (n1, n2, n3, n4, n5, n6, n7, n8, n15) : He.FnV) = some (d.name, d.qual, defArgs d.st, .stmts (defBody d.st), defScope d.st, mainGlobals, [], .none, builtinsNs) := e
      simp only [Option.some.injEq, Prod.mk.injEq] at e2
      obtain ⟨h1, h2, h3, h4, h5, h6, h7, h8, h9⟩ := e2
      subst h1 h2 h3 h4 h5 h6 h7 h8 h9
      exact ⟨_, fun_mk q c2 kp⟩
    | _ => cases c2
/-! checks -/
def tupB (K : PySem.W.Frag) (x : Str) (zs : List Str) : Bool := match K.lookup (He.ga K x) with
  | some ⟨.type c, _, .seq its _, _⟩ => decide (c = "tuple") && (decide (its.size ≤ sizeLine) && He.relAll (zs.map V.str) its.toList)
  | _ => false
theorem tupB_ok {K : PySem.W.Frag} {x : Str} {zs : List Str} (h : tupB K x zs = true) : KTup K (He.ga K x) zs := by
  unfold tupB at h
  cases q : K.lookup (He.ga K x) with
  | none =>
    rw [q] at h
    cases h
  | some o =>
    obtain ⟨oc, od, dt, osl⟩ := o
    rw [q] at h
    cases oc with
    | type c =>
      cases dt with
      | seq its n =>
        obtain ⟨h1, h2⟩ := He.ba h
        obtain ⟨h3, h4⟩ := He.ba h2
        exact ⟨_, its, n, q, congrArg Value.type (of_decide_eq_true h1), rfl, of_decide_eq_true h3, He.relAll_ok h4⟩
      | _ => cases h
    | _ => cases dt <;> cases h
def propB (K : PySem.W.Frag) (x f : Str) : Bool := He.eqO (PySem.W.findIn K (.ref (He.ga K x)) f) (some (some (.ref (He.ma K (He.ga K x) f)))) && (He.eqO (PySem.W.specialIn K (.ref (He.ma K (He.ga K x) f)) "__get__") (some (some (.builtin "property.__get__")))
  && (decide (PySem.W.takesIn K (.ref (He.ma K (He.ga K x) f)) = some true) && match PySem.W.recIn K (He.ma K (He.ga K x) f) "property" with
    | some (.ref _ :: _) => true
    | _ => false))
theorem propB_ok {K : PySem.W.Frag} {x f : Str} (h : propB K x f = true) : PropOf K (He.ga K x) f (He.ma K (He.ga K x) f) (pad K x f) := by
  obtain ⟨h1, h2⟩ := He.ba h
  obtain ⟨h3, h4⟩ := He.ba h2
  obtain ⟨h5, h6⟩ := He.ba h4
  refine ⟨He.eqO_ok h1, He.eqO_ok h3, of_decide_eq_true h5, ?_⟩
  unfold pad
  split at h6
  · rename_i g r e
    exact ⟨r, by rw [e]⟩
  · cases h6
/-- facts that the top has to keep -/
inductive Ck where
  | fa (f : He.Fa) | tup (x : Str) (zs : List Str) | prop (x f : Str)
def Ck.ok (K : PySem.W.Frag) : Ck → Bool
  | .fa f => f.ok K
  | .tup x zs => He.eqO (PySem.W.nsIn K mainGlobals x) (some (some (.ref (He.ga K x)))) && tupB K x zs
  | .prop x f => propB K x f
def notL : Obj → Bool
  | ⟨.type c, _, _, _⟩ => decide (c ≠ "list")
  | _ => true
def frN (g : Addr → Option Obj) (as : List Addr) : PySem.W.Frag := (He.frG g as).filter fun q => notL q.2
theorem lookup_mem {a : Addr} {o : Obj} : ∀ {l : List (Addr × Obj)}, l.lookup a = some o → (a, o) ∈ l
  | [], h => by cases h
  | (b, u) :: r, h => by
    have h2 : (match a == b with | true => some u | false => r.lookup a) = some o := h
    cases q : (a == b) with
    | true =>
      rw [q] at h2
      have e : u = o := Option.some.inj h2
      rw [beq_iff_eq.mp q, e]
      exact List.mem_cons_self
    | false =>
      rw [q] at h2
      exact List.mem_cons_of_mem _ (lookup_mem h2)
theorem frG_mem {g : Addr → Option Obj} {as : List Addr} {a : Addr} {o : Obj} (h : (a, o) ∈ He.frG g as) : g a = some o := by
  unfold He.frG at h
  obtain ⟨b, _, e⟩ := List.mem_filterMap.mp h
  cases hb : g b with
  | none =>
    rw [hb] at e
    cases e
  | some u =>
    rw [hb] at e
    have e2 : (b, u) = (a, o) := Option.some.inj e
    injection e2 with e3 e4
    rw [← e3, ← e4]
    exact hb
theorem frN_mem {g : Addr → Option Obj} {as : List Addr} {a : Addr} {o : Obj} (h : (frN g as).lookup a = some o) : g a = some o ∧ notL o = true := by
  obtain ⟨h1, h2⟩ := List.mem_filter.mp (lookup_mem h)
  exact ⟨frG_mem h1, h2⟩
abbrev AlN : Type := Bool × List He.FnV
def obsN (cks : List Ck) (fns : List FD) (K : PySem.W.Frag) : AlN := ((cks.all fun f => f.ok K) && fns.all fun d => codeAt K (ad K d.at_) d.qual, fns.map fun d => fnAt K (ad K d.at_))
def valN (fns : List FD) : AlN := (true, fns.map FD.val)
structure SaysN (cks : List Ck) (fns : List FD) (K : PySem.W.Frag) : Prop where
  eq : obsN cks fns K = valN fns
  nl : ∀ a o, K.lookup a = some o → notL o = true
def obsNG (n : Nat) (cks : List Ck) (fns : List FD) (g : Addr → Option Obj) : AlN := obsN cks fns (frN g (He.asG g n))
def hookN (n : Nat) (cks : List Ck) (fns : List FD) : PySem.W.Hook where
  α := AlN
  obs := fun s => obsNG n cks fns s.heap.get?
  val := fun _ => valN fns
  says := fun _ h => ∃ K : PySem.W.Frag, K.In h ∧ SaysN cks fns K
  of := fun _ _ e => ⟨_, fun _ _ e => (frN_mem e).1, e, fun _ _ e => (frN_mem e).2⟩
  keeps := fun _ _ _ ⟨K, hK, c⟩ k => ⟨K, PySem.W.Frag.In.keeps hK k, c⟩
theorem obsNG_eq {n : Nat} {cks : List Ck} {fns : List FD} {g : Addr → Option Obj} {s : Shared} (h : ∀ a, g a = s.heap.get? a) : obsNG n cks fns g = (hookN n cks fns).obs s := by
  have e : g = s.heap.get? := funext h
  rw [e] <;> rfl
section
variable {cks : List Ck} {fns : List FD} {K : PySem.W.Frag} {h : Heap} {mg : Str → Option Value}
theorem SaysN.fact (c : SaysN cks fns K) (i : Nat) {f : Ck} (h : cks[i]? = some f) : f.ok K = true := by
  have c1 := (He.ba (show ((cks.all fun f => f.ok K) && fns.all fun d => codeAt K (ad K d.at_) d.qual) = true from congrArg (fun z : AlN => z.1) c.eq)).1
  exact List.all_eq_true.mp c1 f (List.mem_of_getElem? h)
theorem SaysN.def_ (c : SaysN cks fns K) (i : Nat) {d : FD} (h : fns[i]? = some d) : Def K d.qual d.name d.st (ad K d.at_) := by
  have c2 := (He.ba (show ((cks.all fun f => f.ok K) && fns.all fun d => codeAt K (ad K d.at_) d.qual) = true from congrArg (fun z : AlN => z.1) c.eq)).2
  have e : fns.map (fun d => fnAt K (ad K d.at_)) = fns.map FD.val := congrArg (fun z : AlN => z.2) c.eq
  have e2 : (fns.map fun d => fnAt K (ad K d.at_))[i]? = (fns.map FD.val)[i]? := by rw [e]
  rw [List.getElem?_map, List.getElem?_map, h] at e2
  exact def_ok (Option.some.inj e2) (List.all_eq_true.mp c2 d (List.mem_of_getElem? h))
theorem cglo (X : K.In h) (G : h.Ns mainGlobals mg) {x : Str} (c : (Ck.fa (.glo x)).ok K = true) : mg x = some (.ref (He.ga K x)) := He.glo_ok X G c
theorem cfree (X : K.In h) (G : h.Ns mainGlobals mg) {x : Str} (c : (Ck.fa (.free x)).ok K = true) : mg x = none := He.free_ok X G c
theorem cint (X : K.In h) (G : h.Ns mainGlobals mg) {x : Str} {i : Int} (c : (Ck.fa (.int x i)).ok K = true) : ∃ t, mg x = some (.int i t) := He.int_ok X G c
theorem cstr (X : K.In h) (G : h.Ns mainGlobals mg) {x z : Str} (c : (Ck.fa (.str x z)).ok K = true) : ∃ t, mg x = some (.str z t) := He.str_ok X G c
theorem ccls {x : Str} (c : (Ck.fa (.cls x)).ok K = true) : Cls K (He.ga K x) := He.cls_ok c
theorem cnoat {x f : Str} (c : (Ck.fa (.noat x f)).ok K = true) : NoAttr K (He.ga K x) f := He.noat_ok c
theorem cmeth {x m : Str} (c : (Ck.fa (.meth x m)).ok K = true) : Meth K (He.ga K x) m (He.ma K (He.ga K x) m) := He.meth_ok c
theorem cmkr {x : Str} (c : (Ck.fa (.mkr x)).ok K = true) : Mk K (He.ga K x) (He.ma K (He.ga K x) "__init__") := He.mkr_ok c
theorem ctup (X : K.In h) (G : h.Ns mainGlobals mg) {x : Str} {zs : List Str} (c : (Ck.tup x zs).ok K = true) : mg x = some (.ref (He.ga K x)) ∧ KTup K (He.ga K x) zs := by
  obtain ⟨c1, c2⟩ := He.ba c
  exact ⟨PySem.W.mg_of X G (He.eqO_ok c1), tupB_ok c2⟩
theorem cprop {x f : Str} (c : (Ck.prop x f).ok K = true) : PropOf K (He.ga K x) f (He.ma K (He.ga K x) f) (pad K x f) := propB_ok c
end

/-! ### the end -/
def s00 : S := ⟨0, []⟩
theorem repl_ints {K : PySem.W.Frag} {G : Hp} {m : Mp} : ∀ ns : List Int, RepL K G m (ns.map .int) (ns.map V.int)
  | [] => RepL.nil
  | n :: r => RepL.cons (rep_int.mpr rfl) (repl_ints r)
theorem law_sp {K : PySem.W.Frag} {F : List D → S → R D} {m : Nat} (nl : ∀ a o, K.lookup a = some o → notL o = true) (h : ∀ ns : List Int, ns.length ≤ m → ∃ s', F [.lst (ns.map .int)] s00 = .ok (.bl true) s') :
    ∀ (H : Hp) (a : Addr) (ns : List Int), ns.length ≤ m → Only H → SqL K H a (ns.map V.int) → spF K 1 F [.ref a] H (fun v _ => v = .bl true) fun _ _ _ => False := by
  intro H a ns hl hO hS
  obtain ⟨s', hF⟩ := h ns hl
  have key : Rd H a (.lst (ns.map V.int)) := by
    rcases hS with h | ⟨o, its, n, h1, h2, _⟩
    · exact h
    · have := nl a o h1
      obtain ⟨oc, od, dt, sl⟩ := o
      dsimp only at h2
      subst h2
      simp [notL] at this
  refine ⟨rfl, ⟨fun b => if b = a then some (.lst (ns.map V.int)) else none, fun _ => none, s00, H⟩, [.lst (ns.map .int)], rfl, ⟨?_, ?_, ?_, ?_, ?_, ?_⟩, ?_, ?_⟩
  · intro b o e
    dsimp only at e
    split at e
    · rename_i eb
      cases e
      rw [eb]
      exact key
    · cases e
  · intro b xs e
    dsimp only at e
    split at e
    · cases e
    · cases e
  · intro n b e
    cases e
  · intro n o e
    cases e
  · exact List.nodup_nil
  · intro n o n' o' b e
    cases e
  · refine RepL.one ?_
    simp only [Rep]
    refine ⟨a, ns.map V.int, rfl, ?_, ?_⟩
    · show (if a = a then _ else _) = _
      rw [if_pos rfl]
    · exact repl_ints ns
  · show Wants K _ (F [.lst (ns.map .int)] s00) _ _
    rw [hF]
    intro c' e s' q v r
    exact rep_bl.mp r
end L3

set_option Elab.async false
set_option linter.all false
set_option maxRecDepth 100000
namespace L3
open PySem PySem.Spec PyProof.Rows L2
abbrev oSub : D → D → S → R D := oI (fun i j => i - j) fun _ _ => true
abbrev oFdiv : D → D → S → R D := oI (fun i j => i / j) gDiv
abbrev oMod : D → D → S → R D := oI (fun i j => i % j) gMod
abbrev oPow : D → D → S → R D := oI (fun i j => i ^ j.toNat) gPow
abbrev oLt : D → D → S → R D := oIB fun i j => decide (i < j)
abbrev oLe : D → D → S → R D := oIB fun i j => decide (i ≤ j)
abbrev oGt : D → D → S → R D := oIB fun i j => decide (j < i)
abbrev oGe : D → D → S → R D := oIB fun i j => decide (j ≤ i)

/-! ### bodies that return nothing -/
def NoRt (b : XS) : Prop := ∀ Γ s r s', b Γ s = .ok r s' → ∀ d, r ≠ .rt d
theorem noRt_nil : NoRt sNil := fun Γ s r s' h d e => by cases h; cases e
theorem noRt_bad : NoRt sBad := fun Γ s r s' h d e => by cases h
theorem bind_ok {α β : Type} {r : R α} {f : α → S → R β} {b : β} {s' : S} (h : r.bind f = .ok b s') : ∃ a s, r = .ok a s ∧ f a s = .ok b s' := by
  cases r with
  | bad => cases h
  | exc e s => cases h
  | ok a s => exact ⟨a, s, rfl, h⟩
theorem lift_ok {α : Type} {r : R α} {Γ : Sl} {k : α → S → R Fl} {b : Fl} {s' : S} (h : liftE r Γ k = .ok b s') : (∃ a s, r = .ok a s ∧ k a s = .ok b s') ∨ ∃ e, b = .ex e Γ := by
  cases r with
  | bad => cases h
  | exc e s => cases h; exact .inr ⟨e, rfl⟩
  | ok a s => exact .inl ⟨a, s, rfl, h⟩
theorem noRt_seq {a b : XS} (ha : NoRt a) (hb : NoRt b) : NoRt (sSeq a b) := fun Γ s r s' h d e => by
  obtain ⟨x, s1, h1, h2⟩ := bind_ok h
  cases x with
  | nx Γ' => exact hb _ _ _ _ h2 d e
  | rt d' => exact ha _ _ _ _ h1 d' rfl
  | bk Γ' => cases h2; cases e
  | ct Γ' => cases h2; cases e
  | ex e' Γ' => cases h2; cases e
theorem noRt_drop {f : XF} : NoRt (sDrop f) := fun Γ s r s' h d e => by
  rcases lift_ok h with ⟨a, s1, h1, h2⟩ | ⟨e', h2⟩
  · cases h2; cases e
  · subst h2; cases e
theorem noRt_set {i : Nat} {f : XF} : NoRt (sSet i f) := fun Γ s r s' h d e => by
  rcases lift_ok h with ⟨a, s1, h1, h2⟩ | ⟨e', h2⟩
  · cases h2; cases e
  · subst h2; cases e
theorem noRt_fld {C : Addr} {f : Str} {a b : XF} : NoRt (sFldSet C f a b) := fun Γ s r s' h d e => by
  rcases lift_ok h with ⟨x, s1, h1, h2⟩ | ⟨e', h2⟩
  · rcases lift_ok h2 with ⟨y, s2, h3, h4⟩ | ⟨e', h4⟩
    · split at h4
      · subst e
        repeat (first | cases h4 | split at h4)
      · cases h4
    · subst h4; cases e
  · subst h2; cases e
theorem nonRet_of {m : Nat} {b : XS} (h : NoRt b) : NonRet (fnB m b) := fun ds s d s' e => by
  unfold fnB endR at e
  split at e
  · rename_i d' s1 h1
    exact absurd rfl (h _ _ _ _ h1 d')
  · cases e; rfl
  · cases e
  · cases e

/-! ### from the law's own def to the row -/
theorem no_exc {P : Program} {w : World} {H : Hp} {s : Shared} {e : Value} {s' : Shared} (h : L2.CX P w [] H s (fun _ _ _ => False) e s') : False := by
  obtain ⟨_, _, _, _, _, _, _, _, _, _, _, _, z⟩ := h
  exact z.elim
theorem walkN {l : PySem.W.OpenLaw} {k : Nat} {q : Program} {loose : List Str} {XP : (Str → Option Value) → Heap → Prop} {YP : World → Heap → Prop} {d : DefRec} {x : Str} (hn : l.most = some 63) (hdf : d.params.defaults = []) (hr : Room k callerA)
    (F : ∀ (w : World) (mg : Str → Option Value) (fa : Addr) (h : Heap), YP w h → h.Ns mainGlobals mg → mg d.name = some (.ref fa) → ∃ (K : PySem.W.Frag) (G : List D → S → R D), K.In h ∧ (∀ a o, K.lookup a = some o → notL o = true) ∧
      (∀ ns : List Int, ns.length ≤ 63 → ∃ s', G [.lst (ns.map .int)] s00 = .ok (.bl true) s') ∧ ∃ fd : FuncData, (∀ (s : Shared) (u : Value), BindsTo s fd ⟨[u], []⟩ [(x, u)]) ∧ ∀ base : Heap, K.In base → base.Ns mainGlobals mg → FnOk l.prog w K mg base (L2.CX l.prog w) k fa fd [x] (spF K 1 G)) :
    PySem.W.WalkO q loose XP YP l.row.toRowW d [] (fun f vs => PySem.call f vs) :=
  Att.attach_call hn hdf fun w s₀ s₁ mg mb fa o pm cd doc a vs ns G Y ho hd hcd hmg hobj hints hlen hg => by
    obtain ⟨K, L, KX, nl, pl, fd, hb, hF⟩ := F w mg fa _ Y G.T.g hmg
    exact law_call KX G.T.g G.T.b G.T.builtins G.T.nolimit hg hobj hints (Nat.le_trans hlen (by decide)) hr hF hb (fun H hO hS => law_sp nl pl H a ns hlen hO hS) fun H e s' z => no_exc z
/-- the law's def binds its script, whatever its bytes are -/
theorem Good.law {P : Program} {w : World} {K : PySem.W.Frag} {mg : Str → Option Value} {k : Nat} {qual name : Str} {st : Stmt} {a : Addr} {x : Str} {n : Nat} {F : List D → S → R D} (d : Def K qual name st a)
    (hb : ∀ (kV doc pm : Value) (an : Option Addr) (cdv ct : Value) (us : List Value), us.length = [x].length → bindArgs (PySem.W.fnOf name qual (defArgs st) (defBody st) (defScope st) .none kV doc pm an cdv ct) ⟨us, []⟩ = pure ([x].zip us))
    (h : ∀ base : Heap, K.In base → base.Ns mainGlobals mg → Good P w K mg base k a [x] n F) : ∃ fd : FuncData, (∀ (s : Shared) (u : Value), BindsTo s fd ⟨[u], []⟩ [(x, u)]) ∧ ∀ base : Heap, K.In base → base.Ns mainGlobals mg → FnOk P w K mg base (L2.CX P w) k a fd [x] (spF K n F) := by
  obtain ⟨fd, F0⟩ := d.ex
  refine ⟨fd, fun s u => ?_, fun base hb1 hb2 => ?_⟩
  · obtain ⟨oc, od, kV, doc, pm, an, cdv, ct, osl, rfl, l, c⟩ := F0.ex
    exact .of_eq (hb kV doc pm an cdv ct [u] rfl)
  · obtain ⟨fd', h0, h1, h2, h3⟩ := (h base hb1 hb2).had
    rw [fdOf_fun F0] at h0
    cases h0
    exact h3
end L3

set_option Elab.async false
set_option linter.all false
set_option maxRecDepth 100000
set_option maxHeartbeats 0
namespace L3
open PySem PySem.Spec PyProof.Rows L2
def topS (i : Nat) : Stmt := PySem.Challenge.pw_splitnames_k46_desks_beside_runs.main.body.getD i (.Pass ⟨0, 0, 0, 0⟩)
/-! _law_urn: script 0, k 1, cell 2 -/
abbrev s__law_urn : Stmt := topS 81
theorem sc__law_urn : FnScope ["script", "k", "cell"] ["script", "k"] (defScope s__law_urn) := ⟨rfl, rfl, rfl, by decide +kernel, rfl, by decide +kernel, by decide +kernel⟩
noncomputable def b__law_urn (K : PySem.W.Frag) : XS :=
    (sSeq (sSet 2 (xC (.int 0)))
    (sSeq (sIf (bOf (xBin oLt (xVar 1) (xFn oLen (aCons (xVar 0) aNil))))
    (sSet 2 (xBin oIx (xVar 0) (xVar 1)))
    sNil)
    (sRet (xLst true (aCons (xFn oMax2 (aCons (xC (.int 0)) (aCons (xBin oSub (xVar 2) (xBin oPow (xC (.int 10)) (xC (.int 18)))) aNil))) (aCons (xBin (oAdd false) (xBin (oAdd false) (xBin (oMul false) (xBin oMod (xVar 2) (xBin (oAdd false) (xBin oPow (xC (.int 10)) (xC (.int 39))) (xC (.int 23)))) (xC (.int 256))) (xBin (oMul false) (xC (.int 41)) (xVar 1))) (xC (.int 13))) (aCons (xC (.int 0)) aNil)))))))
noncomputable def f__law_urn (K : PySem.W.Frag) : List D → S → R D := fnB 3 (b__law_urn K)
/-! Desk.__init__: self 0 -/
abbrev s_Desk___init__ : Stmt := inClass (topS 79) 0
theorem sc_Desk___init__ : FnScope ["self"] ["self"] (defScope s_Desk___init__) := ⟨rfl, rfl, rfl, by decide +kernel, rfl, by decide +kernel, by decide +kernel⟩
noncomputable def b_Desk___init__ (K : PySem.W.Frag) : XS :=
    (sFldSet (He.ga K "Desk") "run_held" (xVar 0) (xC .non))
noncomputable def f_Desk___init__ (K : PySem.W.Frag) : List D → S → R D := fnB 1 (b_Desk___init__ K)
theorem nr_Desk {K : PySem.W.Frag} : NonRet (f_Desk___init__ K) := nonRet_of noRt_fld
/-! number_in: word 0, most_digits 1, sign 2 -/
abbrev s_number_in : Stmt := topS 33
theorem sc_number_in : FnScope ["word", "most_digits", "sign"] ["word", "most_digits"] (defScope s_number_in) := ⟨rfl, rfl, rfl, by decide +kernel, rfl, by decide +kernel, by decide +kernel⟩
noncomputable def b_number_in (K : PySem.W.Frag) : XS :=
    (sSeq (sIf (bOr (bNot (bOf (xChain oLe oLe (xC (.int 1)) (xFn oLen (aCons (xVar 0) aNil)) (xVar 1)))) (bNot (bOf (xFn oAllC (aCons (xComp false [2] (iStrS (xVar 0)) (gSet 2) bYes (xBin (oIn false) (xVar 2) (xC (.str "0123456789")))) aNil)))))
    (sRet (xC .non))
    sNil)
    (sRet (xIf (bOr (bOf (xBin (oEq false) (xVar 0) (xC (.str "0")))) (bOf (xBin (oEq true) (xBin oIx (xVar 0) (xC (.int 0))) (xC (.str "0"))))) (xFn oIntC (aCons (xVar 0) aNil)) (xC .non))))
noncomputable def f_number_in (K : PySem.W.Frag) : List D → S → R D := fnB 3 (b_number_in K)
/-! command_in: row 0, words 1, number 2, word 3, rest 4 -/
abbrev s_command_in : Stmt := topS 77
theorem sc_command_in : FnScope ["row", "words", "number", "word", "rest"] ["row"] (defScope s_command_in) := ⟨rfl, rfl, rfl, by decide +kernel, rfl, by decide +kernel, by decide +kernel⟩
noncomputable def b_command_in (K : PySem.W.Frag) : XS :=
    (sSeq (sIf (bNot (bOf (xFn oIsiG (aCons (xVar 0) (aCons (xC (.ty "str")) aNil)))))
    sBad
    sNil)
    (sSeq (sSet 1 (xBM "str" (mSplit false) (xVar 0) (aCons (xC (.str " ")) aNil)))
    (sSeq (sSet 2 (xCall 2 (f_number_in K) (aCons (xBin oIx (xVar 1) (xNeg (xC (.int 1)))) (aCons (xC (.int 9)) aNil))))
    (sMatch (xVar 1)
    (mCase (pSeq 1 (psCons pName psNil)) [3] (bOf (xInC false ["undo", "names", "places", "text"] (xVar 3))) (sRet (xTup (aCons (xVar 3) (aCons (xC .non) aNil))))
    (mCase (pSeq 2 (psCons pName (psCons pAny psNil))) [3] (bAnd (bOf (xInC false ["run", "step", "finish"] (xVar 3))) (bOf (xBin (oIs true) (xVar 2) (xC .non)))) (sRet (xTup (aCons (xVar 3) (aCons (xVar 2) aNil))))
    mBad))))))
noncomputable def f_command_in (K : PySem.W.Frag) : List D → S → R D := fnB 5 (b_command_in K)
/-! is_whole: value 0, least 1, most 2 -/
abbrev s_is_whole : Stmt := topS 23
theorem sc_is_whole : FnScope ["value", "least", "most"] ["value", "least", "most"] (defScope s_is_whole) := ⟨rfl, rfl, rfl, by decide +kernel, rfl, by decide +kernel, by decide +kernel⟩
noncomputable def b_is_whole (K : PySem.W.Frag) : XS :=
    (sRet (xAnd (xFn oIsiG (aCons (xVar 0) (aCons (xC (.ty "int")) aNil))) (xAnd (xNot (xFn oIsiG (aCons (xVar 0) (aCons (xC (.ty "bool")) aNil)))) (xChain oLe oLe (xVar 1) (xVar 0) (xVar 2)))))
noncomputable def f_is_whole (K : PySem.W.Frag) : List D → S → R D := fnB 3 (b_is_whole K)
/-! need_count: value 0 -/
abbrev s_need_count : Stmt := topS 24
theorem sc_need_count : FnScope ["value"] ["value"] (defScope s_need_count) := ⟨rfl, rfl, rfl, by decide +kernel, rfl, by decide +kernel, by decide +kernel⟩
noncomputable def b_need_count (K : PySem.W.Frag) : XS :=
    (sIf (bNot (bOf (xCall 3 (f_is_whole K) (aCons (xVar 0) (aCons (xC (.int 1)) (aCons (xC (.int 40)) aNil))))))
    sBad
    sNil)
noncomputable def f_need_count (K : PySem.W.Frag) : List D → S → R D := fnB 1 (b_need_count K)
/-! Machine.__init__: self 0, count 1 -/
abbrev s_Machine___init__ : Stmt := inClass (topS 25) 0
theorem sc_Machine___init__ : FnScope ["self", "count"] ["self", "count"] (defScope s_Machine___init__) := ⟨rfl, rfl, rfl, by decide +kernel, rfl, by decide +kernel, by decide +kernel⟩
noncomputable def b_Machine___init__ (K : PySem.W.Frag) : XS :=
    (sSeq (sFldSet (He.ga K "Machine") "size" (xVar 0) (xVar 1))
    (sSeq (sFldSet (He.ga K "Machine") "owners" (xVar 0) (xDNew true))
    (sSeq (sFldSet (He.ga K "Machine") "flags" (xVar 0) (xDNew true))
    (sSeq (sFldSet (He.ga K "Machine") "cells" (xVar 0) (xBin (oMul true) (xLst true (aCons (xTup (aCons (xC (.int 0)) (aCons (xC (.int 0)) aNil))) aNil)) (xVar 1)))
    (sSeq (sFldSet (He.ga K "Machine") "performed" (xVar 0) (xBin (oMul true) (xLst true (aCons (xC (.int 0)) aNil)) (xVar 1)))
    (sFldSet (He.ga K "Machine") "stopped" (xVar 0) (xBin (oMul true) (xLst true (aCons (xC (.bl false)) aNil)) (xVar 1))))))))
noncomputable def f_Machine___init__ (K : PySem.W.Frag) : List D → S → R D := fnB 2 (b_Machine___init__ K)
theorem nr_Machine {K : PySem.W.Frag} : NonRet (f_Machine___init__ K) := nonRet_of (noRt_seq noRt_fld (noRt_seq noRt_fld (noRt_seq noRt_fld (noRt_seq noRt_fld (noRt_seq noRt_fld noRt_fld)))))
/-! Run.__init__: self 0, count 1 -/
abbrev s_Run___init__ : Stmt := inClass (topS 39) 1
theorem sc_Run___init__ : FnScope ["self", "count"] ["self", "count"] (defScope s_Run___init__) := ⟨rfl, rfl, rfl, by decide +kernel, rfl, by decide +kernel, by decide +kernel⟩
noncomputable def b_Run___init__ (K : PySem.W.Frag) : XS :=
    (sSeq (sDrop (xCall 1 (f_need_count K) (aCons (xVar 1) aNil)))
    (sSeq (sFldSet (He.ga K "Run") "machine" (xVar 0) (xMake (He.ga K "Machine") 2 (f_Machine___init__ K) (aCons (xVar 1) aNil)))
    (sSeq (sFldSet (He.ga K "Run") "schedule" (xVar 0) (xLst true aNil))
    (sFldSet (He.ga K "Run") "past" (xVar 0) (xLst true aNil)))))
noncomputable def f_Run___init__ (K : PySem.W.Frag) : List D → S → R D := fnB 2 (b_Run___init__ K)
theorem nr_Run {K : PySem.W.Frag} : NonRet (f_Run___init__ K) := nonRet_of (noRt_seq noRt_drop (noRt_seq noRt_fld (noRt_seq noRt_fld noRt_fld)))
/-! Machine.may_step: self 0, process 1 -/
abbrev s_Machine_may_step : Stmt := inClass (topS 25) 1
theorem sc_Machine_may_step : FnScope ["self", "process"] ["self", "process"] (defScope s_Machine_may_step) := ⟨rfl, rfl, rfl, by decide +kernel, rfl, by decide +kernel, by decide +kernel⟩
noncomputable def b_Machine_may_step (K : PySem.W.Frag) : XS :=
    (sRet (xAnd (xCall 3 (f_is_whole K) (aCons (xVar 1) (aCons (xC (.int 0)) (aCons (xBin oSub (xFld (He.ga K "Machine") "size" (xVar 0)) (xC (.int 1))) aNil)))) (xNot (xBin oIx (xFld (He.ga K "Machine") "stopped" (xVar 0)) (xVar 1)))))
noncomputable def f_Machine_may_step (K : PySem.W.Frag) : List D → S → R D := fnB 2 (b_Machine_may_step K)
/-! Machine.moved: self 0, process 1, result 2, right 3, down 4 -/
abbrev s_Machine_moved : Stmt := inClass (topS 25) 3
theorem sc_Machine_moved : FnScope ["self", "process", "result", "right", "down"] ["self", "process", "result"] (defScope s_Machine_moved) := ⟨rfl, rfl, rfl, by decide +kernel, rfl, by decide +kernel, by decide +kernel⟩
noncomputable def b_Machine_moved (K : PySem.W.Frag) : XS :=
    (sSeq (sAsg (xBin oIx (xFld (He.ga K "Machine") "cells" (xVar 0)) (xVar 1)) (gTupD 2 (gsCons (gSet 3) (gsCons (gSet 4) gsNil))))
    (sSeq (sAsg (xIf (bOf (xBin (oEq false) (xVar 2) (xC (.str "right")))) (xTup (aCons (xBin (oAdd false) (xVar 3) (xC (.int 1))) (aCons (xVar 4) aNil))) (xTup (aCons (xVar 3) (aCons (xBin (oAdd false) (xVar 4) (xC (.int 1))) aNil)))) (gSubD (xFld (He.ga K "Machine") "cells" (xVar 0)) (xVar 1)))
    (sSeq (sAsg (xC (.int 0)) (gSubD (xFld (He.ga K "Machine") "performed" (xVar 0)) (xVar 1)))
    (sRet (xVar 2)))))
noncomputable def f_Machine_moved (K : PySem.W.Frag) : List D → S → R D := fnB 5 (b_Machine_moved K)
/-! Machine.advance: self 0, process 1, cell 2, number 3 -/
abbrev s_Machine_advance : Stmt := inClass (topS 25) 2
theorem sc_Machine_advance : FnScope ["self", "process", "cell", "number"] ["self", "process"] (defScope s_Machine_advance) := ⟨rfl, rfl, rfl, by decide +kernel, rfl, by decide +kernel, by decide +kernel⟩
noncomputable def b_Machine_advance (K : PySem.W.Frag) : XS :=
    (sSeq (sPar 2 3 (aCons (xBin oIx (xFld (He.ga K "Machine") "cells" (xVar 0)) (xVar 1)) (aCons (xBin oIx (xFld (He.ga K "Machine") "performed" (xVar 0)) (xVar 1)) aNil)))
    (sSeq (sAsg (xBin (oAdd true) (xVar 3) (xC (.int 1))) (gSubD (xFld (He.ga K "Machine") "performed" (xVar 0)) (xVar 1)))
    (sSeq (sIf (bOf (xBin (oEq false) (xVar 3) (xC (.int 0))))
    (sDPut (xFld (He.ga K "Machine") "owners" (xVar 0)) (xVar 2) (xVar 1))
    (sIf (bOf (xBin (oEq false) (xVar 3) (xC (.int 1))))
    (sIf (bOf (xDGet2 (xFld (He.ga K "Machine") "flags" (xVar 0)) (xVar 2) (xC (.bl false))))
    (sRet (xMeth (He.ga K "Machine") "moved" 3 (f_Machine_moved K) (xVar 0) (aCons (xVar 1) (aCons (xC (.str "right")) aNil))))
    sNil)
    (sIf (bOf (xBin (oEq false) (xVar 3) (xC (.int 2))))
    (sDPut (xFld (He.ga K "Machine") "flags" (xVar 0)) (xVar 2) (xC (.bl true)))
    (sIf (bOf (xBin (oEq false) (xBin dGet (xFld (He.ga K "Machine") "owners" (xVar 0)) (xVar 2)) (xVar 1)))
    (sSeq (sAsg (xC (.bl true)) (gSubD (xFld (He.ga K "Machine") "stopped" (xVar 0)) (xVar 1)))
    (sRet (xC (.str "stop"))))
    (sRet (xMeth (He.ga K "Machine") "moved" 3 (f_Machine_moved K) (xVar 0) (aCons (xVar 1) (aCons (xC (.str "down")) aNil))))))))
    (sRet (xC .non)))))
noncomputable def f_Machine_advance (K : PySem.W.Frag) : List D → S → R D := fnB 4 (b_Machine_advance K)
/-! machine_after: count 0, schedule 1, machine 2, process 3 -/
abbrev s_machine_after : Stmt := topS 26
theorem sc_machine_after : FnScope ["count", "schedule", "machine", "process"] ["count", "schedule"] (defScope s_machine_after) := ⟨rfl, rfl, rfl, by decide +kernel, rfl, by decide +kernel, by decide +kernel⟩
noncomputable def b_machine_after (K : PySem.W.Frag) : XS :=
    (sSeq (sIf (bNot (bOf (xFn oIsiG (aCons (xVar 1) (aCons (xC (.ty "list")) aNil)))))
    sBad
    sNil)
    (sSeq (sSet 2 (xMake (He.ga K "Machine") 2 (f_Machine___init__ K) (aCons (xVar 0) aNil)))
    (sSeq (sFor (iSeq (xVar 1)) (gSet 3)
    (sSeq (sIf (bNot (bOf (xMeth (He.ga K "Machine") "may_step" 2 (f_Machine_may_step K) (xVar 2) (aCons (xVar 3) aNil))))
    sBad
    sNil)
    (sDrop (xMeth (He.ga K "Machine") "advance" 2 (f_Machine_advance K) (xVar 2) (aCons (xVar 3) aNil)))))
    (sRet (xVar 2)))))
noncomputable def f_machine_after (K : PySem.W.Frag) : List D → S → R D := fnB 4 (b_machine_after K)
/-! Run.undo: self 0 -/
abbrev s_Run_undo : Stmt := inClass (topS 39) 8
theorem sc_Run_undo : FnScope ["self"] ["self"] (defScope s_Run_undo) := ⟨rfl, rfl, rfl, by decide +kernel, rfl, by decide +kernel, by decide +kernel⟩
noncomputable def b_Run_undo (K : PySem.W.Frag) : XS :=
    (sSeq (sIf (bOf (xBin (oEq false) (xFld (He.ga K "Run") "past" (xVar 0)) (xLst false aNil)))
    sBad
    sNil)
    (sSeq (sFldSet (He.ga K "Run") "schedule" (xVar 0) (xSl true (xFld (He.ga K "Run") "schedule" (xVar 0)) oNo (oAt (xBM "list" mPop (xFld (He.ga K "Run") "past" (xVar 0)) aNil))))
    (sFldSet (He.ga K "Run") "machine" (xVar 0) (xCall 2 (f_machine_after K) (aCons (xFld (He.ga K "Machine") "size" (xFld (He.ga K "Run") "machine" (xVar 0))) (aCons (xFld (He.ga K "Run") "schedule" (xVar 0)) aNil))))))
noncomputable def f_Run_undo (K : PySem.W.Frag) : List D → S → R D := fnB 1 (b_Run_undo K)
/-! first_name: diagonal 0 -/
abbrev s_first_name : Stmt := topS 14
theorem sc_first_name : FnScope ["diagonal"] ["diagonal"] (defScope s_first_name) := ⟨rfl, rfl, rfl, by decide +kernel, rfl, by decide +kernel, by decide +kernel⟩
noncomputable def b_first_name (K : PySem.W.Frag) : XS :=
    (sRet (xBin oFdiv (xBin (oMul false) (xVar 0) (xBin (oAdd false) (xVar 0) (xC (.int 1)))) (xC (.int 2))))
noncomputable def f_first_name (K : PySem.W.Frag) : List D → S → R D := fnB 1 (b_first_name K)
/-! name_in: right 0, down 1 -/
abbrev s_name_in : Stmt := topS 15
theorem sc_name_in : FnScope ["right", "down"] ["right", "down"] (defScope s_name_in) := ⟨rfl, rfl, rfl, by decide +kernel, rfl, by decide +kernel, by decide +kernel⟩
noncomputable def b_name_in (K : PySem.W.Frag) : XS :=
    (sRet (xBin (oAdd false) (xCall 1 (f_first_name K) (aCons (xBin (oAdd false) (xVar 0) (xVar 1)) aNil)) (xVar 0)))
noncomputable def f_name_in (K : PySem.W.Frag) : List D → S → R D := fnB 2 (b_name_in K)
/-! Machine.name_at: self 0, process 1, right 2, down 3 -/
abbrev s_Machine_name_at : Stmt := inClass (topS 25) 4
theorem sc_Machine_name_at : FnScope ["self", "process", "right", "down"] ["self", "process"] (defScope s_Machine_name_at) := ⟨rfl, rfl, rfl, by decide +kernel, rfl, by decide +kernel, by decide +kernel⟩
noncomputable def b_Machine_name_at (K : PySem.W.Frag) : XS :=
    (sSeq (sAsg (xBin oIx (xFld (He.ga K "Machine") "cells" (xVar 0)) (xVar 1)) (gTupD 2 (gsCons (gSet 2) (gsCons (gSet 3) gsNil))))
    (sRet (xCall 2 (f_name_in K) (aCons (xVar 2) (aCons (xVar 3) aNil)))))
noncomputable def f_Machine_name_at (K : PySem.W.Frag) : List D → S → R D := fnB 4 (b_Machine_name_at K)
/-! Machine.names: self 0, process 1 -/
abbrev s_Machine_names : Stmt := inClass (topS 25) 6
theorem sc_Machine_names : FnScope ["self", "process"] ["self"] (defScope s_Machine_names) := ⟨rfl, rfl, rfl, by decide +kernel, rfl, by decide +kernel, by decide +kernel⟩
noncomputable def b_Machine_names (K : PySem.W.Frag) : XS :=
    (sRet (xComp false [1] (iRange1 (xFld (He.ga K "Machine") "size" (xVar 0))) (gSet 1) bYes (xIf (bOf (xBin oIx (xFld (He.ga K "Machine") "stopped" (xVar 0)) (xVar 1))) (xMeth (He.ga K "Machine") "name_at" 2 (f_Machine_name_at K) (xVar 0) (aCons (xVar 1) aNil)) (xC .non))))
noncomputable def f_Machine_names (K : PySem.W.Frag) : List D → S → R D := fnB 2 (b_Machine_names K)
/-! Run.names_now: self 0 -/
abbrev s_Run_names_now : Stmt := inClass (topS 39) 11
theorem sc_Run_names_now : FnScope ["self"] ["self"] (defScope s_Run_names_now) := ⟨rfl, rfl, rfl, by decide +kernel, rfl, by decide +kernel, by decide +kernel⟩
noncomputable def b_Run_names_now (K : PySem.W.Frag) : XS :=
    (sRet (xMeth (He.ga K "Machine") "names" 1 (f_Machine_names K) (xFld (He.ga K "Run") "machine" (xVar 0)) aNil))
noncomputable def f_Run_names_now (K : PySem.W.Frag) : List D → S → R D := fnB 1 (b_Run_names_now K)
/-! Run.places_now: self 0, machine 1, process 2 -/
abbrev s_Run_places_now : Stmt := inClass (topS 39) 12
theorem sc_Run_places_now : FnScope ["self", "machine", "process"] ["self"] (defScope s_Run_places_now) := ⟨rfl, rfl, rfl, by decide +kernel, rfl, by decide +kernel, by decide +kernel⟩
noncomputable def b_Run_places_now (K : PySem.W.Frag) : XS :=
    (sSeq (sSet 1 (xFld (He.ga K "Run") "machine" (xVar 0)))
    (sRet (xComp false [2] (iRange1 (xFld (He.ga K "Machine") "size" (xVar 1))) (gSet 2) bYes (xTup (aCons (xMeth (He.ga K "Machine") "name_at" 2 (f_Machine_name_at K) (xVar 1) (aCons (xVar 2) aNil)) (aCons (xBin oIx (xFld (He.ga K "Machine") "performed" (xVar 1)) (xVar 2)) aNil))))))
noncomputable def f_Run_places_now (K : PySem.W.Frag) : List D → S → R D := fnB 3 (b_Run_places_now K)
/-! schedule_text: schedule 0, process 1 -/
abbrev s_schedule_text : Stmt := topS 34
theorem sc_schedule_text : FnScope ["schedule", "process"] ["schedule"] (defScope s_schedule_text) := ⟨rfl, rfl, rfl, by decide +kernel, rfl, by decide +kernel, by decide +kernel⟩
noncomputable def b_schedule_text (K : PySem.W.Frag) : XS :=
    (sRet (xIf (bOf (xBin (oEq true) (xVar 0) (xLst false aNil))) (xBM "str" mJoin (xC (.str ",")) (aCons (xComp false [1] (iSeq (xVar 0)) (gSet 1) bYes (xFn oStrC (aCons (xVar 1) aNil))) aNil)) (xC (.str "-"))))
noncomputable def f_schedule_text (K : PySem.W.Frag) : List D → S → R D := fnB 2 (b_schedule_text K)
/-! show_run: count 0, schedule 1 -/
abbrev s_show_run : Stmt := topS 36
theorem sc_show_run : FnScope ["count", "schedule"] ["count", "schedule"] (defScope s_show_run) := ⟨rfl, rfl, rfl, by decide +kernel, rfl, by decide +kernel, by decide +kernel⟩
noncomputable def b_show_run (K : PySem.W.Frag) : XS :=
    (sSeq (sDrop (xCall 1 (f_need_count K) (aCons (xVar 0) aNil)))
    (sSeq (sDrop (xCall 2 (f_machine_after K) (aCons (xVar 0) (aCons (xVar 1) aNil))))
    (sRet (xBin (oAdd false) (xBin (oAdd false) (xFn oStrC (aCons (xVar 0) aNil)) (xC (.str " "))) (xCall 1 (f_schedule_text K) (aCons (xVar 1) aNil))))))
noncomputable def f_show_run (K : PySem.W.Frag) : List D → S → R D := fnB 2 (b_show_run K)
/-! Run.process_count: self 0 -/
abbrev s_Run_process_count : Stmt := inClass (topS 39) 9
theorem sc_Run_process_count : FnScope ["self"] ["self"] (defScope s_Run_process_count) := ⟨rfl, rfl, rfl, by decide +kernel, rfl, by decide +kernel, by decide +kernel⟩
noncomputable def b_Run_process_count (K : PySem.W.Frag) : XS :=
    (sRet (xFld (He.ga K "Machine") "size" (xFld (He.ga K "Run") "machine" (xVar 0))))
noncomputable def f_Run_process_count (K : PySem.W.Frag) : List D → S → R D := fnB 1 (b_Run_process_count K)
/-! Run.steps_done: self 0 -/
abbrev s_Run_steps_done : Stmt := inClass (topS 39) 10
theorem sc_Run_steps_done : FnScope ["self"] ["self"] (defScope s_Run_steps_done) := ⟨rfl, rfl, rfl, by decide +kernel, rfl, by decide +kernel, by decide +kernel⟩
noncomputable def b_Run_steps_done (K : PySem.W.Frag) : XS :=
    (sRet (xFn (oListC false) (aCons (xFld (He.ga K "Run") "schedule" (xVar 0)) aNil)))
noncomputable def f_Run_steps_done (K : PySem.W.Frag) : List D → S → R D := fnB 1 (b_Run_steps_done K)
/-! Desk.reported: self 0, word 1, run 2, name 3, number 4 -/
abbrev s_Desk_reported : Stmt := inClass (topS 79) 3
theorem sc_Desk_reported : FnScope ["self", "word", "run", "name", "number"] ["self", "word"] (defScope s_Desk_reported) := ⟨rfl, rfl, rfl, by decide +kernel, rfl, by decide +kernel, by decide +kernel⟩
noncomputable def b_Desk_reported (K : PySem.W.Frag) : XS :=
    (sSeq (sSet 2 (xFld (He.ga K "Desk") "run_held" (xVar 0)))
    (sMatch (xVar 1)
    (mCase (pStr "undo") [] bYes (sSeq (sDrop (xMeth (He.ga K "Run") "undo" 1 (f_Run_undo K) (xVar 2) aNil))
    (sRet (xC (.str "ok"))))
    (mCase (pStr "names") [] bYes (sRet (xBM "str" mJoin (xC (.str " ")) (aCons (xComp false [3] (iSeq (xProp (He.ga K "Run") (f_Run_names_now K) (xVar 2))) (gSet 3) bYes (xIf (bOf (xBin (oIs false) (xVar 3) (xC .non))) (xC (.str "-")) (xFn oStrC (aCons (xVar 3) aNil)))) aNil)))
    (mCase (pStr "places") [] bYes (sRet (xBM "str" mJoin (xC (.str " ")) (aCons (xComp false [3, 4] (iSeq (xProp (He.ga K "Run") (f_Run_places_now K) (xVar 2))) (gTupD 2 (gsCons (gSet 3) (gsCons (gSet 4) gsNil))) bYes (xFn oStrC (aCons (xVar 3) aNil))) aNil)))
    (mCase pAny [] bYes (sRet (xCall 2 (f_show_run K) (aCons (xProp (He.ga K "Run") (f_Run_process_count K) (xVar 2)) (aCons (xProp (He.ga K "Run") (f_Run_steps_done K) (xVar 2)) aNil))))
    mNil))))))
noncomputable def f_Desk_reported (K : PySem.W.Frag) : List D → S → R D := fnB 5 (b_Desk_reported K)
/-! Run.need_process: self 0, process 1 -/
abbrev s_Run_need_process : Stmt := inClass (topS 39) 4
theorem sc_Run_need_process : FnScope ["self", "process"] ["self", "process"] (defScope s_Run_need_process) := ⟨rfl, rfl, rfl, by decide +kernel, rfl, by decide +kernel, by decide +kernel⟩
noncomputable def b_Run_need_process (K : PySem.W.Frag) : XS :=
    (sIf (bNot (bOf (xMeth (He.ga K "Machine") "may_step" 2 (f_Machine_may_step K) (xFld (He.ga K "Run") "machine" (xVar 0)) (aCons (xVar 1) aNil))))
    sBad
    sNil)
noncomputable def f_Run_need_process (K : PySem.W.Frag) : List D → S → R D := fnB 2 (b_Run_need_process K)
/-! Machine.told: self 0, process 1, result 2 -/
abbrev s_Machine_told : Stmt := inClass (topS 25) 5
theorem sc_Machine_told : FnScope ["self", "process", "result"] ["self", "process"] (defScope s_Machine_told) := ⟨rfl, rfl, rfl, by decide +kernel, rfl, by decide +kernel, by decide +kernel⟩
noncomputable def b_Machine_told (K : PySem.W.Frag) : XS :=
    (sSeq (sSet 2 (xMeth (He.ga K "Machine") "advance" 2 (f_Machine_advance K) (xVar 0) (aCons (xVar 1) aNil)))
    (sRet (xIf (bOf (xBin (oIs false) (xVar 2) (xC .non))) (xC .non) (xTup (aCons (xVar 2) (aCons (xMeth (He.ga K "Machine") "name_at" 2 (f_Machine_name_at K) (xVar 0) (aCons (xVar 1) aNil)) aNil))))))
noncomputable def f_Machine_told (K : PySem.W.Frag) : List D → S → R D := fnB 3 (b_Machine_told K)
/-! Run.perform: self 0, schedule 1, found 2, process 3 -/
abbrev s_Run_perform : Stmt := inClass (topS 39) 3
theorem sc_Run_perform : FnScope ["self", "schedule", "found", "process"] ["self", "schedule"] (defScope s_Run_perform) := ⟨rfl, rfl, rfl, by decide +kernel, rfl, by decide +kernel, by decide +kernel⟩
noncomputable def b_Run_perform (K : PySem.W.Frag) : XS :=
    (sSeq (sSet 2 (xLst true aNil))
    (sSeq (sFor (iSeq (xVar 1)) (gSet 3)
    (sSeq (sDrop (xBM "list" mAppend (xVar 2) (aCons (xMeth (He.ga K "Machine") "told" 2 (f_Machine_told K) (xFld (He.ga K "Run") "machine" (xVar 0)) (aCons (xVar 3) aNil)) aNil)))
    (sDrop (xBM "list" mAppend (xFld (He.ga K "Run") "schedule" (xVar 0)) (aCons (xVar 3) aNil)))))
    (sRet (xVar 2))))
noncomputable def f_Run_perform (K : PySem.W.Frag) : List D → S → R D := fnB 4 (b_Run_perform K)
/-! Run.finish: self 0, process 1 -/
abbrev s_Run_finish : Stmt := inClass (topS 39) 7
theorem sc_Run_finish : FnScope ["self", "process"] ["self", "process"] (defScope s_Run_finish) := ⟨rfl, rfl, rfl, by decide +kernel, rfl, by decide +kernel, by decide +kernel⟩
noncomputable def b_Run_finish (K : PySem.W.Frag) : XS :=
    (sSeq (sDrop (xMeth (He.ga K "Run") "need_process" 2 (f_Run_need_process K) (xVar 0) (aCons (xVar 1) aNil)))
    (sSeq (sDrop (xBM "list" mAppend (xFld (He.ga K "Run") "past" (xVar 0)) (aCons (xFn oLen (aCons (xFld (He.ga K "Run") "schedule" (xVar 0)) aNil)) aNil)))
    (sSeq (sWhile (bNot (bOf (xBin oIx (xFld (He.ga K "Machine") "stopped" (xFld (He.ga K "Run") "machine" (xVar 0))) (xVar 1))))
    (sDrop (xMeth (He.ga K "Run") "perform" 2 (f_Run_perform K) (xVar 0) (aCons (xLst false (aCons (xVar 1) aNil)) aNil))))
    (sRet (xMeth (He.ga K "Machine") "name_at" 2 (f_Machine_name_at K) (xFld (He.ga K "Run") "machine" (xVar 0)) (aCons (xVar 1) aNil))))))
noncomputable def f_Run_finish (K : PySem.W.Frag) : List D → S → R D := fnB 2 (b_Run_finish K)
/-! Run.step: self 0, process 1 -/
abbrev s_Run_step : Stmt := inClass (topS 39) 5
theorem sc_Run_step : FnScope ["self", "process"] ["self", "process"] (defScope s_Run_step) := ⟨rfl, rfl, rfl, by decide +kernel, rfl, by decide +kernel, by decide +kernel⟩
noncomputable def b_Run_step (K : PySem.W.Frag) : XS :=
    (sSeq (sDrop (xMeth (He.ga K "Run") "need_process" 2 (f_Run_need_process K) (xVar 0) (aCons (xVar 1) aNil)))
    (sSeq (sDrop (xBM "list" mAppend (xFld (He.ga K "Run") "past" (xVar 0)) (aCons (xFn oLen (aCons (xFld (He.ga K "Run") "schedule" (xVar 0)) aNil)) aNil)))
    (sRet (xBin oIx (xMeth (He.ga K "Run") "perform" 2 (f_Run_perform K) (xVar 0) (aCons (xLst false (aCons (xVar 1) aNil)) aNil)) (xC (.int 0))))))
noncomputable def f_Run_step (K : PySem.W.Frag) : List D → S → R D := fnB 2 (b_Run_step K)
/-! Desk.moved: self 0, word 1, process 2, told 3 -/
abbrev s_Desk_moved : Stmt := inClass (topS 79) 2
theorem sc_Desk_moved : FnScope ["self", "word", "process", "told"] ["self", "word", "process"] (defScope s_Desk_moved) := ⟨rfl, rfl, rfl, by decide +kernel, rfl, by decide +kernel, by decide +kernel⟩
noncomputable def b_Desk_moved (K : PySem.W.Frag) : XS :=
    (sSeq (sIf (bOf (xBin (oEq false) (xVar 1) (xC (.str "finish"))))
    (sRet (xFn oStrC (aCons (xMeth (He.ga K "Run") "finish" 2 (f_Run_finish K) (xFld (He.ga K "Desk") "run_held" (xVar 0)) (aCons (xVar 2) aNil)) aNil)))
    sNil)
    (sSeq (sSet 3 (xMeth (He.ga K "Run") "step" 2 (f_Run_step K) (xFld (He.ga K "Desk") "run_held" (xVar 0)) (aCons (xVar 2) aNil)))
    (sRet (xIf (bOf (xBin (oIs false) (xVar 3) (xC .non))) (xC (.str "-")) (xBin (oAdd false) (xBin (oAdd false) (xBin oIx (xVar 3) (xC (.int 0))) (xC (.str " "))) (xFn oStrC (aCons (xBin oIx (xVar 3) (xC (.int 1))) aNil)))))))
noncomputable def f_Desk_moved (K : PySem.W.Frag) : List D → S → R D := fnB 4 (b_Desk_moved K)
/-! Desk.execute: self 0, row 1, word 2, value 3 -/
abbrev s_Desk_execute : Stmt := inClass (topS 79) 1
theorem sc_Desk_execute : FnScope ["self", "row", "word", "value"] ["self", "row"] (defScope s_Desk_execute) := ⟨rfl, rfl, rfl, by decide +kernel, rfl, by decide +kernel, by decide +kernel⟩
noncomputable def b_Desk_execute (K : PySem.W.Frag) : XS :=
    (sSeq (sAsg (xCall 1 (f_command_in K) (aCons (xVar 1) aNil)) (gTupD 2 (gsCons (gSet 2) (gsCons (gSet 3) gsNil))))
    (sSeq (sIf (bOf (xInC false ["possible", "stuck", "least", "plan"] (xVar 2)))
    sBad
    sNil)
    (sSeq (sIf (bOf (xBin (oEq false) (xVar 2) (xC (.str "run"))))
    (sSeq (sFldSet (He.ga K "Desk") "run_held" (xVar 0) (xMake (He.ga K "Run") 2 (f_Run___init__ K) (aCons (xVar 3) aNil)))
    (sRet (xC (.str "ok"))))
    sNil)
    (sSeq (sIf (bOf (xBin (oIs false) (xFld (He.ga K "Desk") "run_held" (xVar 0)) (xC .non)))
    sBad
    sNil)
    (sRet (xIf (bOf (xInC false ["undo", "names", "places", "text"] (xVar 2))) (xMeth (He.ga K "Desk") "reported" 2 (f_Desk_reported K) (xVar 0) (aCons (xVar 2) aNil)) (xMeth (He.ga K "Desk") "moved" 3 (f_Desk_moved K) (xVar 0) (aCons (xVar 2) (aCons (xVar 3) aNil)))))))))
noncomputable def f_Desk_execute (K : PySem.W.Frag) : List D → S → R D := fnB 4 (b_Desk_execute K)
/-! _law_dip: urn 0, size 1, mixed 2, found 3 -/
abbrev s__law_dip : Stmt := topS 82
theorem sc__law_dip : FnScope ["urn", "size", "mixed", "found"] ["urn", "size"] (defScope s__law_dip) := ⟨rfl, rfl, rfl, by decide +kernel, rfl, by decide +kernel, by decide +kernel⟩
noncomputable def b__law_dip (K : PySem.W.Frag) : XS :=
    (sSeq (sIf (bOf (xBin oGt (xBin oIx (xVar 0) (xC (.int 0))) (xC (.int 0))))
    (sSeq (sSet 3 (xBin oMod (xBin oIx (xVar 0) (xC (.int 0))) (xVar 1)))
    (sSeq (sAsg (xBin oFdiv (xBin oIx (xVar 0) (xC (.int 0))) (xVar 1)) (gSubD (xVar 0) (xC (.int 0))))
    (sRet (xVar 3))))
    sNil)
    (sSeq (sAsg (xBin (oAdd true) (xBin oIx (xVar 0) (xC (.int 2))) (xC (.int 1))) (gSubD (xVar 0) (xC (.int 2))))
    (sSeq (sSet 2 (xBin oMod (xBin oPow (xBin (oAdd false) (xBin oIx (xVar 0) (xC (.int 1))) (xBin (oMul false) (xC (.int 3267000013)) (xBin oIx (xVar 0) (xC (.int 2))))) (xC (.int 3))) (xBin (oAdd false) (xBin oPow (xC (.int 10)) (xC (.int 44))) (xC (.int 31)))))
    (sSeq (sSet 2 (xBin oMod (xBin (oAdd false) (xBin (oMul false) (xVar 2) (xVar 2)) (xBin (oMul false) (xC (.int 5754853343)) (xBin oIx (xVar 0) (xC (.int 2))))) (xBin (oAdd false) (xBin oPow (xC (.int 10)) (xC (.int 43))) (xC (.int 57)))))
    (sRet (xBin oMod (xBin oFdiv (xVar 2) (xC (.int 433494437))) (xVar 1)))))))
noncomputable def f__law_dip (K : PySem.W.Frag) : List D → S → R D := fnB 4 (b__law_dip K)
/-! Run.__len__: self 0 -/
abbrev s_Run___len__ : Stmt := inClass (topS 39) 14
theorem sc_Run___len__ : FnScope ["self"] ["self"] (defScope s_Run___len__) := ⟨rfl, rfl, rfl, by decide +kernel, rfl, by decide +kernel, by decide +kernel⟩
noncomputable def b_Run___len__ (K : PySem.W.Frag) : XS :=
    (sRet (xFn oLen (aCons (xFld (He.ga K "Run") "schedule" (xVar 0)) aNil)))
noncomputable def f_Run___len__ (K : PySem.W.Frag) : List D → S → R D := fnB 1 (b_Run___len__ K)
/-! _law_called: urn 0, desk 1, held 2, past 3, able 4, way 5, who 6, told 7, due 8, name 9 -/
abbrev s__law_called : Stmt := topS 84
theorem sc__law_called : FnScope ["urn", "desk", "held", "past", "able", "way", "who", "told", "due", "name"] ["urn", "desk", "held", "past"] (defScope s__law_called) := ⟨rfl, rfl, rfl, by decide +kernel, rfl, by decide +kernel, by decide +kernel⟩
noncomputable def b__law_called (K : PySem.W.Frag) : XS :=
    (sSeq (sSet 4 (xComp true [6, 9] (iEnumD (xProp (He.ga K "Run") (f_Run_names_now K) (xVar 2))) (gTupD 2 (gsCons (gSet 6) (gsCons (gSet 9) gsNil))) (bOf (xBin (oIs false) (xVar 9) (xC .non))) (xVar 6)))
    (sSeq (sSet 5 (xCall 2 (f__law_dip K) (aCons (xVar 0) (aCons (xC (.int 8)) aNil))))
    (sSeq (sIf (bAnd (bOf (xBin (oEq false) (xVar 5) (xC (.int 0)))) (bOf (xBin (oEq true) (xVar 3) (xLst false aNil))))
    (sSeq (sDrop (xBM "list" mPop (xVar 3) aNil))
    (sSeq (sDrop (xMeth (He.ga K "Run") "undo" 1 (f_Run_undo K) (xVar 2) aNil))
    (sRet (xBin (oEq false) (xMeth (He.ga K "Desk") "execute" 2 (f_Desk_execute K) (xVar 1) (aCons (xC (.str "undo")) aNil)) (xC (.str "ok"))))))
    sNil)
    (sSeq (sIf (bOf (xBin (oEq false) (xVar 4) (xLst false aNil)))
    (sRet (xC (.bl true)))
    sNil)
    (sSeq (sDrop (xBM "list" mAppend (xVar 3) (aCons (xVar 5) aNil)))
    (sSeq (sSet 6 (xBin oIx (xLst false (aCons (xBin oIx (xVar 4) (xCall 2 (f__law_dip K) (aCons (xVar 0) (aCons (xFn oLen (aCons (xVar 4) aNil)) aNil)))) (aCons (xBin oIx (xVar 4) (xC (.int 0))) (aCons (xBin oIx (xVar 4) (xNeg (xC (.int 1)))) aNil)))) (xCall 2 (f__law_dip K) (aCons (xVar 0) (aCons (xC (.int 3)) aNil)))))
    (sSeq (sIf (bAnd (bOf (xBin (oEq false) (xVar 5) (xC (.int 1)))) (bOf (xBin oLt (xFn (oLenO (He.ga K "Run") (f_Run___len__ K)) (aCons (xVar 2) aNil)) (xC (.int 400)))))
    (sRet (xBin (oEq false) (xMeth (He.ga K "Desk") "execute" 2 (f_Desk_execute K) (xVar 1) (aCons (xBin (oAdd false) (xC (.str "finish ")) (xFn oStrC (aCons (xVar 6) aNil))) aNil)) (xFn oStrC (aCons (xMeth (He.ga K "Run") "finish" 2 (f_Run_finish K) (xVar 2) (aCons (xVar 6) aNil)) aNil))))
    sNil)
    (sSeq (sPar 7 8 (aCons (xMeth (He.ga K "Desk") "execute" 2 (f_Desk_execute K) (xVar 1) (aCons (xBin (oAdd false) (xC (.str "step ")) (xFn oStrC (aCons (xVar 6) aNil))) aNil)) (aCons (xMeth (He.ga K "Run") "step" 2 (f_Run_step K) (xVar 2) (aCons (xVar 6) aNil)) aNil)))
    (sRet (xBin (oEq false) (xVar 7) (xIf (bOf (xBin (oIs false) (xVar 8) (xC .non))) (xC (.str "-")) (xBin (oAdd false) (xBin (oAdd false) (xBin oIx (xVar 8) (xC (.int 0))) (xC (.str " "))) (xFn oStrC (aCons (xBin oIx (xVar 8) (xC (.int 1))) aNil))))))))))))))
noncomputable def f__law_called (K : PySem.W.Frag) : List D → S → R D := fnB 10 (b__law_called K)
/-! _law_equal: desk 0, held 1, given 2, spots 3, text 4, name 5, place 6 -/
abbrev s__law_equal : Stmt := topS 83
theorem sc__law_equal : FnScope ["desk", "held", "given", "spots", "text", "name", "place"] ["desk", "held"] (defScope s__law_equal) := ⟨rfl, rfl, rfl, by decide +kernel, rfl, by decide +kernel, by decide +kernel⟩
noncomputable def b__law_equal (K : PySem.W.Frag) : XS :=
    (sSeq (sSet 2 (xBM "str" mJoin (xC (.str " ")) (aCons (xComp false [5] (iSeq (xProp (He.ga K "Run") (f_Run_names_now K) (xVar 1))) (gSet 5) bYes (xIf (bOf (xBin (oIs false) (xVar 5) (xC .non))) (xC (.str "-")) (xFn oStrC (aCons (xVar 5) aNil)))) aNil)))
    (sSeq (sSet 3 (xBM "str" mJoin (xC (.str " ")) (aCons (xComp false [6] (iSeq (xProp (He.ga K "Run") (f_Run_places_now K) (xVar 1))) (gSet 6) bYes (xFn oStrC (aCons (xBin oIx (xVar 6) (xC (.int 0))) aNil))) aNil)))
    (sSeq (sSet 4 (xCall 2 (f_show_run K) (aCons (xProp (He.ga K "Run") (f_Run_process_count K) (xVar 1)) (aCons (xProp (He.ga K "Run") (f_Run_steps_done K) (xVar 1)) aNil))))
    (sRet (xBin (oEq false) (xLst false (aCons (xMeth (He.ga K "Desk") "execute" 2 (f_Desk_execute K) (xVar 0) (aCons (xC (.str "names")) aNil)) (aCons (xMeth (He.ga K "Desk") "execute" 2 (f_Desk_execute K) (xVar 0) (aCons (xC (.str "places")) aNil)) (aCons (xMeth (He.ga K "Desk") "execute" 2 (f_Desk_execute K) (xVar 0) (aCons (xC (.str "text")) aNil)) aNil)))) (xLst false (aCons (xVar 2) (aCons (xVar 3) (aCons (xVar 4) aNil)))))))))
noncomputable def f__law_equal (K : PySem.W.Frag) : List D → S → R D := fnB 7 (b__law_equal K)
/-! law: script 0, k 1, urn 2, turn 3, desk 4, mate 5, size 6, again 7, held 8, past 9, row 10 -/
abbrev s_law : Stmt := topS 85
theorem sc_law : FnScope ["script", "k", "urn", "turn", "desk", "mate", "size", "again", "held", "past", "row"] ["script"] (defScope s_law) := ⟨rfl, rfl, rfl, by decide +kernel, rfl, by decide +kernel, by decide +kernel⟩
noncomputable def b_law (K : PySem.W.Frag) : XS :=
    (sSeq (sFor (iRange1 (xFn oMax2 (aCons (xC (.int 1)) (aCons (xFn oMin2 (aCons (xC (.int 4)) (aCons (xBin (oAdd false) (xFn oLen (aCons (xVar 0) aNil)) (xC (.int 1))) aNil))) aNil)))) (gSet 1)
    (sSeq (sSet 2 (xCall 2 (f__law_urn K) (aCons (xVar 0) (aCons (xVar 1) aNil))))
    (sSeq (sAsg (xTup (aCons (xMake (He.ga K "Desk") 1 (f_Desk___init__ K) aNil) (aCons (xMake (He.ga K "Desk") 1 (f_Desk___init__ K) aNil) aNil))) (gTupD 2 (gsCons (gSet 4) (gsCons (gSet 5) gsNil))))
    (sSeq (sIf (bOf (xBin (oEq true) (xComp false [10] (iSeq (xLst false (aCons (xC (.str "run 3")) (aCons (xC (.str "step 1")) (aCons (xC (.str "step 1")) aNil))))) (gSet 10) bYes (xMeth (He.ga K "Desk") "execute" 2 (f_Desk_execute K) (xVar 5) (aCons (xVar 10) aNil))) (xLst false (aCons (xC (.str "ok")) (aCons (xC (.str "-")) (aCons (xC (.str "-")) aNil))))))
    (sRet (xC (.bl false)))
    sNil)
    (sSeq (sFor (iRange1 (xC (.int 3))) (gSet 3)
    (sSeq (sSet 6 (xBin oIx (xLst false (aCons (xBin (oAdd false) (xC (.int 1)) (xCall 2 (f__law_dip K) (aCons (xVar 2) (aCons (xC (.int 4)) aNil)))) (aCons (xBin (oAdd false) (xC (.int 1)) (xCall 2 (f__law_dip K) (aCons (xVar 2) (aCons (xC (.int 12)) aNil)))) (aCons (xBin (oAdd false) (xC (.int 1)) (xCall 2 (f__law_dip K) (aCons (xVar 2) (aCons (xC (.int 40)) aNil)))) aNil)))) (xCall 2 (f__law_dip K) (aCons (xVar 2) (aCons (xC (.int 3)) aNil)))))
    (sSeq (sPar 8 9 (aCons (xMake (He.ga K "Run") 2 (f_Run___init__ K) (aCons (xVar 6) aNil)) (aCons (xLst true aNil) aNil)))
    (sSeq (sIf (bOf (xBin (oEq true) (xMeth (He.ga K "Desk") "execute" 2 (f_Desk_execute K) (xVar 4) (aCons (xBin (oAdd false) (xC (.str "run ")) (xFn oStrC (aCons (xVar 6) aNil))) aNil)) (xC (.str "ok"))))
    (sRet (xC (.bl false)))
    sNil)
    (sSeq (sFor (iRange1 (xCall 2 (f__law_dip K) (aCons (xVar 2) (aCons (xC (.int 41)) aNil)))) (gSet 7)
    (sSeq (sIf (bNot (bOf (xCall 4 (f__law_called K) (aCons (xVar 2) (aCons (xVar 4) (aCons (xVar 8) (aCons (xVar 9) aNil)))))))
    (sRet (xC (.bl false)))
    sNil)
    (sIf (bAnd (bOf (xBin (oEq false) (xBin oMod (xVar 7) (xC (.int 5))) (xC (.int 0)))) (bNot (bOf (xCall 2 (f__law_equal K) (aCons (xVar 4) (aCons (xVar 8) aNil))))))
    (sRet (xC (.bl false)))
    sNil)))
    (sIf (bNot (bOf (xCall 2 (f__law_equal K) (aCons (xVar 4) (aCons (xVar 8) aNil)))))
    (sRet (xC (.bl false)))
    sNil))))))
    (sIf (bOf (xBin (oEq true) (xLst false (aCons (xMeth (He.ga K "Desk") "execute" 2 (f_Desk_execute K) (xVar 5) (aCons (xC (.str "text")) aNil)) (aCons (xMeth (He.ga K "Desk") "execute" 2 (f_Desk_execute K) (xVar 5) (aCons (xC (.str "names")) aNil)) aNil))) (xLst false (aCons (xC (.str "3 1,1")) (aCons (xC (.str "- - -")) aNil)))))
    (sRet (xC (.bl false)))
    sNil))))))
    (sRet (xC (.bl true))))
noncomputable def f_law (K : PySem.W.Frag) : List D → S → R D := fnB 11 (b_law K)
end L3

set_option Elab.async false
set_option linter.all false
set_option maxRecDepth 100000
set_option maxHeartbeats 0
namespace L3
open PySem PySem.Spec PyProof.Rows L2
structure TT (K : PySem.W.Frag) (mg : Str → Option Value) : Prop where
  z_len : mg "len" = none
  z_min : mg "min" = none
  z_max : mg "max" = none
  z_range : mg "range" = none
  F__law_urn : Def K "_law_urn" "_law_urn" s__law_urn (ad K (.g "_law_urn"))
  g__law_urn : mg "_law_urn" = some (.ref (He.ga K "_law_urn"))
  cl_Desk : Cls K (He.ga K "Desk")
  n_Desk_run_held : NoAttr K (He.ga K "Desk") "run_held"
  F_Desk___init__ : Def K "Desk.__init__" "__init__" s_Desk___init__ (ad K (.m "Desk" "__init__"))
  k_Desk : Mk K (He.ga K "Desk") (He.ma K (He.ga K "Desk") "__init__")
  g_Desk : mg "Desk" = some (.ref (He.ga K "Desk"))
  z_str : mg "str" = none
  z_isinstance : mg "isinstance" = none
  s_DIGITS : ∃ t, mg "DIGITS" = some (.str "0123456789" t)
  z_all : mg "all" = none
  z_int : mg "int" = none
  F_number_in : Def K "number_in" "number_in" s_number_in (ad K (.g "number_in"))
  i_MOST_DIGITS_desk : ∃ t, mg "MOST_DIGITS_desk" = some (.int 9 t)
  g_number_in : mg "number_in" = some (.ref (He.ga K "number_in"))
  t_ALONE : mg "ALONE" = some (.ref (He.ga K "ALONE")) ∧ KTup K (He.ga K "ALONE") ["undo", "names", "places", "text"]
  t_WITH_NUMBER : mg "WITH_NUMBER" = some (.ref (He.ga K "WITH_NUMBER")) ∧ KTup K (He.ga K "WITH_NUMBER") ["run", "step", "finish"]
  F_command_in : Def K "command_in" "command_in" s_command_in (ad K (.g "command_in"))
  g_command_in : mg "command_in" = some (.ref (He.ga K "command_in"))
  t_WITH_NAMES : mg "WITH_NAMES" = some (.ref (He.ga K "WITH_NAMES")) ∧ KTup K (He.ga K "WITH_NAMES") ["possible", "stuck", "least", "plan"]
  z_bool : mg "bool" = none
  F_is_whole : Def K "is_whole" "is_whole" s_is_whole (ad K (.g "is_whole"))
  i_MOST_PROCESSES : ∃ t, mg "MOST_PROCESSES" = some (.int 40 t)
  g_is_whole : mg "is_whole" = some (.ref (He.ga K "is_whole"))
  F_need_count : Def K "need_count" "need_count" s_need_count (ad K (.g "need_count"))
  g_need_count : mg "need_count" = some (.ref (He.ga K "need_count"))
  cl_Machine : Cls K (He.ga K "Machine")
  n_Machine_size : NoAttr K (He.ga K "Machine") "size"
  n_Machine_owners : NoAttr K (He.ga K "Machine") "owners"
  n_Machine_flags : NoAttr K (He.ga K "Machine") "flags"
  n_Machine_cells : NoAttr K (He.ga K "Machine") "cells"
  n_Machine_performed : NoAttr K (He.ga K "Machine") "performed"
  n_Machine_stopped : NoAttr K (He.ga K "Machine") "stopped"
  F_Machine___init__ : Def K "Machine.__init__" "__init__" s_Machine___init__ (ad K (.m "Machine" "__init__"))
  k_Machine : Mk K (He.ga K "Machine") (He.ma K (He.ga K "Machine") "__init__")
  g_Machine : mg "Machine" = some (.ref (He.ga K "Machine"))
  cl_Run : Cls K (He.ga K "Run")
  n_Run_machine : NoAttr K (He.ga K "Run") "machine"
  n_Run_schedule : NoAttr K (He.ga K "Run") "schedule"
  n_Run_past : NoAttr K (He.ga K "Run") "past"
  F_Run___init__ : Def K "Run.__init__" "__init__" s_Run___init__ (ad K (.m "Run" "__init__"))
  k_Run : Mk K (He.ga K "Run") (He.ma K (He.ga K "Run") "__init__")
  g_Run : mg "Run" = some (.ref (He.ga K "Run"))
  s_DONE : ∃ t, mg "DONE" = some (.str "ok" t)
  z_list : mg "list" = none
  F_Machine_may_step : Def K "Machine.may_step" "may_step" s_Machine_may_step (ad K (.m "Machine" "may_step"))
  m_Machine_may_step : Meth K (He.ga K "Machine") "may_step" (He.ma K (He.ga K "Machine") "may_step")
  F_Machine_moved : Def K "Machine.moved" "moved" s_Machine_moved (ad K (.m "Machine" "moved"))
  m_Machine_moved : Meth K (He.ga K "Machine") "moved" (He.ma K (He.ga K "Machine") "moved")
  F_Machine_advance : Def K "Machine.advance" "advance" s_Machine_advance (ad K (.m "Machine" "advance"))
  m_Machine_advance : Meth K (He.ga K "Machine") "advance" (He.ma K (He.ga K "Machine") "advance")
  F_machine_after : Def K "machine_after" "machine_after" s_machine_after (ad K (.g "machine_after"))
  g_machine_after : mg "machine_after" = some (.ref (He.ga K "machine_after"))
  F_Run_undo : Def K "Run.undo" "undo" s_Run_undo (ad K (.m "Run" "undo"))
  m_Run_undo : Meth K (He.ga K "Run") "undo" (He.ma K (He.ga K "Run") "undo")
  F_first_name : Def K "first_name" "first_name" s_first_name (ad K (.g "first_name"))
  g_first_name : mg "first_name" = some (.ref (He.ga K "first_name"))
  F_name_in : Def K "name_in" "name_in" s_name_in (ad K (.g "name_in"))
  g_name_in : mg "name_in" = some (.ref (He.ga K "name_in"))
  F_Machine_name_at : Def K "Machine.name_at" "name_at" s_Machine_name_at (ad K (.m "Machine" "name_at"))
  m_Machine_name_at : Meth K (He.ga K "Machine") "name_at" (He.ma K (He.ga K "Machine") "name_at")
  F_Machine_names : Def K "Machine.names" "names" s_Machine_names (ad K (.m "Machine" "names"))
  m_Machine_names : Meth K (He.ga K "Machine") "names" (He.ma K (He.ga K "Machine") "names")
  F_Run_names_now : Def K "Run.names_now" "names_now" s_Run_names_now (ad K (.p "Run" "names_now"))
  p_Run_names_now : PropOf K (He.ga K "Run") "names_now" (He.ma K (He.ga K "Run") "names_now") (pad K "Run" "names_now")
  s_OPEN : ∃ t, mg "OPEN" = some (.str "-" t)
  F_Run_places_now : Def K "Run.places_now" "places_now" s_Run_places_now (ad K (.p "Run" "places_now"))
  p_Run_places_now : PropOf K (He.ga K "Run") "places_now" (He.ma K (He.ga K "Run") "places_now") (pad K "Run" "places_now")
  s_SPACE : ∃ t, mg "SPACE" = some (.str " " t)
  s_COMMA : ∃ t, mg "COMMA" = some (.str "," t)
  s_EMPTY : ∃ t, mg "EMPTY" = some (.str "-" t)
  F_schedule_text : Def K "schedule_text" "schedule_text" s_schedule_text (ad K (.g "schedule_text"))
  g_schedule_text : mg "schedule_text" = some (.ref (He.ga K "schedule_text"))
  F_show_run : Def K "show_run" "show_run" s_show_run (ad K (.g "show_run"))
  F_Run_process_count : Def K "Run.process_count" "process_count" s_Run_process_count (ad K (.p "Run" "process_count"))
  p_Run_process_count : PropOf K (He.ga K "Run") "process_count" (He.ma K (He.ga K "Run") "process_count") (pad K "Run" "process_count")
  F_Run_steps_done : Def K "Run.steps_done" "steps_done" s_Run_steps_done (ad K (.p "Run" "steps_done"))
  p_Run_steps_done : PropOf K (He.ga K "Run") "steps_done" (He.ma K (He.ga K "Run") "steps_done") (pad K "Run" "steps_done")
  g_show_run : mg "show_run" = some (.ref (He.ga K "show_run"))
  F_Desk_reported : Def K "Desk.reported" "reported" s_Desk_reported (ad K (.m "Desk" "reported"))
  m_Desk_reported : Meth K (He.ga K "Desk") "reported" (He.ma K (He.ga K "Desk") "reported")
  F_Run_need_process : Def K "Run.need_process" "need_process" s_Run_need_process (ad K (.m "Run" "need_process"))
  m_Run_need_process : Meth K (He.ga K "Run") "need_process" (He.ma K (He.ga K "Run") "need_process")
  F_Machine_told : Def K "Machine.told" "told" s_Machine_told (ad K (.m "Machine" "told"))
  m_Machine_told : Meth K (He.ga K "Machine") "told" (He.ma K (He.ga K "Machine") "told")
  F_Run_perform : Def K "Run.perform" "perform" s_Run_perform (ad K (.m "Run" "perform"))
  m_Run_perform : Meth K (He.ga K "Run") "perform" (He.ma K (He.ga K "Run") "perform")
  F_Run_finish : Def K "Run.finish" "finish" s_Run_finish (ad K (.m "Run" "finish"))
  m_Run_finish : Meth K (He.ga K "Run") "finish" (He.ma K (He.ga K "Run") "finish")
  F_Run_step : Def K "Run.step" "step" s_Run_step (ad K (.m "Run" "step"))
  m_Run_step : Meth K (He.ga K "Run") "step" (He.ma K (He.ga K "Run") "step")
  F_Desk_moved : Def K "Desk.moved" "moved" s_Desk_moved (ad K (.m "Desk" "moved"))
  m_Desk_moved : Meth K (He.ga K "Desk") "moved" (He.ma K (He.ga K "Desk") "moved")
  F_Desk_execute : Def K "Desk.execute" "execute" s_Desk_execute (ad K (.m "Desk" "execute"))
  m_Desk_execute : Meth K (He.ga K "Desk") "execute" (He.ma K (He.ga K "Desk") "execute")
  F__law_dip : Def K "_law_dip" "_law_dip" s__law_dip (ad K (.g "_law_dip"))
  g__law_dip : mg "_law_dip" = some (.ref (He.ga K "_law_dip"))
  z_enumerate : mg "enumerate" = none
  F_Run___len__ : Def K "Run.__len__" "__len__" s_Run___len__ (ad K (.m "Run" "__len__"))
  m_Run___len__ : Meth K (He.ga K "Run") "__len__" (He.ma K (He.ga K "Run") "__len__")
  F__law_called : Def K "_law_called" "_law_called" s__law_called (ad K (.g "_law_called"))
  g__law_called : mg "_law_called" = some (.ref (He.ga K "_law_called"))
  F__law_equal : Def K "_law_equal" "_law_equal" s__law_equal (ad K (.g "_law_equal"))
  g__law_equal : mg "_law_equal" = some (.ref (He.ga K "_law_equal"))
  F_law : Def K "law" "law" s_law (ad K (.g "law"))
  g_law : mg "law" = some (.ref (He.ga K "law"))
section
variable {P : Program} {w : World} {K : PySem.W.Frag} {mg : Str → Option Value} {base : Heap}
theorem ok__law_urn (T : TT K mg) : Good P w K mg base 1 (ad K (.g "_law_urn")) ["script", "k"] 2 (f__law_urn K) := by
  refine good_of 2 3 T.F__law_urn sc__law_urn rfl rfl (fun _ _ _ _ _ _ us hl => match us, hl with | [_, _], _ => rfl) (fun cdv A outer s H E hr => ?_)
  have tk : Takes (cxOf (L2.CX P w) P w K mg base ["script", "k", "cell"] "_law_urn" (defScope s__law_urn) (ad K (.g "_law_urn")) cdv A outer s H E) (wE E) := takes_of rfl rfl rfl rfl
  unfold b__law_urn
  exact (ks_cons (ks_set 2 sc__law_urn.nd rfl (by first | exact .inl rfl | exact .inr rfl) px_int)
    (ks_cons (ks_if (pt_lt (px_var 1) (px_len rfl T.z_len (pa_cons' (px_var 0) pa_nil')))
    (ks_one (ks_set 2 sc__law_urn.nd rfl (by first | exact .inl rfl | exact .inr rfl) (px_ix (px_var 0) (px_var 1) (fun _ _ => rfl))))
    ks_nil)
    (ks_one (ks_ret (px_lst true (pa_cons' (px_max2 rfl rfl T.z_max (pa_cons' px_int (pa_cons' (px_sub (px_var 2) (px_pow px_int px_int)) pa_nil'))) (pa_cons' (px_add false (px_add false (px_mul false (px_mod (px_var 2) (px_add false (px_pow px_int px_int) px_int)) px_int) (px_mul false px_int (px_var 1))) px_int) (pa_cons' px_int pa_nil'))))))))
theorem ok_Desk___init__ (T : TT K mg) : Good P w K mg base 1 (ad K (.m "Desk" "__init__")) ["self"] 1 (f_Desk___init__ K) := by
  refine good_of 1 1 T.F_Desk___init__ sc_Desk___init__ rfl rfl (fun _ _ _ _ _ _ us hl => match us, hl with | [_], _ => rfl) (fun cdv A outer s H E hr => ?_)
  have tk : Takes (cxOf (L2.CX P w) P w K mg base ["self"] "Desk.__init__" (defScope s_Desk___init__) (ad K (.m "Desk" "__init__")) cdv A outer s H E) (wE E) := takes_of rfl rfl rfl rfl
  unfold b_Desk___init__
  exact (ks_one (ks_fld T.cl_Desk T.n_Desk_run_held (px_var 0) px_non))
theorem ok_number_in (T : TT K mg) : Good P w K mg base 2 (ad K (.g "number_in")) ["word", "most_digits"] 2 (f_number_in K) := by
  refine good_of 2 3 T.F_number_in sc_number_in rfl rfl (fun _ _ _ _ _ _ us hl => match us, hl with | [_, _], _ => rfl) (fun cdv A outer s H E hr => ?_)
  have tk : Takes (cxOf (L2.CX P w) P w K mg base ["word", "most_digits", "sign"] "number_in" (defScope s_number_in) (ad K (.g "number_in")) cdv A outer s H E) (wE E) := takes_of rfl rfl rfl rfl
  unfold b_number_in
  exact (ks_cons (ks_if (pxt_w (pxw_or (pxt_not (pt_chain' op_le oIB_ok op_le oIB_ok px_int (px_len rfl T.z_len (pa_cons' (px_var 0) pa_nil')) (px_var 1))) (pxw_one (pxt_not (pt_val' (px_allC rfl rfl T.z_all (pa_cons' (px_comp false (us := [2]) (own := [("sign", 2)]) rfl sc_number_in.nd (by decide) (ki_str (px_var 0)) (blkOk_by (by kernel_rfl)) (fun _ _ _ _ _ => (kg_name 2 sc_number_in.nd rfl (by first | exact .inl rfl | exact .inr rfl))) (fun _ _ _ _ _ => kts_nil) (fun _ _ _ _ _ => (px_in (hu65 hr) (px_var 2) (qx_globS rfl T.s_DIGITS) (by with_unfolding_all rfl)))) pa_nil')))))))
    (ks_one (ks_ret px_non))
    ks_nil)
    (ks_one (ks_ret (px_if (pxt_w (pxw_or (pt_eq (hu64 hr) (px_var 0) px_str) (pxw_one (pt_ne (hu64 hr) (px_ix (px_var 0) px_int (fun _ _ => rfl)) px_str)))) (px_intC rfl T.z_int (pa_cons' (px_var 0) pa_nil')) px_non))))
theorem ok_command_in (T : TT K mg) : Good P w K mg base 3 (ad K (.g "command_in")) ["row"] 1 (f_command_in K) := by
  refine good_of 1 5 T.F_command_in sc_command_in rfl rfl (fun _ _ _ _ _ _ us hl => match us, hl with | [_], _ => rfl) (fun cdv A outer s H E hr => ?_)
  have tk : Takes (cxOf (L2.CX P w) P w K mg base ["row", "words", "number", "word", "rest"] "command_in" (defScope s_command_in) (ad K (.g "command_in")) cdv A outer s H E) (wE E) := takes_of rfl rfl rfl rfl
  unfold b_command_in
  exact (ks_cons (ks_if (pxt_not (pt_val' (px_isi rfl T.z_isinstance (pa_cons' (px_var 0) (pa_cons' (px_bltT rfl T.z_str (by decide +kernel)) pa_nil')))))
    (ks_one ks_never)
    ks_nil)
    (ks_cons (ks_set 1 sc_command_in.nd rfl (by first | exact .inl rfl | exact .inr rfl) (px_split false (px_var 0) (pa_cons' px_str pa_nil')))
    (ks_cons (ks_set 2 sc_command_in.nd rfl (by first | exact .inl rfl | exact .inr rfl) (qx_call (ok_number_in T) hr (by decide) tk rfl T.g_number_in (pa_cons' (px_ix (px_var 1) (px_neg px_int) (fun _ _ => rfl)) (pa_cons' (qx_globI rfl T.i_MOST_DIGITS_desk) pa_nil'))))
    (ks_one (ks_match (px_var 1)
    (km_case sc_command_in.nd (kp_seq (n := 1) rfl (kps_cons kp_name kps_nil)) (.cons 3 rfl (by first | exact .inl rfl | exact .inr rfl) (by first | exact .inl rfl | exact .inr rfl) .nil) (pt_inC ["undo", "names", "places", "text"] (hu65 hr) (px_var 3) rfl T.t_ALONE.1 T.t_ALONE.2) (ks_one (ks_ret (px_tup (pa_cons' (px_var 3) (pa_cons' px_non pa_nil')))))
    (km_case sc_command_in.nd (kp_seq (n := 2) rfl (kps_cons kp_name (kps_cons kp_any kps_nil))) (.cons 3 rfl (by first | exact .inl rfl | exact .inr rfl) (by first | exact .inl rfl | exact .inr rfl) .nil) (pxt_w (pxw_and (pt_inC ["run", "step", "finish"] (hu65 hr) (px_var 3) rfl T.t_WITH_NUMBER.1 T.t_WITH_NUMBER.2) (pxw_one (pt_notN (px_var 2) px_non)))) (ks_one (ks_ret (px_tup (pa_cons' (px_var 3) (pa_cons' (px_var 2) pa_nil')))))
    km_never)))))))
theorem ok_is_whole (T : TT K mg) : Good P w K mg base 1 (ad K (.g "is_whole")) ["value", "least", "most"] 3 (f_is_whole K) := by
  refine good_of 3 3 T.F_is_whole sc_is_whole rfl rfl (fun _ _ _ _ _ _ us hl => match us, hl with | [_, _, _], _ => rfl) (fun cdv A outer s H E hr => ?_)
  have tk : Takes (cxOf (L2.CX P w) P w K mg base ["value", "least", "most"] "is_whole" (defScope s_is_whole) (ad K (.g "is_whole")) cdv A outer s H E) (wE E) := takes_of rfl rfl rfl rfl
  unfold b_is_whole
  exact (ks_one (ks_ret (px_and (px_isi rfl T.z_isinstance (pa_cons' (px_var 0) (pa_cons' (px_bltT rfl T.z_int (by decide +kernel)) pa_nil'))) (px_and (px_not (px_isi rfl T.z_isinstance (pa_cons' (px_var 0) (pa_cons' (px_bltT rfl T.z_bool (by decide +kernel)) pa_nil')))) (px_one (px_chain op_le oIB_ok op_le oIB_ok (px_var 1) (px_var 0) (px_var 2)))))))
theorem ok_need_count (T : TT K mg) : Good P w K mg base 2 (ad K (.g "need_count")) ["value"] 1 (f_need_count K) := by
  refine good_of 1 1 T.F_need_count sc_need_count rfl rfl (fun _ _ _ _ _ _ us hl => match us, hl with | [_], _ => rfl) (fun cdv A outer s H E hr => ?_)
  have tk : Takes (cxOf (L2.CX P w) P w K mg base ["value"] "need_count" (defScope s_need_count) (ad K (.g "need_count")) cdv A outer s H E) (wE E) := takes_of rfl rfl rfl rfl
  unfold b_need_count
  exact (ks_one (ks_if (pxt_not (pt_val' (qx_call (ok_is_whole T) hr (by decide) tk rfl T.g_is_whole (pa_cons' (px_var 0) (pa_cons' px_int (pa_cons' (qx_globI rfl T.i_MOST_PROCESSES) pa_nil'))))))
    (ks_one ks_never)
    ks_nil))
theorem ok_Machine___init__ (T : TT K mg) : Good P w K mg base 1 (ad K (.m "Machine" "__init__")) ["self", "count"] 2 (f_Machine___init__ K) := by
  refine good_of 2 2 T.F_Machine___init__ sc_Machine___init__ rfl rfl (fun _ _ _ _ _ _ us hl => match us, hl with | [_, _], _ => rfl) (fun cdv A outer s H E hr => ?_)
  have tk : Takes (cxOf (L2.CX P w) P w K mg base ["self", "count"] "Machine.__init__" (defScope s_Machine___init__) (ad K (.m "Machine" "__init__")) cdv A outer s H E) (wE E) := takes_of rfl rfl rfl rfl
  unfold b_Machine___init__
  exact (ks_cons (ks_fld T.cl_Machine T.n_Machine_size (px_var 0) (px_var 1))
    (ks_cons (ks_fld T.cl_Machine T.n_Machine_owners (px_var 0) (px_dnew true))
    (ks_cons (ks_fld T.cl_Machine T.n_Machine_flags (px_var 0) (px_dnew true))
    (ks_cons (ks_fld T.cl_Machine T.n_Machine_cells (px_var 0) (px_mul true (px_lst true (pa_cons' (px_tup (pa_cons' px_int (pa_cons' px_int pa_nil'))) pa_nil')) (px_var 1)))
    (ks_cons (ks_fld T.cl_Machine T.n_Machine_performed (px_var 0) (px_mul true (px_lst true (pa_cons' px_int pa_nil')) (px_var 1)))
    (ks_one (ks_fld T.cl_Machine T.n_Machine_stopped (px_var 0) (px_mul true (px_lst true (pa_cons' px_bl pa_nil')) (px_var 1)))))))))
theorem ok_Run___init__ (T : TT K mg) : Good P w K mg base 3 (ad K (.m "Run" "__init__")) ["self", "count"] 2 (f_Run___init__ K) := by
  refine good_of 2 2 T.F_Run___init__ sc_Run___init__ rfl rfl (fun _ _ _ _ _ _ us hl => match us, hl with | [_, _], _ => rfl) (fun cdv A outer s H E hr => ?_)
  have tk : Takes (cxOf (L2.CX P w) P w K mg base ["self", "count"] "Run.__init__" (defScope s_Run___init__) (ad K (.m "Run" "__init__")) cdv A outer s H E) (wE E) := takes_of rfl rfl rfl rfl
  unfold b_Run___init__
  exact (ks_cons (ks_expr (qx_call (ok_need_count T) hr (by decide) tk rfl T.g_need_count (pa_cons' (px_var 1) pa_nil')))
    (ks_cons (ks_fld T.cl_Run T.n_Run_machine (px_var 0) (qx_make (ok_Machine___init__ T) hr (by decide) tk nr_Machine T.k_Machine rfl T.g_Machine (pa_cons' (px_var 1) pa_nil')))
    (ks_cons (ks_fld T.cl_Run T.n_Run_schedule (px_var 0) (px_lst true pa_nil'))
    (ks_one (ks_fld T.cl_Run T.n_Run_past (px_var 0) (px_lst true pa_nil'))))))
theorem ok_Machine_may_step (T : TT K mg) : Good P w K mg base 2 (ad K (.m "Machine" "may_step")) ["self", "process"] 2 (f_Machine_may_step K) := by
  refine good_of 2 2 T.F_Machine_may_step sc_Machine_may_step rfl rfl (fun _ _ _ _ _ _ us hl => match us, hl with | [_, _], _ => rfl) (fun cdv A outer s H E hr => ?_)
  have tk : Takes (cxOf (L2.CX P w) P w K mg base ["self", "process"] "Machine.may_step" (defScope s_Machine_may_step) (ad K (.m "Machine" "may_step")) cdv A outer s H E) (wE E) := takes_of rfl rfl rfl rfl
  unfold b_Machine_may_step
  exact (ks_one (ks_ret (px_and (qx_call (ok_is_whole T) hr (by decide) tk rfl T.g_is_whole (pa_cons' (px_var 1) (pa_cons' px_int (pa_cons' (px_sub (px_fld T.cl_Machine T.n_Machine_size (px_var 0)) px_int) pa_nil')))) (px_one (px_not (px_ix (px_fld T.cl_Machine T.n_Machine_stopped (px_var 0)) (px_var 1) (fun _ _ => rfl)))))))
theorem ok_Machine_moved (T : TT K mg) : Good P w K mg base 1 (ad K (.m "Machine" "moved")) ["self", "process", "result"] 3 (f_Machine_moved K) := by
  refine good_of 3 5 T.F_Machine_moved sc_Machine_moved rfl rfl (fun _ _ _ _ _ _ us hl => match us, hl with | [_, _, _], _ => rfl) (fun cdv A outer s H E hr => ?_)
  have tk : Takes (cxOf (L2.CX P w) P w K mg base ["self", "process", "result", "right", "down"] "Machine.moved" (defScope s_Machine_moved) (ad K (.m "Machine" "moved")) cdv A outer s H E) (wE E) := takes_of rfl rfl rfl rfl
  unfold b_Machine_moved
  exact (ks_cons (ks_asg (px_ix (px_fld T.cl_Machine T.n_Machine_cells (px_var 0)) (px_var 1) (fun _ _ => rfl)) (kg_tup (n := 2) rfl (kgs_cons (kg_name 3 sc_Machine_moved.nd rfl (by first | exact .inl rfl | exact .inr rfl)) (kgs_cons (kg_name 4 sc_Machine_moved.nd rfl (by first | exact .inl rfl | exact .inr rfl)) kgs_nil))))
    (ks_cons (ks_asg (px_if (pt_eq (hu64 hr) (px_var 2) px_str) (px_tup (pa_cons' (px_add false (px_var 3) px_int) (pa_cons' (px_var 4) pa_nil'))) (px_tup (pa_cons' (px_var 3) (pa_cons' (px_add false (px_var 4) px_int) pa_nil')))) (kg_sub (W := WN) (px_fld T.cl_Machine T.n_Machine_cells (px_var 0)) (px_var 1)))
    (ks_cons (ks_asg px_int (kg_sub (W := WN) (px_fld T.cl_Machine T.n_Machine_performed (px_var 0)) (px_var 1)))
    (ks_one (ks_ret (px_var 2))))))
theorem ok_Machine_advance (T : TT K mg) : Good P w K mg base 2 (ad K (.m "Machine" "advance")) ["self", "process"] 2 (f_Machine_advance K) := by
  refine good_of 2 4 T.F_Machine_advance sc_Machine_advance rfl rfl (fun _ _ _ _ _ _ us hl => match us, hl with | [_, _], _ => rfl) (fun cdv A outer s H E hr => ?_)
  have tk : Takes (cxOf (L2.CX P w) P w K mg base ["self", "process", "cell", "number"] "Machine.advance" (defScope s_Machine_advance) (ad K (.m "Machine" "advance")) cdv A outer s H E) (wE E) := takes_of rfl rfl rfl rfl
  unfold b_Machine_advance
  exact (ks_cons (ks_par (i := 2) (j := 3) rfl sc_Machine_advance.nd rfl rfl (by decide) rfl rfl (pa_cons' (px_ix (px_fld T.cl_Machine T.n_Machine_cells (px_var 0)) (px_var 1) (fun _ _ => rfl)) (pa_cons' (px_ix (px_fld T.cl_Machine T.n_Machine_performed (px_var 0)) (px_var 1) (fun _ _ => rfl)) pa_nil')) (by rfl))
    (ks_cons (ks_asg (px_add true (px_var 3) px_int) (kg_sub (W := WN) (px_fld T.cl_Machine T.n_Machine_performed (px_var 0)) (px_var 1)))
    (ks_cons (ks_if (pt_eq (hu64 hr) (px_var 3) px_int)
    (ks_one (ks_dput (hu1 hr) (px_fld T.cl_Machine T.n_Machine_owners (px_var 0)) (px_var 2) (px_var 1)))
    (ks_one (ks_if (pt_eq (hu64 hr) (px_var 3) px_int)
    (ks_one (ks_if (pt_val' (px_dget2 (hu1 hr) (px_fld T.cl_Machine T.n_Machine_flags (px_var 0)) (px_var 2) px_bl ⟨rfl, rfl, rfl, rfl⟩))
    (ks_one (ks_ret (qx_meth (ok_Machine_moved T) hr (by decide) tk T.cl_Machine T.m_Machine_moved (px_var 0) (pa_cons' (px_var 1) (pa_cons' px_str pa_nil')))))
    ks_nil))
    (ks_one (ks_if (pt_eq (hu64 hr) (px_var 3) px_int)
    (ks_one (ks_dput (hu1 hr) (px_fld T.cl_Machine T.n_Machine_flags (px_var 0)) (px_var 2) px_bl))
    (ks_one (ks_if (pt_eq (hu64 hr) (px_dget (hu1 hr) (px_fld T.cl_Machine T.n_Machine_owners (px_var 0)) (px_var 2) (fun _ _ => rfl)) (px_var 1))
    (ks_cons (ks_asg px_bl (kg_sub (W := WN) (px_fld T.cl_Machine T.n_Machine_stopped (px_var 0)) (px_var 1)))
    (ks_one (ks_ret px_str)))
    (ks_one (ks_ret (qx_meth (ok_Machine_moved T) hr (by decide) tk T.cl_Machine T.m_Machine_moved (px_var 0) (pa_cons' (px_var 1) (pa_cons' px_str pa_nil'))))))))))))
    (ks_one (ks_ret px_non)))))
theorem ok_machine_after (T : TT K mg) : Good P w K mg base 3 (ad K (.g "machine_after")) ["count", "schedule"] 2 (f_machine_after K) := by
  refine good_of 2 4 T.F_machine_after sc_machine_after rfl rfl (fun _ _ _ _ _ _ us hl => match us, hl with | [_, _], _ => rfl) (fun cdv A outer s H E hr => ?_)
  have tk : Takes (cxOf (L2.CX P w) P w K mg base ["count", "schedule", "machine", "process"] "machine_after" (defScope s_machine_after) (ad K (.g "machine_after")) cdv A outer s H E) (wE E) := takes_of rfl rfl rfl rfl
  unfold b_machine_after
  exact (ks_cons (ks_if (pxt_not (pt_val' (px_isi rfl T.z_isinstance (pa_cons' (px_var 1) (pa_cons' (px_bltT rfl T.z_list (by decide +kernel)) pa_nil')))))
    (ks_one ks_never)
    ks_nil)
    (ks_cons (ks_set 2 sc_machine_after.nd rfl (by first | exact .inl rfl | exact .inr rfl) (qx_make (ok_Machine___init__ T) hr (by decide) tk nr_Machine T.k_Machine rfl T.g_Machine (pa_cons' (px_var 0) pa_nil')))
    (ks_cons (ks_for (passes_of rfl) rfl (ki_seq (px_var 1)) (kg_name 3 sc_machine_after.nd rfl (by first | exact .inl rfl | exact .inr rfl))
    (ks_cons (ks_if (pxt_not (pt_val' (qx_meth (ok_Machine_may_step T) hr (by decide) tk T.cl_Machine T.m_Machine_may_step (px_var 2) (pa_cons' (px_var 3) pa_nil'))))
    (ks_one ks_never)
    ks_nil)
    (ks_one (ks_expr (qx_meth (ok_Machine_advance T) hr (by decide) tk T.cl_Machine T.m_Machine_advance (px_var 2) (pa_cons' (px_var 3) pa_nil'))))))
    (ks_one (ks_ret (px_var 2))))))
theorem ok_Run_undo (T : TT K mg) : Good P w K mg base 4 (ad K (.m "Run" "undo")) ["self"] 1 (f_Run_undo K) := by
  refine good_of 1 1 T.F_Run_undo sc_Run_undo rfl rfl (fun _ _ _ _ _ _ us hl => match us, hl with | [_], _ => rfl) (fun cdv A outer s H E hr => ?_)
  have tk : Takes (cxOf (L2.CX P w) P w K mg base ["self"] "Run.undo" (defScope s_Run_undo) (ad K (.m "Run" "undo")) cdv A outer s H E) (wE E) := takes_of rfl rfl rfl rfl
  unfold b_Run_undo
  exact (ks_cons (ks_if (pt_eq (hu64 hr) (px_fld T.cl_Run T.n_Run_past (px_var 0)) (px_lst false pa_nil'))
    (ks_one ks_never)
    ks_nil)
    (ks_cons (ks_fld T.cl_Run T.n_Run_schedule (px_var 0) (px_sl true (px_fld T.cl_Run T.n_Run_schedule (px_var 0)) ko_none (ko_some (px_pop (px_fld T.cl_Run T.n_Run_past (px_var 0))))))
    (ks_one (ks_fld T.cl_Run T.n_Run_machine (px_var 0) (qx_call (ok_machine_after T) hr (by decide) tk rfl T.g_machine_after (pa_cons' (px_fld T.cl_Machine T.n_Machine_size (px_fld T.cl_Run T.n_Run_machine (px_var 0))) (pa_cons' (px_fld T.cl_Run T.n_Run_schedule (px_var 0)) pa_nil')))))))
theorem ok_first_name (T : TT K mg) : Good P w K mg base 1 (ad K (.g "first_name")) ["diagonal"] 1 (f_first_name K) := by
  refine good_of 1 1 T.F_first_name sc_first_name rfl rfl (fun _ _ _ _ _ _ us hl => match us, hl with | [_], _ => rfl) (fun cdv A outer s H E hr => ?_)
  have tk : Takes (cxOf (L2.CX P w) P w K mg base ["diagonal"] "first_name" (defScope s_first_name) (ad K (.g "first_name")) cdv A outer s H E) (wE E) := takes_of rfl rfl rfl rfl
  unfold b_first_name
  exact (ks_one (ks_ret (px_fdiv (px_mul false (px_var 0) (px_add false (px_var 0) px_int)) px_int)))
theorem ok_name_in (T : TT K mg) : Good P w K mg base 2 (ad K (.g "name_in")) ["right", "down"] 2 (f_name_in K) := by
  refine good_of 2 2 T.F_name_in sc_name_in rfl rfl (fun _ _ _ _ _ _ us hl => match us, hl with | [_, _], _ => rfl) (fun cdv A outer s H E hr => ?_)
  have tk : Takes (cxOf (L2.CX P w) P w K mg base ["right", "down"] "name_in" (defScope s_name_in) (ad K (.g "name_in")) cdv A outer s H E) (wE E) := takes_of rfl rfl rfl rfl
  unfold b_name_in
  exact (ks_one (ks_ret (px_add false (qx_call (ok_first_name T) hr (by decide) tk rfl T.g_first_name (pa_cons' (px_add false (px_var 0) (px_var 1)) pa_nil')) (px_var 0))))
theorem ok_Machine_name_at (T : TT K mg) : Good P w K mg base 3 (ad K (.m "Machine" "name_at")) ["self", "process"] 2 (f_Machine_name_at K) := by
  refine good_of 2 4 T.F_Machine_name_at sc_Machine_name_at rfl rfl (fun _ _ _ _ _ _ us hl => match us, hl with | [_, _], _ => rfl) (fun cdv A outer s H E hr => ?_)
  have tk : Takes (cxOf (L2.CX P w) P w K mg base ["self", "process", "right", "down"] "Machine.name_at" (defScope s_Machine_name_at) (ad K (.m "Machine" "name_at")) cdv A outer s H E) (wE E) := takes_of rfl rfl rfl rfl
  unfold b_Machine_name_at
  exact (ks_cons (ks_asg (px_ix (px_fld T.cl_Machine T.n_Machine_cells (px_var 0)) (px_var 1) (fun _ _ => rfl)) (kg_tup (n := 2) rfl (kgs_cons (kg_name 2 sc_Machine_name_at.nd rfl (by first | exact .inl rfl | exact .inr rfl)) (kgs_cons (kg_name 3 sc_Machine_name_at.nd rfl (by first | exact .inl rfl | exact .inr rfl)) kgs_nil))))
    (ks_one (ks_ret (qx_call (ok_name_in T) hr (by decide) tk rfl T.g_name_in (pa_cons' (px_var 2) (pa_cons' (px_var 3) pa_nil'))))))
theorem ok_Machine_names (T : TT K mg) : Good P w K mg base 4 (ad K (.m "Machine" "names")) ["self"] 1 (f_Machine_names K) := by
  refine good_of 1 2 T.F_Machine_names sc_Machine_names rfl rfl (fun _ _ _ _ _ _ us hl => match us, hl with | [_], _ => rfl) (fun cdv A outer s H E hr => ?_)
  have tk : Takes (cxOf (L2.CX P w) P w K mg base ["self", "process"] "Machine.names" (defScope s_Machine_names) (ad K (.m "Machine" "names")) cdv A outer s H E) (wE E) := takes_of rfl rfl rfl rfl
  unfold b_Machine_names
  exact (ks_one (ks_ret (px_comp false (us := [1]) (own := [("process", 1)]) rfl sc_Machine_names.nd (by decide) (ki_range1 rfl T.z_range (px_fld T.cl_Machine T.n_Machine_size (px_var 0))) (blkOk_by (by kernel_rfl)) (fun _ _ _ _ _ => (kg_name 1 sc_Machine_names.nd rfl (by first | exact .inl rfl | exact .inr rfl))) (fun _ _ _ _ _ => kts_nil) (fun _ _ _ _ _ => (px_if (pt_val' (px_ix (px_fld T.cl_Machine T.n_Machine_stopped (px_var 0)) (px_var 1) (fun _ _ => rfl))) (qx_meth (ok_Machine_name_at T) hr (by decide) takes0 T.cl_Machine T.m_Machine_name_at (px_var 0) (pa_cons' (px_var 1) pa_nil')) px_non)))))
theorem ok_Run_names_now (T : TT K mg) : Good P w K mg base 5 (ad K (.p "Run" "names_now")) ["self"] 1 (f_Run_names_now K) := by
  refine good_of 1 1 T.F_Run_names_now sc_Run_names_now rfl rfl (fun _ _ _ _ _ _ us hl => match us, hl with | [_], _ => rfl) (fun cdv A outer s H E hr => ?_)
  have tk : Takes (cxOf (L2.CX P w) P w K mg base ["self"] "Run.names_now" (defScope s_Run_names_now) (ad K (.p "Run" "names_now")) cdv A outer s H E) (wE E) := takes_of rfl rfl rfl rfl
  unfold b_Run_names_now
  exact (ks_one (ks_ret (qx_meth0 (ok_Machine_names T) hr (by decide) tk T.cl_Machine T.m_Machine_names (px_fld T.cl_Run T.n_Run_machine (px_var 0)))))
theorem ok_Run_places_now (T : TT K mg) : Good P w K mg base 4 (ad K (.p "Run" "places_now")) ["self"] 1 (f_Run_places_now K) := by
  refine good_of 1 3 T.F_Run_places_now sc_Run_places_now rfl rfl (fun _ _ _ _ _ _ us hl => match us, hl with | [_], _ => rfl) (fun cdv A outer s H E hr => ?_)
  have tk : Takes (cxOf (L2.CX P w) P w K mg base ["self", "machine", "process"] "Run.places_now" (defScope s_Run_places_now) (ad K (.p "Run" "places_now")) cdv A outer s H E) (wE E) := takes_of rfl rfl rfl rfl
  unfold b_Run_places_now
  exact (ks_cons (ks_set 1 sc_Run_places_now.nd rfl (by first | exact .inl rfl | exact .inr rfl) (px_fld T.cl_Run T.n_Run_machine (px_var 0)))
    (ks_one (ks_ret (px_comp false (us := [2]) (own := [("process", 2)]) rfl sc_Run_places_now.nd (by decide) (ki_range1 rfl T.z_range (px_fld T.cl_Machine T.n_Machine_size (px_var 1))) (blkOk_by (by kernel_rfl)) (fun _ _ _ _ _ => (kg_name 2 sc_Run_places_now.nd rfl (by first | exact .inl rfl | exact .inr rfl))) (fun _ _ _ _ _ => kts_nil) (fun _ _ _ _ _ => (px_tup (pa_cons' (qx_meth (ok_Machine_name_at T) hr (by decide) takes0 T.cl_Machine T.m_Machine_name_at (px_var 1) (pa_cons' (px_var 2) pa_nil')) (pa_cons' (px_ix (px_fld T.cl_Machine T.n_Machine_performed (px_var 1)) (px_var 2) (fun _ _ => rfl)) pa_nil'))))))))
theorem ok_schedule_text (T : TT K mg) : Good P w K mg base 1 (ad K (.g "schedule_text")) ["schedule"] 1 (f_schedule_text K) := by
  refine good_of 1 2 T.F_schedule_text sc_schedule_text rfl rfl (fun _ _ _ _ _ _ us hl => match us, hl with | [_], _ => rfl) (fun cdv A outer s H E hr => ?_)
  have tk : Takes (cxOf (L2.CX P w) P w K mg base ["schedule", "process"] "schedule_text" (defScope s_schedule_text) (ad K (.g "schedule_text")) cdv A outer s H E) (wE E) := takes_of rfl rfl rfl rfl
  unfold b_schedule_text
  exact (ks_one (ks_ret (px_if (pt_ne (hu64 hr) (px_var 0) (px_lst false pa_nil')) (px_join (qx_globS rfl T.s_COMMA) (pa_cons' (px_comp false (us := [1]) (own := [("process", 1)]) rfl sc_schedule_text.nd (by decide) (ki_seq (px_var 0)) (blkOk_by (by kernel_rfl)) (fun _ _ _ _ _ => (kg_name 1 sc_schedule_text.nd rfl (by first | exact .inl rfl | exact .inr rfl))) (fun _ _ _ _ _ => kts_nil) (fun _ _ _ _ _ => (px_strC rfl T.z_str (pa_cons' (px_var 1) pa_nil')))) pa_nil')) (qx_globS rfl T.s_EMPTY))))
theorem ok_show_run (T : TT K mg) : Good P w K mg base 4 (ad K (.g "show_run")) ["count", "schedule"] 2 (f_show_run K) := by
  refine good_of 2 2 T.F_show_run sc_show_run rfl rfl (fun _ _ _ _ _ _ us hl => match us, hl with | [_, _], _ => rfl) (fun cdv A outer s H E hr => ?_)
  have tk : Takes (cxOf (L2.CX P w) P w K mg base ["count", "schedule"] "show_run" (defScope s_show_run) (ad K (.g "show_run")) cdv A outer s H E) (wE E) := takes_of rfl rfl rfl rfl
  unfold b_show_run
  exact (ks_cons (ks_expr (qx_call (ok_need_count T) hr (by decide) tk rfl T.g_need_count (pa_cons' (px_var 0) pa_nil')))
    (ks_cons (ks_expr (qx_call (ok_machine_after T) hr (by decide) tk rfl T.g_machine_after (pa_cons' (px_var 0) (pa_cons' (px_var 1) pa_nil'))))
    (ks_one (ks_ret (px_add false (px_add false (px_strC rfl T.z_str (pa_cons' (px_var 0) pa_nil')) (qx_globS rfl T.s_SPACE)) (qx_call (ok_schedule_text T) hr (by decide) tk rfl T.g_schedule_text (pa_cons' (px_var 1) pa_nil')))))))
theorem ok_Run_process_count (T : TT K mg) : Good P w K mg base 1 (ad K (.p "Run" "process_count")) ["self"] 1 (f_Run_process_count K) := by
  refine good_of 1 1 T.F_Run_process_count sc_Run_process_count rfl rfl (fun _ _ _ _ _ _ us hl => match us, hl with | [_], _ => rfl) (fun cdv A outer s H E hr => ?_)
  have tk : Takes (cxOf (L2.CX P w) P w K mg base ["self"] "Run.process_count" (defScope s_Run_process_count) (ad K (.p "Run" "process_count")) cdv A outer s H E) (wE E) := takes_of rfl rfl rfl rfl
  unfold b_Run_process_count
  exact (ks_one (ks_ret (px_fld T.cl_Machine T.n_Machine_size (px_fld T.cl_Run T.n_Run_machine (px_var 0)))))
theorem ok_Run_steps_done (T : TT K mg) : Good P w K mg base 1 (ad K (.p "Run" "steps_done")) ["self"] 1 (f_Run_steps_done K) := by
  refine good_of 1 1 T.F_Run_steps_done sc_Run_steps_done rfl rfl (fun _ _ _ _ _ _ us hl => match us, hl with | [_], _ => rfl) (fun cdv A outer s H E hr => ?_)
  have tk : Takes (cxOf (L2.CX P w) P w K mg base ["self"] "Run.steps_done" (defScope s_Run_steps_done) (ad K (.p "Run" "steps_done")) cdv A outer s H E) (wE E) := takes_of rfl rfl rfl rfl
  unfold b_Run_steps_done
  exact (ks_one (ks_ret (px_listC false rfl T.z_list (pa_cons' (px_fld T.cl_Run T.n_Run_schedule (px_var 0)) pa_nil'))))
theorem ok_Desk_reported (T : TT K mg) : Good P w K mg base 7 (ad K (.m "Desk" "reported")) ["self", "word"] 2 (f_Desk_reported K) := by
  refine good_of 2 5 T.F_Desk_reported sc_Desk_reported rfl rfl (fun _ _ _ _ _ _ us hl => match us, hl with | [_, _], _ => rfl) (fun cdv A outer s H E hr => ?_)
  have tk : Takes (cxOf (L2.CX P w) P w K mg base ["self", "word", "run", "name", "number"] "Desk.reported" (defScope s_Desk_reported) (ad K (.m "Desk" "reported")) cdv A outer s H E) (wE E) := takes_of rfl rfl rfl rfl
  unfold b_Desk_reported
  exact (ks_cons (ks_set 2 sc_Desk_reported.nd rfl (by first | exact .inl rfl | exact .inr rfl) (px_fld T.cl_Desk T.n_Desk_run_held (px_var 0)))
    (ks_one (ks_match (px_var 1)
    (km_case0 sc_Desk_reported.nd kp_str .nil (ks_cons (ks_expr (qx_meth0 (ok_Run_undo T) hr (by decide) tk T.cl_Run T.m_Run_undo (px_var 2)))
    (ks_one (ks_ret (qx_globS rfl T.s_DONE))))
    (km_case0 sc_Desk_reported.nd kp_str .nil (ks_one (ks_ret (px_join px_str (pa_cons' (px_comp false (us := [3]) (own := [("name", 3)]) rfl sc_Desk_reported.nd (by decide) (ki_seq (qx_prop (ok_Run_names_now T) hr (by decide) T.cl_Run T.p_Run_names_now (px_var 2))) (blkOk_by (by kernel_rfl)) (fun _ _ _ _ _ => (kg_name 3 sc_Desk_reported.nd rfl (by first | exact .inl rfl | exact .inr rfl))) (fun _ _ _ _ _ => kts_nil) (fun _ _ _ _ _ => (px_if (pt_isN (px_var 3) px_non) (qx_globS rfl T.s_OPEN) (px_strC rfl T.z_str (pa_cons' (px_var 3) pa_nil'))))) pa_nil'))))
    (km_case0 sc_Desk_reported.nd kp_str .nil (ks_one (ks_ret (px_join px_str (pa_cons' (px_comp false (us := [3, 4]) (own := [("name", 3), ("number", 4)]) rfl sc_Desk_reported.nd (by decide) (ki_seq (qx_prop (ok_Run_places_now T) hr (by decide) T.cl_Run T.p_Run_places_now (px_var 2))) (blkOk_by (by kernel_rfl)) (fun _ _ _ _ _ => (kg_tup (n := 2) rfl (kgs_cons (kg_name 3 sc_Desk_reported.nd rfl (by first | exact .inl rfl | exact .inr rfl)) (kgs_cons (kg_name 4 sc_Desk_reported.nd rfl (by first | exact .inl rfl | exact .inr rfl)) kgs_nil)))) (fun _ _ _ _ _ => kts_nil) (fun _ _ _ _ _ => (px_strC rfl T.z_str (pa_cons' (px_var 3) pa_nil')))) pa_nil'))))
    (km_case0 sc_Desk_reported.nd kp_any .nil (ks_one (ks_ret (qx_call (ok_show_run T) hr (by decide) tk rfl T.g_show_run (pa_cons' (qx_prop (ok_Run_process_count T) hr (by decide) T.cl_Run T.p_Run_process_count (px_var 2)) (pa_cons' (qx_prop (ok_Run_steps_done T) hr (by decide) T.cl_Run T.p_Run_steps_done (px_var 2)) pa_nil')))))
    km_nil)))))))
theorem ok_Run_need_process (T : TT K mg) : Good P w K mg base 3 (ad K (.m "Run" "need_process")) ["self", "process"] 2 (f_Run_need_process K) := by
  refine good_of 2 2 T.F_Run_need_process sc_Run_need_process rfl rfl (fun _ _ _ _ _ _ us hl => match us, hl with | [_, _], _ => rfl) (fun cdv A outer s H E hr => ?_)
  have tk : Takes (cxOf (L2.CX P w) P w K mg base ["self", "process"] "Run.need_process" (defScope s_Run_need_process) (ad K (.m "Run" "need_process")) cdv A outer s H E) (wE E) := takes_of rfl rfl rfl rfl
  unfold b_Run_need_process
  exact (ks_one (ks_if (pxt_not (pt_val' (qx_meth (ok_Machine_may_step T) hr (by decide) tk T.cl_Machine T.m_Machine_may_step (px_fld T.cl_Run T.n_Run_machine (px_var 0)) (pa_cons' (px_var 1) pa_nil'))))
    (ks_one ks_never)
    ks_nil))
theorem ok_Machine_told (T : TT K mg) : Good P w K mg base 4 (ad K (.m "Machine" "told")) ["self", "process"] 2 (f_Machine_told K) := by
  refine good_of 2 3 T.F_Machine_told sc_Machine_told rfl rfl (fun _ _ _ _ _ _ us hl => match us, hl with | [_, _], _ => rfl) (fun cdv A outer s H E hr => ?_)
  have tk : Takes (cxOf (L2.CX P w) P w K mg base ["self", "process", "result"] "Machine.told" (defScope s_Machine_told) (ad K (.m "Machine" "told")) cdv A outer s H E) (wE E) := takes_of rfl rfl rfl rfl
  unfold b_Machine_told
  exact (ks_cons (ks_set 2 sc_Machine_told.nd rfl (by first | exact .inl rfl | exact .inr rfl) (qx_meth (ok_Machine_advance T) hr (by decide) tk T.cl_Machine T.m_Machine_advance (px_var 0) (pa_cons' (px_var 1) pa_nil')))
    (ks_one (ks_ret (px_if (pt_isN (px_var 2) px_non) px_non (px_tup (pa_cons' (px_var 2) (pa_cons' (qx_meth (ok_Machine_name_at T) hr (by decide) tk T.cl_Machine T.m_Machine_name_at (px_var 0) (pa_cons' (px_var 1) pa_nil')) pa_nil')))))))
theorem ok_Run_perform (T : TT K mg) : Good P w K mg base 5 (ad K (.m "Run" "perform")) ["self", "schedule"] 2 (f_Run_perform K) := by
  refine good_of 2 4 T.F_Run_perform sc_Run_perform rfl rfl (fun _ _ _ _ _ _ us hl => match us, hl with | [_, _], _ => rfl) (fun cdv A outer s H E hr => ?_)
  have tk : Takes (cxOf (L2.CX P w) P w K mg base ["self", "schedule", "found", "process"] "Run.perform" (defScope s_Run_perform) (ad K (.m "Run" "perform")) cdv A outer s H E) (wE E) := takes_of rfl rfl rfl rfl
  unfold b_Run_perform
  exact (ks_cons (ks_set 2 sc_Run_perform.nd rfl (by first | exact .inl rfl | exact .inr rfl) (px_lst true pa_nil'))
    (ks_cons (ks_for (passes_of rfl) rfl (ki_seq (px_var 1)) (kg_name 3 sc_Run_perform.nd rfl (by first | exact .inl rfl | exact .inr rfl))
    (ks_cons (ks_expr (px_append (px_var 2) (pa_cons' (qx_meth (ok_Machine_told T) hr (by decide) tk T.cl_Machine T.m_Machine_told (px_fld T.cl_Run T.n_Run_machine (px_var 0)) (pa_cons' (px_var 3) pa_nil')) pa_nil')))
    (ks_one (ks_expr (px_append (px_fld T.cl_Run T.n_Run_schedule (px_var 0)) (pa_cons' (px_var 3) pa_nil'))))))
    (ks_one (ks_ret (px_var 2)))))
theorem ok_Run_finish (T : TT K mg) : Good P w K mg base 6 (ad K (.m "Run" "finish")) ["self", "process"] 2 (f_Run_finish K) := by
  refine good_of 2 2 T.F_Run_finish sc_Run_finish rfl rfl (fun _ _ _ _ _ _ us hl => match us, hl with | [_, _], _ => rfl) (fun cdv A outer s H E hr => ?_)
  have tk : Takes (cxOf (L2.CX P w) P w K mg base ["self", "process"] "Run.finish" (defScope s_Run_finish) (ad K (.m "Run" "finish")) cdv A outer s H E) (wE E) := takes_of rfl rfl rfl rfl
  unfold b_Run_finish
  exact (ks_cons (ks_expr (qx_meth (ok_Run_need_process T) hr (by decide) tk T.cl_Run T.m_Run_need_process (px_var 0) (pa_cons' (px_var 1) pa_nil')))
    (ks_cons (ks_expr (px_append (px_fld T.cl_Run T.n_Run_past (px_var 0)) (pa_cons' (px_len rfl T.z_len (pa_cons' (px_fld T.cl_Run T.n_Run_schedule (px_var 0)) pa_nil')) pa_nil')))
    (ks_cons (ks_while (passes_of rfl) (pxt_not (pt_val' (px_ix (px_fld T.cl_Machine T.n_Machine_stopped (px_fld T.cl_Run T.n_Run_machine (px_var 0))) (px_var 1) (fun _ _ => rfl))))
    (ks_one (ks_expr (qx_meth (ok_Run_perform T) hr (by decide) tk T.cl_Run T.m_Run_perform (px_var 0) (pa_cons' (px_lst false (pa_cons' (px_var 1) pa_nil')) pa_nil')))))
    (ks_one (ks_ret (qx_meth (ok_Machine_name_at T) hr (by decide) tk T.cl_Machine T.m_Machine_name_at (px_fld T.cl_Run T.n_Run_machine (px_var 0)) (pa_cons' (px_var 1) pa_nil')))))))
theorem ok_Run_step (T : TT K mg) : Good P w K mg base 6 (ad K (.m "Run" "step")) ["self", "process"] 2 (f_Run_step K) := by
  refine good_of 2 2 T.F_Run_step sc_Run_step rfl rfl (fun _ _ _ _ _ _ us hl => match us, hl with | [_, _], _ => rfl) (fun cdv A outer s H E hr => ?_)
  have tk : Takes (cxOf (L2.CX P w) P w K mg base ["self", "process"] "Run.step" (defScope s_Run_step) (ad K (.m "Run" "step")) cdv A outer s H E) (wE E) := takes_of rfl rfl rfl rfl
  unfold b_Run_step
  exact (ks_cons (ks_expr (qx_meth (ok_Run_need_process T) hr (by decide) tk T.cl_Run T.m_Run_need_process (px_var 0) (pa_cons' (px_var 1) pa_nil')))
    (ks_cons (ks_expr (px_append (px_fld T.cl_Run T.n_Run_past (px_var 0)) (pa_cons' (px_len rfl T.z_len (pa_cons' (px_fld T.cl_Run T.n_Run_schedule (px_var 0)) pa_nil')) pa_nil')))
    (ks_one (ks_ret (px_ix (qx_meth (ok_Run_perform T) hr (by decide) tk T.cl_Run T.m_Run_perform (px_var 0) (pa_cons' (px_lst false (pa_cons' (px_var 1) pa_nil')) pa_nil')) px_int (fun _ _ => rfl))))))
theorem ok_Desk_moved (T : TT K mg) : Good P w K mg base 7 (ad K (.m "Desk" "moved")) ["self", "word", "process"] 3 (f_Desk_moved K) := by
  refine good_of 3 4 T.F_Desk_moved sc_Desk_moved rfl rfl (fun _ _ _ _ _ _ us hl => match us, hl with | [_, _, _], _ => rfl) (fun cdv A outer s H E hr => ?_)
  have tk : Takes (cxOf (L2.CX P w) P w K mg base ["self", "word", "process", "told"] "Desk.moved" (defScope s_Desk_moved) (ad K (.m "Desk" "moved")) cdv A outer s H E) (wE E) := takes_of rfl rfl rfl rfl
  unfold b_Desk_moved
  exact (ks_cons (ks_if (pt_eq (hu64 hr) (px_var 1) px_str)
    (ks_one (ks_ret (px_strC rfl T.z_str (pa_cons' (qx_meth (ok_Run_finish T) hr (by decide) tk T.cl_Run T.m_Run_finish (px_fld T.cl_Desk T.n_Desk_run_held (px_var 0)) (pa_cons' (px_var 2) pa_nil')) pa_nil'))))
    ks_nil)
    (ks_cons (ks_set 3 sc_Desk_moved.nd rfl (by first | exact .inl rfl | exact .inr rfl) (qx_meth (ok_Run_step T) hr (by decide) tk T.cl_Run T.m_Run_step (px_fld T.cl_Desk T.n_Desk_run_held (px_var 0)) (pa_cons' (px_var 2) pa_nil')))
    (ks_one (ks_ret (px_if (pt_isN (px_var 3) px_non) (qx_globS rfl T.s_OPEN) (px_add false (px_add false (px_ix (px_var 3) px_int (fun _ _ => rfl)) px_str) (px_strC rfl T.z_str (pa_cons' (px_ix (px_var 3) px_int (fun _ _ => rfl)) pa_nil'))))))))
theorem ok_Desk_execute (T : TT K mg) : Good P w K mg base 8 (ad K (.m "Desk" "execute")) ["self", "row"] 2 (f_Desk_execute K) := by
  refine good_of 2 4 T.F_Desk_execute sc_Desk_execute rfl rfl (fun _ _ _ _ _ _ us hl => match us, hl with | [_, _], _ => rfl) (fun cdv A outer s H E hr => ?_)
  have tk : Takes (cxOf (L2.CX P w) P w K mg base ["self", "row", "word", "value"] "Desk.execute" (defScope s_Desk_execute) (ad K (.m "Desk" "execute")) cdv A outer s H E) (wE E) := takes_of rfl rfl rfl rfl
  unfold b_Desk_execute
  exact (ks_cons (ks_asg (qx_call (ok_command_in T) hr (by decide) tk rfl T.g_command_in (pa_cons' (px_var 1) pa_nil')) (kg_tup (n := 2) rfl (kgs_cons (kg_name 2 sc_Desk_execute.nd rfl (by first | exact .inl rfl | exact .inr rfl)) (kgs_cons (kg_name 3 sc_Desk_execute.nd rfl (by first | exact .inl rfl | exact .inr rfl)) kgs_nil))))
    (ks_cons (ks_if (pt_inC ["possible", "stuck", "least", "plan"] (hu65 hr) (px_var 2) rfl T.t_WITH_NAMES.1 T.t_WITH_NAMES.2)
    (ks_one ks_never)
    ks_nil)
    (ks_cons (ks_if (pt_eq (hu64 hr) (px_var 2) px_str)
    (ks_cons (ks_fld T.cl_Desk T.n_Desk_run_held (px_var 0) (qx_make (ok_Run___init__ T) hr (by decide) tk nr_Run T.k_Run rfl T.g_Run (pa_cons' (px_var 3) pa_nil')))
    (ks_one (ks_ret (qx_globS rfl T.s_DONE))))
    ks_nil)
    (ks_cons (ks_if (pt_isN (px_fld T.cl_Desk T.n_Desk_run_held (px_var 0)) px_non)
    (ks_one ks_never)
    ks_nil)
    (ks_one (ks_ret (px_if (pt_inC ["undo", "names", "places", "text"] (hu65 hr) (px_var 2) rfl T.t_ALONE.1 T.t_ALONE.2) (qx_meth (ok_Desk_reported T) hr (by decide) tk T.cl_Desk T.m_Desk_reported (px_var 0) (pa_cons' (px_var 2) pa_nil')) (qx_meth (ok_Desk_moved T) hr (by decide) tk T.cl_Desk T.m_Desk_moved (px_var 0) (pa_cons' (px_var 2) (pa_cons' (px_var 3) pa_nil'))))))))))
theorem ok__law_dip (T : TT K mg) : Good P w K mg base 1 (ad K (.g "_law_dip")) ["urn", "size"] 2 (f__law_dip K) := by
  refine good_of 2 4 T.F__law_dip sc__law_dip rfl rfl (fun _ _ _ _ _ _ us hl => match us, hl with | [_, _], _ => rfl) (fun cdv A outer s H E hr => ?_)
  have tk : Takes (cxOf (L2.CX P w) P w K mg base ["urn", "size", "mixed", "found"] "_law_dip" (defScope s__law_dip) (ad K (.g "_law_dip")) cdv A outer s H E) (wE E) := takes_of rfl rfl rfl rfl
  unfold b__law_dip
  exact (ks_cons (ks_if (pt_gt (px_ix (px_var 0) px_int (fun _ _ => rfl)) px_int)
    (ks_cons (ks_set 3 sc__law_dip.nd rfl (by first | exact .inl rfl | exact .inr rfl) (px_mod (px_ix (px_var 0) px_int (fun _ _ => rfl)) (px_var 1)))
    (ks_cons (ks_asg (px_fdiv (px_ix (px_var 0) px_int (fun _ _ => rfl)) (px_var 1)) (kg_sub (W := WN) (px_var 0) px_int))
    (ks_one (ks_ret (px_var 3)))))
    ks_nil)
    (ks_cons (ks_asg (px_add true (px_ix (px_var 0) px_int (fun _ _ => rfl)) px_int) (kg_sub (W := WN) (px_var 0) px_int))
    (ks_cons (ks_set 2 sc__law_dip.nd rfl (by first | exact .inl rfl | exact .inr rfl) (px_mod (px_pow (px_add false (px_ix (px_var 0) px_int (fun _ _ => rfl)) (px_mul false px_int (px_ix (px_var 0) px_int (fun _ _ => rfl)))) px_int) (px_add false (px_pow px_int px_int) px_int)))
    (ks_cons (ks_set 2 sc__law_dip.nd rfl (by first | exact .inl rfl | exact .inr rfl) (px_mod (px_add false (px_mul false (px_var 2) (px_var 2)) (px_mul false px_int (px_ix (px_var 0) px_int (fun _ _ => rfl)))) (px_add false (px_pow px_int px_int) px_int)))
    (ks_one (ks_ret (px_mod (px_fdiv (px_var 2) px_int) (px_var 1))))))))
theorem ok_Run___len__ (T : TT K mg) : Good P w K mg base 1 (ad K (.m "Run" "__len__")) ["self"] 1 (f_Run___len__ K) := by
  refine good_of 1 1 T.F_Run___len__ sc_Run___len__ rfl rfl (fun _ _ _ _ _ _ us hl => match us, hl with | [_], _ => rfl) (fun cdv A outer s H E hr => ?_)
  have tk : Takes (cxOf (L2.CX P w) P w K mg base ["self"] "Run.__len__" (defScope s_Run___len__) (ad K (.m "Run" "__len__")) cdv A outer s H E) (wE E) := takes_of rfl rfl rfl rfl
  unfold b_Run___len__
  exact (ks_one (ks_ret (px_len rfl T.z_len (pa_cons' (px_fld T.cl_Run T.n_Run_schedule (px_var 0)) pa_nil'))))
theorem ok__law_called (T : TT K mg) : Good P w K mg base 9 (ad K (.g "_law_called")) ["urn", "desk", "held", "past"] 4 (f__law_called K) := by
  refine good_of 4 10 T.F__law_called sc__law_called rfl rfl (fun _ _ _ _ _ _ us hl => match us, hl with | [_, _, _, _], _ => rfl) (fun cdv A outer s H E hr => ?_)
  have tk : Takes (cxOf (L2.CX P w) P w K mg base ["urn", "desk", "held", "past", "able", "way", "who", "told", "due", "name"] "_law_called" (defScope s__law_called) (ad K (.g "_law_called")) cdv A outer s H E) (wE E) := takes_of rfl rfl rfl rfl
  unfold b__law_called
  exact (ks_cons (ks_setLc 4 true (us := [6, 9]) (own := [("who", 6), ("name", 9)]) rfl sc__law_called.nd rfl rfl (by rfl) (by decide) (ki_enum rfl T.z_enumerate (qx_prop (ok_Run_names_now T) hr (by decide) T.cl_Run T.p_Run_names_now (px_var 2))) (blkOk_by (by kernel_rfl)) (fun _ _ _ _ _ => (kg_tup (n := 2) rfl (kgs_cons (kg_name 6 sc__law_called.nd rfl (by first | exact .inl rfl | exact .inr rfl)) (kgs_cons (kg_name 9 sc__law_called.nd rfl (by first | exact .inl rfl | exact .inr rfl)) kgs_nil)))) (fun _ _ _ _ _ => (kts_one (pt_isN (px_var 9) px_non))) (fun _ _ _ _ _ => (px_var 6)))
    (ks_cons (ks_set 5 sc__law_called.nd rfl (by first | exact .inl rfl | exact .inr rfl) (qx_call (ok__law_dip T) hr (by decide) tk rfl T.g__law_dip (pa_cons' (px_var 0) (pa_cons' px_int pa_nil'))))
    (ks_cons (ks_if (pxt_w (pxw_and (pt_eq (hu64 hr) (px_var 5) px_int) (pxw_one (pt_ne (hu64 hr) (px_var 3) (px_lst false pa_nil')))))
    (ks_cons (ks_expr (px_pop (px_var 3)))
    (ks_cons (ks_expr (qx_meth0 (ok_Run_undo T) hr (by decide) tk T.cl_Run T.m_Run_undo (px_var 2)))
    (ks_one (ks_ret (px_eq (hu64 hr) (qx_meth (ok_Desk_execute T) hr (by decide) tk T.cl_Desk T.m_Desk_execute (px_var 1) (pa_cons' px_str pa_nil')) px_str)))))
    ks_nil)
    (ks_cons (ks_if (pt_eq (hu64 hr) (px_var 4) (px_lst false pa_nil'))
    (ks_one (ks_ret px_bl))
    ks_nil)
    (ks_cons (ks_expr (px_append (px_var 3) (pa_cons' (px_var 5) pa_nil')))
    (ks_cons (ks_set 6 sc__law_called.nd rfl (by first | exact .inl rfl | exact .inr rfl) (px_ix (px_lst false (pa_cons' (px_ix (px_var 4) (qx_call (ok__law_dip T) hr (by decide) tk rfl T.g__law_dip (pa_cons' (px_var 0) (pa_cons' (px_len rfl T.z_len (pa_cons' (px_var 4) pa_nil')) pa_nil'))) (fun _ _ => rfl)) (pa_cons' (px_ix (px_var 4) px_int (fun _ _ => rfl)) (pa_cons' (px_ix (px_var 4) (px_neg px_int) (fun _ _ => rfl)) pa_nil')))) (qx_call (ok__law_dip T) hr (by decide) tk rfl T.g__law_dip (pa_cons' (px_var 0) (pa_cons' px_int pa_nil'))) (fun _ _ => rfl)))
    (ks_cons (ks_if (pxt_w (pxw_and (pt_eq (hu64 hr) (px_var 5) px_int) (pxw_one (pt_lt (qx_lenO (ok_Run___len__ T) hr (by decide) T.m_Run___len__ rfl T.z_len (pa_cons' (px_var 2) pa_nil')) px_int))))
    (ks_one (ks_ret (px_eq (hu64 hr) (qx_meth (ok_Desk_execute T) hr (by decide) tk T.cl_Desk T.m_Desk_execute (px_var 1) (pa_cons' (px_add false px_str (px_strC rfl T.z_str (pa_cons' (px_var 6) pa_nil'))) pa_nil')) (px_strC rfl T.z_str (pa_cons' (qx_meth (ok_Run_finish T) hr (by decide) tk T.cl_Run T.m_Run_finish (px_var 2) (pa_cons' (px_var 6) pa_nil')) pa_nil')))))
    ks_nil)
    (ks_cons (ks_par (i := 7) (j := 8) rfl sc__law_called.nd rfl rfl (by decide) rfl rfl (pa_cons' (qx_meth (ok_Desk_execute T) hr (by decide) tk T.cl_Desk T.m_Desk_execute (px_var 1) (pa_cons' (px_add false px_str (px_strC rfl T.z_str (pa_cons' (px_var 6) pa_nil'))) pa_nil')) (pa_cons' (qx_meth (ok_Run_step T) hr (by decide) tk T.cl_Run T.m_Run_step (px_var 2) (pa_cons' (px_var 6) pa_nil')) pa_nil')) (by rfl))
    (ks_one (ks_ret (px_eq (hu64 hr) (px_var 7) (px_if (pt_isN (px_var 8) px_non) px_str (px_add false (px_add false (px_ix (px_var 8) px_int (fun _ _ => rfl)) px_str) (px_strC rfl T.z_str (pa_cons' (px_ix (px_var 8) px_int (fun _ _ => rfl)) pa_nil')))))))))))))))
theorem ok__law_equal (T : TT K mg) : Good P w K mg base 9 (ad K (.g "_law_equal")) ["desk", "held"] 2 (f__law_equal K) := by
  refine good_of 2 7 T.F__law_equal sc__law_equal rfl rfl (fun _ _ _ _ _ _ us hl => match us, hl with | [_, _], _ => rfl) (fun cdv A outer s H E hr => ?_)
  have tk : Takes (cxOf (L2.CX P w) P w K mg base ["desk", "held", "given", "spots", "text", "name", "place"] "_law_equal" (defScope s__law_equal) (ad K (.g "_law_equal")) cdv A outer s H E) (wE E) := takes_of rfl rfl rfl rfl
  unfold b__law_equal
  exact (ks_cons (ks_set 2 sc__law_equal.nd rfl (by first | exact .inl rfl | exact .inr rfl) (px_join px_str (pa_cons' (px_comp false (us := [5]) (own := [("name", 5)]) rfl sc__law_equal.nd (by decide) (ki_seq (qx_prop (ok_Run_names_now T) hr (by decide) T.cl_Run T.p_Run_names_now (px_var 1))) (blkOk_by (by kernel_rfl)) (fun _ _ _ _ _ => (kg_name 5 sc__law_equal.nd rfl (by first | exact .inl rfl | exact .inr rfl))) (fun _ _ _ _ _ => kts_nil) (fun _ _ _ _ _ => (px_if (pt_isN (px_var 5) px_non) px_str (px_strC rfl T.z_str (pa_cons' (px_var 5) pa_nil'))))) pa_nil')))
    (ks_cons (ks_set 3 sc__law_equal.nd rfl (by first | exact .inl rfl | exact .inr rfl) (px_join px_str (pa_cons' (px_comp false (us := [6]) (own := [("place", 6)]) rfl sc__law_equal.nd (by decide) (ki_seq (qx_prop (ok_Run_places_now T) hr (by decide) T.cl_Run T.p_Run_places_now (px_var 1))) (blkOk_by (by kernel_rfl)) (fun _ _ _ _ _ => (kg_name 6 sc__law_equal.nd rfl (by first | exact .inl rfl | exact .inr rfl))) (fun _ _ _ _ _ => kts_nil) (fun _ _ _ _ _ => (px_strC rfl T.z_str (pa_cons' (px_ix (px_var 6) px_int (fun _ _ => rfl)) pa_nil')))) pa_nil')))
    (ks_cons (ks_set 4 sc__law_equal.nd rfl (by first | exact .inl rfl | exact .inr rfl) (qx_call (ok_show_run T) hr (by decide) tk rfl T.g_show_run (pa_cons' (qx_prop (ok_Run_process_count T) hr (by decide) T.cl_Run T.p_Run_process_count (px_var 1)) (pa_cons' (qx_prop (ok_Run_steps_done T) hr (by decide) T.cl_Run T.p_Run_steps_done (px_var 1)) pa_nil'))))
    (ks_one (ks_ret (px_eq (hu64 hr) (px_lst false (pa_cons' (qx_meth (ok_Desk_execute T) hr (by decide) tk T.cl_Desk T.m_Desk_execute (px_var 0) (pa_cons' px_str pa_nil')) (pa_cons' (qx_meth (ok_Desk_execute T) hr (by decide) tk T.cl_Desk T.m_Desk_execute (px_var 0) (pa_cons' px_str pa_nil')) (pa_cons' (qx_meth (ok_Desk_execute T) hr (by decide) tk T.cl_Desk T.m_Desk_execute (px_var 0) (pa_cons' px_str pa_nil')) pa_nil')))) (px_lst false (pa_cons' (px_var 2) (pa_cons' (px_var 3) (pa_cons' (px_var 4) pa_nil'))))))))))
theorem ok_law (T : TT K mg) : Good P w K mg base 10 (ad K (.g "law")) ["script"] 1 (f_law K) := by
  refine good_of 1 11 T.F_law sc_law rfl rfl (fun _ _ _ _ _ _ us hl => match us, hl with | [_], _ => rfl) (fun cdv A outer s H E hr => ?_)
  have tk : Takes (cxOf (L2.CX P w) P w K mg base ["script", "k", "urn", "turn", "desk", "mate", "size", "again", "held", "past", "row"] "law" (defScope s_law) (ad K (.g "law")) cdv A outer s H E) (wE E) := takes_of rfl rfl rfl rfl
  unfold b_law
  exact (ks_cons (ks_for (passes_of rfl) rfl (ki_range1 rfl T.z_range (px_max2 rfl rfl T.z_max (pa_cons' px_int (pa_cons' (px_min2 rfl rfl T.z_min (pa_cons' px_int (pa_cons' (px_add false (px_len rfl T.z_len (pa_cons' (px_var 0) pa_nil')) px_int) pa_nil'))) pa_nil')))) (kg_name 1 sc_law.nd rfl (by first | exact .inl rfl | exact .inr rfl))
    (ks_cons (ks_set 2 sc_law.nd rfl (by first | exact .inl rfl | exact .inr rfl) (qx_call (ok__law_urn T) hr (by decide) tk rfl T.g__law_urn (pa_cons' (px_var 0) (pa_cons' (px_var 1) pa_nil'))))
    (ks_cons (ks_asg (px_tup (pa_cons' (qx_make0 (ok_Desk___init__ T) hr (by decide) tk nr_Desk T.k_Desk rfl T.g_Desk) (pa_cons' (qx_make0 (ok_Desk___init__ T) hr (by decide) tk nr_Desk T.k_Desk rfl T.g_Desk) pa_nil'))) (kg_tup (n := 2) rfl (kgs_cons (kg_name 4 sc_law.nd rfl (by first | exact .inl rfl | exact .inr rfl)) (kgs_cons (kg_name 5 sc_law.nd rfl (by first | exact .inl rfl | exact .inr rfl)) kgs_nil))))
    (ks_cons (ks_if (pt_ne (hu64 hr) (px_comp false (us := [10]) (own := [("row", 10)]) rfl sc_law.nd (by decide) (ki_seq (px_lst false (pa_cons' px_str (pa_cons' px_str (pa_cons' px_str pa_nil'))))) (blkOk_by (by kernel_rfl)) (fun _ _ _ _ _ => (kg_name 10 sc_law.nd rfl (by first | exact .inl rfl | exact .inr rfl))) (fun _ _ _ _ _ => kts_nil) (fun _ _ _ _ _ => (qx_meth (ok_Desk_execute T) hr (by decide) takes0 T.cl_Desk T.m_Desk_execute (px_var 5) (pa_cons' (px_var 10) pa_nil')))) (px_lst false (pa_cons' px_str (pa_cons' px_str (pa_cons' px_str pa_nil')))))
    (ks_one (ks_ret px_bl))
    ks_nil)
    (ks_cons (ks_for (passes_of rfl) rfl (ki_range1 rfl T.z_range px_int) (kg_name 3 sc_law.nd rfl (by first | exact .inl rfl | exact .inr rfl))
    (ks_cons (ks_set 6 sc_law.nd rfl (by first | exact .inl rfl | exact .inr rfl) (px_ix (px_lst false (pa_cons' (px_add false px_int (qx_call (ok__law_dip T) hr (by decide) tk rfl T.g__law_dip (pa_cons' (px_var 2) (pa_cons' px_int pa_nil')))) (pa_cons' (px_add false px_int (qx_call (ok__law_dip T) hr (by decide) tk rfl T.g__law_dip (pa_cons' (px_var 2) (pa_cons' px_int pa_nil')))) (pa_cons' (px_add false px_int (qx_call (ok__law_dip T) hr (by decide) tk rfl T.g__law_dip (pa_cons' (px_var 2) (pa_cons' px_int pa_nil')))) pa_nil')))) (qx_call (ok__law_dip T) hr (by decide) tk rfl T.g__law_dip (pa_cons' (px_var 2) (pa_cons' px_int pa_nil'))) (fun _ _ => rfl)))
    (ks_cons (ks_par (i := 8) (j := 9) rfl sc_law.nd rfl rfl (by decide) rfl rfl (pa_cons' (qx_make (ok_Run___init__ T) hr (by decide) tk nr_Run T.k_Run rfl T.g_Run (pa_cons' (px_var 6) pa_nil')) (pa_cons' (px_lst true pa_nil') pa_nil')) (by rfl))
    (ks_cons (ks_if (pt_ne (hu64 hr) (qx_meth (ok_Desk_execute T) hr (by decide) tk T.cl_Desk T.m_Desk_execute (px_var 4) (pa_cons' (px_add false px_str (px_strC rfl T.z_str (pa_cons' (px_var 6) pa_nil'))) pa_nil')) px_str)
    (ks_one (ks_ret px_bl))
    ks_nil)
    (ks_cons (ks_for (passes_of rfl) rfl (ki_range1 rfl T.z_range (qx_call (ok__law_dip T) hr (by decide) tk rfl T.g__law_dip (pa_cons' (px_var 2) (pa_cons' px_int pa_nil')))) (kg_name 7 sc_law.nd rfl (by first | exact .inl rfl | exact .inr rfl))
    (ks_cons (ks_if (pxt_not (pt_val' (qx_call (ok__law_called T) hr (by decide) tk rfl T.g__law_called (pa_cons' (px_var 2) (pa_cons' (px_var 4) (pa_cons' (px_var 8) (pa_cons' (px_var 9) pa_nil')))))))
    (ks_one (ks_ret px_bl))
    ks_nil)
    (ks_one (ks_if (pxt_w (pxw_and (pt_eq (hu64 hr) (px_mod (px_var 7) px_int) px_int) (pxw_one (pxt_not (pt_val' (qx_call (ok__law_equal T) hr (by decide) tk rfl T.g__law_equal (pa_cons' (px_var 4) (pa_cons' (px_var 8) pa_nil'))))))))
    (ks_one (ks_ret px_bl))
    ks_nil))))
    (ks_one (ks_if (pxt_not (pt_val' (qx_call (ok__law_equal T) hr (by decide) tk rfl T.g__law_equal (pa_cons' (px_var 4) (pa_cons' (px_var 8) pa_nil')))))
    (ks_one (ks_ret px_bl))
    ks_nil)))))))
    (ks_one (ks_if (pt_ne (hu64 hr) (px_lst false (pa_cons' (qx_meth (ok_Desk_execute T) hr (by decide) tk T.cl_Desk T.m_Desk_execute (px_var 5) (pa_cons' px_str pa_nil')) (pa_cons' (qx_meth (ok_Desk_execute T) hr (by decide) tk T.cl_Desk T.m_Desk_execute (px_var 5) (pa_cons' px_str pa_nil')) pa_nil'))) (px_lst false (pa_cons' px_str (pa_cons' px_str pa_nil'))))
    (ks_one (ks_ret px_bl))
    ks_nil)))))))
    (ks_one (ks_ret px_bl)))
end
end L3

set_option Elab.async false
set_option linter.all false
set_option maxRecDepth 100000
set_option maxHeartbeats 0
namespace L3
open PySem PySem.Spec PyProof.Rows L2
def cks0 : List Ck := [.fa (.free "len"), .fa (.free "min"), .fa (.free "max"), .fa (.free "range"), .fa (.glo "_law_urn"), .fa (.cls "Desk"), .fa (.noat "Desk" "run_held"), .fa (.mkr "Desk"), .fa (.glo "Desk"), .fa (.free "str"), .fa (.free "isinstance"), .fa (.str "DIGITS" "0123456789"), .fa (.free "all"), .fa (.free "int"), .fa (.int "MOST_DIGITS_desk" 9), .fa (.glo "number_in"), .tup "ALONE" ["undo", "names", "places", "text"], .tup "WITH_NUMBER" ["run", "step", "finish"], .fa (.glo "command_in"), .tup "WITH_NAMES" ["possible", "stuck", "least", "plan"], .fa (.free "bool"), .fa (.int "MOST_PROCESSES" 40), .fa (.glo "is_whole"), .fa (.glo "need_count"), .fa (.cls "Machine"), .fa (.noat "Machine" "size"), .fa (.noat "Machine" "owners"), .fa (.noat "Machine" "flags"), .fa (.noat "Machine" "cells"), .fa (.noat "Machine" "performed")]
def cks1 : List Ck := [.fa (.noat "Machine" "stopped"), .fa (.mkr "Machine"), .fa (.glo "Machine"), .fa (.cls "Run"), .fa (.noat "Run" "machine"), .fa (.noat "Run" "schedule"), .fa (.noat "Run" "past"), .fa (.mkr "Run"), .fa (.glo "Run"), .fa (.str "DONE" "ok"), .fa (.free "list"), .fa (.meth "Machine" "may_step"), .fa (.meth "Machine" "moved"), .fa (.meth "Machine" "advance"), .fa (.glo "machine_after"), .fa (.meth "Run" "undo"), .fa (.glo "first_name"), .fa (.glo "name_in"), .fa (.meth "Machine" "name_at"), .fa (.meth "Machine" "names"), .prop "Run" "names_now", .fa (.str "OPEN" "-"), .prop "Run" "places_now", .fa (.str "SPACE" " "), .fa (.str "COMMA" ","), .fa (.str "EMPTY" "-"), .fa (.glo "schedule_text"), .prop "Run" "process_count", .prop "Run" "steps_done", .fa (.glo "show_run")]
def cks2 : List Ck := [.fa (.meth "Desk" "reported"), .fa (.meth "Run" "need_process"), .fa (.meth "Machine" "told"), .fa (.meth "Run" "perform"), .fa (.meth "Run" "finish"), .fa (.meth "Run" "step"), .fa (.meth "Desk" "moved"), .fa (.meth "Desk" "execute"), .fa (.glo "_law_dip"), .fa (.free "enumerate"), .fa (.meth "Run" "__len__"), .fa (.glo "_law_called"), .fa (.glo "_law_equal"), .fa (.glo "law")]
def cks : List Ck := cks0 ++ cks1 ++ cks2
def fns0 : List FD := [⟨.g "_law_urn", "_law_urn", "_law_urn", s__law_urn⟩, ⟨.m "Desk" "__init__", "__init__", "Desk.__init__", s_Desk___init__⟩, ⟨.g "number_in", "number_in", "number_in", s_number_in⟩, ⟨.g "command_in", "command_in", "command_in", s_command_in⟩, ⟨.g "is_whole", "is_whole", "is_whole", s_is_whole⟩, ⟨.g "need_count", "need_count", "need_count", s_need_count⟩, ⟨.m "Machine" "__init__", "__init__", "Machine.__init__", s_Machine___init__⟩, ⟨.m "Run" "__init__", "__init__", "Run.__init__", s_Run___init__⟩, ⟨.m "Machine" "may_step", "may_step", "Machine.may_step", s_Machine_may_step⟩, ⟨.m "Machine" "moved", "moved", "Machine.moved", s_Machine_moved⟩, ⟨.m "Machine" "advance", "advance", "Machine.advance", s_Machine_advance⟩, ⟨.g "machine_after", "machine_after", "machine_after", s_machine_after⟩, ⟨.m "Run" "undo", "undo", "Run.undo", s_Run_undo⟩, ⟨.g "first_name", "first_name", "first_name", s_first_name⟩, ⟨.g "name_in", "name_in", "name_in", s_name_in⟩, ⟨.m "Machine" "name_at", "name_at", "Machine.name_at", s_Machine_name_at⟩, ⟨.m "Machine" "names", "names", "Machine.names", s_Machine_names⟩, ⟨.p "Run" "names_now", "names_now", "Run.names_now", s_Run_names_now⟩, ⟨.p "Run" "places_now", "places_now", "Run.places_now", s_Run_places_now⟩, ⟨.g "schedule_text", "schedule_text", "schedule_text", s_schedule_text⟩, ⟨.g "show_run", "show_run", "show_run", s_show_run⟩, ⟨.p "Run" "process_count", "process_count", "Run.process_count", s_Run_process_count⟩, ⟨.p "Run" "steps_done", "steps_done", "Run.steps_done", s_Run_steps_done⟩, ⟨.m "Desk" "reported", "reported", "Desk.reported", s_Desk_reported⟩, ⟨.m "Run" "need_process", "need_process", "Run.need_process", s_Run_need_process⟩, ⟨.m "Machine" "told", "told", "Machine.told", s_Machine_told⟩, ⟨.m "Run" "perform", "perform", "Run.perform", s_Run_perform⟩, ⟨.m "Run" "finish", "finish", "Run.finish", s_Run_finish⟩, ⟨.m "Run" "step", "step", "Run.step", s_Run_step⟩, ⟨.m "Desk" "moved", "moved", "Desk.moved", s_Desk_moved⟩]
def fns1 : List FD := [⟨.m "Desk" "execute", "execute", "Desk.execute", s_Desk_execute⟩, ⟨.g "_law_dip", "_law_dip", "_law_dip", s__law_dip⟩, ⟨.m "Run" "__len__", "__len__", "Run.__len__", s_Run___len__⟩, ⟨.g "_law_called", "_law_called", "_law_called", s__law_called⟩, ⟨.g "_law_equal", "_law_equal", "_law_equal", s__law_equal⟩, ⟨.g "law", "law", "law", s_law⟩]
def fns : List FD := fns0 ++ fns1
def loose0 : List PySem.Str := ["_wall", "SplitError", "InvalidCount", "InvalidSchedule", "InvalidNames", "InvalidProcess", "InvalidText", "InvalidCommand", "NoRun", "NothingToUndo", "Impossible", "MOST_NAMES", "first_name", "name_in", "diagonal_of", "cell_in", "are_different_names", "is_name_list", "need_names", "MOST_PROCESSES", "is_whole", "need_count", "Machine", "machine_after", "DIGITS", "SPACE", "COMMA", "EMPTY", "MOST_DIGITS_texts", "number_in"]
def loose1 : List PySem.Str := ["schedule_text", "read_names", "show_run", "read_run", "Run", "listed_on", "moves_of", "all_moves", "sent_on", "levels_of", "stuck_at", "is_possible", "stuck_diagonal", "need_possible", "routing_for", "STOP", "RIGHT", "DOWN", "processes_with", "schedule_in", "need_any_names", "outcome_in", "played_routing", "schedule_for", "MOST_COUNT", "needs_before", "may_enter", "least_of", "least_count", "DONE"]
def loose2 : List PySem.Str := ["NONE", "OPEN", "MOST_DIGITS_desk", "WITH_NUMBER", "WITH_NAMES", "ALONE", "names_in", "command_in", "answered", "Desk", "_law_urn", "_law_dip", "_law_equal", "_law_called"]
def loose : List PySem.Str := loose0 ++ loose1 ++ loose2
theorem tt_of {K : PySem.W.Frag} {h : Heap} {mg : Str → Option Value} (X : K.In h) (G : h.Ns mainGlobals mg) (c : SaysN cks fns K) : TT K mg := {
  z_len := cfree X G (c.fact 0 rfl),
  z_min := cfree X G (c.fact 1 rfl),
  z_max := cfree X G (c.fact 2 rfl),
  z_range := cfree X G (c.fact 3 rfl),
  F__law_urn := c.def_ 0 rfl,
  g__law_urn := cglo X G (c.fact 4 rfl),
  cl_Desk := ccls (c.fact 5 rfl),
  n_Desk_run_held := cnoat (c.fact 6 rfl),
  F_Desk___init__ := c.def_ 1 rfl,
  k_Desk := cmkr (c.fact 7 rfl),
  g_Desk := cglo X G (c.fact 8 rfl),
  z_str := cfree X G (c.fact 9 rfl),
  z_isinstance := cfree X G (c.fact 10 rfl),
  s_DIGITS := cstr X G (c.fact 11 rfl),
  z_all := cfree X G (c.fact 12 rfl),
  z_int := cfree X G (c.fact 13 rfl),
  F_number_in := c.def_ 2 rfl,
  i_MOST_DIGITS_desk := cint X G (c.fact 14 rfl),
  g_number_in := cglo X G (c.fact 15 rfl),
  t_ALONE := ctup X G (c.fact 16 rfl),
  t_WITH_NUMBER := ctup X G (c.fact 17 rfl),
  F_command_in := c.def_ 3 rfl,
  g_command_in := cglo X G (c.fact 18 rfl),
  t_WITH_NAMES := ctup X G (c.fact 19 rfl),
  z_bool := cfree X G (c.fact 20 rfl),
  F_is_whole := c.def_ 4 rfl,
  i_MOST_PROCESSES := cint X G (c.fact 21 rfl),
  g_is_whole := cglo X G (c.fact 22 rfl),
  F_need_count := c.def_ 5 rfl,
  g_need_count := cglo X G (c.fact 23 rfl),
  cl_Machine := ccls (c.fact 24 rfl),
  n_Machine_size := cnoat (c.fact 25 rfl),
  n_Machine_owners := cnoat (c.fact 26 rfl),
  n_Machine_flags := cnoat (c.fact 27 rfl),
  n_Machine_cells := cnoat (c.fact 28 rfl),
  n_Machine_performed := cnoat (c.fact 29 rfl),
  n_Machine_stopped := cnoat (c.fact 30 rfl),
  F_Machine___init__ := c.def_ 6 rfl,
  k_Machine := cmkr (c.fact 31 rfl),
  g_Machine := cglo X G (c.fact 32 rfl),
  cl_Run := ccls (c.fact 33 rfl),
  n_Run_machine := cnoat (c.fact 34 rfl),
  n_Run_schedule := cnoat (c.fact 35 rfl),
  n_Run_past := cnoat (c.fact 36 rfl),
  F_Run___init__ := c.def_ 7 rfl,
  k_Run := cmkr (c.fact 37 rfl),
  g_Run := cglo X G (c.fact 38 rfl),
  s_DONE := cstr X G (c.fact 39 rfl),
  z_list := cfree X G (c.fact 40 rfl),
  F_Machine_may_step := c.def_ 8 rfl,
  m_Machine_may_step := cmeth (c.fact 41 rfl),
  F_Machine_moved := c.def_ 9 rfl,
  m_Machine_moved := cmeth (c.fact 42 rfl),
  F_Machine_advance := c.def_ 10 rfl,
  m_Machine_advance := cmeth (c.fact 43 rfl),
  F_machine_after := c.def_ 11 rfl,
  g_machine_after := cglo X G (c.fact 44 rfl),
  F_Run_undo := c.def_ 12 rfl,
  m_Run_undo := cmeth (c.fact 45 rfl),
  F_first_name := c.def_ 13 rfl,
  g_first_name := cglo X G (c.fact 46 rfl),
  F_name_in := c.def_ 14 rfl,
  g_name_in := cglo X G (c.fact 47 rfl),
  F_Machine_name_at := c.def_ 15 rfl,
  m_Machine_name_at := cmeth (c.fact 48 rfl),
  F_Machine_names := c.def_ 16 rfl,
  m_Machine_names := cmeth (c.fact 49 rfl),
  F_Run_names_now := c.def_ 17 rfl,
  p_Run_names_now := cprop (c.fact 50 rfl),
  s_OPEN := cstr X G (c.fact 51 rfl),
  F_Run_places_now := c.def_ 18 rfl,
  p_Run_places_now := cprop (c.fact 52 rfl),
  s_SPACE := cstr X G (c.fact 53 rfl),
  s_COMMA := cstr X G (c.fact 54 rfl),
  s_EMPTY := cstr X G (c.fact 55 rfl),
  F_schedule_text := c.def_ 19 rfl,
  g_schedule_text := cglo X G (c.fact 56 rfl),
  F_show_run := c.def_ 20 rfl,
  F_Run_process_count := c.def_ 21 rfl,
  p_Run_process_count := cprop (c.fact 57 rfl),
  F_Run_steps_done := c.def_ 22 rfl,
  p_Run_steps_done := cprop (c.fact 58 rfl),
  g_show_run := cglo X G (c.fact 59 rfl),
  F_Desk_reported := c.def_ 23 rfl,
  m_Desk_reported := cmeth (c.fact 60 rfl),
  F_Run_need_process := c.def_ 24 rfl,
  m_Run_need_process := cmeth (c.fact 61 rfl),
  F_Machine_told := c.def_ 25 rfl,
  m_Machine_told := cmeth (c.fact 62 rfl),
  F_Run_perform := c.def_ 26 rfl,
  m_Run_perform := cmeth (c.fact 63 rfl),
  F_Run_finish := c.def_ 27 rfl,
  m_Run_finish := cmeth (c.fact 64 rfl),
  F_Run_step := c.def_ 28 rfl,
  m_Run_step := cmeth (c.fact 65 rfl),
  F_Desk_moved := c.def_ 29 rfl,
  m_Desk_moved := cmeth (c.fact 66 rfl),
  F_Desk_execute := c.def_ 30 rfl,
  m_Desk_execute := cmeth (c.fact 67 rfl),
  F__law_dip := c.def_ 31 rfl,
  g__law_dip := cglo X G (c.fact 68 rfl),
  z_enumerate := cfree X G (c.fact 69 rfl),
  F_Run___len__ := c.def_ 32 rfl,
  m_Run___len__ := cmeth (c.fact 70 rfl),
  F__law_called := c.def_ 33 rfl,
  g__law_called := cglo X G (c.fact 71 rfl),
  F__law_equal := c.def_ 34 rfl,
  g__law_equal := cglo X G (c.fact 72 rfl),
  F_law := c.def_ 35 rfl,
  g_law := cglo X G (c.fact 73 rfl) }
abbrev hk : PySem.W.Hook := hookN 6 cks fns
def ob (s : PySem.W.SharedT) : AlN := obsNG 6 cks fns (HandSHeadRun.getT s)
theorem ob_eq (s : PySem.W.SharedT) : ob s = hk.obs s.abs := obsNG_eq (HandSHeadRun.getT_eq s)
theorem head_run (w : World) : HandSHeadRun.RunEq (PySem.W.OpenLaw.row PySem.Challenge.rw_splitnames_k46_desks_beside_runs) (PySem.W.view (PySem.W.OpenLaw.row PySem.Challenge.rw_splitnames_k46_desks_beside_runs).prog [85]) hk ob 20000 loose w := by
  intro os
  kernel_rfl
end L3

set_option Elab.async false
set_option linter.all false
set_option maxRecDepth 100000
namespace L3
open PySem PySem.Spec PyProof.Rows L2

/-! ### states -/
theorem look_cons (k j : Nat) (u : O) (r : List (Nat × O)) : List.lookup k ((j, u) :: r) = if k = j then some u else List.lookup k r := by
  rw [List.lookup_cons]
  by_cases h : k = j
  · subst h; simp
  · have : (k == j) = false := by simp [h]
    rw [this, if_neg h]
theorem lookup_putA (n k : Nat) (o : O) : ∀ A : List (Nat × O), (putA n o A).lookup k = if k = n then (A.lookup n).map fun _ => o else A.lookup k
  | [] => by
    unfold putA
    split <;> rfl
  | (j, u) :: r => by
    unfold putA
    by_cases e : j = n
    · subst e
      rw [if_pos rfl]
      by_cases h : k = j
      · subst h; rw [look_cons, look_cons, if_pos rfl, if_pos rfl, if_pos rfl]; rfl
      · rw [if_neg h, look_cons, look_cons, if_neg h, if_neg h]
    · rw [if_neg e, look_cons, look_cons, lookup_putA n k o r, look_cons, if_neg (Ne.symm e)]
      by_cases h : k = n
      · subst h
        rw [if_pos rfl, if_pos rfl, if_neg (Ne.symm e)]
      · rw [if_neg h, if_neg h]
theorem get_put (s : S) (n k : Nat) (o : O) : (s.put n o).get k = if k = n then (s.get n).map fun _ => o else s.get k := lookup_putA n k o s.A
theorem get_put_same {s : S} {n : Nat} {o u : O} (h : s.get n = some u) : (s.put n o).get n = some o := by rw [get_put, if_pos rfl, h]; rfl
theorem get_put_ne {s : S} {n k : Nat} {o : O} (h : k ≠ n) : (s.put n o).get k = s.get k := by rw [get_put, if_neg h]
theorem get_new (s : S) (k : Nat) (o : O) : (s.new o).get k = if k = s.nx then some o else s.get k := by
  show List.lookup k ((s.nx, o) :: s.A) = _
  rw [List.lookup_cons]
  by_cases h : k = s.nx
  · subst h; simp
  · have : (k == s.nx) = false := by simp [h]
    rw [this, if_neg h]; rfl
theorem nx_put (s : S) (n : Nat) (o : O) : (s.put n o).nx = s.nx := rfl
theorem nx_new (s : S) (o : O) : (s.new o).nx = s.nx + 1 := rfl
/-- all that stands has a number below nx -/
def WF (s : S) : Prop := ∀ k o, s.get k = some o → k < s.nx
theorem wf_put {s : S} (h : WF s) (n : Nat) (o : O) : WF (s.put n o) := fun k u e => by
  rw [get_put] at e
  split at e
  · rename_i q
    subst q
    cases g : s.get k with
    | none => rw [g] at e; cases e
    | some v => exact h k v g
  · exact h k u e
theorem wf_new {s : S} (h : WF s) (o : O) : WF (s.new o) := fun k u e => by
  rw [get_new] at e
  rw [nx_new]
  split at e
  · omega
  · have := h k u e; omega
/-- nothing but L's has changed -/
structure Fr (L : List Nat) (s s' : S) : Prop where
  nx : s.nx ≤ s'.nx
  wf : WF s → WF s'
  eq : ∀ k, k < s.nx → k ∉ L → s'.get k = s.get k
theorem Fr.refl {L : List Nat} (s : S) : Fr L s s := ⟨Nat.le_refl _, id, fun _ _ _ => rfl⟩
theorem Fr.trans {L L' : List Nat} {s s' s'' : S} (a : Fr L s s') (b : Fr L' s' s'') (h : ∀ k ∈ L', k < s.nx → k ∈ L) : Fr L s s'' :=
  ⟨Nat.le_trans a.nx b.nx, fun w => b.wf (a.wf w), fun k h1 h2 => by rw [b.eq k (Nat.lt_of_lt_of_le h1 a.nx) fun z => h2 (h k z h1), a.eq k h1 h2]⟩
theorem Fr.sub {L L' : List Nat} {s s' : S} (a : Fr L s s') (h : ∀ k ∈ L, k < s.nx → k ∈ L') : Fr L' s s' := ⟨a.nx, a.wf, fun k h1 h2 => a.eq k h1 fun z => h2 (h k z h1)⟩
theorem fr_put {L : List Nat} {s : S} {n : Nat} {o : O} (h : n ∈ L) : Fr L s (s.put n o) := ⟨Nat.le_refl _, fun w => wf_put w n o, fun k _ h2 => get_put_ne fun e => h2 (by rw [e]; exact h)⟩
theorem fr_new {L : List Nat} {s : S} {o : O} : Fr L s (s.new o) := ⟨Nat.le_succ _, fun w => wf_new w o, fun k h1 _ => by rw [get_new, if_neg (Nat.ne_of_lt h1)]⟩
theorem Fr.keep {L : List Nat} {s s' : S} (a : Fr L s s') (w : WF s) {k : Nat} {o : O} (h : s.get k = some o) (hk : k ∉ L) : s'.get k = some o := by rw [a.eq k (w k o h) hk, h]

/-! ### how the words read -/
theorem rb_ok {α β : Type} {a : α} {s : S} {f : α → S → R β} : (R.ok a s).bind f = f a s := rfl
theorem lift_k {α : Type} {a : α} {s : S} {Γ : Sl} {k : α → S → R Fl} : liftE (.ok a s) Γ k = k a s := rfl
theorem sm_of {i : Int} (h : i.natAbs < 2 ^ 500) : sm i = true := decide_eq_true (Nat.lt_of_lt_of_le h (Nat.pow_le_pow_right (by decide) (by decide)))
theorem sm_lt {i : Int} (h0 : 0 ≤ i) (h : i < 2 ^ 256) : sm i = true := sm_of (by
  have : i.natAbs < 2 ^ 256 := by omega
  exact Nat.lt_of_lt_of_le this (Nat.pow_le_pow_right (by decide) (by decide)))
theorem seq_ok {f g : XS} {Γ Γ' : Sl} {s s' : S} (h : f Γ s = .ok (.nx Γ') s') : sSeq f g Γ s = g Γ' s' := by
  unfold sSeq; rw [h]; rfl
theorem seq_rt {f g : XS} {Γ : Sl} {s s' : S} {d : D} (h : f Γ s = .ok (.rt d) s') : sSeq f g Γ s = .ok (.rt d) s' := by
  unfold sSeq; rw [h]; rfl
theorem fnB_rt {m : Nat} {b : XS} {ds : List D} {s s' : S} {d : D} (h : b (ds.map some ++ List.replicate (m - ds.length) none) s = .ok (.rt d) s') : fnB m b ds s = .ok d s' := by
  unfold fnB; rw [h]; rfl
theorem fnB_nx {m : Nat} {b : XS} {ds : List D} {s s' : S} {Γ : Sl} (h : b (ds.map some ++ List.replicate (m - ds.length) none) s = .ok (.nx Γ) s') : fnB m b ds s = .ok .non s' := by
  unfold fnB; rw [h]; rfl
theorem fld_at {C : Addr} {f : Str} {g : XF} {Γ : Sl} {s s' : S} {n : Nat} {fs : List (Str × D)} {d : D} (h : g Γ s = .ok (.ref n) s') (hg : s'.get n = some (.ins C fs)) (hl : fs.lookup f = some d) : xFld C f g Γ s = .ok d s' := by
  unfold xFld isIns
  rw [h]
  simp only [R.bind, hg, if_true, hl]
theorem isIns_at {C : Addr} {s : S} {n : Nat} {fs : List (Str × D)} (hg : s.get n = some (.ins C fs)) : isIns C (.ref n) s = some (n, fs) := by
  unfold isIns
  simp only [hg, if_true]
theorem lst_at' {s : S} {n : Nat} {ds : List D} (hg : s.get n = some (.lst ds)) : lstOf (.ref n) s = some ds := by
  unfold lstOf
  simp only [hg]
theorem ixN_nat' {n j : Nat} (hj : j < n) : ixN n (j : Int) = some j := by
  unfold ixN
  rw [if_pos (by omega), if_pos (by omega), Int.toNat_natCast]
theorem lPut_at' {s : S} {n p : Nat} {ds : List D} {v : D} (hg : s.get n = some (.lst ds)) (h1 : p < ds.length) : lPut (.ref n) (.int p) v s = .ok () (s.put n (.lst (ds.set p v))) := by
  unfold lPut
  simp only [hg, ixN_nat' h1]
theorem oIx_at {s : S} {n p : Nat} {ds : List D} {v : D} (hg : s.get n = some (.lst ds)) (h1 : ds[p]? = some v) : oIx (.ref n) (.int p) s = .ok v s := by
  unfold oIx
  simp only [lst_at' hg, atI_nat h1]
end L3

set_option Elab.async false
set_option linter.all false
set_option maxRecDepth 100000
set_option maxHeartbeats 1000000
namespace L3
open PySem PySem.Spec PyProof.Rows L2

/-! ### words at data -/
theorem oEq_int {neg : Bool} {i j : Int} {s : S} : oEq neg (.int i) (.int j) s = .ok (.bl (if neg = true then !decide (i = j) else decide (i = j))) s := by
  have e : PyData.eqv (.int i) (.int j) = decide (i = j) := by
    show (i == j) = decide (i = j)
    by_cases h : i = j
    · subst h; simp
    · simp [h]
  show (if isS2 (.int i) (.int j) = true then _ else oEqD neg (.int i) (.int j) s) = _
  rw [if_neg (by simp [isS2])]
  show (.ok (.bl (if neg = true then !PyData.eqv (.int i) (.int j) else PyData.eqv (.int i) (.int j))) s : R D) = _
  rw [e]
theorem oEq_str {neg : Bool} {i j : Str} {s : S} : oEq neg (.str i) (.str j) s = .ok (.bl (if neg = true then !decide (i = j) else decide (i = j))) s := rfl
theorem oAdd_int {own : Bool} {i j : Int} {s : S} : oAdd own (.int i) (.int j) s = .ok (.int (i + j)) s := rfl
theorem oMul_int {own : Bool} {i j : Int} {s : S} (h : gMul i j = true) : oMul own (.int i) (.int j) s = .ok (.int (i * j)) s := if_pos h
theorem oFdiv_int {i j : Int} {s : S} (h : gDiv i j = true) : oFdiv (.int i) (.int j) s = .ok (.int (i / j)) s := if_pos h
theorem oMod_int {i j : Int} {s : S} (h : gMod i j = true) : oMod (.int i) (.int j) s = .ok (.int (i % j)) s := if_pos h

theorem chain_le {f g h : XF} {Γ : Sl} {s : S} {a b c : Int} (hf : f Γ s = .ok (.int a) s) (hg : g Γ s = .ok (.int b) s) (hh : h Γ s = .ok (.int c) s) : xChain oLe oLe f g h Γ s = .ok (.bl (decide (a ≤ b) && decide (b ≤ c))) s := by
  unfold xChain
  rw [hf]
  simp only [L3.R.bind, hg, oIB]
  cases decide (a ≤ b) with
  | true => simp only [hh, L3.R.bind, oIB, Bool.true_and]
  | false => simp only [Bool.false_and]

/-! ### cells in dicts -/
def cD (c : Int × Int) : D := .tup [.int c.1, .int c.2]
def cK (c : Int × Int) : List Key := [.inl c.1, .inl c.2]
theorem cK_inj {a b : Int × Int} : cK a = cK b ↔ a = b := by
  obtain ⟨a1, a2⟩ := a
  obtain ⟨b1, b2⟩ := b
  simp [cK]
theorem tkey_cell (c : Int × Int) : tkeyOf (cD c) = some (cK c) := rfl
def lookC {β : Type} (l : List ((Int × Int) × β)) (c : Int × Int) : Option β := (l.find? fun kv => decide (kv.1 = c)).map (·.2)
def putC {β : Type} (l : List ((Int × Int) × β)) (c : Int × Int) (b : β) : List ((Int × Int) × β) := if (l.any fun kv => decide (kv.1 = c)) = true then l.map fun kv => if kv.1 = c then (kv.1, b) else kv else l ++ [(c, b)]
def dC {β : Type} (g : β → D) (l : List ((Int × Int) × β)) : List (List Key × D) := l.map fun kv => (cK kv.1, g kv.2)
theorem valD_dC {β : Type} (g : β → D) (c : Int × Int) : ∀ l : List ((Int × Int) × β), valD (dC g l) (cK c) = (lookC l c).map g
  | [] => rfl
  | (a, b) :: r => by
    have ih := valD_dC g c r
    unfold valD lookC dC at ih ⊢
    rw [List.map_cons, List.find?_cons, List.find?_cons]
    by_cases h : a = c
    · subst h; simp
    · have h2 : ¬ cK a = cK c := fun e => h (cK_inj.mp e)
      simp only [h2, h, decide_false]
      exact ih
theorem any_dC {β : Type} (g : β → D) (c : Int × Int) (l : List ((Int × Int) × β)) : ((dC g l).any fun kv => decide (kv.1 = cK c)) = l.any fun kv => decide (kv.1 = c) := by
  unfold dC
  rw [List.any_map]
  congr 1
  funext kv
  simp only [Function.comp, cK_inj]
theorem put_dC {β : Type} (g : β → D) (c : Int × Int) (b : β) (l : List ((Int × Int) × β)) : putKD (dC g l) (cK c) (g b) = dC g (putC l c b) := by
  unfold putKD putC
  rw [any_dC]
  split
  · unfold dC
    rw [List.map_map, List.map_map]
    congr 1
    funext kv
    simp only [Function.comp, cK_inj]
    split <;> simp
  · unfold dC
    simp
theorem len_putC {β : Type} (l : List ((Int × Int) × β)) (c : Int × Int) (b : β) : (putC l c b).length ≤ l.length + 1 := by
  unfold putC
  split
  · simp
  · simp
theorem look_putC {β : Type} (l : List ((Int × Int) × β)) (c d : Int × Int) (b : β) : lookC (putC l c b) d = if d = c then some b else lookC l d := by
  unfold putC
  by_cases h : (l.any fun kv => decide (kv.1 = c)) = true
  · rw [if_pos h]
    induction l with
    | nil => simp at h
    | cons x r ih =>
      obtain ⟨a, v⟩ := x
      unfold lookC at ih ⊢
      rw [List.map_cons, List.find?_cons, List.find?_cons]
      by_cases e : a = c
      · subst e
        rw [if_pos rfl]
        by_cases e2 : d = a
        · subst e2; simp
        · have e3 : ¬ a = d := fun z => e2 z.symm
          simp only [e3, decide_false, if_neg e2]
          clear ih h
          induction r with
          | nil => rfl
          | cons y r ih =>
            obtain ⟨a', v'⟩ := y
            rw [List.map_cons, List.find?_cons, List.find?_cons]
            by_cases e4 : a' = a
            · subst e4
              simp only [if_pos, e3, decide_false]
              exact ih
            · rw [if_neg e4]
              by_cases e5 : a' = d
              · simp [e5]
              · simp only [e5, decide_false]
                exact ih
      · rw [if_neg e]
        have h' : (r.any fun kv => decide (kv.1 = c)) = true := by simpa [e] using h
        by_cases e2 : a = d
        · subst e2
          simp [e]
        · simp only [e2, decide_false]
          exact ih h'
  · rw [if_neg h]
    have hn : ∀ kv ∈ l, kv.1 ≠ c := fun kv hkv e => h (List.any_eq_true.mpr ⟨kv, hkv, decide_eq_true e⟩)
    unfold lookC
    rw [List.find?_append]
    by_cases e : d = c
    · subst e
      have : (l.find? fun kv => decide (kv.1 = d)) = none := List.find?_eq_none.mpr fun kv hkv => by simp [hn kv hkv]
      simp [this]
    · rw [if_neg e]
      have e3 : ¬ c = d := fun z => e z.symm
      cases q : (l.find? fun kv => decide (kv.1 = d)) with
      | none => simp [e3]
      | some v => simp
end L3

set_option Elab.async false
set_option linter.all false
set_option maxRecDepth 100000
set_option maxHeartbeats 1000000
set_option exponentiation.threshold 600
namespace L3
open PySem PySem.Spec PyProof.Rows L2
/-! ### loops -/
theorem forL_ok {ch : S → Bool} {g : D → Sl → S → R Sl} {b : XS} (I : List D → Sl → S → Prop) (hch : ∀ r Γ s, I r Γ s → ch s = true)
    (step : ∀ d r Γ s, I (d :: r) Γ s → ∃ Γ1 s1, g d Γ s = .ok Γ1 s1 ∧ ∃ Γ2 s2, (b Γ1 s1 = .ok (.nx Γ2) s2 ∨ b Γ1 s1 = .ok (.ct Γ2) s2) ∧ I r Γ2 s2) : ∀ ds Γ s, I ds Γ s → ∃ Γ' s', forL ch g b ds Γ s = .ok (.nx Γ') s' ∧ I [] Γ' s'
  | [], Γ, s, h => ⟨Γ, s, by unfold forL; rw [if_pos (hch _ _ _ h)], h⟩
  | d :: r, Γ, s, h => by
    obtain ⟨Γ1, s1, h1, Γ2, s2, h2, h3⟩ := step d r Γ s h
    obtain ⟨Γ', s', h4, h5⟩ := forL_ok I hch step r Γ2 s2 h3
    refine ⟨Γ', s', ?_, h5⟩
    unfold forL
    rw [if_pos (hch _ _ _ h), h1]
    simp only [R.bind]
    rcases h2 with h2 | h2
    · rw [h2]; exact h4
    · rw [h2]; exact h4
theorem comp_pure {ch : S → Bool} {g : D → Sl → S → R Sl} {t : XB} {e : XF} {Γ : Sl} {s : S} (q : D → Bool) (f : D → D) (hch : ch s = true) : ∀ ds acc, acc.length + ds.length ≤ LIM → (∀ d ∈ ds, ∃ Γ', g d Γ s = .ok Γ' s ∧ t Γ' s = .ok (q d) s ∧ (q d = true → e Γ' s = .ok (f d) s)) →
    compL ch g t e Γ ds acc s = .ok (acc ++ (ds.filter q).map f) s
  | [], acc, _, _ => by unfold compL; rw [if_pos hch]; simp
  | d :: r, acc, hl, h => by
    obtain ⟨Γ', h1, h2, h3⟩ := h d List.mem_cons_self
    rw [List.length_cons] at hl
    unfold compL
    rw [if_pos hch, h1]
    simp only [noX, R.bind, h2]
    cases hq : q d with
    | false =>
      simp only [Bool.false_eq_true, if_false]
      rw [comp_pure q f hch r acc (by omega) fun d' hd => h d' (List.mem_cons_of_mem _ hd), List.filter_cons, hq]
      simp
    | true =>
      simp only [if_true, h3 hq, noX]
      rw [if_pos (by omega), comp_pure q f hch r (acc ++ [f d]) (by simp; omega) fun d' hd => h d' (List.mem_cons_of_mem _ hd), List.filter_cons, hq]
      simp
theorem comp_map {ch : S → Bool} {g : D → Sl → S → R Sl} {e : XF} {Γ : Sl} {s : S} (f : D → D) (hch : ch s = true) (ds : List D) (hl : ds.length ≤ LIM) (h : ∀ d ∈ ds, ∃ Γ', g d Γ s = .ok Γ' s ∧ e Γ' s = .ok (f d) s) :
    compL ch g bYes e Γ ds [] s = .ok (ds.map f) s := by
  rw [comp_pure (fun _ => true) f hch ds [] (by simpa using hl) fun d hd => by
    obtain ⟨Γ', h1, h2⟩ := h d hd
    exact ⟨Γ', h1, rfl, fun _ => h2⟩]
  rw [List.filter_eq_self.mpr fun _ _ => rfl, List.nil_append]
theorem isLst_at {n : Nat} {ds : List D} {s : S} (h : s.get n = some (.lst ds)) : isLst n ds s = true := by
  classical
  unfold isLst
  exact decide_eq_true h
theorem rng_map {α : Type} (n : Nat) : rng 0 n = (List.range n).map fun (i : Nat) => D.int i := by
  unfold rng
  congr 1
  funext i
  simp
theorem mapO_int (s : S) (n : Nat) : ∀ ds : List Int, mapO (fun d => toP n d s) (ds.map .int) = some (ds.map .int)
  | [] => rfl
  | d :: r => by
    rw [List.map_cons]
    unfold mapO
    rw [mapO_int s n r]
    cases n <;> rfl
/-- xs == [] -/
theorem oEq_nil {neg : Bool} {x : D} {s : S} {ns : List Int} (h : lstOf x s = some (ns.map .int)) : oEq neg x (.lst []) s = .ok (.bl (if neg = true then !ns.isEmpty else ns.isEmpty)) s := by
  have hx : toP 12 x s = some (.list (ns.map .int)) := by
    unfold lstOf at h
    split at h
    · rename_i ds
      cases h
      show (mapO (fun d => toP 11 d s) (ns.map .int)).map PyData.list = _
      rw [mapO_int]; rfl
    · rename_i k
      split at h
      · rename_i ds hk
        cases h
        show (match s.get k with | some (.lst ds) => (mapO (fun d => toP 11 d s) ds).map PyData.list | _ => none) = _
        rw [hk]
        show (mapO (fun d => toP 11 d s) (ns.map .int)).map PyData.list = _
        rw [mapO_int]; rfl
      · cases h
    · cases h
  have h2 : isS2 x (.lst []) = false := by cases x <;> rfl
  unfold oEq oEqD
  rw [h2, if_neg Bool.false_ne_true, hx]
  have h3 : toP 12 (.lst []) s = some (.list []) := rfl
  rw [h3]
  cases ns with
  | nil => cases neg <;> rfl
  | cons a r => cases neg <;> rfl
end L3

set_option Elab.async false
set_option linter.all false
set_option maxRecDepth 100000
set_option maxHeartbeats 1000000
set_option exponentiation.threshold 600
namespace L3
open PySem PySem.Spec PyProof.Rows L2

theorem first_name_ok {K : PySem.W.Frag} {d : Int} {s : S} (h1 : sm d = true) (h2 : sm (d + 1) = true) : f_first_name K [.int d] s = .ok (.int (d * (d + 1) / 2)) s := by
  have e : gDiv (d * (d + 1)) 2 = true := by
    show (decide ((0 : Int) < 2) && sm 2) = true
    decide
  simp [f_first_name, b_first_name, fnB, sRet, xBin, xVar, xC, oMul, oAdd, oFdiv, oI, R.bind, liftE, endR, gMul, h1, h2, e]
theorem is_whole_ok {K : PySem.W.Frag} {v a b : Int} {s : S} : f_is_whole K [.int v, .int a, .int b] s = .ok (.bl (decide (a ≤ v) && decide (v ≤ b))) s := by
  have h1 : isiB "int" "int" = some true := by decide
  have h2 : isiB "int" "bool" = some false := by decide
  by_cases h : a ≤ v
  · simp [f_is_whole, b_is_whole, fnB, sRet, xBin, xVar, xC, xAnd, xNot, bNot, bOf, xOf, xChain, xFn, aCons, aNil, oIsiG, notDT, oIsi, tyN, h1, h2, oLe, oIB, R.bind, liftE, endR, h]
  · simp [f_is_whole, b_is_whole, fnB, sRet, xBin, xVar, xC, xAnd, xNot, bNot, bOf, xOf, xChain, xFn, aCons, aNil, oIsiG, notDT, oIsi, tyN, h1, h2, oLe, oIB, R.bind, liftE, endR, h]

/-! ### a machine -/
structure Mc where
  n : Nat
  ow : List ((Int × Int) × Nat)
  fl : List ((Int × Int) × Bool)
  ce : List (Int × Int)
  pe : List Int
  st : List Bool
structure ML where
  o : Nat
  f : Nat
  c : Nat
  q : Nat
  t : Nat
def mfs (z : Nat) (L : ML) : List (Str × D) := [("size", .int z), ("owners", .ref L.o), ("flags", .ref L.f), ("cells", .ref L.c), ("performed", .ref L.q), ("stopped", .ref L.t)]
theorem mfs_size (z : Nat) (L : ML) : (mfs z L).lookup ("size" : Str) = some (D.int z) := rfl
theorem mfs_ow (z : Nat) (L : ML) : (mfs z L).lookup ("owners" : Str) = some (D.ref L.o) := rfl
theorem mfs_fl (z : Nat) (L : ML) : (mfs z L).lookup ("flags" : Str) = some (D.ref L.f) := rfl
theorem mfs_ce (z : Nat) (L : ML) : (mfs z L).lookup ("cells" : Str) = some (D.ref L.c) := rfl
theorem mfs_pe (z : Nat) (L : ML) : (mfs z L).lookup ("performed" : Str) = some (D.ref L.q) := rfl
theorem mfs_st (z : Nat) (L : ML) : (mfs z L).lookup ("stopped" : Str) = some (D.ref L.t) := rfl
theorem mfs_moved (z : Nat) (L : ML) : (mfs z L).lookup ("moved" : Str) = none := rfl
def ML.ids (n : Nat) (L : ML) : List Nat := [n, L.o, L.f, L.c, L.q, L.t]
structure MAt (C : Addr) (s : S) (n : Nat) (M : Mc) (L : ML) : Prop where
  gi : s.get n = some (.ins C (mfs M.n L))
  go : s.get L.o = some (.dT (dC (fun p : Nat => D.int p) M.ow))
  gf : s.get L.f = some (.dT (dC .bl M.fl))
  gc : s.get L.c = some (.lst (M.ce.map cD))
  gq : s.get L.q = some (.lst (M.pe.map .int))
  gt : s.get L.t = some (.lst (M.st.map .bl))
  nd : (L.ids n).Nodup
structure Mc.Ok (M : Mc) (b : Nat) : Prop where
  lc : M.ce.length = M.n
  lq : M.pe.length = M.n
  lt : M.st.length = M.n
  ow : M.ow.length ≤ b
  fl : M.fl.length ≤ b
  own : ∀ (p : Nat) (c : Int × Int) (k : Int), M.ce[p]? = some c → M.pe[p]? = some k → 1 ≤ k → ∃ z, lookC M.ow c = some z
  pe : ∀ k ∈ M.pe, 0 ≤ k
  ce : ∀ c ∈ M.ce, 0 ≤ c.1 ∧ 0 ≤ c.2 ∧ c.1 + c.2 ≤ b
theorem Mc.Ok.mono {M : Mc} {a b : Nat} (h : M.Ok a) (l : a ≤ b) : M.Ok b := ⟨h.lc, h.lq, h.lt, Nat.le_trans h.ow l, Nat.le_trans h.fl l, h.own, h.pe, fun c hc => ⟨(h.ce c hc).1, (h.ce c hc).2.1, by have := (h.ce c hc).2.2; omega⟩⟩
inductive Rs where
  | go | right | down | stop
  deriving DecidableEq
def Rs.d : Rs → D
  | .go => .non
  | .right => .str "right"
  | .down => .str "down"
  | .stop => .str "stop"
/-- one step to the right, or down -/
def Mc.moved (M : Mc) (p : Nat) (r : Bool) (c : Int × Int) : Mc := { M with ce := M.ce.set p (if r = true then (c.1 + 1, c.2) else (c.1, c.2 + 1)), pe := M.pe.set p 0 }
def Mc.adv (M : Mc) (p : Nat) : Mc × Rs :=
  if M.pe.getD p 0 = 0 then ({ M with pe := M.pe.set p 1, ow := putC M.ow (M.ce.getD p (0, 0)) p }, .go)
  else if M.pe.getD p 0 = 1 then (if (lookC M.fl (M.ce.getD p (0, 0))).getD false = true then (M.moved p true (M.ce.getD p (0, 0)), .right) else ({ M with pe := M.pe.set p 2 }, .go))
  else if M.pe.getD p 0 = 2 then ({ M with pe := M.pe.set p 3, fl := putC M.fl (M.ce.getD p (0, 0)) true }, .go)
  else if lookC M.ow (M.ce.getD p (0, 0)) = some p then ({ M with pe := M.pe.set p (M.pe.getD p 0 + 1), st := M.st.set p true }, .stop) else (M.moved p false (M.ce.getD p (0, 0)), .down)
theorem MAt.keep {C : Addr} {s s' : S} {n : Nat} {M : Mc} {L : ML} (h : MAt C s n M L) (e : ∀ k ∈ L.ids n, s'.get k = s.get k) : MAt C s' n M L := by
  obtain ⟨a1, a2, a3, a4, a5, a6, a7⟩ := h
  exact ⟨by rw [e n (by simp [ML.ids]), a1], by rw [e L.o (by simp [ML.ids]), a2], by rw [e L.f (by simp [ML.ids]), a3], by rw [e L.c (by simp [ML.ids]), a4], by rw [e L.q (by simp [ML.ids]), a5], by rw [e L.t (by simp [ML.ids]), a6], a7⟩
structure ML.Ne (n : Nat) (L : ML) : Prop where
  no : n ≠ L.o
  nf : n ≠ L.f
  nc : n ≠ L.c
  nq : n ≠ L.q
  nt : n ≠ L.t
  of : L.o ≠ L.f
  oc : L.o ≠ L.c
  oq : L.o ≠ L.q
  ot : L.o ≠ L.t
  fc : L.f ≠ L.c
  fq : L.f ≠ L.q
  ft : L.f ≠ L.t
  cq : L.c ≠ L.q
  ct : L.c ≠ L.t
  qt : L.q ≠ L.t
theorem ML.ne {n : Nat} {L : ML} (nd : (L.ids n).Nodup) : L.Ne n := by
  simp only [ML.ids, List.nodup_cons, List.mem_cons, not_or, List.not_mem_nil, not_false_eq_true, and_true, List.nodup_nil] at nd
  obtain ⟨⟨n1, n2, n3, n4, n5⟩, ⟨n6, n7, n8, n9⟩, ⟨n10, n11, n12⟩, ⟨n13, n14⟩, n15⟩ := nd
  exact ⟨n1, n2, n3, n4, n5, n6, n7, n8, n9, n10, n11, n12, n13, n14, n15⟩
/-! one part is written -/
section
variable {C : Addr} {s : S} {n : Nat} {M : Mc} {L : ML} (h : MAt C s n M L)
include h
theorem MAt.putO (ow : List ((Int × Int) × Nat)) : MAt C (s.put L.o (.dT (dC (fun p : Nat => D.int p) ow))) n { M with ow := ow } L := by
  have e := ML.ne h.nd
  exact ⟨by rw [get_put_ne e.no]; exact h.gi, get_put_same h.go, by rw [get_put_ne e.of.symm]; exact h.gf, by rw [get_put_ne e.oc.symm]; exact h.gc, by rw [get_put_ne e.oq.symm]; exact h.gq, by rw [get_put_ne e.ot.symm]; exact h.gt, h.nd⟩
theorem MAt.putF (fl : List ((Int × Int) × Bool)) : MAt C (s.put L.f (.dT (dC .bl fl))) n { M with fl := fl } L := by
  have e := ML.ne h.nd
  exact ⟨by rw [get_put_ne e.nf]; exact h.gi, by rw [get_put_ne e.of]; exact h.go, get_put_same h.gf, by rw [get_put_ne e.fc.symm]; exact h.gc, by rw [get_put_ne e.fq.symm]; exact h.gq, by rw [get_put_ne e.ft.symm]; exact h.gt, h.nd⟩
theorem MAt.putC (ce : List (Int × Int)) : MAt C (s.put L.c (.lst (ce.map cD))) n { M with ce := ce } L := by
  have e := ML.ne h.nd
  exact ⟨by rw [get_put_ne e.nc]; exact h.gi, by rw [get_put_ne e.oc]; exact h.go, by rw [get_put_ne e.fc]; exact h.gf, get_put_same h.gc, by rw [get_put_ne e.cq.symm]; exact h.gq, by rw [get_put_ne e.ct.symm]; exact h.gt, h.nd⟩
theorem MAt.putQ (pe : List Int) : MAt C (s.put L.q (.lst (pe.map .int))) n { M with pe := pe } L := by
  have e := ML.ne h.nd
  exact ⟨by rw [get_put_ne e.nq]; exact h.gi, by rw [get_put_ne e.oq]; exact h.go, by rw [get_put_ne e.fq]; exact h.gf, by rw [get_put_ne e.cq]; exact h.gc, get_put_same h.gq, by rw [get_put_ne e.qt.symm]; exact h.gt, h.nd⟩
theorem MAt.putT (st : List Bool) : MAt C (s.put L.t (.lst (st.map .bl))) n { M with st := st } L := by
  have e := ML.ne h.nd
  exact ⟨by rw [get_put_ne e.nt]; exact h.gi, by rw [get_put_ne e.ot]; exact h.go, by rw [get_put_ne e.ft]; exact h.gf, by rw [get_put_ne e.ct]; exact h.gc, by rw [get_put_ne e.qt]; exact h.gq, get_put_same h.gt, h.nd⟩
theorem MAt.ixC {p : Nat} {c : Int × Int} (hc : M.ce[p]? = some c) : oIx (.ref L.c) (.int p) s = .ok (cD c) s := oIx_at h.gc (by rw [List.getElem?_map, hc]; rfl)
theorem MAt.ixQ {p : Nat} {k : Int} (hc : M.pe[p]? = some k) : oIx (.ref L.q) (.int p) s = .ok (.int k) s := oIx_at h.gq (by rw [List.getElem?_map, hc]; rfl)
theorem MAt.ixT {p : Nat} {k : Bool} (hc : M.st[p]? = some k) : oIx (.ref L.t) (.int p) s = .ok (.bl k) s := oIx_at h.gt (by rw [List.getElem?_map, hc]; rfl)
theorem MAt.stC {p : Nat} (hp : p < M.ce.length) (c : Int × Int) : ∃ s1, lPut (.ref L.c) (.int p) (cD c) s = .ok () s1 ∧ MAt C s1 n { M with ce := M.ce.set p c } L ∧ Fr (L.ids n) s s1 :=
  ⟨_, by rw [lPut_at' h.gc (by rw [List.length_map]; exact hp), ← List.map_set], h.putC _, fr_put (by simp [ML.ids])⟩
theorem MAt.stQ {p : Nat} (hp : p < M.pe.length) (k : Int) : ∃ s1, lPut (.ref L.q) (.int p) (.int k) s = .ok () s1 ∧ MAt C s1 n { M with pe := M.pe.set p k } L ∧ Fr (L.ids n) s s1 :=
  ⟨_, by rw [lPut_at' h.gq (by rw [List.length_map]; exact hp), ← List.map_set], h.putQ _, fr_put (by simp [ML.ids])⟩
theorem MAt.stT {p : Nat} (hp : p < M.st.length) (k : Bool) : ∃ s1, lPut (.ref L.t) (.int p) (.bl k) s = .ok () s1 ∧ MAt C s1 n { M with st := M.st.set p k } L ∧ Fr (L.ids n) s s1 :=
  ⟨_, by rw [lPut_at' h.gt (by rw [List.length_map]; exact hp), ← List.map_set], h.putT _, fr_put (by simp [ML.ids])⟩
theorem MAt.dO (c : Int × Int) {z : Nat} (hz : lookC M.ow c = some z) : dGet (.ref L.o) (cD c) s = .ok (.int z) s := by
  unfold dGet dicOf
  simp only [h.go, dLook, tkey_cell, Option.map_some, valD_dC, hz]
theorem MAt.dF (c : Int × Int) : dGetOr (.ref L.f) (cD c) (.bl false) s = .ok (.bl ((lookC M.fl c).getD false)) s := by
  unfold dGetOr dicOf
  simp only [h.gf, dLook, tkey_cell, Option.map_some, valD_dC]
  cases lookC M.fl c <;> rfl
theorem MAt.isF : (dicOf (.ref L.f) s).isSome = true := by
  unfold dicOf
  simp only [h.gf]
  rfl
theorem MAt.pO (c : Int × Int) (p : Nat) (hl : M.ow.length < LIM) : ∃ s1, dPut (.ref L.o) (cD c) (.int p) s = .ok () s1 ∧ MAt C s1 n { M with ow := L3.putC M.ow c p } L ∧ Fr (L.ids n) s s1 := by
  refine ⟨_, ?_, h.putO _, fr_put (by simp [ML.ids])⟩
  unfold dPut
  simp only [h.go, tkey_cell]
  rw [if_pos (by unfold dC; rw [List.length_map]; exact hl), put_dC (fun p : Nat => D.int p)]
theorem MAt.pF (c : Int × Int) (p : Bool) (hl : M.fl.length < LIM) : ∃ s1, dPut (.ref L.f) (cD c) (.bl p) s = .ok () s1 ∧ MAt C s1 n { M with fl := L3.putC M.fl c p } L ∧ Fr (L.ids n) s s1 := by
  refine ⟨_, ?_, h.putF _, fr_put (by simp [ML.ids])⟩
  unfold dPut
  simp only [h.gf, tkey_cell]
  rw [if_pos (by unfold dC; rw [List.length_map]; exact hl), put_dC D.bl]
end
theorem Fr.tr {L : List Nat} {s s' s'' : S} (a : Fr L s s') (b : Fr L s' s'') : Fr L s s'' := a.trans b fun _ h _ => h
theorem moved_ok {K : PySem.W.Frag} {s : S} {n p : Nat} {M : Mc} {L : ML} {c : Int × Int} (r : Bool) (h : MAt (He.ga K "Machine") s n M L) (hc : M.ce[p]? = some c) (hq : p < M.pe.length) :
    ∃ s', f_Machine_moved K [.ref n, .int p, .str (if r = true then "right" else "down")] s = .ok (.str (if r = true then "right" else "down")) s' ∧ MAt (He.ga K "Machine") s' n (M.moved p r c) L ∧ Fr (L.ids n) s s' := by
  have hp : p < M.ce.length := (List.getElem?_eq_some_iff.mp hc).1
  obtain ⟨s1, w1, h1, f1⟩ := h.stC hp (if r = true then (c.1 + 1, c.2) else (c.1, c.2 + 1))
  obtain ⟨s2, w2, h2, f2⟩ := h1.stQ hq 0
  have e1 := h.ixC hc
  refine ⟨s2, ?_, h2, f1.tr f2⟩
  have i1 := isIns_at h.gi
  have i2 := isIns_at h1.gi
  clear h h1 h2
  cases r with
  | true =>
    simp only [if_true, cD] at e1 w1 w2 ⊢
    simp [f_Machine_moved, b_Machine_moved, fnB, endR, liftE, L3.R.bind, sSeq, sAsg, sRet, sRetN, sNil, sIf, sSet, sDrop, sPar, sFldSet, sDPut, xBin, xVar, xC, xIf, xAnd, xOr, xNot, bNot, bAnd, bOr, bOf, xOf, xNeg, bYes, gTupD, gsCons, gSet, gsNil, gSubD, xTup, xLst, aCons, aNil, newT, newL, xFld, xCall, xMeth, xMake, xProp, noexc, xFn, xBM, xChain, oI, oIB, oLt, oLe, oGt, oGe, oSub, LIM, i1, i2, mfs_ce, mfs_pe, e1, w1, w2, oEq_str, oAdd_int]
  | false =>
    have ne : ¬ (("down" : Str) = "right") := by decide
    simp only [Bool.false_eq_true, if_false, cD] at e1 w1 w2 ⊢
    simp [f_Machine_moved, b_Machine_moved, fnB, endR, liftE, L3.R.bind, sSeq, sAsg, sRet, sRetN, sNil, sIf, sSet, sDrop, sPar, sFldSet, sDPut, xBin, xVar, xC, xIf, xAnd, xOr, xNot, bNot, bAnd, bOr, bOf, xOf, xNeg, bYes, gTupD, gsCons, gSet, gsNil, gSubD, xTup, xLst, aCons, aNil, newT, newL, xFld, xCall, xMeth, xMake, xProp, noexc, xFn, xBM, xChain, oI, oIB, oLt, oLe, oGt, oGe, oSub, LIM, i1, i2, mfs_ce, mfs_pe, e1, w1, w2, oEq_str, oAdd_int, ne]
theorem advance_ok {K : PySem.W.Frag} {s : S} {n p b : Nat} {M : Mc} {L : ML} (h : MAt (He.ga K "Machine") s n M L) (ok : M.Ok b) (hb : b < LIM) (hp : p < M.n) :
    ∃ s', f_Machine_advance K [.ref n, .int p] s = .ok (M.adv p).2.d s' ∧ MAt (He.ga K "Machine") s' n (M.adv p).1 L ∧ Fr (L.ids n) s s' := by
  have pc : p < M.ce.length := by rw [ok.lc]; exact hp
  have pq : p < M.pe.length := by rw [ok.lq]; exact hp
  have pt : p < M.st.length := by rw [ok.lt]; exact hp
  obtain ⟨c, hc⟩ : ∃ c, M.ce[p]? = some c := ⟨_, List.getElem?_eq_getElem pc⟩
  obtain ⟨k, hk⟩ : ∃ k, M.pe[p]? = some k := ⟨_, List.getElem?_eq_getElem pq⟩
  have gc : M.ce.getD p (0, 0) = c := by rw [List.getD_eq_getElem?_getD, hc]; rfl
  have gk : M.pe.getD p 0 = k := by rw [List.getD_eq_getElem?_getD, hk]; rfl
  have k0 : 0 ≤ k := ok.pe k (List.mem_of_getElem? hk)
  unfold Mc.adv
  rw [gc, gk]
  have e1 := h.ixC hc
  have e2 := h.ixQ hk
  have i0 := isIns_at h.gi
  obtain ⟨s1, w1, h1, f1⟩ := h.stQ pq (k + 1)
  have i1 := isIns_at h1.gi
  by_cases q0 : k = 0
  · subst q0
    obtain ⟨s2, w2, h2, f2⟩ := h1.pO c p (Nat.lt_of_le_of_lt ok.ow hb)
    refine ⟨s2, ?_, h2, f1.tr f2⟩
    clear h h1 h2
    simp at w1
    simp [f_Machine_advance, b_Machine_advance, fnB, endR, liftE, L3.R.bind, sSeq, sAsg, sRet, sRetN, sNil, sIf, sSet, sDrop, sPar, sFldSet, sDPut, xBin, xVar, xC, xIf, xAnd, xOr, xNot, bNot, bAnd, bOr, bOf, xOf, xNeg, bYes, gTupD, gsCons, gSet, gsNil, gSubD, xTup, xLst, aCons, aNil, newT, newL, xFld, xCall, xMeth, xMake, xProp, noexc, xFn, xBM, xChain, oI, oIB, oLt, oLe, oGt, oGe, oSub, LIM, i0, i1, mfs_ce, mfs_pe, mfs_ow, e1, e2, w1, w2, oEq_int, oAdd_int, Rs.d]
  · rw [if_neg q0]
    by_cases q1 : k = 1
    · subst q1
      rw [if_pos rfl]
      have g1 := h1.dF c
      have g2 := h1.isF
      by_cases qf : (lookC M.fl c).getD false = true
      · rw [if_pos qf]
        have qf' : (lookC M.fl c).getD false = true := qf
        obtain ⟨s2, w2, h2, f2⟩ := moved_ok (K := K) true h1 hc (by simpa using pq)
        refine ⟨s2, ?_, ?_, f1.tr f2⟩
        · clear h h1 h2
          simp only [qf] at g1
          simp at w1 w2
          simp [f_Machine_advance, b_Machine_advance, fnB, endR, liftE, L3.R.bind, sSeq, sAsg, sRet, sRetN, sNil, sIf, sSet, sDrop, sPar, sFldSet, sDPut, xBin, xVar, xC, xIf, xAnd, xOr, xNot, bNot, bAnd, bOr, bOf, xOf, xNeg, bYes, gTupD, gsCons, gSet, gsNil, gSubD, xTup, xLst, aCons, aNil, newT, newL, xFld, xCall, xMeth, xMake, xProp, noexc, xFn, xBM, xChain, oI, oIB, oLt, oLe, oGt, oGe, oSub, LIM, i0, i1, mfs_ce, mfs_pe, mfs_fl, mfs_moved, e1, e2, w1, w2, oEq_int, oAdd_int, Rs.d, xDGet2, g1, g2]
        · simpa [Mc.moved] using h2
      · rw [if_neg qf]
        refine ⟨s1, ?_, h1, f1⟩
        clear h h1
        simp only [Bool.not_eq_true] at qf
        simp only [qf] at g1
        simp at w1
        simp [f_Machine_advance, b_Machine_advance, fnB, endR, liftE, L3.R.bind, sSeq, sAsg, sRet, sRetN, sNil, sIf, sSet, sDrop, sPar, sFldSet, sDPut, xBin, xVar, xC, xIf, xAnd, xOr, xNot, bNot, bAnd, bOr, bOf, xOf, xNeg, bYes, gTupD, gsCons, gSet, gsNil, gSubD, xTup, xLst, aCons, aNil, newT, newL, xFld, xCall, xMeth, xMake, xProp, noexc, xFn, xBM, xChain, oI, oIB, oLt, oLe, oGt, oGe, oSub, LIM, i0, i1, mfs_ce, mfs_pe, mfs_fl, e1, e2, w1, oEq_int, oAdd_int, Rs.d, xDGet2, g1, g2]
    · rw [if_neg q1]
      by_cases q2 : k = 2
      · subst q2
        rw [if_pos rfl]
        obtain ⟨s2, w2, h2, f2⟩ := h1.pF c true (Nat.lt_of_le_of_lt ok.fl hb)
        refine ⟨s2, ?_, h2, f1.tr f2⟩
        clear h h1 h2
        simp at w1
        simp [f_Machine_advance, b_Machine_advance, fnB, endR, liftE, L3.R.bind, sSeq, sAsg, sRet, sRetN, sNil, sIf, sSet, sDrop, sPar, sFldSet, sDPut, xBin, xVar, xC, xIf, xAnd, xOr, xNot, bNot, bAnd, bOr, bOf, xOf, xNeg, bYes, gTupD, gsCons, gSet, gsNil, gSubD, xTup, xLst, aCons, aNil, newT, newL, xFld, xCall, xMeth, xMake, xProp, noexc, xFn, xBM, xChain, oI, oIB, oLt, oLe, oGt, oGe, oSub, LIM, i0, i1, mfs_ce, mfs_pe, mfs_fl, e1, e2, w1, w2, oEq_int, oAdd_int, Rs.d]
      · rw [if_neg q2]
        obtain ⟨z, hz⟩ := ok.own p c k hc hk (by omega)
        have g1 := h1.dO c (z := z) hz
        rw [hz]
        by_cases qz : z = p
        · subst qz
          rw [if_pos rfl]
          obtain ⟨s2, w2, h2, f2⟩ := h1.stT pt true
          refine ⟨s2, ?_, h2, f1.tr f2⟩
          clear h h1 h2
          simp [f_Machine_advance, b_Machine_advance, fnB, endR, liftE, L3.R.bind, sSeq, sAsg, sRet, sRetN, sNil, sIf, sSet, sDrop, sPar, sFldSet, sDPut, xBin, xVar, xC, xIf, xAnd, xOr, xNot, bNot, bAnd, bOr, bOf, xOf, xNeg, bYes, gTupD, gsCons, gSet, gsNil, gSubD, xTup, xLst, aCons, aNil, newT, newL, xFld, xCall, xMeth, xMake, xProp, noexc, xFn, xBM, xChain, oI, oIB, oLt, oLe, oGt, oGe, oSub, LIM, i0, i1, mfs_ce, mfs_pe, mfs_ow, mfs_st, e1, e2, w1, w2, oEq_int, oAdd_int, Rs.d, g1, q0, q1, q2]
        · rw [if_neg (by simpa using qz)]
          obtain ⟨s2, w2, h2, f2⟩ := moved_ok (K := K) false h1 hc (by simpa using pq)
          refine ⟨s2, ?_, ?_, f1.tr f2⟩
          · clear h h1 h2
            have qz' : ¬ (z : Int) = (p : Int) := fun e => qz (Int.ofNat.inj e)
            simp at w2
            simp [f_Machine_advance, b_Machine_advance, fnB, endR, liftE, L3.R.bind, sSeq, sAsg, sRet, sRetN, sNil, sIf, sSet, sDrop, sPar, sFldSet, sDPut, xBin, xVar, xC, xIf, xAnd, xOr, xNot, bNot, bAnd, bOr, bOf, xOf, xNeg, bYes, gTupD, gsCons, gSet, gsNil, gSubD, xTup, xLst, aCons, aNil, newT, newL, xFld, xCall, xMeth, xMake, xProp, noexc, xFn, xBM, xChain, oI, oIB, oLt, oLe, oGt, oGe, oSub, LIM, i0, i1, mfs_ce, mfs_pe, mfs_ow, mfs_moved, e1, e2, w1, w2, oEq_int, oAdd_int, Rs.d, g1, q0, q1, q2, qz', qz]
          · simpa [Mc.moved] using h2
end L3

set_option Elab.async false
set_option linter.all false
set_option maxRecDepth 100000
set_option maxHeartbeats 1000000
set_option exponentiation.threshold 600
namespace L3
open PySem PySem.Spec PyProof.Rows L2

/-! ### adv keeps the machine in order -/
theorem mem_set' {α : Type} {l : List α} {p : Nat} {a x : α} (h : x ∈ l.set p a) : x = a ∨ x ∈ l := by
  rcases List.mem_or_eq_of_mem_set h with h | h
  · exact .inr h
  · exact .inl h
theorem get_set' {α : Type} {l : List α} {p q : Nat} {a x : α} (h : (l.set p a)[q]? = some x) : (q = p ∧ x = a ∧ p < l.length) ∨ (q ≠ p ∧ l[q]? = some x) := by
  rw [List.getElem?_set] at h
  split at h
  · rename_i e
    split at h
    · exact .inl ⟨e.symm, (Option.some.inj h).symm, by assumption⟩
    · cases h
  · rename_i e
    exact .inr ⟨fun z => e z.symm, h⟩
theorem Mc.Ok.ofMoved {M : Mc} {b p : Nat} (ok : M.Ok b) (r : Bool) {c : Int × Int} (hc : M.ce[p]? = some c) : (M.moved p r c).Ok (b + 1) := by
  have hm := ok.ce c (List.mem_of_getElem? hc)
  refine ⟨by simp [Mc.moved, ok.lc], by simp [Mc.moved, ok.lq], ok.lt, Nat.le_succ_of_le ok.ow, Nat.le_succ_of_le ok.fl, fun q d k h1 h2 h3 => ?_, fun k hk => ?_, fun d hd => ?_⟩
  · rcases get_set' h2 with ⟨e, e2, _⟩ | ⟨e, h2⟩
    · omega
    · rcases get_set' h1 with ⟨e', _⟩ | ⟨_, h1⟩
      · exact absurd e' e
      · exact ok.own q d k h1 h2 h3
  · rcases mem_set' hk with e | hk
    · omega
    · exact ok.pe k hk
  · rcases mem_set' hd with e | hd
    · subst e
      cases r
      · simp; omega
      · simp; omega
    · have := ok.ce d hd
      push_cast
      omega
theorem Mc.Ok.ofPe {M : Mc} {b p : Nat} (ok : M.Ok b) {c : Int × Int} {k : Int} (hc : M.ce[p]? = some c) (k0 : 0 ≤ k) (hz : 1 ≤ k → ∃ z, lookC M.ow c = some z) : ({ M with pe := M.pe.set p k } : Mc).Ok b := by
  refine ⟨ok.lc, by simp [ok.lq], ok.lt, ok.ow, ok.fl, fun q d j h1 h2 h3 => ?_, fun j hj => ?_, ok.ce⟩
  · rcases get_set' h2 with ⟨e, e2, _⟩ | ⟨e, h2⟩
    · subst e; subst e2
      have : d = c := Option.some.inj (h1.symm.trans hc)
      subst this
      exact hz h3
    · exact ok.own q d j h1 h2 h3
  · rcases mem_set' hj with e | hj
    · omega
    · exact ok.pe j hj
theorem Mc.Ok.ofOw {M : Mc} {b : Nat} (ok : M.Ok b) (c : Int × Int) (z : Nat) : ({ M with ow := putC M.ow c z } : Mc).Ok (b + 1) := by
  refine ⟨ok.lc, ok.lq, ok.lt, Nat.le_trans (len_putC _ _ _) (Nat.succ_le_succ ok.ow), Nat.le_succ_of_le ok.fl, fun q d j h1 h2 h3 => ?_, ok.pe, (ok.mono (Nat.le_succ b)).ce⟩
  show ∃ z', lookC (putC M.ow c z) d = some z'
  rw [look_putC]
  split
  · exact ⟨_, rfl⟩
  · exact ok.own q d j h1 h2 h3
theorem Mc.Ok.ofFl {M : Mc} {b : Nat} (ok : M.Ok b) (c : Int × Int) (z : Bool) : ({ M with fl := putC M.fl c z } : Mc).Ok (b + 1) :=
  ⟨ok.lc, ok.lq, ok.lt, Nat.le_succ_of_le ok.ow, Nat.le_trans (len_putC _ _ _) (Nat.succ_le_succ ok.fl), ok.own, ok.pe, (ok.mono (Nat.le_succ b)).ce⟩
theorem Mc.Ok.ofSt {M : Mc} {b : Nat} (ok : M.Ok b) (p : Nat) (z : Bool) : ({ M with st := M.st.set p z } : Mc).Ok b :=
  ⟨ok.lc, ok.lq, by simp [ok.lt], ok.ow, ok.fl, ok.own, ok.pe, ok.ce⟩
theorem adv_Ok {M : Mc} {b p : Nat} (ok : M.Ok b) (hp : p < M.n) : (M.adv p).1.Ok (b + 1) := by
  have pc : p < M.ce.length := by rw [ok.lc]; exact hp
  have pq : p < M.pe.length := by rw [ok.lq]; exact hp
  obtain ⟨c, hc⟩ : ∃ c, M.ce[p]? = some c := ⟨_, List.getElem?_eq_getElem pc⟩
  obtain ⟨k, hk⟩ : ∃ k, M.pe[p]? = some k := ⟨_, List.getElem?_eq_getElem pq⟩
  have gc : M.ce.getD p (0, 0) = c := by rw [List.getD_eq_getElem?_getD, hc]; rfl
  have gk : M.pe.getD p 0 = k := by rw [List.getD_eq_getElem?_getD, hk]; rfl
  have k0 : 0 ≤ k := ok.pe k (List.mem_of_getElem? hk)
  unfold Mc.adv
  rw [gc, gk]
  split
  · exact (ok.ofOw c p).ofPe hc (by omega) fun _ => ⟨p, by show lookC (putC M.ow c p) c = some p; rw [look_putC, if_pos rfl]⟩
  · have hz : ∃ z, lookC M.ow c = some z := ok.own p c k hc hk (by omega)
    split
    · split
      · exact ok.ofMoved true hc
      · exact (ok.ofPe hc (by omega) fun _ => hz).mono (Nat.le_succ b)
    · split
      · exact (ok.ofFl c true).ofPe hc (by omega) fun _ => hz
      · split
        · exact ((ok.ofPe hc (by omega) fun _ => hz).ofSt p true).mono (Nat.le_succ b)
        · exact ok.ofMoved false hc
theorem adv_n (M : Mc) (p : Nat) : (M.adv p).1.n = M.n := by
  unfold Mc.adv
  repeat (first | rfl | split)
def Mc.init (c : Nat) : Mc := ⟨c, [], [], List.replicate c (0, 0), List.replicate c 0, List.replicate c false⟩
theorem init_Ok (c : Nat) : (Mc.init c).Ok 0 := by
  refine ⟨by simp [Mc.init], by simp [Mc.init], by simp [Mc.init], Nat.le_refl _, Nat.le_refl _, fun p d k h1 h2 h3 => ?_, fun k hk => ?_, fun d hd => ?_⟩
  · have := List.mem_of_getElem? h2
    simp [Mc.init] at this
    omega
  · simp [Mc.init] at hk; omega
  · simp [Mc.init] at hd
    obtain ⟨_, rfl⟩ := hd
    simp
/-- a schedule is played -/
def Mc.after (M : Mc) : List Nat → Mc
  | [] => M
  | p :: r => (M.adv p).1.after r
def Mc.can (M : Mc) : List Nat → Prop
  | [] => True
  | p :: r => p < M.n ∧ M.st[p]? = some false ∧ (M.adv p).1.can r
theorem after_n (M : Mc) : ∀ l, (M.after l).n = M.n
  | [] => rfl
  | p :: r => by unfold Mc.after; rw [after_n _ r, adv_n]
theorem after_Ok {M : Mc} {b : Nat} : ∀ {l : List Nat}, M.can l → M.Ok b → (M.after l).Ok (b + l.length)
  | [], _, ok => ok
  | p :: r, h, ok => by
    have := after_Ok h.2.2 (adv_Ok ok h.1)
    unfold Mc.after
    rw [List.length_cons]
    exact this.mono (by omega)
theorem after_app (M : Mc) : ∀ l r, M.after (l ++ r) = (M.after l).after r
  | [], r => rfl
  | p :: l, r => after_app (M.adv p).1 l r
theorem can_app (M : Mc) : ∀ l r, M.can (l ++ r) ↔ M.can l ∧ (M.after l).can r
  | [], r => by simp [Mc.can, Mc.after]
  | p :: l, r => by
    simp only [List.cons_append, Mc.can, Mc.after, can_app (M.adv p).1 l r]
    constructor
    · rintro ⟨a, b, c, d⟩; exact ⟨⟨a, b, c⟩, d⟩
    · rintro ⟨⟨a, b, c⟩, d⟩; exact ⟨a, b, c, d⟩
theorem can_take {M : Mc} {l : List Nat} (h : M.can l) (k : Nat) : M.can (l.take k) := by
  rw [← List.take_append_drop k l, can_app] at h
  exact h.1
end L3

set_option Elab.async false
set_option linter.all false
set_option maxRecDepth 100000
set_option maxHeartbeats 1000000
set_option exponentiation.threshold 600
namespace L3
open PySem PySem.Spec PyProof.Rows L2

/-! ### making a machine -/
theorem fldset_ok {C : Addr} {f : Str} {fo fv : XF} {Γ : Sl} {s s1 s2 : S} {d : D} {n : Nat} {fs : List (Str × D)} (hv : fv Γ s = .ok d s1) (ho : fo Γ s1 = .ok (.ref n) s2) (hg : s2.get n = some (.ins C fs)) (hl : fs.length < 1000) :
    sFldSet C f fo fv Γ s = .ok (.nx Γ) (s2.put n (.ins C (putD f d fs))) := by
  unfold sFldSet
  rw [hv]
  simp only [liftE]
  rw [ho]
  simp only [isIns_at hg]
  rw [if_pos hl]
/-- one field more: what is made for it stands behind it -/
theorem addF {C : Addr} {f : Str} {fv : XF} {Γ : Sl} {s s1 : S} {d : D} {n : Nat} {fs : List (Str × D)} (hΓ : Γ[0]? = some (some (.ref n))) (hg : s.get n = some (.ins C fs)) (w : WF s) (hv : fv Γ s = .ok d s1) (fr : Fr [] s s1) (hl : fs.length < 1000) :
    ∃ s2, sFldSet C f (xVar 0) fv Γ s = .ok (.nx Γ) s2 ∧ s2.get n = some (.ins C (putD f d fs)) ∧ Fr [n] s s2 ∧ WF s2 ∧ s1.nx ≤ s2.nx ∧ ∀ k, k ≠ n → s2.get k = s1.get k := by
  have h1 : s1.get n = some (.ins C fs) := fr.keep w hg (by simp)
  have ho : xVar 0 Γ s1 = .ok (.ref n) s1 := by unfold xVar; rw [hΓ]
  exact ⟨_, fldset_ok hv ho h1 hl, get_put_same h1, (fr.sub (L' := [n]) (by simp)).tr (fr_put (by simp)), wf_put (fr.wf w) _ _, Nat.le_refl _, fun k hk => get_put_ne hk⟩
theorem Fr.news {L : List Nat} {s : S} {o p : O} : Fr L s ((s.new o).new p) := fr_new.tr fr_new
/-- [x] * c -/
theorem rep_ok {Γ : Sl} {s : S} {e : XF} {d : D} {i c : Nat} (he : e Γ s = .ok d s) (hc : Γ[i]? = some (some (.int c))) (hl : c ≤ LIM) :
    xBin (oMul true) (xLst true (aCons e aNil)) (xVar i) Γ s = .ok (.ref (s.nx + 1)) ((s.new (.lst [d])).new (.lst (List.replicate c d))) := by
  have h0 : (s.new (.lst [d])).get s.nx = some (.lst [d]) := by rw [get_new, if_pos rfl]
  have h1 : ∀ c : Nat, (List.replicate c [d]).flatten = List.replicate c d := fun c => by
    induction c with
    | zero => rfl
    | succ c ih => rw [List.replicate_succ, List.flatten_cons, ih, List.replicate_succ]; rfl
  simp only [xBin, xLst, aCons, aNil, he, R.bind, xVar, newL]
  rw [if_pos (by show 1 ≤ LIM; decide)]
  simp only [if_true, R.bind, hc, oMul, h0]
  rw [if_pos ⟨by omega, by omega, by simp; exact hl⟩]
  simp only [Int.toNat_natCast, h1]
  rfl
theorem minit_ok {K : PySem.W.Frag} {s : S} {n c : Nat} (w : WF s) (hg : s.get n = some (.ins (He.ga K "Machine") [])) (hc : c ≤ LIM) :
    ∃ s' L, f_Machine___init__ K [.ref n, .int c] s = .ok .non s' ∧ MAt (He.ga K "Machine") s' n (Mc.init c) L ∧ Fr [n] s s' ∧ WF s' ∧ ∀ k ∈ L.ids n, k = n ∨ s.nx ≤ k := by
  have hn : n < s.nx := w n _ hg
  let Γ : Sl := [some (.ref n), some (.int c)]
  obtain ⟨s1, e1, g1, r1, w1, x1, k1⟩ := addF (f := "size") (fv := xVar 1) (Γ := Γ) rfl hg w rfl (Fr.refl s) (by simp)
  have l1 := r1.nx
  obtain ⟨s2, e2, g2, r2, w2, x2, k2⟩ := addF (f := "owners") (fv := xDNew true) (Γ := Γ) rfl g1 w1 rfl fr_new (by show 1 < 1000; decide)
  have l2 := r2.nx
  rw [nx_new] at x2
  have g2 : s2.get n = some (.ins (He.ga K "Machine") [("size", .int c), ("owners", .ref s1.nx)]) := g2
  obtain ⟨s3, e3, g3, r3, w3, x3, k3⟩ := addF (f := "flags") (fv := xDNew true) (Γ := Γ) rfl g2 w2 rfl fr_new (by show 2 < 1000; decide)
  have l3 := r3.nx
  rw [nx_new] at x3
  have g3 : s3.get n = some (.ins (He.ga K "Machine") [("size", .int c), ("owners", .ref s1.nx), ("flags", .ref s2.nx)]) := g3
  obtain ⟨s4, e4, g4, r4, w4, x4, k4⟩ := addF (f := "cells") (Γ := Γ) rfl g3 w3 (rep_ok (e := xTup (aCons (xC (.int 0)) (aCons (xC (.int 0)) aNil))) (i := 1) (d := cD (0, 0)) rfl rfl hc) Fr.news (by show 3 < 1000; decide)
  have l4 := r4.nx
  rw [nx_new, nx_new] at x4
  have g4 : s4.get n = some (.ins (He.ga K "Machine") [("size", .int c), ("owners", .ref s1.nx), ("flags", .ref s2.nx), ("cells", .ref (s3.nx + 1))]) := g4
  obtain ⟨s5, e5, g5, r5, w5, x5, k5⟩ := addF (f := "performed") (Γ := Γ) rfl g4 w4 (rep_ok (e := xC (.int 0)) (i := 1) (d := .int 0) rfl rfl hc) Fr.news (by show 4 < 1000; decide)
  have l5 := r5.nx
  rw [nx_new, nx_new] at x5
  have g5 : s5.get n = some (.ins (He.ga K "Machine") [("size", .int c), ("owners", .ref s1.nx), ("flags", .ref s2.nx), ("cells", .ref (s3.nx + 1)), ("performed", .ref (s4.nx + 1))]) := g5
  obtain ⟨s6, e6, g6, r6, w6, x6, k6⟩ := addF (f := "stopped") (Γ := Γ) rfl g5 w5 (rep_ok (e := xC (.bl false)) (i := 1) (d := .bl false) rfl rfl hc) Fr.news (by show 5 < 1000; decide)
  have l6 := r6.nx
  rw [nx_new, nx_new] at x6
  have g6 : s6.get n = some (.ins (He.ga K "Machine") [("size", .int c), ("owners", .ref s1.nx), ("flags", .ref s2.nx), ("cells", .ref (s3.nx + 1)), ("performed", .ref (s4.nx + 1)), ("stopped", .ref (s5.nx + 1))]) := g6
  refine ⟨s6, ⟨s1.nx, s2.nx, s3.nx + 1, s4.nx + 1, s5.nx + 1⟩, ?_, ⟨g6, ?_, ?_, ?_, ?_, ?_, ?_⟩, r1.tr (r2.tr (r3.tr (r4.tr (r5.tr r6)))), w6, fun k hk => ?_⟩
  · refine fnB_nx (Γ := Γ) ?_
    show b_Machine___init__ K Γ s = _
    unfold b_Machine___init__
    rw [seq_ok e1, seq_ok e2, seq_ok e3, seq_ok e4, seq_ok e5]
    exact e6
  · have a : s2.get s1.nx = some (.dT []) := by rw [k2 _ (by omega), get_new, if_pos rfl]; rfl
    exact (r3.tr (r4.tr (r5.tr r6))).keep w2 a (by simp; omega)
  · have a : s3.get s2.nx = some (.dT []) := by rw [k3 _ (by omega), get_new, if_pos rfl]; rfl
    exact (r4.tr (r5.tr r6)).keep w3 a (by simp; omega)
  · have a : s4.get (s3.nx + 1) = some (.lst (List.replicate c (cD (0, 0)))) := by rw [k4 _ (by omega), get_new, if_pos (by rw [nx_new])]
    rw [(r5.tr r6).keep w4 a (by simp; omega)]
    simp [Mc.init]
  · have a : s5.get (s4.nx + 1) = some (.lst (List.replicate c (.int 0))) := by rw [k5 _ (by omega), get_new, if_pos (by rw [nx_new])]
    rw [r6.keep w5 a (by simp; omega)]
    simp [Mc.init]
  · have a : s6.get (s5.nx + 1) = some (.lst (List.replicate c (.bl false))) := by rw [k6 _ (by omega), get_new, if_pos (by rw [nx_new])]
    rw [a]
    simp [Mc.init]
  · simp [ML.ids]
    omega
  · simp [ML.ids] at hk
    omega

/-! ### its methods that change nothing -/
section
variable {K : PySem.W.Frag} {s : S} {n : Nat} {M : Mc} {L : ML} (h : MAt (He.ga K "Machine") s n M L)
include h
theorem may_step_ok (v : Int) (hl : M.st.length = M.n) : f_Machine_may_step K [.ref n, .int v] s = .ok (.bl (decide (0 ≤ v ∧ v < M.n) && !(M.st.getD v.toNat false))) s := by
  have i0 := isIns_at h.gi
  by_cases hv : 0 ≤ v ∧ v < M.n
  · obtain ⟨p, rfl⟩ : ∃ p : Nat, v = p := ⟨v.toNat, by omega⟩
    have hp : p < M.st.length := by omega
    have e1 := h.ixT (p := p) (List.getElem?_eq_getElem hp)
    have h1 : ((p : Int) ≤ (M.n : Int) - 1) := by omega
    have h2 : p < M.n := by omega
    have h3 : M.st.getD p false = M.st[p] := by simp [hp]
    clear h
    rw [Int.toNat_natCast, h3]
    cases q : M.st[p] <;> rw [q] at e1 <;> simp [f_Machine_may_step, b_Machine_may_step, fnB, endR, liftE, L3.R.bind, sSeq, sAsg, sRet, sRetN, sNil, sIf, sSet, sDrop, sPar, sFldSet, sDPut, xBin, xVar, xC, xIf, xAnd, xOr, xNot, bNot, bAnd, bOr, bOf, xOf, xNeg, bYes, gTupD, gsCons, gSet, gsNil, gSubD, xTup, xLst, aCons, aNil, newT, newL, xFld, xCall, xMeth, xMake, xProp, noexc, xFn, xBM, xChain, oI, oIB, oLt, oLe, oGt, oGe, oSub, LIM, i0, mfs_size, mfs_st, is_whole_ok, e1, h1, h2]
  · have h1 : (decide (0 ≤ v) && decide (v ≤ (M.n : Int) - 1)) = false := by
      rw [← Bool.not_eq_true]
      simp
      intro a
      omega
    have h2 : decide (0 ≤ v ∧ v < (M.n : Int)) = false := decide_eq_false hv
    clear h
    rw [h2]
    simp [f_Machine_may_step, b_Machine_may_step, fnB, endR, liftE, L3.R.bind, sSeq, sAsg, sRet, sRetN, sNil, sIf, sSet, sDrop, sPar, sFldSet, sDPut, xBin, xVar, xC, xIf, xAnd, xOr, xNot, bNot, bAnd, bOr, bOf, xOf, xNeg, bYes, gTupD, gsCons, gSet, gsNil, gSubD, xTup, xLst, aCons, aNil, newT, newL, xFld, xCall, xMeth, xMake, xProp, noexc, xFn, xBM, xChain, oI, oIB, oLt, oLe, oGt, oGe, oSub, LIM, i0, mfs_size, mfs_st, is_whole_ok, h1]
end
/-- the name of a cell -/
def nm (c : Int × Int) : Int := (c.1 + c.2) * (c.1 + c.2 + 1) / 2 + c.1
theorem name_in_ok {K : PySem.W.Frag} {c : Int × Int} {s : S} (h0 : 0 ≤ c.1 + c.2) (h1 : c.1 + c.2 < 2 ^ 200) : f_name_in K [.int c.1, .int c.2] s = .ok (.int (nm c)) s := by
  have e := first_name_ok (K := K) (s := s) (d := c.1 + c.2) (sm_lt h0 (by omega)) (sm_lt (by omega) (by omega))
  unfold nm
  generalize (c.1 + c.2) * (c.1 + c.2 + 1) / 2 = v at e ⊢
  clear h0 h1
  simp [f_name_in, b_name_in, fnB, endR, liftE, L3.R.bind, sSeq, sAsg, sRet, sRetN, sNil, sIf, sSet, sDrop, sPar, sFldSet, sDPut, xBin, xVar, xC, xIf, xAnd, xOr, xNot, bNot, bAnd, bOr, bOf, xOf, xNeg, bYes, gTupD, gsCons, gSet, gsNil, gSubD, xTup, xLst, aCons, aNil, newT, newL, xFld, xCall, xMeth, xMake, xProp, noexc, xFn, xBM, xChain, oI, oIB, oLt, oLe, oGt, oGe, oSub, LIM, oAdd_int, e]
section
variable {K : PySem.W.Frag} {s : S} {n : Nat} {M : Mc} {L : ML} (h : MAt (He.ga K "Machine") s n M L)
include h
theorem name_at_ok {b p : Nat} {c : Int × Int} (ok : M.Ok b) (hb : b < LIM) (hc : M.ce[p]? = some c) : f_Machine_name_at K [.ref n, .int p] s = .ok (.int (nm c)) s := by
  have i0 := isIns_at h.gi
  have hm := ok.ce c (List.mem_of_getElem? hc)
  have hb0 : b < 1000000 := hb
  have hb' : (b : Int) < 1000000 := by omega
  have e1 := h.ixC hc
  have e2 := name_in_ok (K := K) (s := s) (c := c) (by omega) (by omega)
  clear h hm hb' ok
  simp only [cD] at e1
  generalize nm c = v at e2 ⊢
  simp [f_Machine_name_at, b_Machine_name_at, fnB, endR, liftE, L3.R.bind, sSeq, sAsg, sRet, sRetN, sNil, sIf, sSet, sDrop, sPar, sFldSet, sDPut, xBin, xVar, xC, xIf, xAnd, xOr, xNot, bNot, bAnd, bOr, bOf, xOf, xNeg, bYes, gTupD, gsCons, gSet, gsNil, gSubD, xTup, xLst, aCons, aNil, newT, newL, xFld, xCall, xMeth, xMake, xProp, noexc, xFn, xBM, xChain, oI, oIB, oLt, oLe, oGt, oGe, oSub, LIM, i0, mfs_ce, e1, e2]
/-- the names that are taken -/
def Mc.nms (M : Mc) : List (Option Int) := (List.range M.n).map fun p => if M.st.getD p false = true then some (nm (M.ce.getD p (0, 0))) else none
def oD : Option Int → D
  | some i => .int i
  | none => .non
theorem names_ok {b : Nat} (ok : M.Ok b) (hb : b < LIM) (hn : M.n ≤ LIM) : f_Machine_names K [.ref n] s = .ok (.lst (M.nms.map oD)) s := by
  have i0 := isIns_at h.gi
  refine fnB_rt ?_
  show b_Machine_names K [some (.ref n), none] s = _
  have hs : small62 (M.n : Int) = true := by
    unfold small62
    have hn0 : M.n ≤ 1000000 := hn
    have : (M.n : Int) ≤ 1000000 := by omega
    simp
    omega
  have key : ∀ d ∈ rng 0 M.n, ∃ Γ', gSet 1 d [some (.ref n), none] s = .ok Γ' s ∧ xIf (bOf (xBin oIx (xFld (He.ga K "Machine") "stopped" (xVar 0)) (xVar 1))) (xMeth (He.ga K "Machine") "name_at" 2 (f_Machine_name_at K) (xVar 0) (aCons (xVar 1) aNil)) (xC .non) Γ' s =
      .ok (match d with | .int i => oD (if M.st.getD i.toNat false = true then some (nm (M.ce.getD i.toNat (0, 0))) else none) | _ => .non) s := by
    intro d hd
    rw [rng_map (α := Unit)] at hd
    obtain ⟨p, hp, rfl⟩ := List.mem_map.mp hd
    have hp : p < M.n := by simpa using hp
    have hpt : p < M.st.length := by rw [ok.lt]; exact hp
    have hpc : p < M.ce.length := by rw [ok.lc]; exact hp
    refine ⟨_, rfl, ?_⟩
    have e1 := h.ixT (p := p) (List.getElem?_eq_getElem hpt)
    have e2 := name_at_ok h ok hb (List.getElem?_eq_getElem hpc)
    have g1 : M.st.getD p false = M.st[p] := by simp [hpt]
    have g2 : M.ce.getD p (0, 0) = M.ce[p] := by simp [hpc]
    have ml : (mfs M.n L).lookup ("name_at" : Str) = none := rfl
    clear h
    simp only [Int.toNat_natCast, g1, g2]
    generalize nm M.ce[p] = v at e2 ⊢
    cases q : M.st[p] <;> rw [q] at e1 <;> simp [gSet, fnB, endR, liftE, L3.R.bind, sSeq, sAsg, sRet, sRetN, sNil, sIf, sSet, sDrop, sPar, sFldSet, sDPut, xBin, xVar, xC, xIf, xAnd, xOr, xNot, bNot, bAnd, bOr, bOf, xOf, xNeg, bYes, gTupD, gsCons, gSet, gsNil, gSubD, xTup, xLst, aCons, aNil, newT, newL, xFld, xCall, xMeth, xMake, xProp, noexc, xFn, xBM, xChain, oI, oIB, oLt, oLe, oGt, oGe, oSub, LIM, i0, mfs_st, ml, e1, e2, oD]
  unfold b_Machine_names
  have it : iRange1 (xFld (He.ga K "Machine") "size" (xVar 0)) [some (.ref n), none] s = .ok ⟨rng 0 M.n, yes⟩ s := by
    simp [iRange1, fnB, endR, liftE, L3.R.bind, sSeq, sAsg, sRet, sRetN, sNil, sIf, sSet, sDrop, sPar, sFldSet, sDPut, xBin, xVar, xC, xIf, xAnd, xOr, xNot, bNot, bAnd, bOr, bOf, xOf, xNeg, bYes, gTupD, gsCons, gSet, gsNil, gSubD, xTup, xLst, aCons, aNil, newT, newL, xFld, xCall, xMeth, xMake, xProp, noexc, xFn, xBM, xChain, oI, oIB, oLt, oLe, oGt, oGe, oSub, LIM, i0, mfs_size, hs]
  unfold sRet xComp
  rw [it]
  simp only [R.bind, wipeD]
  rw [show ([some (D.ref n), none].set 1 none : Sl) = [some (.ref n), none] from rfl, comp_map _ rfl _ (by unfold rng; simpa using hn) key]
  simp only [R.bind, newL, Bool.false_eq_true, if_false, liftE]
  rw [rng_map (α := Unit), List.map_map]
  unfold Mc.nms
  rw [List.map_map]
  rfl
end
end L3

set_option Elab.async false
set_option linter.all false
set_option maxRecDepth 100000
set_option maxHeartbeats 1000000
set_option exponentiation.threshold 600
namespace L3
open PySem PySem.Spec PyProof.Rows L2

theorem need_count_ok {K : PySem.W.Frag} {c : Int} {s : S} (h1 : 1 ≤ c) (h2 : c ≤ 40) : f_need_count K [.int c] s = .ok .non s := by
  have e := is_whole_ok (K := K) (v := c) (a := 1) (b := 40) (s := s)
  simp only [h1, h2, decide_true, Bool.and_self] at e
  simp [f_need_count, b_need_count, fnB, endR, liftE, L3.R.bind, sSeq, sAsg, sRet, sRetN, sNil, sIf, sSet, sDrop, sPar, sFldSet, sDPut, xBin, xVar, xC, xIf, xAnd, xOr, xNot, bNot, bAnd, bOr, bOf, xOf, xNeg, bYes, gTupD, gsCons, gSet, gsNil, gSubD, xTup, xLst, aCons, aNil, newT, newL, xFld, xCall, xMeth, xMake, xProp, noexc, xFn, xBM, xChain, oI, oIB, oLt, oLe, oGt, oGe, oSub, LIM, e]
/-- what step gives: nothing, or a result and the name of the cell to which it leads -/
def Mc.toldOf (M : Mc) (p : Nat) : Option (Str × Int) := match (M.adv p).2 with
  | .go => none
  | .right => some ("right", nm ((M.adv p).1.ce.getD p (0, 0)))
  | .down => some ("down", nm ((M.adv p).1.ce.getD p (0, 0)))
  | .stop => some ("stop", nm ((M.adv p).1.ce.getD p (0, 0)))
def tD : Option (Str × Int) → D
  | none => .non
  | some (w, i) => .tup [.str w, .int i]
theorem told_ok {K : PySem.W.Frag} {s : S} {n p b : Nat} {M : Mc} {L : ML} (h : MAt (He.ga K "Machine") s n M L) (ok : M.Ok b) (hb : b + 1 < LIM) (hp : p < M.n) :
    ∃ s', f_Machine_told K [.ref n, .int p] s = .ok (tD (M.toldOf p)) s' ∧ MAt (He.ga K "Machine") s' n (M.adv p).1 L ∧ Fr (L.ids n) s s' := by
  obtain ⟨s1, e1, h1, f1⟩ := advance_ok h ok (by omega) hp
  refine ⟨s1, ?_, h1, f1⟩
  have i0 := isIns_at h.gi
  have i1 := isIns_at h1.gi
  have ok1 := adv_Ok ok hp
  have hpc : p < (M.adv p).1.ce.length := by rw [ok1.lc, adv_n]; exact hp
  have e2 := name_at_ok h1 ok1 hb (List.getElem?_eq_getElem hpc)
  have g2 : (M.adv p).1.ce.getD p (0, 0) = (M.adv p).1.ce[p] := by simp [hpc]
  have ml1 : (mfs (M.adv p).1.n L).lookup ("name_at" : Str) = none := rfl
  have ml0 : (mfs M.n L).lookup ("advance" : Str) = none := rfl
  unfold Mc.toldOf
  rw [g2]
  generalize nm (M.adv p).1.ce[p] = v at e2 ⊢
  clear h h1 ok ok1 g2
  cases q : (M.adv p).2 <;> rw [q] at e1 <;> simp only [Rs.d] at e1 <;> simp [f_Machine_told, b_Machine_told, fnB, endR, liftE, L3.R.bind, sSeq, sAsg, sRet, sRetN, sNil, sIf, sSet, sDrop, sPar, sFldSet, sDPut, xBin, xVar, xC, xIf, xAnd, xOr, xNot, bNot, bAnd, bOr, bOf, xOf, xNeg, bYes, gTupD, gsCons, gSet, gsNil, gSubD, xTup, xLst, aCons, aNil, newT, newL, xFld, xCall, xMeth, xMake, xProp, noexc, xFn, xBM, xChain, oI, oIB, oLt, oLe, oGt, oGe, oSub, LIM, i0, i1, ml0, ml1, e1, e2, tD, oIs, isN]
def nD (p : Nat) : D := .int p
/-- what a list of processes is, behind any of its forms -/
theorem seq_at {d : D} {s : S} {sc : List Nat} (h : lstOf d s = some (sc.map nD)) : ∃ ch, wOf d s = .ok ⟨sc.map nD, ch⟩ s ∧ ∀ s', lstOf d s' = some (sc.map nD) → ch s' = true := by
  unfold lstOf at h
  split at h
  · cases h
    exact ⟨yes, rfl, fun _ _ => rfl⟩
  · rename_i n
    split at h
    · rename_i ds hg
      cases h
      refine ⟨isLst n (sc.map nD), by unfold wOf; simp only [hg], fun s' h' => ?_⟩
      unfold lstOf at h'
      dsimp only at h'
      split at h'
      · rename_i ds' hg'
        cases h'
        exact isLst_at hg'
      · cases h'
    · cases h
  · cases h
/-- what of a state a value leans on -/
theorem lst_keep {d : D} {s s' : S} {ds : List D} (h : lstOf d s = some ds) (e : ∀ k, d = .ref k → s'.get k = s.get k) : lstOf d s' = some ds := by
  unfold lstOf at h ⊢
  split at h
  · exact h
  · rename_i n
    rw [e n rfl]
    exact h
  · cases h
theorem isList_ok {K : PySem.W.Frag} {d : D} {s : S} {ds : List D} (h : lstOf d s = some ds) : oIsiG [d, .ty "list"] s = .ok (.bl true) s := by
  have h1 : isiB "list" "list" = some true := by decide
  unfold lstOf at h
  split at h
  · simp [oIsiG, notDT, oIsi, tyN, h1]
  · rename_i n
    split at h
    · rename_i ds' hg
      simp [oIsiG, notDT, oIsi, tyN, h1, hg]
    · cases h
  · cases h
theorem machine_after_ok {K : PySem.W.Frag} {s : S} {n : Nat} {d : D} {sc : List Nat} (w : WF s) (hn : n ≤ LIM) (hd : lstOf d s = some (sc.map nD)) (can : (Mc.init n).can sc) (hl : sc.length < LIM) :
    ∃ s' m L, f_machine_after K [.int n, d] s = .ok (.ref m) s' ∧ MAt (He.ga K "Machine") s' m ((Mc.init n).after sc) L ∧ Fr [] s s' ∧ WF s' ∧ ∀ k ∈ L.ids m, s.nx ≤ k := by
  have hdk : ∀ k, d = .ref k → k < s.nx := fun k e => by
    subst e
    unfold lstOf at hd
    dsimp only at hd
    split at hd
    · rename_i ds hg; exact w k _ hg
    · cases hd
  -- the machine
  have w1 := wf_new w (.ins (He.ga K "Machine") [])
  obtain ⟨s2, L, e2, h2, f2, w2, k2⟩ := minit_ok (K := K) (n := s.nx) (c := n) w1 (by rw [get_new, if_pos rfl]) hn
  have f02 : Fr [] s s2 := fr_new.trans f2 fun k hk hlt => by simp at hk; omega
  have new2 : ∀ k ∈ L.ids s.nx, s.nx ≤ k := fun k hk => by
    rcases k2 k hk with e | e
    · omega
    · rw [nx_new] at e; omega
  obtain ⟨ch, hw, hch⟩ := seq_at (lst_keep (s' := s2) hd fun k e => f02.eq k (hdk k e) (by simp))
  -- its steps
  let I : List D → Sl → S → Prop := fun r Γ s' => ∃ l x, r = l.map nD ∧ Γ = [some (.int n), some d, some (.ref s.nx), x] ∧ (∃ l0, sc = l0 ++ l ∧ MAt (He.ga K "Machine") s' s.nx ((Mc.init n).after l0) L ∧ (Mc.init n).can l0) ∧ Fr [] s s' ∧ WF s'
  obtain ⟨Γ', s3, e3, l, x, hr, hΓ, ⟨l0, hl0, h3, _⟩, f3, w3⟩ := forL_ok (ch := ch) (g := gSet 3) (b := sSeq (sIf (bNot (bOf (xMeth (He.ga K "Machine") "may_step" 2 (f_Machine_may_step K) (xVar 2) (aCons (xVar 3) aNil)))) sBad sNil)
      (sDrop (xMeth (He.ga K "Machine") "advance" 2 (f_Machine_advance K) (xVar 2) (aCons (xVar 3) aNil)))) I
    (fun r Γ s' hI => by
      obtain ⟨_, _, _, _, _, f, _⟩ := hI
      exact hch s' (lst_keep hd fun k e => f.eq k (hdk k e) (by simp)))
    (fun y r Γ s' hI => by
      obtain ⟨l, x, hr, hΓ, ⟨l0, hl0, hm, hcan⟩, f, w'⟩ := hI
      cases l with
      | nil => cases hr
      | cons p l =>
        rw [List.map_cons] at hr
        injection hr with hy hr
        subst hy; subst hr; subst hΓ
        have hc2 : (Mc.init n).can (l0 ++ p :: l) := hl0 ▸ can
        rw [can_app] at hc2
        obtain ⟨hp, hst, _⟩ := hc2.2
        have okm := after_Ok hcan (init_Ok n)
        have hlen : l0.length < LIM := by
          have := congrArg List.length hl0
          rw [List.length_append, List.length_cons] at this
          omega
        obtain ⟨s'', e4, h4, f4⟩ := advance_ok hm okm (by omega) hp
        have e5 := may_step_ok hm (p : Int) okm.lt
        have g5 : ((Mc.init n).after l0).st.getD p false = false := by rw [List.getD_eq_getElem?_getD, hst]; rfl
        rw [Int.toNat_natCast, g5] at e5
        have hp' : (p : Int) < (((Mc.init n).after l0).n : Int) := by omega
        simp only [hp', Int.natCast_nonneg, and_self, decide_true, Bool.not_false, Bool.and_self] at e5
        have i0 := isIns_at hm.gi
        have ml0 : (mfs ((Mc.init n).after l0).n L).lookup ("advance" : Str) = none := rfl
        have ml1 : (mfs ((Mc.init n).after l0).n L).lookup ("may_step" : Str) = none := rfl
        refine ⟨_, _, rfl, [some (.int n), some d, some (.ref s.nx), some (nD p)], s'', .inl ?_, l, _, rfl, rfl, ⟨l0 ++ [p], ?_, ?_, ?_⟩, f.trans f4 fun k hk hlt => ?_, f4.wf w'⟩
        · clear hm h4
          simp only [nD]
          simp [fnB, endR, liftE, L3.R.bind, sSeq, sAsg, sRet, sRetN, sNil, sIf, sSet, sDrop, sPar, sFldSet, sDPut, xBin, xVar, xC, xIf, xAnd, xOr, xNot, bNot, bAnd, bOr, bOf, xOf, xNeg, bYes, gTupD, gsCons, gSet, gsNil, gSubD, xTup, xLst, aCons, aNil, newT, newL, xFld, xCall, xMeth, xMake, xProp, noexc, xFn, xBM, xChain, oI, oIB, oLt, oLe, oGt, oGe, oSub, LIM, i0, ml0, ml1, e4, e5]
        · rw [hl0, List.append_assoc]; rfl
        · rw [after_app]; exact h4
        · rw [can_app]
          exact ⟨hcan, hp, hst, trivial⟩
        · have := new2 k hk; omega)
    (sc.map nD) [some (.int n), some d, some (.ref s.nx), none] s2 ⟨sc, none, rfl, rfl, ⟨[], rfl, h2, trivial⟩, f02, w2⟩
  have el : l = [] := by
    cases l with
    | nil => rfl
    | cons a b => cases hr
  subst el
  rw [List.append_nil] at hl0
  subst hl0
  refine ⟨s3, s.nx, L, ?_, h3, f3, w3, new2⟩
  refine fnB_rt ?_
  show b_machine_after K [some (.int n), some d, none, none] s = _
  unfold b_machine_after
  have c1 := isList_ok (K := K) hd
  have c2 : xMake (He.ga K "Machine") 2 (f_Machine___init__ K) (aCons (xVar 0) aNil) [some (.int n), some d, none, none] s = .ok (.ref s.nx) s2 := by
    simp [fnB, endR, liftE, L3.R.bind, sSeq, sAsg, sRet, sRetN, sNil, sIf, sSet, sDrop, sPar, sFldSet, sDPut, xBin, xVar, xC, xIf, xAnd, xOr, xNot, bNot, bAnd, bOr, bOf, xOf, xNeg, bYes, gTupD, gsCons, gSet, gsNil, gSubD, xTup, xLst, aCons, aNil, newT, newL, xFld, xCall, xMeth, xMake, xProp, noexc, xFn, xBM, xChain, oI, oIB, oLt, oLe, oGt, oGe, oSub, LIM, e2]
  rw [seq_ok (Γ' := [some (.int n), some d, none, none]) (s' := s) (by simp [fnB, endR, liftE, L3.R.bind, sSeq, sAsg, sRet, sRetN, sNil, sIf, sSet, sDrop, sPar, sFldSet, sDPut, xBin, xVar, xC, xIf, xAnd, xOr, xNot, bNot, bAnd, bOr, bOf, xOf, xNeg, bYes, gTupD, gsCons, gSet, gsNil, gSubD, xTup, xLst, aCons, aNil, newT, newL, xFld, xCall, xMeth, xMake, xProp, noexc, xFn, xBM, xChain, oI, oIB, oLt, oLe, oGt, oGe, oSub, LIM, c1])]
  rw [seq_ok (Γ' := [some (.int n), some d, some (.ref s.nx), none]) (s' := s2) (by unfold sSet; rw [c2]; rfl)]
  rw [seq_ok (Γ' := Γ') (s' := s3) (by
    unfold sFor iSeq
    simp only [xVar, R.bind, List.getElem?_cons_zero, List.getElem?_cons_succ]
    rw [hw]
    exact e3)]
  rw [hΓ]
  rfl
end L3

set_option Elab.async false
set_option linter.all false
set_option maxRecDepth 100000
set_option maxHeartbeats 1000000
set_option exponentiation.threshold 600
namespace L3
open PySem PySem.Spec PyProof.Rows L2

/-! ### a run -/
structure Rn where
  n : Nat
  sc : List Nat
  pa : List Nat
def Rn.m (R : Rn) : Mc := (Mc.init R.n).after R.sc
structure RL where
  m : Nat
  s : Nat
  p : Nat
  ml : ML
def rfs (L : RL) : List (Str × D) := [("machine", .ref L.m), ("schedule", .ref L.s), ("past", .ref L.p)]
theorem rfs_m (L : RL) : (rfs L).lookup ("machine" : Str) = some (D.ref L.m) := rfl
theorem rfs_s (L : RL) : (rfs L).lookup ("schedule" : Str) = some (D.ref L.s) := rfl
theorem rfs_p (L : RL) : (rfs L).lookup ("past" : Str) = some (D.ref L.p) := rfl
def RL.ids (r : Nat) (L : RL) : List Nat := r :: L.s :: L.p :: L.ml.ids L.m
structure RAt (K : PySem.W.Frag) (s : S) (r : Nat) (R : Rn) (L : RL) : Prop where
  gi : s.get r = some (.ins (He.ga K "Run") (rfs L))
  hm : MAt (He.ga K "Machine") s L.m R.m L.ml
  gs : s.get L.s = some (.lst (R.sc.map nD))
  gp : s.get L.p = some (.lst (R.pa.map nD))
  nd : (L.ids r).Nodup
  can : (Mc.init R.n).can R.sc
section
variable {K : PySem.W.Frag} {s : S} {r : Nat} {R : Rn} {L : RL}
theorem RAt.ok (h : RAt K s r R L) : R.m.Ok R.sc.length := by
  have := after_Ok h.can (init_Ok R.n)
  rwa [Nat.zero_add] at this
theorem Rn.mn (R : Rn) : R.m.n = R.n := by
  unfold Rn.m
  rw [after_n]; rfl
theorem RAt.keep (h : RAt K s r R L) {s' : S} (e : ∀ k ∈ L.ids r, s'.get k = s.get k) : RAt K s' r R L :=
  ⟨by rw [e r (by simp [RL.ids])]; exact h.gi, h.hm.keep fun k hk => e k (by simp [RL.ids]; exact .inr (.inr (.inr hk))), by rw [e L.s (by simp [RL.ids])]; exact h.gs, by rw [e L.p (by simp [RL.ids])]; exact h.gp, h.nd, h.can⟩
theorem RAt.lt (h : RAt K s r R L) (w : WF s) : ∀ k ∈ L.ids r, k < s.nx := by
  intro k hk
  simp only [RL.ids, ML.ids, List.mem_cons, List.not_mem_nil, or_false] at hk
  rcases hk with e | e | e | e | e | e | e | e | e
  · subst e; exact w _ _ h.gi
  · subst e; exact w _ _ h.gs
  · subst e; exact w _ _ h.gp
  · subst e; exact w _ _ h.hm.gi
  · subst e; exact w _ _ h.hm.go
  · subst e; exact w _ _ h.hm.gf
  · subst e; exact w _ _ h.hm.gc
  · subst e; exact w _ _ h.hm.gq
  · subst e; exact w _ _ h.hm.gt
/-- another's doings leave it alone -/
theorem RAt.other (h : RAt K s r R L) (w : WF s) {s' : S} {J : List Nat} (f : Fr J s s') (dj : ∀ k ∈ L.ids r, k ∉ J) : RAt K s' r R L := h.keep fun k hk => f.eq k (h.lt w k hk) (dj k hk)
structure RNe (r : Nat) (L : RL) : Prop where
  rs : r ≠ L.s
  rp : r ≠ L.p
  rm : r ∉ L.ml.ids L.m
  sp : L.s ≠ L.p
  sm : L.s ∉ L.ml.ids L.m
  pm : L.p ∉ L.ml.ids L.m
  mm : (L.ml.ids L.m).Nodup
theorem RL.ne (nd : (L.ids r).Nodup) : RNe r L := by
  simp only [RL.ids, List.nodup_cons, List.mem_cons, not_or] at nd
  obtain ⟨⟨a1, a2, a3⟩, ⟨a4, a5⟩, a6, a7⟩ := nd
  exact ⟨a1, a2, a3, a4, a5, a6, a7⟩
/-- the machine has gone on -/
theorem RAt.goM (h : RAt K s r R L) (w : WF s) {s' : S} {p : Nat} (hm : MAt (He.ga K "Machine") s' L.m (R.m.adv p).1 L.ml) (f : Fr (L.ml.ids L.m) s s') :
    s'.get r = some (.ins (He.ga K "Run") (rfs L)) ∧ s'.get L.s = some (.lst (R.sc.map nD)) ∧ s'.get L.p = some (.lst (R.pa.map nD)) := by
  have e := RL.ne h.nd
  exact ⟨f.keep w h.gi e.rm, f.keep w h.gs e.sm, f.keep w h.gp e.pm⟩
end
/-- what perform tells -/
def tolds (M : Mc) : List Nat → List (Option (Str × Int))
  | [] => []
  | p :: r => M.toldOf p :: tolds (M.adv p).1 r
theorem tolds_app (M : Mc) : ∀ l r, tolds M (l ++ r) = tolds M l ++ tolds (M.after l) r
  | [], r => rfl
  | p :: l, r => by
    show M.toldOf p :: tolds (M.adv p).1 (l ++ r) = _
    rw [tolds_app _ l r]; rfl
theorem append_ok {s : S} {n : Nat} {ds : List D} {d : D} (hg : s.get n = some (.lst ds)) (hl : ds.length < LIM) : mAppend (.ref n) [d] s = .ok .non (s.put n (.lst (ds ++ [d]))) := by
  unfold mAppend
  simp only [hg]
  rw [if_pos hl]
theorem isTy_lst {s : S} {n : Nat} {ds : List D} (hg : s.get n = some (.lst ds)) : isTy "list" (.ref n) s = true := by
  unfold isTy
  simp [lst_at' hg]
theorem perform_ok {K : PySem.W.Frag} {s : S} {r : Nat} {R : Rn} {L : RL} {l : List Nat} (h : RAt K s r R L) (w : WF s) (can : R.m.can l) (hl : R.sc.length + l.length + 1 < LIM) :
    ∃ s' fd, f_Run_perform K [.ref r, .lst (l.map nD)] s = .ok (.ref fd) s' ∧ s'.get fd = some (.lst ((tolds R.m l).map tD)) ∧ RAt K s' r { R with sc := R.sc ++ l } L ∧ Fr (L.ids r) s s' ∧ WF s' ∧ fd = s.nx := by
  have e := RL.ne h.nd
  have hlt := h.lt w
  let s1 := s.new (.lst [])
  have w1 : WF s1 := wf_new w _
  have g1 : s1.get s.nx = some (.lst []) := by rw [get_new, if_pos rfl]
  have h1 : RAt K s1 r R L := h.keep fun k hk => by rw [get_new, if_neg (Nat.ne_of_lt (hlt k hk))]
  let I : List D → Sl → S → Prop := fun rest Γ s' => ∃ l1 l2 x, l = l1 ++ l2 ∧ rest = l2.map nD ∧ Γ = [some (.ref r), some (.lst (l.map nD)), some (.ref s.nx), x] ∧ RAt K s' r { R with sc := R.sc ++ l1 } L ∧ s'.get s.nx = some (.lst ((tolds R.m l1).map tD)) ∧ Fr (L.ids r) s s' ∧ WF s' ∧ s.nx < s'.nx
  have lent : ∀ (M : Mc) (l : List Nat), (tolds M l).length = l.length := fun M l => by
    induction l generalizing M with
    | nil => rfl
    | cons a b ih => show (tolds _ b).length + 1 = _; rw [ih]; rfl
  obtain ⟨Γ', s3, e3, l1, l2, x, hl12, hr, hΓ, h3, g3, f3, w3, _⟩ := forL_ok (ch := yes) (g := gSet 3)
    (b := sSeq (sDrop (xBM "list" mAppend (xVar 2) (aCons (xMeth (He.ga K "Machine") "told" 2 (f_Machine_told K) (xFld (He.ga K "Run") "machine" (xVar 0)) (aCons (xVar 3) aNil)) aNil)))
      (sDrop (xBM "list" mAppend (xFld (He.ga K "Run") "schedule" (xVar 0)) (aCons (xVar 3) aNil)))) I (fun _ _ _ _ => rfl)
    (fun y rest Γ s' hI => by
      obtain ⟨l1, l2, x, hl12, hr, hΓ, h2, g2, f2, w2, lt2⟩ := hI
      cases l2 with
      | nil => cases hr
      | cons p l2 =>
        rw [List.map_cons] at hr
        injection hr with hy hr
        subst hy; subst hr; subst hΓ
        have hcan : R.m.can (l1 ++ p :: l2) := hl12 ▸ can
        rw [can_app] at hcan
        obtain ⟨hp, hst, _⟩ := hcan.2
        have hM : (({ R with sc := R.sc ++ l1 } : Rn)).m = R.m.after l1 := by unfold Rn.m; rw [after_app]
        have hlen : R.sc.length + l1.length + 2 < LIM + 1 := by
          have := congrArg List.length hl12
          rw [List.length_append, List.length_cons] at this
          omega
        have ok2 := h2.ok
        rw [List.length_append] at ok2
        have hp' : p < (({ R with sc := R.sc ++ l1 } : Rn)).m.n := by rw [hM]; exact hp
        obtain ⟨s4, e4, h4, f4⟩ := told_ok h2.hm ok2 (by omega) hp'
        have ids2 := h2.lt w2
        have ne2 := RL.ne h2.nd
        have nxm : s.nx ∉ L.ml.ids L.m := fun z => by
          have := hlt s.nx (by simp [RL.ids]; exact .inr (.inr (.inr z)))
          omega
        have w4 := f4.wf w2
        obtain ⟨a1, a2, a3⟩ := h2.goM w2 h4 f4
        have g4 : s4.get s.nx = some (.lst ((tolds R.m l1).map tD)) := f4.keep w2 g2 nxm
        let s5 := s4.put s.nx (.lst ((tolds R.m l1).map tD ++ [tD (({ R with sc := R.sc ++ l1 } : Rn).m.toldOf p)]))
        have ne_r : r ≠ s.nx := Nat.ne_of_lt (hlt r (by simp [RL.ids]))
        have ne_s : L.s ≠ s.nx := Nat.ne_of_lt (hlt L.s (by simp [RL.ids]))
        have ne_p : L.p ≠ s.nx := Nat.ne_of_lt (hlt L.p (by simp [RL.ids]))
        have b1 : s5.get r = some (.ins (He.ga K "Run") (rfs L)) := by rw [get_put_ne ne_r]; exact a1
        have b2 : s5.get L.s = some (.lst ((R.sc ++ l1).map nD)) := by rw [get_put_ne ne_s]; exact a2
        have b3 : s5.get L.p = some (.lst (R.pa.map nD)) := by rw [get_put_ne ne_p]; exact a3
        have h5 : MAt (He.ga K "Machine") s5 L.m (({ R with sc := R.sc ++ l1 } : Rn).m.adv p).1 L.ml := h4.keep fun k hk => get_put_ne fun e => nxm (by rw [← e]; exact hk)
        let s6 := s5.put L.s (.lst ((R.sc ++ l1).map nD ++ [nD p]))
        have q1 := append_ok (d := tD (({ R with sc := R.sc ++ l1 } : Rn).m.toldOf p)) g4 (by rw [List.length_map, lent]; omega)
        have q2 := append_ok (d := nD p) b2 (by rw [List.length_map, List.length_append]; omega)
        have t1 := isTy_lst g2
        have t2 := isTy_lst b2
        have i0 := isIns_at h2.gi
        have i5 := isIns_at b1
        have im := isIns_at h2.hm.gi
        have ml0 : (mfs (({ R with sc := R.sc ++ l1 } : Rn)).m.n L.ml).lookup ("told" : Str) = none := rfl
        refine ⟨[some (.ref r), some (.lst (l.map nD)), some (.ref s.nx), some (nD p)], s', rfl, [some (.ref r), some (.lst (l.map nD)), some (.ref s.nx), some (nD p)], s6, .inl ?_, l1 ++ [p], l2, _, ?_, rfl, rfl, ⟨?_, ?_, ?_, ?_, h2.nd, ?_⟩, ?_, ?_, wf_put (wf_put w4 _ _) _ _, ?_⟩
        · have v1 : xBM "list" mAppend (xVar 2) (aCons (xMeth (He.ga K "Machine") "told" 2 (f_Machine_told K) (xFld (He.ga K "Run") "machine" (xVar 0)) (aCons (xVar 3) aNil)) aNil) [some (.ref r), some (.lst (l.map nD)), some (.ref s.nx), some (nD p)] s' = .ok .non s5 := by
            have e4' : f_Machine_told K [.ref L.m, nD p] s' = .ok (tD (({ R with sc := R.sc ++ l1 } : Rn).m.toldOf p)) s4 := e4
            simp only [xBM, xVar, List.getElem?_cons_zero, List.getElem?_cons_succ, L3.R.bind, t1, if_true, aCons, xMeth, xFld, i0, rfs_m, im, ml0, Option.isNone_none, aNil, List.length_cons, List.length_nil, e4', q1]
            rfl
          have v2 : xBM "list" mAppend (xFld (He.ga K "Run") "schedule" (xVar 0)) (aCons (xVar 3) aNil) [some (.ref r), some (.lst (l.map nD)), some (.ref s.nx), some (nD p)] s5 = .ok .non s6 := by
            simp only [xBM, xVar, List.getElem?_cons_zero, List.getElem?_cons_succ, L3.R.bind, t2, if_true, aCons, xFld, i5, rfs_s, aNil, q2]
            rfl
          rw [seq_ok (Γ' := [some (.ref r), some (.lst (l.map nD)), some (.ref s.nx), some (nD p)]) (s' := s5) (by unfold sDrop; rw [v1]; rfl)]
          unfold sDrop
          rw [v2]
          rfl
        · rw [hl12, List.append_assoc]; rfl
        · rw [get_put_ne ne2.rs]; exact b1
        · show MAt _ s6 L.m ((Mc.init R.n).after (R.sc ++ (l1 ++ [p]))) L.ml
          rw [← List.append_assoc, after_app]
          exact h5.keep fun k hk => get_put_ne fun e => ne2.sm (by rw [← e]; exact hk)
        · show s6.get L.s = some (.lst ((R.sc ++ (l1 ++ [p])).map nD))
          rw [get_put_same b2, ← List.append_assoc, List.map_append (l₁ := R.sc ++ l1)]; rfl
        · rw [get_put_ne ne2.sp.symm]; exact b3
        · show (Mc.init R.n).can (R.sc ++ (l1 ++ [p]))
          rw [← List.append_assoc, can_app]
          exact ⟨h2.can, hp', by rw [show ((Mc.init R.n).after (R.sc ++ l1)) = R.m.after l1 from hM]; exact hst, trivial⟩
        · rw [get_put_ne (Ne.symm ne_s), get_put_same g4, tolds_app, List.map_append]
          show _ = some (O.lst (_ ++ [tD ((R.m.after l1).toldOf p)]))
          rw [← hM]
        · refine f2.trans (L' := s.nx :: L.ids r) ((f4.sub (L' := s.nx :: L.ids r) fun k hk _ => by simp [RL.ids]; exact .inr (.inr (.inr (.inr hk)))).tr ((fr_put (by simp)).tr (fr_put (by simp [RL.ids])))) fun k hk hlt' => ?_
          rcases List.mem_cons.mp hk with e | hk
          · omega
          · exact hk
        · show s.nx < s4.nx
          exact Nat.lt_of_lt_of_le lt2 f4.nx)
    (l.map nD) [some (.ref r), some (.lst (l.map nD)), some (.ref s.nx), none] s1 ⟨[], l, none, rfl, rfl, rfl, by simpa using h1, g1, fr_new, w1, Nat.lt_succ_self _⟩
  have el : l2 = [] := by
    cases l2 with
    | nil => rfl
    | cons a b => cases hr
  subst el
  rw [List.append_nil] at hl12
  subst hl12
  refine ⟨s3, s.nx, ?_, g3, h3, f3, w3, rfl⟩
  refine fnB_rt ?_
  show b_Run_perform K [some (.ref r), some (.lst (l.map nD)), none, none] s = _
  unfold b_Run_perform
  rw [seq_ok (Γ' := [some (.ref r), some (.lst (l.map nD)), some (.ref s.nx), none]) (s' := s1) (by
    simp only [sSet, xLst, aNil, L3.R.bind, newL, liftE, if_true]
    rw [if_pos (by show 0 ≤ LIM; decide)]
    rfl)]
  rw [seq_ok (Γ' := Γ') (s' := s3) (by
    unfold sFor iSeq
    simp only [xVar, L3.R.bind, List.getElem?_cons_zero, List.getElem?_cons_succ]
    exact e3)]
  rw [hΓ]
  rfl
end L3

set_option Elab.async false
set_option linter.all false
set_option maxRecDepth 100000
set_option maxHeartbeats 1000000
set_option exponentiation.threshold 600
namespace L3
open PySem PySem.Spec PyProof.Rows L2

section
variable {K : PySem.W.Frag} {s : S} {r : Nat} {R : Rn} {L : RL}
theorem need_process_ok (h : RAt K s r R L) {p : Nat} (hp : p < R.n) (hs : R.m.st[p]? = some false) : f_Run_need_process K [.ref r, .int p] s = .ok .non s := by
  have e5 := may_step_ok h.hm (p : Int) h.ok.lt
  have g5 : R.m.st.getD p false = false := by rw [List.getD_eq_getElem?_getD, hs]; rfl
  rw [Int.toNat_natCast, g5, Rn.mn] at e5
  have hp' : (p : Int) < (R.n : Int) := by omega
  simp only [hp', Int.natCast_nonneg, and_self, decide_true, Bool.not_false, Bool.and_self] at e5
  have i0 := isIns_at h.gi
  have im := isIns_at h.hm.gi
  have ml1 : (mfs R.m.n L.ml).lookup ("may_step" : Str) = none := rfl
  clear h
  simp [f_Run_need_process, b_Run_need_process, fnB, endR, liftE, L3.R.bind, sSeq, sAsg, sRet, sRetN, sNil, sIf, sSet, sDrop, sPar, sFldSet, sDPut, xBin, xVar, xC, xIf, xAnd, xOr, xNot, bNot, bAnd, bOr, bOf, xOf, xNeg, bYes, gTupD, gsCons, gSet, gsNil, gSubD, xTup, xLst, aCons, aNil, newT, newL, xFld, xCall, xMeth, xMake, xProp, noexc, xFn, xBM, xChain, oI, oIB, oLt, oLe, oGt, oGe, oSub, LIM, i0, im, rfs_m, ml1, e5]
/-- past has one entry more -/
theorem past_ok (h : RAt K s r R L) (w : WF s) (hl : R.pa.length < LIM) (Γ : Sl) (hΓ : Γ[0]? = some (some (.ref r))) : ∃ s',
    sDrop (xBM "list" mAppend (xFld (He.ga K "Run") "past" (xVar 0)) (aCons (xFn oLen (aCons (xFld (He.ga K "Run") "schedule" (xVar 0)) aNil)) aNil)) Γ s = .ok (.nx Γ) s' ∧
      RAt K s' r { R with pa := R.pa ++ [R.sc.length] } L ∧ Fr (L.ids r) s s' ∧ WF s' := by
  have e := RL.ne h.nd
  have i0 := isIns_at h.gi
  have t1 := isTy_lst h.gp
  have q1 := append_ok (d := nD R.sc.length) h.gp (by rw [List.length_map]; exact hl)
  refine ⟨s.put L.p (.lst (R.pa.map nD ++ [nD R.sc.length])), ?_, ⟨by rw [get_put_ne e.rp]; exact h.gi, h.hm.keep fun k hk => get_put_ne fun z => e.pm (by rw [← z]; exact hk), by rw [get_put_ne e.sp]; exact h.gs, by rw [get_put_same h.gp, List.map_append]; rfl, h.nd, h.can⟩,
    fr_put (by simp [RL.ids]), wf_put w _ _⟩
  have ol : oLen [.ref L.s] s = .ok (nD R.sc.length) s := by
    unfold oLen dicOf
    simp [h.gs, lst_at' h.gs, nD]
  simp [fnB, endR, liftE, L3.R.bind, sSeq, sAsg, sRet, sRetN, sNil, sIf, sSet, sDrop, sPar, sFldSet, sDPut, xBin, xVar, xC, xIf, xAnd, xOr, xNot, bNot, bAnd, bOr, bOf, xOf, xNeg, bYes, gTupD, gsCons, gSet, gsNil, gSubD, xTup, xLst, aCons, aNil, newT, newL, xFld, xCall, xMeth, xMake, xProp, noexc, xFn, xBM, xChain, oI, oIB, oLt, oLe, oGt, oGe, oSub, LIM, hΓ, i0, rfs_p, rfs_s, t1, ol, q1]
theorem isTy_ref_lst {s : S} {n : Nat} {ds : List D} (hg : s.get n = some (.lst ds)) : lstOf (.ref n) s = some ds := lst_at' hg
theorem step_ok (h : RAt K s r R L) (w : WF s) {p : Nat} (hp : p < R.n) (hs : R.m.st[p]? = some false) (hl : R.sc.length + 2 < LIM) (hl2 : R.pa.length < LIM) :
    ∃ s', f_Run_step K [.ref r, .int p] s = .ok (tD (R.m.toldOf p)) s' ∧ RAt K s' r { R with sc := R.sc ++ [p], pa := R.pa ++ [R.sc.length] } L ∧ Fr (L.ids r) s s' ∧ WF s' := by
  have e0 := need_process_ok h hp hs
  have i0 := isIns_at h.gi
  have ml0 : (rfs L).lookup ("need_process" : Str) = none := rfl
  have ml1 : (rfs L).lookup ("perform" : Str) = none := rfl
  obtain ⟨s1, e1, h1, f1, w1⟩ := past_ok h w hl2 [some (.ref r), some (nD p)] rfl
  have hc : ({ R with pa := R.pa ++ [R.sc.length] } : Rn).m.can [p] := ⟨by show p < R.m.n; rw [Rn.mn]; exact hp, hs, trivial⟩
  obtain ⟨s2, fd, e2, g2, h2, f2, w2, _⟩ := perform_ok h1 w1 hc (by simpa using hl)
  refine ⟨s2, ?_, h2, f1.tr f2, w2⟩
  refine fnB_rt ?_
  show b_Run_step K [some (.ref r), some (nD p)] s = _
  unfold b_Run_step
  have i1 := isIns_at h1.gi
  rw [seq_ok (Γ' := [some (.ref r), some (nD p)]) (s' := s) (by
    have e0' : f_Run_need_process K [.ref r, nD p] s = .ok .non s := e0
    simp [fnB, endR, liftE, L3.R.bind, sSeq, sAsg, sRet, sRetN, sNil, sIf, sSet, sDrop, sPar, sFldSet, sDPut, xBin, xVar, xC, xIf, xAnd, xOr, xNot, bNot, bAnd, bOr, bOf, xOf, xNeg, bYes, gTupD, gsCons, gSet, gsNil, gSubD, xTup, xLst, aCons, aNil, newT, newL, xFld, xCall, xMeth, xMake, xProp, noexc, xFn, xBM, xChain, oI, oIB, oLt, oLe, oGt, oGe, oSub, LIM, i0, ml0, e0'])]
  rw [seq_ok e1]
  have e2' : f_Run_perform K [.ref r, .lst [nD p]] s1 = .ok (.ref fd) s2 := e2
  have ix : oIx (.ref fd) (.int 0) s2 = .ok (tD (R.m.toldOf p)) s2 := oIx_at (p := 0) g2 rfl
  simp [fnB, endR, liftE, L3.R.bind, sSeq, sAsg, sRet, sRetN, sNil, sIf, sSet, sDrop, sPar, sFldSet, sDPut, xBin, xVar, xC, xIf, xAnd, xOr, xNot, bNot, bAnd, bOr, bOf, xOf, xNeg, bYes, gTupD, gsCons, gSet, gsNil, gSubD, xTup, xLst, aCons, aNil, newT, newL, xFld, xCall, xMeth, xMake, xProp, noexc, xFn, xBM, xChain, oI, oIB, oLt, oLe, oGt, oGe, oSub, LIM, i1, ml1, e2', ix]
theorem count_ok (h : RAt K s r R L) : f_Run_process_count K [.ref r] s = .ok (.int R.n) s := by
  have i0 := isIns_at h.gi
  have im := isIns_at h.hm.gi
  have g : (mfs R.m.n L.ml).lookup ("size" : Str) = some (.int R.n) := by rw [mfs_size, Rn.mn]
  clear h
  simp [f_Run_process_count, b_Run_process_count, fnB, endR, liftE, L3.R.bind, sSeq, sAsg, sRet, sRetN, sNil, sIf, sSet, sDrop, sPar, sFldSet, sDPut, xBin, xVar, xC, xIf, xAnd, xOr, xNot, bNot, bAnd, bOr, bOf, xOf, xNeg, bYes, gTupD, gsCons, gSet, gsNil, gSubD, xTup, xLst, aCons, aNil, newT, newL, xFld, xCall, xMeth, xMake, xProp, noexc, xFn, xBM, xChain, oI, oIB, oLt, oLe, oGt, oGe, oSub, LIM, i0, im, rfs_m, g]
theorem steps_ok (h : RAt K s r R L) : f_Run_steps_done K [.ref r] s = .ok (.lst (R.sc.map nD)) s := by
  have i0 := isIns_at h.gi
  have g := lst_at' h.gs
  have e : oListC false [.ref L.s] s = .ok (.lst (R.sc.map nD)) s := by
    unfold oListC
    simp [g, newL]
  clear h
  simp [f_Run_steps_done, b_Run_steps_done, fnB, endR, liftE, L3.R.bind, sSeq, sAsg, sRet, sRetN, sNil, sIf, sSet, sDrop, sPar, sFldSet, sDPut, xBin, xVar, xC, xIf, xAnd, xOr, xNot, bNot, bAnd, bOr, bOf, xOf, xNeg, bYes, gTupD, gsCons, gSet, gsNil, gSubD, xTup, xLst, aCons, aNil, newT, newL, xFld, xCall, xMeth, xMake, xProp, noexc, xFn, xBM, xChain, oI, oIB, oLt, oLe, oGt, oGe, oSub, LIM, i0, rfs_s, e]
theorem len_ok (h : RAt K s r R L) : f_Run___len__ K [.ref r] s = .ok (.int R.sc.length) s := by
  have i0 := isIns_at h.gi
  have ol : oLen [.ref L.s] s = .ok (.int R.sc.length) s := by
    unfold oLen dicOf
    simp [h.gs, lst_at' h.gs, nD]
  clear h
  simp [f_Run___len__, b_Run___len__, fnB, endR, liftE, L3.R.bind, sSeq, sAsg, sRet, sRetN, sNil, sIf, sSet, sDrop, sPar, sFldSet, sDPut, xBin, xVar, xC, xIf, xAnd, xOr, xNot, bNot, bAnd, bOr, bOf, xOf, xNeg, bYes, gTupD, gsCons, gSet, gsNil, gSubD, xTup, xLst, aCons, aNil, newT, newL, xFld, xCall, xMeth, xMake, xProp, noexc, xFn, xBM, xChain, oI, oIB, oLt, oLe, oGt, oGe, oSub, LIM, i0, rfs_s, ol]
theorem names_now_ok (h : RAt K s r R L) (hl : R.sc.length < LIM) (hn : R.n ≤ LIM) : f_Run_names_now K [.ref r] s = .ok (.lst (R.m.nms.map oD)) s := by
  have i0 := isIns_at h.gi
  have im := isIns_at h.hm.gi
  have e := names_ok h.hm h.ok hl (by rw [Rn.mn]; exact hn)
  have ml : (mfs R.m.n L.ml).lookup ("names" : Str) = none := rfl
  clear h
  generalize R.m.nms.map oD = v at e ⊢
  simp [f_Run_names_now, b_Run_names_now, fnB, endR, liftE, L3.R.bind, sSeq, sAsg, sRet, sRetN, sNil, sIf, sSet, sDrop, sPar, sFldSet, sDPut, xBin, xVar, xC, xIf, xAnd, xOr, xNot, bNot, bAnd, bOr, bOf, xOf, xNeg, bYes, gTupD, gsCons, gSet, gsNil, gSubD, xTup, xLst, aCons, aNil, newT, newL, xFld, xCall, xMeth, xMake, xProp, noexc, xFn, xBM, xChain, oI, oIB, oLt, oLe, oGt, oGe, oSub, LIM, i0, im, rfs_m, ml, e]
/-- the places -/
def Mc.pls (M : Mc) : List (Int × Int) := (List.range M.n).map fun p => (nm (M.ce.getD p (0, 0)), M.pe.getD p 0)
theorem places_now_ok (h : RAt K s r R L) (hl : R.sc.length < LIM) (hn : R.n ≤ LIM) : f_Run_places_now K [.ref r] s = .ok (.lst (R.m.pls.map cD)) s := by
  have i0 := isIns_at h.gi
  have im := isIns_at h.hm.gi
  refine fnB_rt ?_
  show b_Run_places_now K [some (.ref r), none, none] s = _
  have hs : small62 (R.n : Int) = true := by
    unfold small62
    have hn0 : R.n ≤ 1000000 := hn
    have : (R.n : Int) ≤ 1000000 := by omega
    simp
    omega
  have g : (mfs R.m.n L.ml).lookup ("size" : Str) = some (.int R.n) := by rw [mfs_size, Rn.mn]
  have key : ∀ d ∈ rng 0 R.n, ∃ Γ', gSet 2 d [some (.ref r), some (.ref L.m), none] s = .ok Γ' s ∧ xTup (aCons (xMeth (He.ga K "Machine") "name_at" 2 (f_Machine_name_at K) (xVar 1) (aCons (xVar 2) aNil)) (aCons (xBin oIx (xFld (He.ga K "Machine") "performed" (xVar 1)) (xVar 2)) aNil)) Γ' s =
      .ok (match d with | .int i => cD (nm (R.m.ce.getD i.toNat (0, 0)), R.m.pe.getD i.toNat 0) | _ => .non) s := by
    intro d hd
    rw [rng_map (α := Unit)] at hd
    obtain ⟨p, hp, rfl⟩ := List.mem_map.mp hd
    have hp : p < R.n := by simpa using hp
    have hpt : p < R.m.pe.length := by rw [h.ok.lq, Rn.mn]; exact hp
    have hpc : p < R.m.ce.length := by rw [h.ok.lc, Rn.mn]; exact hp
    refine ⟨_, rfl, ?_⟩
    have e1 := h.hm.ixQ (p := p) (List.getElem?_eq_getElem hpt)
    have e2 := name_at_ok h.hm h.ok hl (List.getElem?_eq_getElem hpc)
    have g1 : R.m.pe.getD p 0 = R.m.pe[p] := by simp [hpt]
    have g2 : R.m.ce.getD p (0, 0) = R.m.ce[p] := by simp [hpc]
    have ml : (mfs R.m.n L.ml).lookup ("name_at" : Str) = none := rfl
    clear h
    simp only [Int.toNat_natCast, g1, g2]
    generalize nm R.m.ce[p] = v at e2 ⊢
    simp [gSet, fnB, endR, liftE, L3.R.bind, sSeq, sAsg, sRet, sRetN, sNil, sIf, sSet, sDrop, sPar, sFldSet, sDPut, xBin, xVar, xC, xIf, xAnd, xOr, xNot, bNot, bAnd, bOr, bOf, xOf, xNeg, bYes, gTupD, gsCons, gSet, gsNil, gSubD, xTup, xLst, aCons, aNil, newT, newL, xFld, xCall, xMeth, xMake, xProp, noexc, xFn, xBM, xChain, oI, oIB, oLt, oLe, oGt, oGe, oSub, LIM, im, mfs_pe, ml, e1, e2, cD]
  unfold b_Run_places_now
  rw [seq_ok (Γ' := [some (.ref r), some (.ref L.m), none]) (s' := s) (by simp [fnB, endR, liftE, L3.R.bind, sSeq, sAsg, sRet, sRetN, sNil, sIf, sSet, sDrop, sPar, sFldSet, sDPut, xBin, xVar, xC, xIf, xAnd, xOr, xNot, bNot, bAnd, bOr, bOf, xOf, xNeg, bYes, gTupD, gsCons, gSet, gsNil, gSubD, xTup, xLst, aCons, aNil, newT, newL, xFld, xCall, xMeth, xMake, xProp, noexc, xFn, xBM, xChain, oI, oIB, oLt, oLe, oGt, oGe, oSub, LIM, i0, rfs_m])]
  have it : iRange1 (xFld (He.ga K "Machine") "size" (xVar 1)) [some (.ref r), some (.ref L.m), none] s = .ok ⟨rng 0 R.n, yes⟩ s := by
    simp [iRange1, fnB, endR, liftE, L3.R.bind, sSeq, sAsg, sRet, sRetN, sNil, sIf, sSet, sDrop, sPar, sFldSet, sDPut, xBin, xVar, xC, xIf, xAnd, xOr, xNot, bNot, bAnd, bOr, bOf, xOf, xNeg, bYes, gTupD, gsCons, gSet, gsNil, gSubD, xTup, xLst, aCons, aNil, newT, newL, xFld, xCall, xMeth, xMake, xProp, noexc, xFn, xBM, xChain, oI, oIB, oLt, oLe, oGt, oGe, oSub, LIM, im, g, hs]
  unfold sRet xComp
  rw [it]
  simp only [L3.R.bind, wipeD]
  rw [show ([some (D.ref r), some (D.ref L.m), none].set 2 none : Sl) = [some (.ref r), some (.ref L.m), none] from rfl, comp_map _ rfl _ (by unfold rng; simpa using hn) key]
  simp only [L3.R.bind, newL, Bool.false_eq_true, if_false, liftE]
  rw [rng_map (α := Unit), List.map_map]
  unfold Mc.pls
  rw [List.map_map, Rn.mn]
  rfl
end
end L3

set_option Elab.async false
set_option linter.all false
set_option maxRecDepth 100000
set_option maxHeartbeats 1000000
set_option exponentiation.threshold 600
namespace L3
open PySem PySem.Spec PyProof.Rows L2

/-! ### a process alone comes to its end -/
def mu (fl : List ((Int × Int) × Bool)) (c : Int × Int) : Nat := fl.countP fun kv => decide (kv.1.2 = c.2 ∧ c.1 ≤ kv.1.1)
theorem mu_le (fl : List ((Int × Int) × Bool)) (c : Int × Int) : mu fl c ≤ fl.length := List.countP_le_length
theorem mu_step {c : Int × Int} : ∀ {fl : List ((Int × Int) × Bool)}, lookC fl c = some true → mu fl (c.1 + 1, c.2) < mu fl c := by
  have le : ∀ fl : List ((Int × Int) × Bool), mu fl (c.1 + 1, c.2) ≤ mu fl c := fun fl => by
    refine List.countP_mono_left fun x _ h => ?_
    have h := of_decide_eq_true h
    exact decide_eq_true ⟨h.1, by have := h.2; simp at this; omega⟩
  intro fl
  induction fl with
  | nil => intro h; cases h
  | cons a r ih =>
    intro h
    unfold lookC at h
    rw [List.find?_cons] at h
    unfold mu
    rw [List.countP_cons, List.countP_cons]
    by_cases e : a.1 = c
    · have h1 : decide (a.1.2 = (c.1 + 1, c.2).2 ∧ (c.1 + 1, c.2).1 ≤ a.1.1) = false := decide_eq_false fun q => by
        have := q.2
        rw [e] at this
        simp at this
        omega
      have h2 : decide (a.1.2 = c.2 ∧ c.1 ≤ a.1.1) = true := decide_eq_true (by rw [e]; exact ⟨rfl, Int.le_refl _⟩)
      rw [h1, h2]
      have := le r
      unfold mu at this
      rw [if_neg (by decide), if_pos rfl]
      omega
    · simp only [e, decide_false] at h
      have := ih h
      unfold mu at this
      by_cases q : decide (a.1.2 = (c.1 + 1, c.2).2 ∧ (c.1 + 1, c.2).1 ≤ a.1.1) = true
      · have q' := of_decide_eq_true q
        have q2 : decide (a.1.2 = c.2 ∧ c.1 ≤ a.1.1) = true := decide_eq_true ⟨q'.1, by have := q'.2; simp at this; omega⟩
        rw [q, q2, if_pos rfl]
        omega
      · rw [Bool.not_eq_true] at q
        rw [q, if_neg (by decide)]
        split <;> omega
/-- after k steps of p, and not before, it has finished -/
structure Fin1 (M : Mc) (p k : Nat) : Prop where
  pre : ∀ j, j < k → (M.after (List.replicate j p)).st[p]? = some false
  fin : (M.after (List.replicate k p)).st[p]? = some true
theorem Fin1.cons {M : Mc} {p k : Nat} (h0 : M.st[p]? = some false) (h : Fin1 (M.adv p).1 p k) : Fin1 M p (k + 1) :=
  ⟨fun j hj => by
    cases j with
    | zero => exact h0
    | succ j => exact h.pre j (by omega), h.fin⟩
theorem Fin1.one {M : Mc} {p : Nat} (h0 : M.st[p]? = some false) (h : (M.adv p).1.st[p]? = some true) : Fin1 M p 1 := Fin1.cons h0 ⟨fun j hj => by omega, h⟩
/-- p is one of the machine's, at cell c with k steps done -/
structure At1 (M : Mc) (p : Nat) (c : Int × Int) (k : Int) : Prop where
  c : M.ce[p]? = some c
  k : M.pe[p]? = some k
  t : M.st[p]? = some false
section
variable {M : Mc} {p : Nat} {c : Int × Int} {k : Int} (h : At1 M p c k)
include h
theorem At1.gc : M.ce.getD p (0, 0) = c := by rw [List.getD_eq_getElem?_getD, h.c]; rfl
theorem At1.gk : M.pe.getD p 0 = k := by rw [List.getD_eq_getElem?_getD, h.k]; rfl
theorem At1.setk (j : Int) : (M.pe.set p j)[p]? = some j := by
  have := (List.getElem?_eq_some_iff.mp h.k).1
  rw [List.getElem?_set_self this]
theorem At1.setc (d : Int × Int) : (M.ce.set p d)[p]? = some d := by
  have := (List.getElem?_eq_some_iff.mp h.c).1
  rw [List.getElem?_set_self this]
theorem At1.sett (d : Bool) : (M.st.set p d)[p]? = some d := by
  have := (List.getElem?_eq_some_iff.mp h.t).1
  rw [List.getElem?_set_self this]
end
/-- where adv leads -/
theorem adv0 {M : Mc} {p : Nat} {c : Int × Int} (h : At1 M p c 0) : At1 (M.adv p).1 p c 1 ∧ lookC (M.adv p).1.ow c = some p ∧ (M.adv p).1.fl = M.fl := by
  unfold Mc.adv
  rw [h.gk, if_pos rfl, h.gc]
  exact ⟨⟨h.c, h.setk 1, h.t⟩, by show lookC (putC M.ow c p) c = _; rw [look_putC, if_pos rfl], rfl⟩
theorem adv1f {M : Mc} {p : Nat} {c : Int × Int} (h : At1 M p c 1) (hf : lookC M.fl c = some true) : At1 (M.adv p).1 p (c.1 + 1, c.2) 0 ∧ (M.adv p).1.fl = M.fl := by
  unfold Mc.adv
  rw [h.gk, if_neg (by decide), if_pos rfl, h.gc, hf]
  exact ⟨⟨h.setc _, h.setk 0, h.t⟩, rfl⟩
theorem adv1n {M : Mc} {p : Nat} {c : Int × Int} (h : At1 M p c 1) (hf : lookC M.fl c ≠ some true) : At1 (M.adv p).1 p c 2 ∧ (M.adv p).1.fl = M.fl ∧ (M.adv p).1.ow = M.ow := by
  unfold Mc.adv
  have e : ¬ (lookC M.fl c).getD false = true := by
    cases q : lookC M.fl c with
    | none => simp
    | some b =>
      cases b with
      | false => simp
      | true => exact absurd q hf
  rw [h.gk, if_neg (by decide), if_pos rfl, h.gc, if_neg e]
  exact ⟨⟨h.c, h.setk 2, h.t⟩, rfl, rfl⟩
theorem adv2 {M : Mc} {p : Nat} {c : Int × Int} (h : At1 M p c 2) : At1 (M.adv p).1 p c 3 ∧ (M.adv p).1.fl.length ≤ M.fl.length + 1 ∧ (M.adv p).1.ow = M.ow := by
  unfold Mc.adv
  rw [h.gk, if_neg (by decide), if_neg (by decide), if_pos rfl, h.gc]
  exact ⟨⟨h.c, h.setk 3, h.t⟩, len_putC _ _ _, rfl⟩
theorem adv3s {M : Mc} {p : Nat} {c : Int × Int} {k : Int} (h : At1 M p c k) (hk : 3 ≤ k) (ho : lookC M.ow c = some p) : (M.adv p).1.st[p]? = some true ∧ (M.adv p).1.fl = M.fl := by
  unfold Mc.adv
  rw [h.gk, if_neg (by omega), if_neg (by omega), if_neg (by omega), h.gc, if_pos ho]
  exact ⟨h.sett true, rfl⟩
theorem adv3d {M : Mc} {p : Nat} {c : Int × Int} {k : Int} (h : At1 M p c k) (hk : 3 ≤ k) (ho : lookC M.ow c ≠ some p) : At1 (M.adv p).1 p (c.1, c.2 + 1) 0 ∧ (M.adv p).1.fl = M.fl := by
  unfold Mc.adv
  rw [h.gk, if_neg (by omega), if_neg (by omega), if_neg (by omega), h.gc, if_neg ho]
  exact ⟨⟨h.setc _, h.setk 0, h.t⟩, rfl⟩
theorem fin_own {M : Mc} {p : Nat} {c : Int × Int} (h : At1 M p c 2) (ho : lookC M.ow c = some p) : Fin1 M p 2 ∧ (M.after (List.replicate 2 p)).fl.length ≤ M.fl.length + 1 := by
  obtain ⟨a1, a2, a3⟩ := adv2 h
  obtain ⟨b1, b2⟩ := adv3s a1 (by decide) (by rw [a3]; exact ho)
  exact ⟨Fin1.cons h.t (Fin1.one a1.t b1), by show ((M.adv p).1.adv p).1.fl.length ≤ _; rw [b2]; exact a2⟩
theorem fin_fresh {p : Nat} : ∀ (m : Nat) {M : Mc} {c : Int × Int}, mu M.fl c ≤ m → At1 M p c 0 → ∃ k, k ≤ 2 * m + 4 ∧ Fin1 M p k ∧ (M.after (List.replicate k p)).fl.length ≤ M.fl.length + 1 := by
  intro m
  induction m with
  | zero =>
    intro M c hm h
    obtain ⟨a1, a2, a3⟩ := adv0 h
    have hf : lookC (M.adv p).1.fl c ≠ some true := fun q => by
      rw [a3] at q
      have := mu_step q
      omega
    obtain ⟨b1, b2, b3⟩ := adv1n a1 hf
    obtain ⟨c1, c2⟩ := fin_own b1 (by rw [b3]; exact a2)
    exact ⟨4, by omega, Fin1.cons h.t (Fin1.cons a1.t c1), by
      show (((M.adv p).1.adv p).1.after (List.replicate 2 p)).fl.length ≤ _
      rw [b2, a3] at c2; exact c2⟩
  | succ m ih =>
    intro M c hm h
    obtain ⟨a1, a2, a3⟩ := adv0 h
    by_cases hf : lookC (M.adv p).1.fl c = some true
    · obtain ⟨b1, b2⟩ := adv1f a1 hf
      have hf' : lookC M.fl c = some true := by rw [← a3]; exact hf
      obtain ⟨k, k1, k2, k3⟩ := ih (by rw [b2, a3]; have := mu_step hf'; omega) b1
      refine ⟨k + 2, by omega, Fin1.cons h.t (Fin1.cons a1.t k2), ?_⟩
      show (((M.adv p).1.adv p).1.after (List.replicate k p)).fl.length ≤ _
      rw [b2, a3] at k3; exact k3
    · obtain ⟨b1, b2, b3⟩ := adv1n a1 hf
      obtain ⟨c1, c2⟩ := fin_own b1 (by rw [b3]; exact a2)
      exact ⟨4, by omega, Fin1.cons h.t (Fin1.cons a1.t c1), by
        show (((M.adv p).1.adv p).1.after (List.replicate 2 p)).fl.length ≤ _
        rw [b2, a3] at c2; exact c2⟩
theorem fin_3 {M : Mc} {p : Nat} {c : Int × Int} {k : Int} (h : At1 M p c k) (hk : 3 ≤ k) : ∃ k, k ≤ 2 * M.fl.length + 5 ∧ Fin1 M p k ∧ (M.after (List.replicate k p)).fl.length ≤ M.fl.length + 1 := by
  by_cases ho : lookC M.ow c = some p
  · obtain ⟨b1, b2⟩ := adv3s h hk ho
    exact ⟨1, by omega, Fin1.one h.t b1, by show (M.adv p).1.fl.length ≤ _; rw [b2]; omega⟩
  · obtain ⟨b1, b2⟩ := adv3d h hk ho
    obtain ⟨k, k1, k2, k3⟩ := fin_fresh M.fl.length (by rw [b2]; exact mu_le _ _) b1
    refine ⟨k + 1, by omega, Fin1.cons h.t k2, ?_⟩
    show ((M.adv p).1.after (List.replicate k p)).fl.length ≤ _
    rw [b2] at k3; exact k3
theorem fin_2 {M : Mc} {p : Nat} {c : Int × Int} (h : At1 M p c 2) : ∃ k, k ≤ 2 * M.fl.length + 8 ∧ Fin1 M p k ∧ (M.after (List.replicate k p)).fl.length ≤ M.fl.length + 2 := by
  obtain ⟨a1, a2, a3⟩ := adv2 h
  obtain ⟨k, k1, k2, k3⟩ := fin_3 a1 (by decide)
  refine ⟨k + 1, by omega, Fin1.cons h.t k2, ?_⟩
  show ((M.adv p).1.after (List.replicate k p)).fl.length ≤ _
  omega
theorem fin_any {M : Mc} {p : Nat} {c : Int × Int} {k : Int} (h : At1 M p c k) (hk : 0 ≤ k) : ∃ k, k ≤ 2 * M.fl.length + 9 ∧ Fin1 M p k ∧ (M.after (List.replicate k p)).fl.length ≤ M.fl.length + 2 := by
  by_cases e0 : k = 0
  · subst e0
    obtain ⟨k, k1, k2, k3⟩ := fin_fresh M.fl.length (mu_le _ _) h
    exact ⟨k, by omega, k2, by omega⟩
  · by_cases e1 : k = 1
    · subst e1
      by_cases hf : lookC M.fl c = some true
      · obtain ⟨b1, b2⟩ := adv1f h hf
        obtain ⟨k, k1, k2, k3⟩ := fin_fresh M.fl.length (by rw [b2]; exact mu_le _ _) b1
        refine ⟨k + 1, by omega, Fin1.cons h.t k2, ?_⟩
        show ((M.adv p).1.after (List.replicate k p)).fl.length ≤ _
        rw [b2] at k3; omega
      · obtain ⟨b1, b2, b3⟩ := adv1n h hf
        obtain ⟨k, k1, k2, k3⟩ := fin_2 b1
        rw [b2] at k1 k3
        exact ⟨k + 1, by omega, Fin1.cons h.t k2, k3⟩
    · by_cases e2 : k = 2
      · subst e2
        obtain ⟨k, k1, k2, k3⟩ := fin_2 h
        exact ⟨k, by omega, k2, k3⟩
      · obtain ⟨k, k1, k2, k3⟩ := fin_3 h (by omega)
        exact ⟨k, by omega, k2, by omega⟩
theorem Fin1.can {M : Mc} {p k : Nat} (hp : p < M.n) (h : Fin1 M p k) : M.can (List.replicate k p) := by
  induction k generalizing M with
  | zero => trivial
  | succ k ih =>
    refine ⟨hp, h.pre 0 (by omega), ih (by rw [adv_n]; exact hp) ⟨fun j hj => ?_, h.fin⟩⟩
    exact h.pre (j + 1) (by omega)
theorem Fin1.pos {M : Mc} {p k : Nat} (h : Fin1 M p k) (ht : M.st[p]? = some false) : 0 < k := by
  cases k with
  | zero =>
    have := h.fin
    rw [show (M.after (List.replicate 0 p)) = M from rfl, ht] at this
    cases this
  | succ k => exact Nat.succ_pos k
end L3

set_option Elab.async false
set_option linter.all false
set_option maxRecDepth 100000
set_option maxHeartbeats 1000000
set_option exponentiation.threshold 600
namespace L3
open PySem PySem.Spec PyProof.Rows L2

theorem while_go {t : XB} {b : XS} {Γ Γ' : Sl} {s s0 s1 : S} {n : Nat} (h0 : t Γ s = .ok true s0) (h1 : b Γ s0 = .ok (.nx Γ') s1) : sWhileN t b (n + 1) Γ s = sWhileN t b n Γ' s1 := by
  show liftE (t Γ s) Γ (fun c s => if c = true then (b Γ s).bind (loopR (sWhileN t b n)) else .ok (.nx Γ) s) = _
  rw [h0]
  simp only [liftE, if_true, h1]
  rfl
theorem at1_of {R : Rn} {K : PySem.W.Frag} {s : S} {r p : Nat} {L : RL} (h : RAt K s r R L) (hp : p < R.n) (ht : R.m.st[p]? = some false) : ∃ c k, At1 R.m p c k ∧ 0 ≤ k := by
  have pc : p < R.m.ce.length := by rw [h.ok.lc, Rn.mn]; exact hp
  have pq : p < R.m.pe.length := by rw [h.ok.lq, Rn.mn]; exact hp
  exact ⟨R.m.ce[p], R.m.pe[p], ⟨List.getElem?_eq_getElem pc, List.getElem?_eq_getElem pq, ht⟩, h.ok.pe _ (List.getElem_mem pq)⟩
theorem m_app (R : Rn) (l : List Nat) (pa : List Nat) : ({ R with sc := R.sc ++ l, pa := pa } : Rn).m = R.m.after l := by unfold Rn.m; rw [after_app]
/-- the loop of finish -/
theorem floop_ok {K : PySem.W.Frag} {r p : Nat} {L : RL} (x : Sl → Prop) : ∀ (k : Nat) {s : S} {R : Rn}, RAt K s r R L → WF s → p < R.n → Fin1 R.m p k → R.sc.length + k + 1 < LIM →
    ∃ s', sWhileN (bNot (bOf (xBin oIx (xFld (He.ga K "Machine") "stopped" (xFld (He.ga K "Run") "machine" (xVar 0))) (xVar 1)))) (sDrop (xMeth (He.ga K "Run") "perform" 2 (f_Run_perform K) (xVar 0) (aCons (xLst false (aCons (xVar 1) aNil)) aNil))) (k + 1) [some (.ref r), some (nD p)] s =
      .ok (.nx [some (.ref r), some (nD p)]) s' ∧ RAt K s' r { R with sc := R.sc ++ List.replicate k p } L ∧ Fr (L.ids r) s s' ∧ WF s' := by
  intro k
  induction k with
  | zero =>
    intro s R h w hp hf hl
    refine ⟨s, ?_, by simpa using h, Fr.refl s, w⟩
    have i0 := isIns_at h.gi
    have im := isIns_at h.hm.gi
    have e1 : oIx (.ref L.ml.t) (nD p) s = .ok (.bl true) s := h.hm.ixT hf.fin
    unfold sWhileN
    simp [fnB, endR, liftE, L3.R.bind, sSeq, sAsg, sRet, sRetN, sNil, sIf, sSet, sDrop, sPar, sFldSet, sDPut, xBin, xVar, xC, xIf, xAnd, xOr, xNot, bNot, bAnd, bOr, bOf, xOf, xNeg, bYes, gTupD, gsCons, gSet, gsNil, gSubD, xTup, xLst, aCons, aNil, newT, newL, xFld, xCall, xMeth, xMake, xProp, noexc, xFn, xBM, xChain, oI, oIB, oLt, oLe, oGt, oGe, oSub, LIM, i0, im, rfs_m, mfs_st, e1]
  | succ k ih =>
    intro s R h w hp hf hl
    have ht : R.m.st[p]? = some false := hf.pre 0 (by omega)
    have hc : R.m.can [p] := ⟨by rw [Rn.mn]; exact hp, ht, trivial⟩
    obtain ⟨s1, fd, e1, g1, h1, f1, w1, _⟩ := perform_ok h w hc (by simp; omega)
    have hm1 : ({ R with sc := R.sc ++ [p] } : Rn).m = (R.m.adv p).1 := m_app R [p] R.pa
    have hf1 : Fin1 (({ R with sc := R.sc ++ [p] } : Rn)).m p k := by
      rw [hm1]
      exact ⟨fun j hj => hf.pre (j + 1) (by omega), hf.fin⟩
    obtain ⟨s2, e2, h2, f2, w2⟩ := ih h1 w1 hp hf1 (by simp; omega)
    refine ⟨s2, ?_, ?_, f1.tr f2, w2⟩
    · have i0 := isIns_at h.gi
      have im := isIns_at h.hm.gi
      have e3 : oIx (.ref L.ml.t) (nD p) s = .ok (.bl false) s := h.hm.ixT ht
      have ml1 : (rfs L).lookup ("perform" : Str) = none := rfl
      have e1' : f_Run_perform K [.ref r, .lst [nD p]] s = .ok (.ref fd) s1 := e1
      have v1 : sDrop (xMeth (He.ga K "Run") "perform" 2 (f_Run_perform K) (xVar 0) (aCons (xLst false (aCons (xVar 1) aNil)) aNil)) [some (.ref r), some (nD p)] s = .ok (.nx [some (.ref r), some (nD p)]) s1 := by
        simp [fnB, endR, liftE, L3.R.bind, sSeq, sAsg, sRet, sRetN, sNil, sIf, sSet, sDrop, sPar, sFldSet, sDPut, xBin, xVar, xC, xIf, xAnd, xOr, xNot, bNot, bAnd, bOr, bOf, xOf, xNeg, bYes, gTupD, gsCons, gSet, gsNil, gSubD, xTup, xLst, aCons, aNil, newT, newL, xFld, xCall, xMeth, xMake, xProp, noexc, xFn, xBM, xChain, oI, oIB, oLt, oLe, oGt, oGe, oSub, LIM, i0, ml1, e1']
      have v0 : bNot (bOf (xBin oIx (xFld (He.ga K "Machine") "stopped" (xFld (He.ga K "Run") "machine" (xVar 0))) (xVar 1))) [some (.ref r), some (nD p)] s = .ok true s := by
        simp [fnB, endR, liftE, L3.R.bind, sSeq, sAsg, sRet, sRetN, sNil, sIf, sSet, sDrop, sPar, sFldSet, sDPut, xBin, xVar, xC, xIf, xAnd, xOr, xNot, bNot, bAnd, bOr, bOf, xOf, xNeg, bYes, gTupD, gsCons, gSet, gsNil, gSubD, xTup, xLst, aCons, aNil, newT, newL, xFld, xCall, xMeth, xMake, xProp, noexc, xFn, xBM, xChain, oI, oIB, oLt, oLe, oGt, oGe, oSub, LIM, i0, im, rfs_m, mfs_st, e3]
      rw [while_go v0 v1]
      exact e2
    · have : ({ ({ R with sc := R.sc ++ [p] } : Rn) with sc := (R.sc ++ [p]) ++ List.replicate k p } : Rn) = { R with sc := R.sc ++ List.replicate (k + 1) p } := by
        rw [List.append_assoc]; rfl
      rw [← this]
      exact h2
theorem finish_ok {K : PySem.W.Frag} {s : S} {r p k : Nat} {R : Rn} {L : RL} (h : RAt K s r R L) (w : WF s) (hp : p < R.n) (ht : R.m.st[p]? = some false) (hf : Fin1 R.m p k) (hl : R.sc.length + k + 1 < LIM) (hl2 : R.pa.length < LIM) :
    ∃ s', f_Run_finish K [.ref r, .int p] s = .ok (.int (nm ((R.m.after (List.replicate k p)).ce.getD p (0, 0)))) s' ∧ RAt K s' r { R with sc := R.sc ++ List.replicate k p, pa := R.pa ++ [R.sc.length] } L ∧ Fr (L.ids r) s s' ∧ WF s' := by
  have e0 := need_process_ok h hp ht
  have i0 := isIns_at h.gi
  have ml0 : (rfs L).lookup ("need_process" : Str) = none := rfl
  obtain ⟨s1, e1, h1, f1, w1⟩ := past_ok h w hl2 [some (.ref r), some (nD p)] rfl
  obtain ⟨s2, e2, h2, f2, w2⟩ := floop_ok (fun _ => True) k h1 w1 hp hf hl
  refine ⟨s2, ?_, h2, f1.tr f2, w2⟩
  refine fnB_rt ?_
  show b_Run_finish K [some (.ref r), some (nD p)] s = _
  unfold b_Run_finish
  rw [seq_ok (Γ' := [some (.ref r), some (nD p)]) (s' := s) (by
    have e0' : f_Run_need_process K [.ref r, nD p] s = .ok .non s := e0
    simp [fnB, endR, liftE, L3.R.bind, sSeq, sAsg, sRet, sRetN, sNil, sIf, sSet, sDrop, sPar, sFldSet, sDPut, xBin, xVar, xC, xIf, xAnd, xOr, xNot, bNot, bAnd, bOr, bOf, xOf, xNeg, bYes, gTupD, gsCons, gSet, gsNil, gSubD, xTup, xLst, aCons, aNil, newT, newL, xFld, xCall, xMeth, xMake, xProp, noexc, xFn, xBM, xChain, oI, oIB, oLt, oLe, oGt, oGe, oSub, LIM, i0, ml0, e0'])]
  rw [seq_ok e1, seq_ok (sWhile_of (k + 1) e2 (by simp))]
  have i2 := isIns_at h2.gi
  have im := isIns_at h2.hm.gi
  have hm2 : ({ R with sc := R.sc ++ List.replicate k p, pa := R.pa ++ [R.sc.length] } : Rn).m = R.m.after (List.replicate k p) := m_app R _ _
  have pc : p < (R.m.after (List.replicate k p)).ce.length := by
    have := h2.ok.lc
    rw [hm2] at this
    rw [this, after_n, Rn.mn]; exact hp
  have e3 := name_at_ok h2.hm h2.ok (by simp; omega) (by rw [hm2]; exact List.getElem?_eq_getElem pc)
  have g2 : (R.m.after (List.replicate k p)).ce.getD p (0, 0) = (R.m.after (List.replicate k p)).ce[p] := by simp [pc]
  rw [g2]
  have e3' : f_Machine_name_at K [.ref L.m, nD p] s2 = .ok (.int (nm (R.m.after (List.replicate k p)).ce[p])) s2 := e3
  have ml : (mfs ({ R with sc := R.sc ++ List.replicate k p, pa := R.pa ++ [R.sc.length] } : Rn).m.n L.ml).lookup ("name_at" : Str) = none := rfl
  generalize nm (R.m.after (List.replicate k p)).ce[p] = v at e3' ⊢
  simp [fnB, endR, liftE, L3.R.bind, sSeq, sAsg, sRet, sRetN, sNil, sIf, sSet, sDrop, sPar, sFldSet, sDPut, xBin, xVar, xC, xIf, xAnd, xOr, xNot, bNot, bAnd, bOr, bOf, xOf, xNeg, bYes, gTupD, gsCons, gSet, gsNil, gSubD, xTup, xLst, aCons, aNil, newT, newL, xFld, xCall, xMeth, xMake, xProp, noexc, xFn, xBM, xChain, oI, oIB, oLt, oLe, oGt, oGe, oSub, LIM, i2, im, rfs_m, ml, e3']
/-! ### a new run -/
theorem rinit_ok {K : PySem.W.Frag} {s : S} {r c : Nat} (w : WF s) (hg : s.get r = some (.ins (He.ga K "Run") [])) (h1 : 1 ≤ c) (h2 : c ≤ 40) :
    ∃ s' L, f_Run___init__ K [.ref r, .int c] s = .ok .non s' ∧ RAt K s' r ⟨c, [], []⟩ L ∧ Fr [r] s s' ∧ WF s' ∧ ∀ k ∈ L.ids r, k = r ∨ s.nx ≤ k := by
  let Γ : Sl := [some (.ref r), some (.int c)]
  have hr : r < s.nx := w _ _ hg
  -- the machine
  have w0 := wf_new w (.ins (He.ga K "Machine") [])
  obtain ⟨s0, ml, e0, hm0, f0, w0', k0⟩ := minit_ok (K := K) (n := s.nx) (c := c) w0 (by rw [get_new, if_pos rfl]) (by show c ≤ 1000000; omega)
  have f00 : Fr [] s s0 := fr_new.trans f0 fun k hk hlt => by simp at hk; omega
  have newm : ∀ k ∈ ml.ids s.nx, s.nx ≤ k := fun k hk => by
    rcases k0 k hk with e | e
    · omega
    · rw [nx_new] at e; omega
  have nm0 : ∀ k ∈ ml.ids s.nx, k < s0.nx := fun k hk => by
    simp only [ML.ids, List.mem_cons, List.not_mem_nil, or_false] at hk
    rcases hk with e | e | e | e | e | e
    · subst e; exact w0' _ _ hm0.gi
    · subst e; exact w0' _ _ hm0.go
    · subst e; exact w0' _ _ hm0.gf
    · subst e; exact w0' _ _ hm0.gc
    · subst e; exact w0' _ _ hm0.gq
    · subst e; exact w0' _ _ hm0.gt
  have rm : r ∉ ml.ids s.nx := fun z => by have := newm r z; omega
  obtain ⟨s1, e1, g1, r1, w1, x1, k1⟩ := addF (f := "machine") (fv := xMake (He.ga K "Machine") 2 (f_Machine___init__ K) (aCons (xVar 1) aNil)) (Γ := Γ) (d := .ref s.nx) rfl hg w (by
    show xMake (He.ga K "Machine") 2 (f_Machine___init__ K) (aCons (xVar 1) aNil) [some (.ref r), some (.int c)] s = .ok (.ref s.nx) s0
    simp [fnB, endR, liftE, L3.R.bind, sSeq, sAsg, sRet, sRetN, sNil, sIf, sSet, sDrop, sPar, sFldSet, sDPut, xBin, xVar, xC, xIf, xAnd, xOr, xNot, bNot, bAnd, bOr, bOf, xOf, xNeg, bYes, gTupD, gsCons, gSet, gsNil, gSubD, xTup, xLst, aCons, aNil, newT, newL, xFld, xCall, xMeth, xMake, xProp, noexc, xFn, xBM, xChain, oI, oIB, oLt, oLe, oGt, oGe, oSub, LIM, e0]) f00 (by show 0 < 1000; decide)
  have g1 : s1.get r = some (.ins (He.ga K "Run") [("machine", .ref s.nx)]) := g1
  have hm1 : MAt (He.ga K "Machine") s1 s.nx (Mc.init c) ml := hm0.keep fun k hk => k1 k fun e => rm (by rw [← e]; exact hk)
  obtain ⟨s2, e2, g2, r2, w2, x2, k2⟩ := addF (f := "schedule") (fv := xLst true aNil) (Γ := Γ) rfl g1 w1 rfl fr_new (by show 1 < 1000; decide)
  rw [nx_new] at x2
  have g2 : s2.get r = some (.ins (He.ga K "Run") [("machine", .ref s.nx), ("schedule", .ref s1.nx)]) := g2
  have l1 := r1.nx
  have l2 := r2.nx
  obtain ⟨s3, e3, g3, r3, w3, x3, k3⟩ := addF (f := "past") (fv := xLst true aNil) (Γ := Γ) rfl g2 w2 rfl fr_new (by show 2 < 1000; decide)
  rw [nx_new] at x3
  have l3 := r3.nx
  have g3 : s3.get r = some (.ins (He.ga K "Run") (rfs ⟨s.nx, s1.nx, s2.nx, ml⟩)) := g3
  have lm1 : ∀ k ∈ ml.ids s.nx, k < s1.nx := fun k hk => Nat.lt_of_lt_of_le (nm0 k hk) x1
  refine ⟨s3, ⟨s.nx, s1.nx, s2.nx, ml⟩, ?_, ⟨g3, ?_, ?_, ?_, ?_, trivial⟩, r1.tr (r2.tr r3), w3, ?_⟩
  · refine fnB_nx (Γ := Γ) ?_
    show b_Run___init__ K Γ s = _
    unfold b_Run___init__
    have e := need_count_ok (K := K) (c := c) (s := s) (by omega) (by omega)
    rw [seq_ok (Γ' := Γ) (s' := s) (by
      show sDrop (xCall 1 (f_need_count K) (aCons (xVar 1) aNil)) [some (.ref r), some (.int c)] s = .ok (.nx [some (.ref r), some (.int c)]) s
      simp [fnB, endR, liftE, L3.R.bind, sSeq, sAsg, sRet, sRetN, sNil, sIf, sSet, sDrop, sPar, sFldSet, sDPut, xBin, xVar, xC, xIf, xAnd, xOr, xNot, bNot, bAnd, bOr, bOf, xOf, xNeg, bYes, gTupD, gsCons, gSet, gsNil, gSubD, xTup, xLst, aCons, aNil, newT, newL, xFld, xCall, xMeth, xMake, xProp, noexc, xFn, xBM, xChain, oI, oIB, oLt, oLe, oGt, oGe, oSub, LIM, e])]
    rw [seq_ok e1, seq_ok e2]
    exact e3
  · exact hm1.keep fun k hk => (r2.tr r3).eq k (lm1 k hk) (by simp; intro e; exact rm (by rw [← e]; exact hk))
  · have a : s2.get s1.nx = some (.lst []) := by rw [k2 _ (by omega), get_new, if_pos rfl]
    exact r3.keep w2 a (by simp; omega)
  · have a : s3.get s2.nx = some (.lst []) := by rw [k3 _ (by omega), get_new, if_pos rfl]
    exact a
  · simp only [RL.ids, List.nodup_cons, List.mem_cons, not_or]
    refine ⟨⟨by omega, by omega, rm⟩, ⟨by omega, fun z => ?_⟩, fun z => ?_, hm0.nd⟩
    · have := lm1 _ z; omega
    · have := lm1 _ z; omega
  · intro k hk
    simp only [RL.ids, List.mem_cons] at hk
    rcases hk with e | e | e | e
    · exact .inl e
    · right; omega
    · right; omega
    · exact .inr (newm k e)
end L3

set_option Elab.async false
set_option linter.all false
set_option maxRecDepth 100000
set_option maxHeartbeats 1000000
set_option exponentiation.threshold 600
namespace L3
open PySem PySem.Spec PyProof.Rows L2

theorem get_new_old {s : S} {k : Nat} {o : O} (h : k < s.nx) : (s.new o).get k = s.get k := by rw [get_new, if_neg (Nat.ne_of_lt h)]
theorem nD_map (l : List Nat) : l.map nD = (l.map fun (p : Nat) => (p : Int)).map .int := by rw [List.map_map]; rfl
theorem cut_take (xs : List D) (k : Nat) : cutD xs none (some (k : Int)) = xs.take k := by
  unfold cutD
  rw [HT.sIx_none, HT.sIx_nat, List.drop_zero, Nat.sub_zero]
  by_cases h : k ≤ xs.length
  · rw [Nat.min_eq_left h]
  · rw [Nat.min_eq_right (by omega), List.take_of_length_le (Nat.le_refl _), List.take_of_length_le (by omega)]
theorem undo_ok {K : PySem.W.Frag} {s : S} {r k : Nat} {R : Rn} {L : RL} {pa : List Nat} (h : RAt K s r R L) (w : WF s) (hpa : R.pa = pa ++ [k]) (hn : R.n ≤ LIM) (hl : R.sc.length < LIM) :
    ∃ s' L', f_Run_undo K [.ref r] s = .ok .non s' ∧ RAt K s' r { R with sc := R.sc.take k, pa := pa } L' ∧ Fr (L.ids r) s s' ∧ WF s' ∧ ∀ j ∈ L'.ids r, j ∈ L.ids r ∨ s.nx ≤ j := by
  have ne := RL.ne h.nd
  have hlt := h.lt w
  have i0 := isIns_at h.gi
  have hr : r < s.nx := hlt r (by simp [RL.ids])
  -- past
  let s1 := s.put L.p (.lst (pa.map nD))
  have gp : s.get L.p = some (.lst (pa.map nD ++ [nD k])) := by rw [h.gp, hpa, List.map_append]; rfl
  have pop : mPop (.ref L.p) [] s = .ok (nD k) s1 := by
    unfold mPop
    simp only [gp]
    have : (pa.map nD ++ [nD k])[(pa.map nD ++ [nD k]).length - 1]? = some (nD k) := by simp
    rw [this]
    simp [s1]
  have w1 : WF s1 := wf_put w _ _
  have f1 : Fr (L.ids r) s s1 := fr_put (by simp [RL.ids])
  have gi1 : s1.get r = some (.ins (He.ga K "Run") (rfs L)) := by rw [get_put_ne ne.rp]; exact h.gi
  have gs1 : s1.get L.s = some (.lst (R.sc.map nD)) := by rw [get_put_ne ne.sp]; exact h.gs
  have gp1 : s1.get L.p = some (.lst (pa.map nD)) := get_put_same gp
  have hm1 : MAt (He.ga K "Machine") s1 L.m R.m L.ml := h.hm.keep fun j hj => get_put_ne fun e => ne.pm (by rw [← e]; exact hj)
  -- schedule
  let s2 := s1.new (.lst ((R.sc.take k).map nD))
  have w2 : WF s2 := wf_new w1 _
  have gi2 : s2.get r = some (.ins (He.ga K "Run") (rfs L)) := by rw [get_new_old (s := s1) hr]; exact gi1
  have cut : oSl true (.ref L.s) none (some (k : Int)) s1 = .ok (.ref s1.nx) s2 := by
    unfold oSl
    simp only [lst_at' gs1]
    rw [cut_take, ← List.map_take]
    rfl
  let s3 := s2.put r (.ins (He.ga K "Run") [("machine", .ref L.m), ("schedule", .ref s1.nx), ("past", .ref L.p)])
  have gi3 : s3.get r = some (.ins (He.ga K "Run") [("machine", .ref L.m), ("schedule", .ref s1.nx), ("past", .ref L.p)]) := get_put_same gi2
  have w3 : WF s3 := wf_put w2 _ _
  have gs3 : s3.get s1.nx = some (.lst ((R.sc.take k).map nD)) := by
    rw [get_put_ne (show s1.nx ≠ r from fun e => by have : s1.nx = s.nx := rfl; omega), get_new, if_pos rfl]
  have gm3 : s3.get L.m = some (.ins (He.ga K "Machine") (mfs R.m.n L.ml)) := by
    have hmlt := hlt L.m (by simp [RL.ids, ML.ids])
    rw [get_put_ne (fun e => ne.rm (by rw [← e]; simp [ML.ids])), get_new_old (s := s1) hmlt]
    exact hm1.gi
  -- machine
  obtain ⟨s4, m, ml, e4, hm4, f4, w4, k4⟩ := machine_after_ok (K := K) (n := R.n) (d := .ref s1.nx) (sc := R.sc.take k) w3 hn (lst_at' gs3) (can_take h.can k) (by rw [List.length_take]; omega)
  have x3 : s3.nx = s.nx + 1 := rfl
  have gi4 : s4.get r = some (.ins (He.ga K "Run") [("machine", .ref L.m), ("schedule", .ref s1.nx), ("past", .ref L.p)]) := f4.keep w3 gi3 (by simp)
  let s5 := s4.put r (.ins (He.ga K "Run") [("machine", .ref m), ("schedule", .ref s1.nx), ("past", .ref L.p)])
  have rm : r ∉ ml.ids m := fun z => by have := k4 r z; omega
  have ps : L.p < s.nx := hlt L.p (by simp [RL.ids])
  have gp4 : s4.get L.p = some (.lst (pa.map nD)) := by
    have : s3.get L.p = some (.lst (pa.map nD)) := by rw [get_put_ne (Ne.symm ne.rp), get_new_old (s := s1) ps]; exact gp1
    exact f4.keep w3 this (by simp)
  refine ⟨s5, ⟨m, s1.nx, L.p, ml⟩, ?_, ⟨get_put_same gi4, ?_, ?_, ?_, ?_, can_take h.can k⟩, ?_, wf_put w4 _ _, ?_⟩
  · refine fnB_nx (Γ := [some (.ref r)]) ?_
    show b_Run_undo K [some (.ref r)] s = _
    unfold b_Run_undo
    have q0 : oEq false (.ref L.p) (.lst []) s = .ok (.bl false) s := by
      rw [oEq_nil (ns := R.pa.map fun (p : Nat) => (p : Int)) (by rw [lst_at' h.gp, nD_map])]
      simp [hpa]
    rw [seq_ok (Γ' := [some (.ref r)]) (s' := s) (by
      simp [fnB, endR, liftE, L3.R.bind, sSeq, sAsg, sRet, sRetN, sNil, sIf, sSet, sDrop, sPar, sFldSet, sDPut, xBin, xVar, xC, xIf, xAnd, xOr, xNot, bNot, bAnd, bOr, bOf, xOf, xNeg, bYes, gTupD, gsCons, gSet, gsNil, gSubD, xTup, xLst, aCons, aNil, newT, newL, xFld, xCall, xMeth, xMake, xProp, noexc, xFn, xBM, xChain, oI, oIB, oLt, oLe, oGt, oGe, oSub, LIM, i0, rfs_p, q0])]
    have t1 := isTy_lst h.gp
    have v2 : sFldSet (He.ga K "Run") "schedule" (xVar 0) (xSl true (xFld (He.ga K "Run") "schedule" (xVar 0)) oNo (oAt (xBM "list" mPop (xFld (He.ga K "Run") "past" (xVar 0)) aNil))) [some (.ref r)] s = .ok (.nx [some (.ref r)]) s3 := by
      refine fldset_ok (d := .ref s1.nx) (s1 := s2) ?_ rfl gi2 (by show 3 < 1000; decide)
      have pop' : mPop (.ref L.p) [] s = .ok (.int k) s1 := pop
      simp only [xSl, oNo, oAt, xFld, xVar, List.getElem?_cons_zero, L3.R.bind, i0, rfs_s, xBM, rfs_p, t1, if_true, aNil, pop', cut]
    rw [seq_ok v2]
    have i3 := isIns_at gi3
    have im := isIns_at gm3
    have sz : (mfs R.m.n L.ml).lookup ("size" : Str) = some (.int R.n) := by rw [mfs_size, Rn.mn]
    refine fldset_ok (d := .ref m) (s1 := s4) (s2 := s4) ?_ rfl gi4 (by show 3 < 1000; decide)
    have l1 : ([("machine", .ref L.m), ("schedule", .ref s1.nx), ("past", .ref L.p)] : List (Str × D)).lookup ("machine" : Str) = some (.ref L.m) := rfl
    have l2 : ([("machine", .ref L.m), ("schedule", .ref s1.nx), ("past", .ref L.p)] : List (Str × D)).lookup ("schedule" : Str) = some (.ref s1.nx) := rfl
    simp only [xCall, aCons, xFld, xVar, List.getElem?_cons_zero, L3.R.bind, i3, l1, l2, im, sz, aNil, List.length_cons, List.length_nil, if_true, e4]
  · exact hm4.keep fun j hj => get_put_ne fun e => rm (by rw [← e]; exact hj)
  · have : s4.get s1.nx = some (.lst ((R.sc.take k).map nD)) := f4.keep w3 gs3 (by simp)
    show s5.get s1.nx = _
    rw [get_put_ne (show s1.nx ≠ r from fun e => by have : s1.nx = s.nx := rfl; omega)]
    exact this
  · show s5.get L.p = _
    rw [get_put_ne (Ne.symm ne.rp)]
    exact gp4
  · have x1 : s1.nx = s.nx := rfl
    simp only [RL.ids, List.nodup_cons, List.mem_cons, not_or]
    refine ⟨⟨by omega, ne.rp, rm⟩, ⟨by omega, fun z => ?_⟩, fun z => ?_, hm4.nd⟩
    · have := k4 _ z; omega
    · have := k4 _ z; omega
  · have a : Fr (L.ids r) s s3 := f1.tr (fr_new.tr (fr_put (by simp [RL.ids])))
    exact a.tr ((f4.sub (by simp)).tr (fr_put (by simp [RL.ids])))
  · intro j hj
    simp only [RL.ids, List.mem_cons] at hj ⊢
    rcases hj with e | e | e | e
    · exact .inl (.inl e)
    · right; have x1 : s1.nx = s.nx := rfl; omega
    · exact .inl (.inr (.inr (.inl e)))
    · right; have := k4 j e; omega
end L3

set_option Elab.async false
set_option linter.all false
set_option maxRecDepth 100000
set_option maxHeartbeats 1000000
set_option exponentiation.threshold 600
namespace L3
open PySem PySem.Spec PyProof.Rows L2

/-! ### texts -/
abbrev tlS (z : Str) : List Nat := z.cps.toList
def isDg (c : Nat) : Bool := decide (48 ≤ c) && decide (c ≤ 57)
def dig (z : Str) : Bool := (tlS z).all isDg
theorem in_digits (c : Nat) : decide (c ∈ ("0123456789" : Str).cps.toList) = isDg c := by
  have e : ("0123456789" : Str).cps.toList = [48, 49, 50, 51, 52, 53, 54, 55, 56, 57] := by decide +kernel
  rw [e]
  unfold isDg
  rw [Bool.eq_iff_iff]
  simp
  omega
def num (p : Int) : Str := Str.ofString (toString p)
theorem len_eq (z : Str) : z.length = (tlS z).length := TL.len_tl z
/-- the number that a word stands for, of at most m signs -/
def numOf (z : Str) (m : Nat) : Option Int := if 1 ≤ z.length ∧ z.length ≤ m ∧ dig z = true then (if z = "0" ∨ (tlS z)[0]? ≠ some 48 then some (NumText.digitsVal (tlS z)) else none) else none
def oI' : Option Int → D
  | some i => .int i
  | none => .non
theorem all_signs {K : PySem.W.Frag} {z : Str} {x y : D} {s : S} (hl : z.length ≤ LIM) : compL yes (gSet 2) bYes (xBin (oIn false) (xVar 2) (xC (.str "0123456789"))) [some x, some y, none] (signs z) [] s = .ok ((tlS z).map fun c => .bl (isDg c)) s := by
  rw [comp_map (fun d => match d with | .str ⟨⟨[c]⟩⟩ => .bl (isDg c) | _ => .non) rfl _ (by unfold signs; rw [List.length_map, ← len_eq]; exact hl) fun d hd => ?_]
  · unfold signs
    rw [List.map_map]
    rfl
  · unfold signs at hd
    obtain ⟨c, hc, rfl⟩ := List.mem_map.mp hd
    refine ⟨_, rfl, ?_⟩
    show _ = R.ok (D.bl (isDg c)) s
    rw [← in_digits]
    rfl
theorem number_in_ok {K : PySem.W.Frag} {z : Str} {m : Nat} {s : S} (hl : z.length ≤ LIM) (hm : m ≤ 600) : f_number_in K [.str z, .int m] s = .ok (oI' (numOf z m)) s := by
  refine fnB_rt ?_
  show b_number_in K [some (.str z), some (.int m), none] s = _
  have ol : oLen [.str z] s = .ok (.int z.length) s := by
    unfold oLen
    simp only
    rw [if_pos hl]
  have cm := all_signs (K := K) (z := z) (x := .str z) (y := .int m) (s := s) hl
  have al : oAllC [.lst ((tlS z).map fun c => .bl (isDg c))] s = .ok (.bl (dig z)) s := by
    have e : ((tlS z).map fun c => D.bl (isDg c)) = ((tlS z).map isDg).map .bl := by rw [List.map_map]; rfl
    unfold oAllC lstOf
    rw [e]
    simp only [Option.bind_some, blsOf_map]
    unfold dig
    rw [List.all_map]
    rfl
  have vcomp : xFn oAllC (aCons (xComp false [2] (iStrS (xVar 0)) (gSet 2) bYes (xBin (oIn false) (xVar 2) (xC (.str "0123456789")))) aNil) [some (.str z), some (.int m), none] s = .ok (.bl (dig z)) s := by
    simp only [xFn, aCons, aNil, xComp, iStrS, xVar, List.getElem?_cons_zero, L3.R.bind, wipeD]
    rw [show ([some (D.str z), some (D.int m), none].set 2 none : Sl) = [some (.str z), some (.int m), none] from rfl, cm]
    simp only [L3.R.bind, newL, Bool.false_eq_true, if_false, al]
  unfold b_number_in
  have ch : xChain oLe oLe (xC (.int 1)) (xFn oLen (aCons (xVar 0) aNil)) (xVar 1) [some (.str z), some (.int m), none] s = .ok (.bl (decide (1 ≤ z.length ∧ z.length ≤ m))) s := by
    rw [chain_le (a := 1) (b := z.length) (c := m) rfl (by simp only [xFn, aCons, aNil, xVar, List.getElem?_cons_zero, L3.R.bind, ol]) rfl]
    congr 2
    rw [Bool.eq_iff_iff]
    simp
    omega
  have nz : (1 ≤ z.length ∧ z.length ≤ m) → ∃ c, (tlS z)[0]? = some c ∧ oIx (.str z) (.int 0) s = .ok (.str ⟨#[c]⟩) s := fun h => by
    have h2 : 0 < (tlS z).length := by rw [← len_eq]; omega
    refine ⟨(tlS z)[0], List.getElem?_eq_getElem h2, ?_⟩
    unfold oIx
    dsimp only
    rw [if_pos hl, show (0 : Int) = ((0 : Nat) : Int) from rfl, atI_nat (List.getElem?_eq_getElem h2)]
  have z0 : ("0" : Str) = ⟨#[48]⟩ := by decide
  unfold numOf
  by_cases h1 : 1 ≤ z.length ∧ z.length ≤ m
  · obtain ⟨c, hc, ix⟩ := nz h1
    cases hd : dig z with
    | false =>
      have hf : ¬ (1 ≤ z.length ∧ z.length ≤ m ∧ false = true) := fun q => Bool.false_ne_true q.2.2
      rw [if_neg hf]
      rw [hd] at vcomp
      rw [decide_eq_true h1] at ch
      exact seq_rt (by simp only [sIf, bOr, bNot, bOf, ch, vcomp, L3.R.bind, liftE, Bool.not_true, Bool.not_false, Bool.false_eq_true, if_false, if_true, sRet, xC]; rfl)
    | true =>
      rw [if_pos ⟨h1.1, h1.2, rfl⟩]
      rw [hd] at vcomp
      rw [decide_eq_true h1] at ch
      rw [seq_ok (Γ' := [some (.str z), some (.int m), none]) (s' := s) (by simp only [sIf, bOr, bNot, bOf, ch, vcomp, L3.R.bind, liftE, Bool.not_true, Bool.false_eq_true, if_false, sNil])]
      have ic : oIntC [.str z] s = .ok (.int (NumText.digitsVal (tlS z))) s := by
        unfold oIntC
        have e := intText_digits (x := z) (fun c hc => by
          have := List.all_eq_true.mp hd c hc
          unfold isDg at this
          simpa using this) (fun e => by rw [show tlS z = [] from e] at hc; cases hc) (by omega)
        dsimp only
        rw [e]
        dsimp only
        rw [if_pos (by omega)]
      have ne0 : decide ((⟨#[c]⟩ : Str) = "0") = decide (c = 48) := by
        rw [z0]
        by_cases q : c = 48
        · subst q; simp
        · rw [decide_eq_false q, decide_eq_false]
          intro e
          injection e with e
          exact q (by simpa using e)
      rw [hc]
      by_cases q : z = "0"
      · rw [if_pos (.inl q)]
        simp only [sRet, xIf, bOr, bOf, xBin, xVar, xC, List.getElem?_cons_zero, L3.R.bind, oEq_str, q, decide_true, Bool.false_eq_true, if_false, if_true]
        rw [q] at ic
        simp only [xFn, aCons, aNil, xVar, List.getElem?_cons_zero, L3.R.bind, ic, liftE]
        rfl
      · simp only [sRet, xIf, bOr, bOf, xBin, xVar, xC, List.getElem?_cons_zero, L3.R.bind, oEq_str, q, decide_false, Bool.false_eq_true, if_false, if_true, ix, ne0]
        by_cases q2 : c = 48
        · subst q2
          rw [if_neg (by simp)]
          simp only [decide_true, Bool.not_true, Bool.false_eq_true, if_false, liftE]
          rfl
        · rw [if_pos (show False ∨ some c ≠ some 48 from .inr (by simpa using q2))]
          simp only [decide_eq_false q2, Bool.not_false, if_true, xFn, aCons, aNil, xVar, List.getElem?_cons_zero, L3.R.bind, ic, liftE]
          rfl
  · have hf : ¬ (1 ≤ z.length ∧ z.length ≤ m ∧ dig z = true) := fun q => h1 ⟨q.1, q.2.1⟩
    rw [if_neg hf]
    rw [decide_eq_false h1] at ch
    exact seq_rt (by simp only [sIf, bOr, bNot, bOf, ch, L3.R.bind, liftE, Bool.not_false, if_true, sRet, xC]; rfl)
/-- a number's own text -/
theorem tl_num (p : Nat) : tlS (num p) = TL.numL p := TL.tl_num p
theorem dig_num (p : Nat) : dig (num p) = true := by
  unfold dig
  rw [tl_num]
  refine List.all_eq_true.mpr fun c hc => ?_
  have := TL.numL_digits p c hc
  unfold isDg
  simpa using this
theorem numL_head : ∀ p : Nat, p ≠ 0 → (TL.numL p)[0]? ≠ some 48 := by
  intro p
  induction p using Nat.strongRecOn with
  | _ p ih =>
    intro h
    by_cases h2 : p < 10
    · rw [TL.numL_lt h2]
      simp
      omega
    · rw [TL.numL_step (by omega)]
      have h3 : 0 < (TL.numL (p / 10)).length := by
        cases e : TL.numL (p / 10) with
        | nil => exact absurd e (TL.numL_ne _)
        | cons a b => exact Nat.succ_pos _
      rw [List.getElem?_append_left h3]
      exact ih (p / 10) (by omega) (by omega)
theorem numOf_num {p m : Nat} (hm : 0 < m) (h : p < 10 ^ m) : numOf (num p) m = some (p : Int) := by
  have h1 : 1 ≤ (num p).length := by
    rw [len_eq, tl_num]
    cases e : TL.numL p with
    | nil => exact absurd e (TL.numL_ne _)
    | cons a b => simp
  have h2 : (num p).length ≤ m := by rw [len_eq, tl_num]; exact TL.numL_len hm h
  unfold numOf
  have hq : num p = "0" ∨ (TL.numL p)[0]? ≠ some 48 := by
    by_cases q : p = 0
    · subst q
      exact .inl (by decide +kernel)
    · exact .inr (numL_head p q)
  rw [if_pos ⟨h1, h2, dig_num p⟩, tl_num, TL.numL_val, if_pos hq]
theorem numOf_word {z : Str} {m : Nat} (h : dig z = false) : numOf z m = none := by
  unfold numOf
  rw [if_neg fun q => by rw [h] at q; exact Bool.false_ne_true q.2.2]
end L3

set_option Elab.async false
set_option linter.all false
set_option maxRecDepth 100000
set_option maxHeartbeats 1000000
set_option exponentiation.threshold 600
namespace L3
open PySem PySem.Spec PyProof.Rows L2

/-! ### commands -/
theorem split_one {w : Str} (h : 32 ∉ tlS w) : Txt.split w " " = [w] := by
  have e := TL.split_join (y := " ") (s := 32) (S := []) (by decide +kernel) (by decide +kernel) (parts := [w]) (by simp) (fun p hp => by
    rw [List.mem_singleton.mp hp]; exact h)
  exact e
theorem split_two {w v u : Str} (hw : 32 ∉ tlS w) (hv : 32 ∉ tlS v) (hu : u = w ++ " " ++ v) : Txt.split u " " = [w, v] := by
  have e := TL.split_join (y := " ") (s := 32) (S := []) (by decide +kernel) (by decide +kernel) (parts := [w, v]) (by simp) (fun p hp => by
    rcases List.mem_cons.mp hp with e | hp
    · rw [e]; exact hw
    · rw [List.mem_singleton.mp hp]; exact hv)
  rw [TL.join_eq] at e
  rw [hu]
  exact e
theorem num_free (p : Nat) : 32 ∉ tlS (num p) := by
  rw [tl_num]
  exact TL.numL_free (.inl (by decide))
theorem num_len {p k : Nat} (hk : 0 < k) (h : p < 10 ^ k) : (num p).length ≤ k := by
  rw [len_eq, tl_num]
  exact TL.numL_len hk h
theorem split_at' {z : Str} {ws : List Str} {s : S} (hl : z.length + 2 ≤ LIM) (h : Txt.split z " " = ws) : mSplit false (.str z) [.str " "] s = .ok (.lst (ws.map .str)) s := by
  unfold mSplit
  dsimp only
  rw [if_pos ⟨by decide, hl⟩, h]
  rfl
section
variable {K : PySem.W.Frag} {s : S}
theorem isStr_ok {z : Str} : oIsiG [.str z, .ty "str"] s = .ok (.bl true) s := by
  have h1 : isiB "str" "str" = some true := by decide
  simp [oIsiG, notDT, oIsi, tyN, h1]
theorem last_at {xs : List D} {d : D} : oIx (.lst (xs ++ [d])) (.int (-1)) s = .ok d s := by
  unfold oIx lstOf
  have e : atI (xs ++ [d]) (-1) = some d := by
    unfold atI ixN
    rw [if_neg (by decide), if_pos (by simp; omega)]
    have : ((-1 : Int) + ((xs ++ [d]).length : Int)).toNat = xs.length := by simp; omega
    rw [this]
    simp
  dsimp only
  rw [e]
/-- a word alone -/
theorem cmd_alone {w : Str} (hw : w = "undo" ∨ w = "names" ∨ w = "places" ∨ w = "text") (h1 : 32 ∉ tlS w) (h2 : dig w = false) (h3 : w.length ≤ 10) (h4 : PyData.strOk w = true) : f_command_in K [.str w] s = .ok (.tup [.str w, .non]) s := by
  have sp := split_at' (s := s) (show w.length + 2 ≤ LIM by show w.length + 2 ≤ 1000000; omega) (split_one h1)
  have ni := number_in_ok (K := K) (z := w) (m := 9) (s := s) (by show w.length ≤ 1000000; omega) (by decide)
  rw [numOf_word h2] at ni
  have la : oIx (.lst [.str w]) (.int (-1)) s = .ok (.str w) s := last_at (xs := [])
  refine fnB_rt ?_
  show b_command_in K [some (.str w), none, none, none, none] s = _
  unfold b_command_in
  rw [seq_ok (Γ' := [some (.str w), none, none, none, none]) (s' := s) (by simp [fnB, endR, liftE, L3.R.bind, sSeq, sAsg, sRet, sRetN, sNil, sIf, sSet, sDrop, sPar, sFldSet, sDPut, xBin, xVar, xC, xIf, xAnd, xOr, xNot, bNot, bAnd, bOr, bOf, xOf, xNeg, bYes, gTupD, gsCons, gSet, gsNil, gSubD, xTup, xLst, aCons, aNil, newT, newL, xFld, xCall, xMeth, xMake, xProp, noexc, xFn, xBM, xChain, oI, oIB, oLt, oLe, oGt, oGe, oSub, LIM, isStr_ok])]
  rw [seq_ok (Γ' := [some (.str w), some (.lst [.str w]), none, none, none]) (s' := s) (by
    simp only [List.map_cons, List.map_nil] at sp
    simp [fnB, endR, liftE, L3.R.bind, sSeq, sAsg, sRet, sRetN, sNil, sIf, sSet, sDrop, sPar, sFldSet, sDPut, xBin, xVar, xC, xIf, xAnd, xOr, xNot, bNot, bAnd, bOr, bOf, xOf, xNeg, bYes, gTupD, gsCons, gSet, gsNil, gSubD, xTup, xLst, aCons, aNil, newT, newL, xFld, xCall, xMeth, xMake, xProp, noexc, xFn, xBM, xChain, oI, oIB, oLt, oLe, oGt, oGe, oSub, LIM, isTy, sp])]
  rw [seq_ok (Γ' := [some (.str w), some (.lst [.str w]), some .non, none, none]) (s' := s) (by
    simp only [oI'] at ni
    simp only [sSet, xCall, aCons, xBin, xVar, xNeg, xC, aNil, List.getElem?_cons_zero, List.getElem?_cons_succ, L3.R.bind, la, List.length_cons, List.length_nil, if_true]
    rw [show ((9 : Nat) : Int) = 9 from rfl] at ni
    rw [ni]; rfl)]
  simp [sMatch, mCase, pSeq, lstOf, psCons, psNil, pName, setAll, fnB, endR, liftE, L3.R.bind, sSeq, sAsg, sRet, sRetN, sNil, sIf, sSet, sDrop, sPar, sFldSet, sDPut, xBin, xVar, xC, xIf, xAnd, xOr, xNot, bNot, bAnd, bOr, bOf, xOf, xNeg, bYes, gTupD, gsCons, gSet, gsNil, gSubD, xTup, xLst, aCons, aNil, newT, newL, xFld, xCall, xMeth, xMake, xProp, noexc, xFn, xBM, xChain, oI, oIB, oLt, oLe, oGt, oGe, oSub, LIM, xInC, h4]
  intro a b c d
  rcases hw with h | h | h | h <;> contradiction
/-- a word and a number -/
theorem cmd_num {w : Str} {p : Nat} {z : Str} (hw : w = "run" ∨ w = "step" ∨ w = "finish") (h1 : 32 ∉ tlS w) (h3 : w.length ≤ 10) (h4 : PyData.strOk w = true) (hp : p < 10 ^ 9) (hz : z = w ++ " " ++ num p) : f_command_in K [.str z] s = .ok (.tup [.str w, .int p]) s := by
  have nl := num_len (p := p) (k := 9) (by decide) hp
  have zl : z.length ≤ 30 := by
    rw [hz, Str.length_append, Str.length_append, show (" " : Str).length = 1 from by decide]
    omega
  have sp := split_at' (s := s) (show z.length + 2 ≤ LIM by show z.length + 2 ≤ 1000000; omega) (split_two h1 (num_free p) hz)
  have ni := number_in_ok (K := K) (z := num p) (m := 9) (s := s) (by show (num p).length ≤ 1000000; omega) (by decide)
  rw [numOf_num (by decide) hp] at ni
  have la : oIx (.lst [.str w, .str (num p)]) (.int (-1)) s = .ok (.str (num p)) s := last_at (xs := [.str w])
  refine fnB_rt ?_
  show b_command_in K [some (.str z), none, none, none, none] s = _
  unfold b_command_in
  rw [seq_ok (Γ' := [some (.str z), none, none, none, none]) (s' := s) (by simp [fnB, endR, liftE, L3.R.bind, sSeq, sAsg, sRet, sRetN, sNil, sIf, sSet, sDrop, sPar, sFldSet, sDPut, xBin, xVar, xC, xIf, xAnd, xOr, xNot, bNot, bAnd, bOr, bOf, xOf, xNeg, bYes, gTupD, gsCons, gSet, gsNil, gSubD, xTup, xLst, aCons, aNil, newT, newL, xFld, xCall, xMeth, xMake, xProp, noexc, xFn, xBM, xChain, oI, oIB, oLt, oLe, oGt, oGe, oSub, LIM, isStr_ok])]
  rw [seq_ok (Γ' := [some (.str z), some (.lst [.str w, .str (num p)]), none, none, none]) (s' := s) (by
    simp only [List.map_cons, List.map_nil] at sp
    simp [fnB, endR, liftE, L3.R.bind, sSeq, sAsg, sRet, sRetN, sNil, sIf, sSet, sDrop, sPar, sFldSet, sDPut, xBin, xVar, xC, xIf, xAnd, xOr, xNot, bNot, bAnd, bOr, bOf, xOf, xNeg, bYes, gTupD, gsCons, gSet, gsNil, gSubD, xTup, xLst, aCons, aNil, newT, newL, xFld, xCall, xMeth, xMake, xProp, noexc, xFn, xBM, xChain, oI, oIB, oLt, oLe, oGt, oGe, oSub, LIM, isTy, sp])]
  rw [seq_ok (Γ' := [some (.str z), some (.lst [.str w, .str (num p)]), some (.int p), none, none]) (s' := s) (by
    simp only [oI'] at ni
    simp only [sSet, xCall, aCons, xBin, xVar, xNeg, xC, aNil, List.getElem?_cons_zero, List.getElem?_cons_succ, L3.R.bind, la, List.length_cons, List.length_nil, if_true]
    rw [show ((9 : Nat) : Int) = 9 from rfl] at ni
    rw [ni]; rfl)]
  simp [sMatch, mCase, pSeq, lstOf, psCons, psNil, pName, pAny, setAll, fnB, endR, liftE, L3.R.bind, sSeq, sAsg, sRet, sRetN, sNil, sIf, sSet, sDrop, sPar, sFldSet, sDPut, xBin, xVar, xC, xIf, xAnd, xOr, xNot, bNot, bAnd, bOr, bOf, xOf, xNeg, bYes, gTupD, gsCons, gSet, gsNil, gSubD, xTup, xLst, aCons, aNil, newT, newL, xFld, xCall, xMeth, xMake, xProp, noexc, xFn, xBM, xChain, oI, oIB, oLt, oLe, oGt, oGe, oSub, LIM, xInC, h4, hw, oIs, isN]
end
end L3

set_option Elab.async false
set_option linter.all false
set_option maxRecDepth 100000
set_option maxHeartbeats 1000000
set_option exponentiation.threshold 600
namespace L3
open PySem PySem.Spec PyProof.Rows L2

theorem nm_lt {c : Int × Int} {b : Nat} (h0 : 0 ≤ c.1) (h1 : 0 ≤ c.2) (h2 : c.1 + c.2 ≤ b) (hb : b ≤ 1000000) : 0 ≤ nm c ∧ nm c < 10 ^ 13 := by
  unfold nm
  have t0 : 0 ≤ c.1 + c.2 := by omega
  have t1 : c.1 + c.2 ≤ 1000000 := by omega
  have q0 : 0 ≤ (c.1 + c.2) * (c.1 + c.2 + 1) := Int.mul_nonneg t0 (by omega)
  have q1 : (c.1 + c.2) * (c.1 + c.2 + 1) ≤ 1000000 * 1000001 := Int.mul_le_mul t1 (by omega) (by omega) (by decide)
  generalize (c.1 + c.2) * (c.1 + c.2 + 1) = q at q0 q1 ⊢
  omega
theorem nm_get {M : Mc} {b p : Nat} (ok : M.Ok b) (hb : b ≤ 1000000) : 0 ≤ nm (M.ce.getD p (0, 0)) ∧ nm (M.ce.getD p (0, 0)) < 10 ^ 13 := by
  rw [List.getD_eq_getElem?_getD]
  cases q : M.ce[p]? with
  | none => exact ⟨by decide, by decide⟩
  | some c =>
    have := ok.ce c (List.mem_of_getElem? q)
    exact nm_lt this.1 this.2.1 this.2.2 hb
theorem num_nat {i : Int} (h : 0 ≤ i) : num i = num (i.toNat : Int) := by rw [Int.toNat_of_nonneg h]
theorem numI_len {i : Int} (h : 0 ≤ i) (h2 : i < 10 ^ 13) : (num i).length ≤ 13 := by
  rw [num_nat h]
  exact num_len (by decide) (by omega)
theorem str_ok {i : Int} {s : S} (h : 0 ≤ i) (h2 : i < 10 ^ 13) : oStrC [.int i] s = .ok (.str (num i)) s := by
  unfold oStrC
  dsimp only
  rw [if_pos (sm_lt h (by omega))]
  rfl
theorem join_at {a : Str} {ys : List Str} {s : S} (h : (ys.map (·.length)).sum + ys.length * a.length ≤ LIM) : mJoin (.str a) [.lst (ys.map .str)] s = .ok (.str (Txt.join a ys)) s := by
  unfold mJoin lstOf
  simp only [Option.bind_some, strsOf_map]
  rw [if_pos h]
theorem sum_len {ys : List Str} {k : Nat} (h : ∀ y ∈ ys, y.length ≤ k) : (ys.map (·.length)).sum ≤ ys.length * k := by
  induction ys with
  | nil => simp
  | cons y r ih =>
    rw [List.map_cons, List.sum_cons, List.length_cons, Nat.succ_mul]
    have := h y List.mem_cons_self
    have := ih fun z hz => h z (List.mem_cons_of_mem _ hz)
    omega
theorem join_ok {a : Str} {ys : List Str} {s : S} (ha : a.length = 1) (h : ∀ y ∈ ys, y.length ≤ 13) (hl : ys.length ≤ 50000) : mJoin (.str a) [.lst (ys.map .str)] s = .ok (.str (Txt.join a ys)) s := by
  have := sum_len h
  refine join_at ?_
  show _ ≤ 1000000
  rw [ha]
  omega
/-- the texts -/
def oS : Option Int → Str
  | none => "-"
  | some i => num i
def nmsT (M : Mc) : Str := Txt.join " " (M.nms.map oS)
def plsT (M : Mc) : Str := Txt.join " " (M.pls.map fun c => num c.1)
def schT (sc : List Nat) : Str := if sc = [] then "-" else Txt.join "," (sc.map fun (p : Nat) => num p)
def runT (n : Nat) (sc : List Nat) : Str := num n ++ " " ++ schT sc
theorem nms_lt {M : Mc} {b : Nat} (ok : M.Ok b) (hb : b ≤ 1000000) : ∀ o ∈ M.nms, ∀ i, o = some i → 0 ≤ i ∧ i < 10 ^ 13 := by
  intro o ho i e
  subst e
  unfold Mc.nms at ho
  obtain ⟨p, _, h⟩ := List.mem_map.mp ho
  split at h
  · cases h
    exact nm_get ok hb
  · cases h
theorem pls_lt {M : Mc} {b : Nat} (ok : M.Ok b) (hb : b ≤ 1000000) : ∀ o ∈ M.pls, 0 ≤ o.1 ∧ o.1 < 10 ^ 13 := by
  intro o ho
  unfold Mc.pls at ho
  obtain ⟨p, _, h⟩ := List.mem_map.mp ho
  rw [← h]
  exact nm_get ok hb
theorem nms_len (M : Mc) : M.nms.length = M.n := by simp [Mc.nms]
theorem pls_len (M : Mc) : M.pls.length = M.n := by simp [Mc.pls]
section
variable {K : PySem.W.Frag} {s : S}
/-- ' '.join([.. for name in names]) -/
theorem join_names {M : Mc} {b i : Nat} {Γ : Sl} {f : XF} (ok : M.Ok b) (hb : b ≤ 1000000) (hn : M.n ≤ 40) (hf : f Γ s = .ok (.lst (M.nms.map oD)) s) (hi : i < Γ.length) :
    xBM "str" mJoin (xC (.str " ")) (aCons (xComp false [i] (iSeq f) (gSet i) bYes (xIf (bOf (xBin (oIs false) (xVar i) (xC .non))) (xC (.str "-")) (xFn oStrC (aCons (xVar i) aNil)))) aNil) Γ s = .ok (.str (nmsT M)) s := by
  have c : xComp false [i] (iSeq f) (gSet i) bYes (xIf (bOf (xBin (oIs false) (xVar i) (xC .non))) (xC (.str "-")) (xFn oStrC (aCons (xVar i) aNil))) Γ s = .ok (.lst ((M.nms.map oS).map .str)) s := by
    unfold xComp iSeq
    rw [hf]
    simp only [L3.R.bind, wOf, wipeD]
    rw [comp_map (fun d => match d with | .int i => .str (num i) | _ => .str "-") rfl _ (by rw [List.length_map, nms_len]; show M.n ≤ 1000000; omega) fun d hd => ?_]
    · simp only [L3.R.bind, newL, Bool.false_eq_true, if_false]
      rw [List.map_map, List.map_map]
      congr 2
      refine List.map_congr_left fun o _ => ?_
      cases o <;> rfl
    · obtain ⟨o, ho, rfl⟩ := List.mem_map.mp hd
      refine ⟨_, rfl, ?_⟩
      have g : ∀ v : D, ((Γ.set i none).set i (some v))[i]? = some (some v) := fun v => by rw [List.getElem?_set_self (by rw [List.length_set]; exact hi)]
      cases o with
      | none => simp only [xIf, bOf, xBin, xVar, xC, oD, g, L3.R.bind, oIs, isN, Bool.false_eq_true, if_false, if_true]
      | some v =>
        obtain ⟨h0, h1⟩ := nms_lt ok hb _ ho v rfl
        simp only [xIf, bOf, xBin, xVar, xC, oD, g, L3.R.bind, oIs, isN, Bool.false_eq_true, if_false, xFn, aCons, aNil, str_ok h0 h1]
  simp only [xBM, xC, L3.R.bind, isTy, if_true, aCons, c, aNil]
  rw [if_pos (by decide)]
  exact join_ok (by decide) (fun y hy => by
    obtain ⟨o, ho, rfl⟩ := List.mem_map.mp hy
    cases o with
    | none => show ("-" : Str).length ≤ 13; decide
    | some v =>
      obtain ⟨h0, h1⟩ := nms_lt ok hb _ ho v rfl
      exact numI_len h0 h1) (by rw [List.length_map, nms_len]; omega)
theorem schedule_text_ok {sc : List Nat} (h : ∀ p ∈ sc, p < 1000000) (hl : sc.length ≤ 50000) : f_schedule_text K [.lst (sc.map nD)] s = .ok (.str (schT sc)) s := by
  refine fnB_rt ?_
  show b_schedule_text K [some (.lst (sc.map nD)), none] s = _
  have q0 : oEq true (.lst (sc.map nD)) (.lst []) s = .ok (.bl (!sc.isEmpty)) s := by
    rw [oEq_nil (ns := sc.map fun (p : Nat) => (p : Int)) (by rw [nD_map]; rfl)]
    cases sc <;> rfl
  unfold b_schedule_text schT
  cases sc with
  | nil =>
    have q0' : oEq true (.lst []) (.lst []) s = .ok (.bl false) s := q0
    simp [fnB, endR, liftE, L3.R.bind, sSeq, sAsg, sRet, sRetN, sNil, sIf, sSet, sDrop, sPar, sFldSet, sDPut, xBin, xVar, xC, xIf, xAnd, xOr, xNot, bNot, bAnd, bOr, bOf, xOf, xNeg, bYes, gTupD, gsCons, gSet, gsNil, gSubD, xTup, xLst, aCons, aNil, newT, newL, xFld, xCall, xMeth, xMake, xProp, noexc, xFn, xBM, xChain, oI, oIB, oLt, oLe, oGt, oGe, oSub, LIM, q0']
  | cons a r =>
    rw [if_neg (by simp)]
    have c : xComp false [1] (iSeq (xVar 0)) (gSet 1) bYes (xFn oStrC (aCons (xVar 1) aNil)) [some (.lst ((a :: r).map nD)), none] s = .ok (.lst (((a :: r).map fun p : Nat => num p).map .str)) s := by
      unfold xComp iSeq
      simp only [xVar, List.getElem?_cons_zero, L3.R.bind, wOf, wipeD]
      rw [comp_map (fun d => match d with | .int i => .str (num i) | _ => .non) rfl _ (by rw [List.length_map]; show (a :: r).length ≤ 1000000; omega) fun d hd => ?_]
      · simp only [L3.R.bind, newL, Bool.false_eq_true, if_false]
        rw [List.map_map, List.map_map]
        rfl
      · obtain ⟨p, hp, rfl⟩ := List.mem_map.mp hd
        have := h p hp
        refine ⟨_, rfl, ?_⟩
        show xFn oStrC (aCons (xVar 1) aNil) [some (.lst ((a :: r).map nD)), some (.int p)] s = _
        simp only [xFn, aCons, aNil, xVar, List.getElem?_cons_succ, List.getElem?_cons_zero, L3.R.bind]
        rw [str_ok (by omega) (by omega)]
        rfl
    have j := join_ok (a := ",") (s := s) (ys := (a :: r).map fun p : Nat => num p) (by decide) (fun y hy => by
      obtain ⟨p, hp, rfl⟩ := List.mem_map.mp hy
      have := h p hp
      exact numI_len (by omega) (by omega)) (by rw [List.length_map]; exact hl)
    have q1 : oEq true (.lst ((a :: r).map nD)) (.lst []) s = .ok (.bl true) s := q0
    generalize (a :: r).map nD = z at c q1 ⊢
    simp only [sRet, xIf, bOf, xBin, xVar, List.getElem?_cons_zero, L3.R.bind, xLst, aNil, newL, List.length_nil, Nat.zero_le, if_true, Bool.false_eq_true, if_false, q1, xBM, xC, isTy, aCons, c]
    rw [if_pos (by decide), j]
    rfl
theorem can_lt {n : Nat} : ∀ {sc : List Nat} {M : Mc}, M.can sc → M.n = n → ∀ p ∈ sc, p < n
  | [], _, _, _, p, h => by cases h
  | q :: r, M, hc, hn, p, h => by
    rcases List.mem_cons.mp h with e | h
    · rw [e, ← hn]; exact hc.1
    · exact can_lt hc.2.2 (by rw [adv_n]; exact hn) p h
theorem show_run_ok {n : Nat} {sc : List Nat} (w : WF s) (h1 : 1 ≤ n) (h2 : n ≤ 40) (can : (Mc.init n).can sc) (hl : sc.length ≤ 50000) :
    ∃ s', f_show_run K [.int n, .lst (sc.map nD)] s = .ok (.str (runT n sc)) s' ∧ Fr [] s s' ∧ WF s' := by
  obtain ⟨s', m, L, e1, _, f, w', _⟩ := machine_after_ok (K := K) (n := n) (d := .lst (sc.map nD)) (sc := sc) w (by show n ≤ 1000000; omega) rfl can (by show sc.length < 1000000; omega)
  refine ⟨s', ?_, f, w'⟩
  have e0 := need_count_ok (K := K) (c := n) (s := s) (by omega) (by omega)
  have e2 := schedule_text_ok (K := K) (s := s') (sc := sc) (fun p hp => by have := can_lt can rfl p hp; show p < 1000000; have : (Mc.init n).n = n := rfl; omega) hl
  have e3 := str_ok (i := n) (s := s') (by omega) (by omega)
  have nl : (num n).length ≤ 13 := numI_len (by omega) (by omega)
  have sl : (schT sc).length ≤ 800000 := by
    unfold schT
    split
    · show ("-" : Str).length ≤ 800000; decide
    · rw [TL.join_eq]
      refine Nat.le_trans (StrLaws.join_length_le _ _) ?_
      have := sum_len (ys := sc.map fun p : Nat => num p) (k := 13) (fun y hy => by
        obtain ⟨p, hp, rfl⟩ := List.mem_map.mp hy
        have := can_lt can rfl p hp
        have : (Mc.init n).n = n := rfl
        exact numI_len (by omega) (by omega))
      rw [List.length_map] at this ⊢
      rw [show ("," : Str).length = 1 from by decide]
      omega
  have a1 : oAdd false (.str (num n)) (.str " ") s' = .ok (.str (num n ++ " ")) s' := by
    unfold oAdd
    dsimp only
    rw [if_pos (by rw [show (" " : Str).length = 1 from by decide]; show _ ≤ 1000000; omega)]
  have a2 : oAdd false (.str (num n ++ " ")) (.str (schT sc)) s' = .ok (.str (num n ++ " " ++ schT sc)) s' := by
    unfold oAdd
    dsimp only
    rw [if_pos (by rw [Str.length_append, show (" " : Str).length = 1 from by decide]; show _ ≤ 1000000; omega)]
  refine fnB_rt ?_
  show b_show_run K [some (.int n), some (.lst (sc.map nD))] s = _
  unfold b_show_run runT
  rw [seq_ok (Γ' := [some (.int n), some (.lst (sc.map nD))]) (s' := s) (by simp [fnB, endR, liftE, L3.R.bind, sSeq, sAsg, sRet, sRetN, sNil, sIf, sSet, sDrop, sPar, sFldSet, sDPut, xBin, xVar, xC, xIf, xAnd, xOr, xNot, bNot, bAnd, bOr, bOf, xOf, xNeg, bYes, gTupD, gsCons, gSet, gsNil, gSubD, xTup, xLst, aCons, aNil, newT, newL, xFld, xCall, xMeth, xMake, xProp, noexc, xFn, xBM, xChain, oI, oIB, oLt, oLe, oGt, oGe, oSub, LIM, e0])]
  generalize sc.map nD = z at e1 e2 ⊢
  rw [seq_ok (Γ' := [some (.int n), some (.lst z)]) (s' := s') (by simp [fnB, endR, liftE, L3.R.bind, sSeq, sAsg, sRet, sRetN, sNil, sIf, sSet, sDrop, sPar, sFldSet, sDPut, xBin, xVar, xC, xIf, xAnd, xOr, xNot, bNot, bAnd, bOr, bOf, xOf, xNeg, bYes, gTupD, gsCons, gSet, gsNil, gSubD, xTup, xLst, aCons, aNil, newT, newL, xFld, xCall, xMeth, xMake, xProp, noexc, xFn, xBM, xChain, oI, oIB, oLt, oLe, oGt, oGe, oSub, LIM, e1])]
  simp [fnB, endR, liftE, L3.R.bind, sSeq, sAsg, sRet, sRetN, sNil, sIf, sSet, sDrop, sPar, sFldSet, sDPut, xBin, xVar, xC, xIf, xAnd, xOr, xNot, bNot, bAnd, bOr, bOf, xOf, xNeg, bYes, gTupD, gsCons, gSet, gsNil, gSubD, xTup, xLst, aCons, aNil, newT, newL, xFld, xCall, xMeth, xMake, xProp, noexc, xFn, xBM, xChain, oI, oIB, oLt, oLe, oGt, oGe, oSub, LIM, e3, a1, e2, a2]
end
end L3

set_option Elab.async false
set_option linter.all false
set_option maxRecDepth 100000
set_option maxHeartbeats 1000000
set_option exponentiation.threshold 600
namespace L3
open PySem PySem.Spec PyProof.Rows L2

/-! ### a desk -/
def dfs (r : Nat) : List (Str × D) := [("run_held", .ref r)]
theorem dfs_r (r : Nat) : (dfs r).lookup ("run_held" : Str) = some (D.ref r) := rfl
/-- what a desk says of a step -/
def tS : Option (Str × Int) → Str
  | none => "-"
  | some (w, i) => w ++ " " ++ num i
section
variable {K : PySem.W.Frag} {s : S} {d r : Nat} {R : Rn} {L : RL}
theorem exec_word {z w : Str} {v : D} (hc : f_command_in K [.str z] s = .ok (.tup [.str w, v]) s) :
    sAsg (xCall 1 (f_command_in K) (aCons (xVar 1) aNil)) (gTupD 2 (gsCons (gSet 2) (gsCons (gSet 3) gsNil))) [some (.ref d), some (.str z), none, none] s = .ok (.nx [some (.ref d), some (.str z), some (.str w), some v]) s := by
  simp [fnB, endR, liftE, L3.R.bind, sSeq, sAsg, sRet, sRetN, sNil, sIf, sSet, sDrop, sPar, sFldSet, sDPut, xBin, xVar, xC, xIf, xAnd, xOr, xNot, bNot, bAnd, bOr, bOf, xOf, xNeg, bYes, gTupD, gsCons, gSet, gsNil, gSubD, xTup, xLst, aCons, aNil, newT, newL, xFld, xCall, xMeth, xMake, xProp, noexc, xFn, xBM, xChain, oI, oIB, oLt, oLe, oGt, oGe, oSub, LIM, hc]
theorem exec_noname {z w : Str} {v : D} (hs : PyData.strOk w = true) (hw : w ≠ "possible" ∧ w ≠ "stuck" ∧ w ≠ "least" ∧ w ≠ "plan") :
    sIf (bOf (xInC false ["possible", "stuck", "least", "plan"] (xVar 2))) sBad sNil [some (.ref d), some (.str z), some (.str w), some v] s = .ok (.nx [some (.ref d), some (.str z), some (.str w), some v]) s := by
  simp [fnB, endR, liftE, L3.R.bind, sSeq, sAsg, sRet, sRetN, sNil, sIf, sSet, sDrop, sPar, sFldSet, sDPut, xBin, xVar, xC, xIf, xAnd, xOr, xNot, bNot, bAnd, bOr, bOf, xOf, xNeg, bYes, gTupD, gsCons, gSet, gsNil, gSubD, xTup, xLst, aCons, aNil, newT, newL, xFld, xCall, xMeth, xMake, xProp, noexc, xFn, xBM, xChain, oI, oIB, oLt, oLe, oGt, oGe, oSub, LIM, xInC, hs, hw]
theorem oIs_ref {n : Nat} : oIs false (.ref n) .non s = .ok (.bl false) s := rfl
/-- an alone word: reported's answer -/
theorem exec_alone {w : Str} {a : D} {s' : S} (hw : w = "undo" ∨ w = "names" ∨ w = "places" ∨ w = "text") (hd : s.get d = some (.ins (He.ga K "Desk") (dfs r))) (hr : f_Desk_reported K [.ref d, .str w] s = .ok a s') : f_Desk_execute K [.ref d, .str w] s = .ok a s' := by
  have fl : 32 ∉ tlS w ∧ dig w = false ∧ w.length ≤ 10 ∧ PyData.strOk w = true ∧ (w ≠ "possible" ∧ w ≠ "stuck" ∧ w ≠ "least" ∧ w ≠ "plan") ∧ w ≠ "run" := by
    rcases hw with rfl | rfl | rfl | rfl <;> decide +kernel
  have hc := cmd_alone (K := K) (s := s) hw fl.1 fl.2.1 fl.2.2.1 fl.2.2.2.1
  have i0 := isIns_at hd
  refine fnB_rt ?_
  show b_Desk_execute K [some (.ref d), some (.str w), none, none] s = _
  unfold b_Desk_execute
  rw [seq_ok (exec_word hc), seq_ok (exec_noname fl.2.2.2.1 fl.2.2.2.2.1)]
  rw [seq_ok (Γ' := [some (.ref d), some (.str w), some (.str w), some .non]) (s' := s) (by simp [fnB, endR, liftE, L3.R.bind, sSeq, sAsg, sRet, sRetN, sNil, sIf, sSet, sDrop, sPar, sFldSet, sDPut, xBin, xVar, xC, xIf, xAnd, xOr, xNot, bNot, bAnd, bOr, bOf, xOf, xNeg, bYes, gTupD, gsCons, gSet, gsNil, gSubD, xTup, xLst, aCons, aNil, newT, newL, xFld, xCall, xMeth, xMake, xProp, noexc, xFn, xBM, xChain, oI, oIB, oLt, oLe, oGt, oGe, oSub, LIM, oEq_str, fl.2.2.2.2.2])]
  rw [seq_ok (Γ' := [some (.ref d), some (.str w), some (.str w), some .non]) (s' := s) (by simp [fnB, endR, liftE, L3.R.bind, sSeq, sAsg, sRet, sRetN, sNil, sIf, sSet, sDrop, sPar, sFldSet, sDPut, xBin, xVar, xC, xIf, xAnd, xOr, xNot, bNot, bAnd, bOr, bOf, xOf, xNeg, bYes, gTupD, gsCons, gSet, gsNil, gSubD, xTup, xLst, aCons, aNil, newT, newL, xFld, xCall, xMeth, xMake, xProp, noexc, xFn, xBM, xChain, oI, oIB, oLt, oLe, oGt, oGe, oSub, LIM, i0, dfs_r, oIs_ref])]
  have ml : (dfs r).lookup ("reported" : Str) = none := rfl
  simp only [sRet, xIf, bOf, xInC, xVar, List.getElem?_cons_zero, List.getElem?_cons_succ, L3.R.bind, fl.2.2.2.1, if_true, Bool.false_eq_true, if_false]
  have hin : ([("undo" : Str), "names", "places", "text"]).contains w = true := by rcases hw with rfl | rfl | rfl | rfl <;> decide +kernel
  rw [hin]
  simp only [if_true, xMeth, xVar, List.getElem?_cons_zero, List.getElem?_cons_succ, L3.R.bind, i0, ml, Option.isNone_none, aCons, aNil, List.length_cons, List.length_nil, hr, liftE]
/-- step, finish: moved's answer -/
theorem exec_moved {w z : Str} {p : Nat} {a : D} {s' : S} (hw : w = "step" ∨ w = "finish") (hp : p < 10 ^ 9) (hz : z = w ++ " " ++ num p) (hd : s.get d = some (.ins (He.ga K "Desk") (dfs r))) (hr : f_Desk_moved K [.ref d, .str w, .int p] s = .ok a s') : f_Desk_execute K [.ref d, .str z] s = .ok a s' := by
  have fl : 32 ∉ tlS w ∧ w.length ≤ 10 ∧ PyData.strOk w = true ∧ (w ≠ "possible" ∧ w ≠ "stuck" ∧ w ≠ "least" ∧ w ≠ "plan") ∧ w ≠ "run" := by
    rcases hw with rfl | rfl <;> decide +kernel
  have hc := cmd_num (K := K) (s := s) (w := w) (.inr hw) fl.1 fl.2.1 fl.2.2.1 hp hz
  have i0 := isIns_at hd
  refine fnB_rt ?_
  show b_Desk_execute K [some (.ref d), some (.str z), none, none] s = _
  unfold b_Desk_execute
  rw [seq_ok (exec_word hc), seq_ok (exec_noname fl.2.2.1 fl.2.2.2.1)]
  rw [seq_ok (Γ' := [some (.ref d), some (.str z), some (.str w), some (.int p)]) (s' := s) (by simp [fnB, endR, liftE, L3.R.bind, sSeq, sAsg, sRet, sRetN, sNil, sIf, sSet, sDrop, sPar, sFldSet, sDPut, xBin, xVar, xC, xIf, xAnd, xOr, xNot, bNot, bAnd, bOr, bOf, xOf, xNeg, bYes, gTupD, gsCons, gSet, gsNil, gSubD, xTup, xLst, aCons, aNil, newT, newL, xFld, xCall, xMeth, xMake, xProp, noexc, xFn, xBM, xChain, oI, oIB, oLt, oLe, oGt, oGe, oSub, LIM, oEq_str, fl.2.2.2.2])]
  rw [seq_ok (Γ' := [some (.ref d), some (.str z), some (.str w), some (.int p)]) (s' := s) (by simp [fnB, endR, liftE, L3.R.bind, sSeq, sAsg, sRet, sRetN, sNil, sIf, sSet, sDrop, sPar, sFldSet, sDPut, xBin, xVar, xC, xIf, xAnd, xOr, xNot, bNot, bAnd, bOr, bOf, xOf, xNeg, bYes, gTupD, gsCons, gSet, gsNil, gSubD, xTup, xLst, aCons, aNil, newT, newL, xFld, xCall, xMeth, xMake, xProp, noexc, xFn, xBM, xChain, oI, oIB, oLt, oLe, oGt, oGe, oSub, LIM, i0, dfs_r, oIs_ref])]
  have ml : (dfs r).lookup ("moved" : Str) = none := rfl
  simp only [sRet, xIf, bOf, xInC, xVar, List.getElem?_cons_zero, List.getElem?_cons_succ, L3.R.bind, fl.2.2.1, if_true, Bool.false_eq_true, if_false]
  have hin : ([("undo" : Str), "names", "places", "text"]).contains w = false := by rcases hw with rfl | rfl <;> decide +kernel
  rw [hin]
  simp only [Bool.false_eq_true, if_false, if_true, xMeth, xVar, List.getElem?_cons_zero, List.getElem?_cons_succ, L3.R.bind, i0, ml, Option.isNone_none, aCons, aNil, List.length_cons, List.length_nil, hr, liftE]
/-- run c -/
theorem exec_run {z : Str} {c : Nat} {x : D} (w : WF s) (h1 : 1 ≤ c) (h2 : c ≤ 40) (hz : z = "run" ++ " " ++ num c) (hd : s.get d = some (.ins (He.ga K "Desk") [("run_held", x)])) :
    ∃ s' r L, f_Desk_execute K [.ref d, .str z] s = .ok (.str "ok") s' ∧ s'.get d = some (.ins (He.ga K "Desk") (dfs r)) ∧ RAt K s' r ⟨c, [], []⟩ L ∧ Fr [d] s s' ∧ WF s' ∧ ∀ k ∈ L.ids r, s.nx ≤ k := by
  have hc := cmd_num (K := K) (s := s) (w := "run") (p := c) (.inl rfl) (by decide +kernel) (by decide) (by decide +kernel) (by omega) hz
  have hdl : d < s.nx := w _ _ hd
  have w0 := wf_new w (.ins (He.ga K "Run") [])
  obtain ⟨s1, L, e1, h1', f1, w1, k1⟩ := rinit_ok (K := K) (r := s.nx) (c := c) w0 (by rw [get_new, if_pos rfl]) h1 h2
  have f01 : Fr [] s s1 := fr_new.trans f1 fun k hk hlt => by simp at hk; omega
  have new1 : ∀ k ∈ L.ids s.nx, s.nx ≤ k := fun k hk => by
    rcases k1 k hk with e | e
    · omega
    · rw [nx_new] at e; omega
  have g1 : s1.get d = some (.ins (He.ga K "Desk") [("run_held", x)]) := f01.keep w hd (by simp)
  refine ⟨s1.put d (.ins (He.ga K "Desk") (dfs s.nx)), s.nx, L, ?_, get_put_same g1, h1'.keep fun k hk => get_put_ne (by have := new1 k hk; omega), (f01.sub (by simp)).tr (fr_put (by simp)), wf_put w1 _ _, new1⟩
  refine fnB_rt ?_
  show b_Desk_execute K [some (.ref d), some (.str z), none, none] s = _
  unfold b_Desk_execute
  rw [seq_ok (exec_word hc), seq_ok (exec_noname (by decide +kernel) (by decide +kernel))]
  refine seq_rt ?_
  have v1 : sFldSet (He.ga K "Desk") "run_held" (xVar 0) (xMake (He.ga K "Run") 2 (f_Run___init__ K) (aCons (xVar 3) aNil)) [some (.ref d), some (.str z), some (.str "run"), some (.int c)] s = .ok (.nx [some (.ref d), some (.str z), some (.str "run"), some (.int c)]) (s1.put d (.ins (He.ga K "Desk") (dfs s.nx))) := by
    refine fldset_ok (d := .ref s.nx) (s1 := s1) (s2 := s1) ?_ rfl g1 (by show 1 < 1000; decide)
    simp [fnB, endR, liftE, L3.R.bind, sSeq, sAsg, sRet, sRetN, sNil, sIf, sSet, sDrop, sPar, sFldSet, sDPut, xBin, xVar, xC, xIf, xAnd, xOr, xNot, bNot, bAnd, bOr, bOf, xOf, xNeg, bYes, gTupD, gsCons, gSet, gsNil, gSubD, xTup, xLst, aCons, aNil, newT, newL, xFld, xCall, xMeth, xMake, xProp, noexc, xFn, xBM, xChain, oI, oIB, oLt, oLe, oGt, oGe, oSub, LIM, e1]
  simp only [sIf, bOf, xBin, xVar, xC, List.getElem?_cons_zero, List.getElem?_cons_succ, L3.R.bind, oEq_str, decide_true, Bool.false_eq_true, if_false, liftE, if_true]
  rw [seq_ok v1]
  rfl
/-! reported -/
theorem rep_pre {w : Str} (hd : s.get d = some (.ins (He.ga K "Desk") (dfs r))) : sSet 2 (xFld (He.ga K "Desk") "run_held" (xVar 0)) [some (.ref d), some (.str w), none, none, none] s = .ok (.nx [some (.ref d), some (.str w), some (.ref r), none, none]) s := by
  have i0 := isIns_at hd
  simp [fnB, endR, liftE, L3.R.bind, sSeq, sAsg, sRet, sRetN, sNil, sIf, sSet, sDrop, sPar, sFldSet, sDPut, xBin, xVar, xC, xIf, xAnd, xOr, xNot, bNot, bAnd, bOr, bOf, xOf, xNeg, bYes, gTupD, gsCons, gSet, gsNil, gSubD, xTup, xLst, aCons, aNil, newT, newL, xFld, xCall, xMeth, xMake, xProp, noexc, xFn, xBM, xChain, oI, oIB, oLt, oLe, oGt, oGe, oSub, LIM, i0, dfs_r]
theorem exec_undo {k : Nat} {pa : List Nat} (hd : s.get d = some (.ins (He.ga K "Desk") (dfs r))) (h : RAt K s r R L) (w : WF s) (hpa : R.pa = pa ++ [k]) (hn : R.n ≤ 40) (hl : R.sc.length ≤ 50000) :
    ∃ s' L', f_Desk_execute K [.ref d, .str "undo"] s = .ok (.str "ok") s' ∧ RAt K s' r { R with sc := R.sc.take k, pa := pa } L' ∧ Fr (L.ids r) s s' ∧ WF s' ∧ ∀ j ∈ L'.ids r, j ∈ L.ids r ∨ s.nx ≤ j := by
  obtain ⟨s', L', e, h', f, w', n'⟩ := undo_ok h w hpa (by show R.n ≤ 1000000; omega) (by show R.sc.length < 1000000; omega)
  refine ⟨s', L', exec_alone (.inl rfl) hd ?_, h', f, w', n'⟩
  have i0 := isIns_at h.gi
  have ml : (rfs L).lookup ("undo" : Str) = none := rfl
  refine fnB_rt ?_
  show b_Desk_reported K [some (.ref d), some (.str "undo"), none, none, none] s = _
  unfold b_Desk_reported
  rw [seq_ok (rep_pre hd)]
  simp [sMatch, mCase, pStr, setAll, fnB, endR, liftE, L3.R.bind, sSeq, sAsg, sRet, sRetN, sNil, sIf, sSet, sDrop, sPar, sFldSet, sDPut, xBin, xVar, xC, xIf, xAnd, xOr, xNot, bNot, bAnd, bOr, bOf, xOf, xNeg, bYes, gTupD, gsCons, gSet, gsNil, gSubD, xTup, xLst, aCons, aNil, newT, newL, xFld, xCall, xMeth, xMake, xProp, noexc, xFn, xBM, xChain, oI, oIB, oLt, oLe, oGt, oGe, oSub, LIM, i0, ml, e]
theorem prop_names (h : RAt K s r R L) (hn : R.n ≤ 40) (hl : R.sc.length ≤ 50000) {Γ : Sl} {i : Nat} (hΓ : Γ[i]? = some (some (.ref r))) : xProp (He.ga K "Run") (f_Run_names_now K) (xVar i) Γ s = .ok (.lst (R.m.nms.map oD)) s := by
  have e := names_now_ok h (by show R.sc.length < 1000000; omega) (by show R.n ≤ 1000000; omega)
  have i0 := isIns_at h.gi
  simp only [xProp, xVar, hΓ, L3.R.bind, i0, e, noexc]
theorem prop_places (h : RAt K s r R L) (hn : R.n ≤ 40) (hl : R.sc.length ≤ 50000) {Γ : Sl} {i : Nat} (hΓ : Γ[i]? = some (some (.ref r))) : xProp (He.ga K "Run") (f_Run_places_now K) (xVar i) Γ s = .ok (.lst (R.m.pls.map cD)) s := by
  have e := places_now_ok h (by show R.sc.length < 1000000; omega) (by show R.n ≤ 1000000; omega)
  have i0 := isIns_at h.gi
  simp only [xProp, xVar, hΓ, L3.R.bind, i0, e, noexc]
theorem prop_count (h : RAt K s r R L) {Γ : Sl} {i : Nat} (hΓ : Γ[i]? = some (some (.ref r))) : xProp (He.ga K "Run") (f_Run_process_count K) (xVar i) Γ s = .ok (.int R.n) s := by
  have e := count_ok h
  have i0 := isIns_at h.gi
  simp only [xProp, xVar, hΓ, L3.R.bind, i0, e, noexc]
theorem prop_steps (h : RAt K s r R L) {Γ : Sl} {i : Nat} (hΓ : Γ[i]? = some (some (.ref r))) : xProp (He.ga K "Run") (f_Run_steps_done K) (xVar i) Γ s = .ok (.lst (R.sc.map nD)) s := by
  have e := steps_ok h
  have i0 := isIns_at h.gi
  simp only [xProp, xVar, hΓ, L3.R.bind, i0, e, noexc]
theorem exec_names (hd : s.get d = some (.ins (He.ga K "Desk") (dfs r))) (h : RAt K s r R L) (hn : R.n ≤ 40) (hl : R.sc.length ≤ 50000) : f_Desk_execute K [.ref d, .str "names"] s = .ok (.str (nmsT R.m)) s := by
  refine exec_alone (.inr (.inl rfl)) hd ?_
  refine fnB_rt ?_
  show b_Desk_reported K [some (.ref d), some (.str "names"), none, none, none] s = _
  unfold b_Desk_reported
  rw [seq_ok (rep_pre hd)]
  have j := join_names (s := s) (M := R.m) (b := R.sc.length) (i := 3) (Γ := [some (.ref d), some (.str "names"), some (.ref r), none, none]) (f := xProp (He.ga K "Run") (f_Run_names_now K) (xVar 2)) h.ok (by omega) (by rw [Rn.mn]; exact hn) (prop_names h hn hl rfl) (by show 3 < 5; decide)
  have n1 : ¬ (("names" : Str) = "undo") := by decide
  simp only [sMatch, mCase, pStr, setAll, bYes, liftE, xVar, List.getElem?_cons_zero, List.getElem?_cons_succ, L3.R.bind, n1, if_true, if_false]
  simp only [sRet, j, liftE]
theorem exec_places (hd : s.get d = some (.ins (He.ga K "Desk") (dfs r))) (h : RAt K s r R L) (hn : R.n ≤ 40) (hl : R.sc.length ≤ 50000) : f_Desk_execute K [.ref d, .str "places"] s = .ok (.str (plsT R.m)) s := by
  refine exec_alone (.inr (.inr (.inl rfl))) hd ?_
  refine fnB_rt ?_
  show b_Desk_reported K [some (.ref d), some (.str "places"), none, none, none] s = _
  unfold b_Desk_reported
  rw [seq_ok (rep_pre hd)]
  have n1 : ¬ (("places" : Str) = "undo") := by decide
  have n2 : ¬ (("places" : Str) = "names") := by decide
  simp only [sMatch, mCase, pStr, setAll, bYes, liftE, xVar, List.getElem?_cons_zero, List.getElem?_cons_succ, L3.R.bind, n1, n2, if_true, if_false]
  have hpn : R.m.n ≤ 40 := by rw [Rn.mn]; exact hn
  have c : xComp false [3, 4] (iSeq (xProp (He.ga K "Run") (f_Run_places_now K) (xVar 2))) (gTupD 2 (gsCons (gSet 3) (gsCons (gSet 4) gsNil))) bYes (xFn oStrC (aCons (xVar 3) aNil)) [some (.ref d), some (.str "places"), some (.ref r), none, none] s = .ok (.lst ((R.m.pls.map fun c => num c.1).map .str)) s := by
    unfold xComp iSeq
    rw [prop_places h hn hl rfl]
    simp only [L3.R.bind, wOf, wipeD]
    rw [comp_map (fun d => match d with | .tup (.int i :: _) => .str (num i) | _ => .non) rfl _ (by rw [List.length_map, pls_len]; show R.m.n ≤ 1000000; omega) fun d hd => ?_]
    · simp only [L3.R.bind, newL, Bool.false_eq_true, if_false]
      rw [List.map_map, List.map_map]
      rfl
    · obtain ⟨c, hc, rfl⟩ := List.mem_map.mp hd
      obtain ⟨h0, h1⟩ := pls_lt h.ok (by omega) c hc
      refine ⟨_, rfl, ?_⟩
      show xFn oStrC (aCons (xVar 3) aNil) [some (.ref _), some (.str "places"), some (.ref r), some (.int c.1), some (.int c.2)] s = _
      simp only [xFn, aCons, aNil, xVar, List.getElem?_cons_succ, List.getElem?_cons_zero, L3.R.bind, str_ok h0 h1]
      rfl
  have j := join_ok (a := " ") (s := s) (ys := R.m.pls.map fun c => num c.1) (by decide) (fun y hy => by
    obtain ⟨c, hc, rfl⟩ := List.mem_map.mp hy
    obtain ⟨h0, h1⟩ := pls_lt h.ok (by omega) c hc
    exact numI_len h0 h1) (by rw [List.length_map, pls_len]; omega)
  simp only [sRet, xBM, xC, L3.R.bind, isTy, aCons, c, aNil, liftE]
  rw [if_pos (by decide), j]
  rfl
theorem exec_text (hd : s.get d = some (.ins (He.ga K "Desk") (dfs r))) (h : RAt K s r R L) (w : WF s) (h1 : 1 ≤ R.n) (hn : R.n ≤ 40) (hl : R.sc.length ≤ 50000) :
    ∃ s', f_Desk_execute K [.ref d, .str "text"] s = .ok (.str (runT R.n R.sc)) s' ∧ Fr [] s s' ∧ WF s' := by
  obtain ⟨s', e, f, w'⟩ := show_run_ok (K := K) w h1 hn h.can hl
  refine ⟨s', exec_alone (.inr (.inr (.inr rfl))) hd ?_, f, w'⟩
  refine fnB_rt ?_
  show b_Desk_reported K [some (.ref d), some (.str "text"), none, none, none] s = _
  unfold b_Desk_reported
  rw [seq_ok (rep_pre hd)]
  have n1 : ¬ (("text" : Str) = "undo") := by decide
  have n2 : ¬ (("text" : Str) = "names") := by decide
  have n3 : ¬ (("text" : Str) = "places") := by decide
  have p1 := prop_count h (Γ := [some (.ref d), some (.str "text"), some (.ref r), none, none]) (i := 2) rfl
  have p2 := prop_steps h (Γ := [some (.ref d), some (.str "text"), some (.ref r), none, none]) (i := 2) rfl
  simp only [sMatch, mCase, pStr, pAny, setAll, bYes, liftE, xVar, List.getElem?_cons_zero, List.getElem?_cons_succ, L3.R.bind, n1, n2, n3, if_true, if_false]
  have c : xCall 2 (f_show_run K) (aCons (xProp (He.ga K "Run") (f_Run_process_count K) (xVar 2)) (aCons (xProp (He.ga K "Run") (f_Run_steps_done K) (xVar 2)) aNil)) [some (.ref d), some (.str "text"), some (.ref r), none, none] s = .ok (.str (runT R.n R.sc)) s' := by
    generalize R.sc.map nD = z at e p2
    simp only [xCall, aCons, p1, p2, aNil, L3.R.bind, List.length_cons, List.length_nil, if_true, e]
  simp only [sRet, c, liftE]
/-! moved -/
theorem told_S {t : Option (Str × Int)} (h : ∀ w i, t = some (w, i) → 0 ≤ i ∧ i < 10 ^ 13 ∧ w.length ≤ 10) {Γ : Sl} {i : Nat} (hΓ : Γ[i]? = some (some (tD t))) :
    xIf (bOf (xBin (oIs false) (xVar i) (xC .non))) (xC (.str "-")) (xBin (oAdd false) (xBin (oAdd false) (xBin oIx (xVar i) (xC (.int 0))) (xC (.str " "))) (xFn oStrC (aCons (xBin oIx (xVar i) (xC (.int 1))) aNil))) Γ s = .ok (.str (tS t)) s := by
  cases t with
  | none => simp only [tD] at hΓ; simp only [xIf, bOf, xBin, xVar, xC, hΓ, L3.R.bind, oIs, isN, Bool.false_eq_true, if_false, if_true, tS]
  | some t =>
    obtain ⟨w, j⟩ := t
    obtain ⟨h0, h1, h2⟩ := h w j rfl
    simp only [tD] at hΓ
    have x0 : oIx (.tup [.str w, .int j]) (.int 0) s = .ok (.str w) s := rfl
    have x1 : oIx (.tup [.str w, .int j]) (.int 1) s = .ok (.int j) s := rfl
    have a1 : oAdd false (.str w) (.str " ") s = .ok (.str (w ++ " ")) s := by
      unfold oAdd
      dsimp only
      rw [if_pos (by rw [show (" " : Str).length = 1 from by decide]; show _ ≤ 1000000; omega)]
    have nl := numI_len h0 h1
    have a2 : oAdd false (.str (w ++ " ")) (.str (num j)) s = .ok (.str (w ++ " " ++ num j)) s := by
      unfold oAdd
      dsimp only
      rw [if_pos (by rw [Str.length_append, show (" " : Str).length = 1 from by decide]; show _ ≤ 1000000; omega)]
    simp only [xIf, bOf, xBin, xVar, xC, hΓ, L3.R.bind, oIs, isN, Bool.false_eq_true, if_false, x0, a1, xFn, aCons, aNil, x1, str_ok h0 h1, a2, tS]
theorem told_lt {M : Mc} {b p : Nat} (ok : M.Ok b) (hb : b + 1 ≤ 1000000) (hp : p < M.n) : ∀ w i, M.toldOf p = some (w, i) → 0 ≤ i ∧ i < 10 ^ 13 ∧ w.length ≤ 10 := by
  intro w i e
  have ok1 := adv_Ok ok hp
  have := nm_get (p := p) ok1 hb
  unfold Mc.toldOf at e
  split at e
  · cases e
  · cases e; exact ⟨this.1, this.2, by decide⟩
  · cases e; exact ⟨this.1, this.2, by decide⟩
  · cases e; exact ⟨this.1, this.2, by decide⟩
theorem exec_step {z : Str} {p : Nat} (hd : s.get d = some (.ins (He.ga K "Desk") (dfs r))) (h : RAt K s r R L) (w : WF s) (hz : z = "step" ++ " " ++ num p) (hn : R.n ≤ 40) (hp : p < R.n) (ht : R.m.st[p]? = some false) (hl : R.sc.length ≤ 50000) (hl2 : R.pa.length ≤ 50000) :
    ∃ s', f_Desk_execute K [.ref d, .str z] s = .ok (.str (tS (R.m.toldOf p))) s' ∧ RAt K s' r { R with sc := R.sc ++ [p], pa := R.pa ++ [R.sc.length] } L ∧ Fr (L.ids r) s s' ∧ WF s' := by
  obtain ⟨s', e, h', f, w'⟩ := step_ok h w hp ht (by show R.sc.length + 2 < 1000000; omega) (by show R.pa.length < 1000000; omega)
  refine ⟨s', exec_moved (.inl rfl) (by omega) hz hd ?_, h', f, w'⟩
  have i0 := isIns_at hd
  have ir := isIns_at h.gi
  have ml : (rfs L).lookup ("step" : Str) = none := rfl
  refine fnB_rt ?_
  show b_Desk_moved K [some (.ref d), some (.str "step"), some (nD p), none] s = _
  unfold b_Desk_moved
  have n1 : ¬ (("step" : Str) = "finish") := by decide
  rw [seq_ok (Γ' := [some (.ref d), some (.str "step"), some (nD p), none]) (s' := s) (by simp [fnB, endR, liftE, L3.R.bind, sSeq, sAsg, sRet, sRetN, sNil, sIf, sSet, sDrop, sPar, sFldSet, sDPut, xBin, xVar, xC, xIf, xAnd, xOr, xNot, bNot, bAnd, bOr, bOf, xOf, xNeg, bYes, gTupD, gsCons, gSet, gsNil, gSubD, xTup, xLst, aCons, aNil, newT, newL, xFld, xCall, xMeth, xMake, xProp, noexc, xFn, xBM, xChain, oI, oIB, oLt, oLe, oGt, oGe, oSub, LIM, oEq_str, n1])]
  have e' : f_Run_step K [.ref r, nD p] s = .ok (tD (R.m.toldOf p)) s' := e
  rw [seq_ok (Γ' := [some (.ref d), some (.str "step"), some (nD p), some (tD (R.m.toldOf p))]) (s' := s') (by simp [fnB, endR, liftE, L3.R.bind, sSeq, sAsg, sRet, sRetN, sNil, sIf, sSet, sDrop, sPar, sFldSet, sDPut, xBin, xVar, xC, xIf, xAnd, xOr, xNot, bNot, bAnd, bOr, bOf, xOf, xNeg, bYes, gTupD, gsCons, gSet, gsNil, gSubD, xTup, xLst, aCons, aNil, newT, newL, xFld, xCall, xMeth, xMake, xProp, noexc, xFn, xBM, xChain, oI, oIB, oLt, oLe, oGt, oGe, oSub, LIM, i0, dfs_r, ir, ml, e'])]
  have t := told_S (s := s') (told_lt h.ok (by omega) (by rw [Rn.mn]; exact hp)) (Γ := [some (.ref d), some (.str "step"), some (nD p), some (tD (R.m.toldOf p))]) (i := 3) rfl
  simp only [sRet, t, liftE]
theorem exec_finish {z : Str} {p k : Nat} (hd : s.get d = some (.ins (He.ga K "Desk") (dfs r))) (h : RAt K s r R L) (w : WF s) (hz : z = "finish" ++ " " ++ num p) (hn : R.n ≤ 40) (hp : p < R.n) (ht : R.m.st[p]? = some false) (hf : Fin1 R.m p k) (hl : R.sc.length + k ≤ 50000) (hl2 : R.pa.length ≤ 50000) :
    ∃ s', f_Desk_execute K [.ref d, .str z] s = .ok (.str (num (nm ((R.m.after (List.replicate k p)).ce.getD p (0, 0))))) s' ∧ RAt K s' r { R with sc := R.sc ++ List.replicate k p, pa := R.pa ++ [R.sc.length] } L ∧ Fr (L.ids r) s s' ∧ WF s' := by
  obtain ⟨s', e, h', f, w'⟩ := finish_ok h w hp ht hf (by show R.sc.length + k + 1 < 1000000; omega) (by show R.pa.length < 1000000; omega)
  refine ⟨s', exec_moved (.inr rfl) (by omega) hz hd ?_, h', f, w'⟩
  have i0 := isIns_at hd
  have ir := isIns_at h.gi
  have ml : (rfs L).lookup ("finish" : Str) = none := rfl
  have ok2 := h'.ok
  rw [show ({ R with sc := R.sc ++ List.replicate k p, pa := R.pa ++ [R.sc.length] } : Rn).m = R.m.after (List.replicate k p) from m_app R _ _] at ok2
  have b := nm_get (p := p) ok2 (by simp; omega)
  have so := str_ok (s := s') b.1 b.2
  refine fnB_rt ?_
  show b_Desk_moved K [some (.ref d), some (.str "finish"), some (nD p), none] s = _
  unfold b_Desk_moved
  refine seq_rt ?_
  have e' : f_Run_finish K [.ref r, nD p] s = .ok (.int (nm ((R.m.after (List.replicate k p)).ce.getD p (0, 0)))) s' := e
  generalize nm ((R.m.after (List.replicate k p)).ce.getD p (0, 0)) = v at e' so ⊢
  simp [fnB, endR, liftE, L3.R.bind, sSeq, sAsg, sRet, sRetN, sNil, sIf, sSet, sDrop, sPar, sFldSet, sDPut, xBin, xVar, xC, xIf, xAnd, xOr, xNot, bNot, bAnd, bOr, bOf, xOf, xNeg, bYes, gTupD, gsCons, gSet, gsNil, gSubD, xTup, xLst, aCons, aNil, newT, newL, xFld, xCall, xMeth, xMake, xProp, noexc, xFn, xBM, xChain, oI, oIB, oLt, oLe, oGt, oGe, oSub, LIM, oEq_str, i0, dfs_r, ir, ml, e', so]
end
end L3

set_option Elab.async false
set_option linter.all false
set_option maxRecDepth 100000
set_option maxHeartbeats 1000000
set_option exponentiation.threshold 600
namespace L3
open PySem PySem.Spec PyProof.Rows L2

theorem bin_at {o : D → D → S → R D} {f g : XF} {Γ : Sl} {s : S} {x y z : D} (hf : f Γ s = .ok x s) (hg : g Γ s = .ok y s) (ho : o x y s = .ok z s) : xBin o f g Γ s = .ok z s := by
  unfold xBin
  rw [hf]
  simp only [L3.R.bind, hg, ho]
theorem oPow_int {i j : Int} {s : S} (h : gPow i j = true) : oPow (.int i) (.int j) s = .ok (.int (i ^ j.toNat)) s := if_pos h
theorem p44 (e : Nat) (c : Int) {s : S} {Γ : Sl} (he : e ≤ 64) : xBin (oAdd false) (xBin oPow (xC (.int 10)) (xC (.int e))) (xC (.int c)) Γ s = .ok (.int (10 ^ e + c)) s := by
  refine bin_at (bin_at rfl rfl (oPow_int ?_)) rfl oAdd_int
  show (decide ((0 : Int) ≤ (e : Int)) && decide ((e : Int) ≤ 64) && sm 10) = true
  rw [decide_eq_true (by omega), decide_eq_true (by omega)]
  decide
/-! ### drawing -/
structure UAt (s : S) (u : Nat) (a b c : Int) : Prop where
  g : s.get u = some (.lst [.int a, .int b, .int c])
  a0 : 0 ≤ a
  b0 : 0 ≤ b
  b1 : b < 2 ^ 150
  c0 : 0 ≤ c
theorem UAt.ix0 {s : S} {u : Nat} {a b c : Int} (h : UAt s u a b c) : oIx (.ref u) (.int 0) s = .ok (.int a) s := oIx_at (p := 0) h.g rfl
theorem UAt.ix1 {s : S} {u : Nat} {a b c : Int} (h : UAt s u a b c) : oIx (.ref u) (.int 1) s = .ok (.int b) s := oIx_at (p := 1) h.g rfl
theorem UAt.ix2 {s : S} {u : Nat} {a b c : Int} (h : UAt s u a b c) : oIx (.ref u) (.int 2) s = .ok (.int c) s := oIx_at (p := 2) h.g rfl
theorem UAt.put0 {s : S} {u : Nat} {a b c : Int} (h : UAt s u a b c) (v : Int) : lPut (.ref u) (.int 0) (.int v) s = .ok () (s.put u (.lst [.int v, .int b, .int c])) := lPut_at' (p := 0) h.g (by show 0 < 3; decide)
theorem UAt.put2 {s : S} {u : Nat} {a b c : Int} (h : UAt s u a b c) (v : Int) : lPut (.ref u) (.int 2) (.int v) s = .ok () (s.put u (.lst [.int a, .int b, .int v])) := lPut_at' (p := 2) h.g (by show 2 < 3; decide)
theorem asg_sub {fo fi fv : XF} {Γ : Sl} {s s1 : S} {v x i : D} (hv : fv Γ s = .ok v s) (ho : fo Γ s = .ok x s) (hi : fi Γ s = .ok i s) (hp : lPut x i v s = .ok () s1) : sAsg fv (gSubD fo fi) Γ s = .ok (.nx Γ) s1 := by
  unfold sAsg
  rw [hv]
  simp only [liftE, gSubD, ho, hi, L3.R.bind, hp]
theorem set_at {i : Nat} {f : XF} {Γ : Sl} {s s1 : S} {d : D} (h : f Γ s = .ok d s1) : sSet i f Γ s = .ok (.nx (Γ.set i (some d))) s1 := by
  unfold sSet
  rw [h]; rfl
theorem ret_at {f : XF} {Γ : Sl} {s s1 : S} {d : D} (h : f Γ s = .ok d s1) : sRet f Γ s = .ok (.rt d) s1 := by
  unfold sRet
  rw [h]; rfl
theorem if_t {t : XB} {f g : XS} {Γ : Sl} {s s1 : S} (h : t Γ s = .ok true s1) : sIf t f g Γ s = f Γ s1 := by
  unfold sIf
  rw [h]; rfl
theorem if_f {t : XB} {f g : XS} {Γ : Sl} {s s1 : S} (h : t Γ s = .ok false s1) : sIf t f g Γ s = g Γ s1 := by
  unfold sIf
  rw [h]; rfl
theorem bof_at {f : XF} {Γ : Sl} {s s1 : S} {b : Bool} (h : f Γ s = .ok (.bl b) s1) : bOf f Γ s = .ok b s1 := by
  unfold bOf
  rw [h]; rfl
theorem dip_ok {K : PySem.W.Frag} {s : S} {u m : Nat} {a b c : Int} (w : WF s) (h : UAt s u a b c) (m1 : 1 ≤ m) (m2 : m < 2 ^ 62) (hc : c < 2 ^ 60) :
    ∃ (v : Nat) (a' c' : Int) (s' : S), f__law_dip K [.ref u, .int m] s = .ok (.int v) s' ∧ v < m ∧ UAt s' u a' b c' ∧ c' ≤ c + 1 ∧ Fr [u] s s' ∧ WF s' := by
  have hm : sm (m : Int) = true := sm_lt (by omega) (by omega)
  have gm : gMod (b) (m : Int) = true := decide_eq_true (by omega)
  have x0 : xBin oIx (xVar 0) (xC (.int 0)) [some (.ref u), some (.int m), none, none] s = .ok (.int a) s := bin_at rfl rfl h.ix0
  by_cases ha : a > 0
  · have v0 : 0 ≤ a % (m : Int) := Int.emod_nonneg _ (by omega)
    have v1 : a % (m : Int) < m := Int.emod_lt_of_pos _ (by omega)
    let s1 := s.put u (.lst [D.int (a / m), .int b, .int c])
    refine ⟨(a % (m : Int)).toNat, a / m, c, s1, ?_, by omega, ⟨?_, Int.ediv_nonneg h.a0 (by omega), h.b0, h.b1, h.c0⟩, by omega, fr_put (by simp), wf_put w _ _⟩
    · refine fnB_rt ?_
      show b__law_dip K [some (.ref u), some (.int m), none, none] s = _
      unfold b__law_dip
      refine seq_rt ?_
      rw [if_t (bof_at (bin_at (o := oGt) x0 rfl (by show R.ok (D.bl (decide (0 < a))) s = _; rw [decide_eq_true ha])))]
      rw [seq_ok (Γ' := [some (.ref u), some (.int m), none, some (.int (a % m))]) (s' := s) (set_at (bin_at (o := oMod) x0 rfl (oMod_int gm)))]
      have y0 : xBin oIx (xVar 0) (xC (.int 0)) [some (.ref u), some (.int m), none, some (.int (a % m))] s = .ok (.int a) s := bin_at rfl rfl h.ix0
      have gd : gDiv a (m : Int) = true := by
        show (decide ((0 : Int) < (m : Int)) && sm m) = true
        rw [decide_eq_true (by omega), hm]; rfl
      rw [seq_ok (Γ' := [some (.ref u), some (.int m), none, some (.int (a % m))]) (s' := s1) (asg_sub (bin_at (o := oFdiv) y0 rfl (oFdiv_int gd)) rfl rfl (h.put0 _))]
      rw [Int.toNat_of_nonneg v0]
      rfl
    · rw [get_put_same h.g]
  · let s1 := s.put u (.lst [D.int a, .int b, .int (c + 1)])
    have h1 : UAt s1 u a b (c + 1) := ⟨by rw [get_put_same h.g], h.a0, h.b0, h.b1, by have := h.c0; omega⟩
    let X1 : Int := (b + 3267000013 * (c + 1)) ^ 3 % (10 ^ 44 + 31)
    let X2 : Int := (X1 * X1 + 5754853343 * (c + 1)) % (10 ^ 43 + 57)
    let X3 : Int := X2 / 433494437 % m
    have q0 : 0 ≤ X1 := Int.emod_nonneg _ (by decide)
    have q1 : X1 < 10 ^ 44 + 31 := Int.emod_lt_of_pos _ (by decide)
    have r0 : 0 ≤ X3 := Int.emod_nonneg _ (by omega)
    have r1 : X3 < m := Int.emod_lt_of_pos _ (by omega)
    have hb0 := h.b0
    have hb1 := h.b1
    have hc0 := h.c0
    refine ⟨X3.toNat, a, c + 1, s1, ?_, by omega, h1, by omega, fr_put (by simp), wf_put w _ _⟩
    refine fnB_rt ?_
    show b__law_dip K [some (.ref u), some (.int m), none, none] s = _
    unfold b__law_dip
    rw [seq_ok (Γ' := [some (.ref u), some (.int m), none, none]) (s' := s) (by
      rw [if_f (bof_at (bin_at (o := oGt) x0 rfl (by show R.ok (D.bl (decide (0 < a))) s = _; rw [decide_eq_false (by omega)])))]
      rfl)]
    rw [seq_ok (Γ' := [some (.ref u), some (.int m), none, none]) (s' := s1) (asg_sub (bin_at (bin_at rfl rfl h.ix2) rfl oAdd_int) rfl rfl (h.put2 _))]
    have e1 : xBin oMod (xBin oPow (xBin (oAdd false) (xBin oIx (xVar 0) (xC (.int 1))) (xBin (oMul false) (xC (.int 3267000013)) (xBin oIx (xVar 0) (xC (.int 2))))) (xC (.int 3))) (xBin (oAdd false) (xBin oPow (xC (.int 10)) (xC (.int 44))) (xC (.int 31))) [some (.ref u), some (.int m), none, none] s1 = .ok (.int X1) s1 := by
      refine bin_at (bin_at (bin_at (bin_at rfl rfl h1.ix1) (bin_at rfl (bin_at rfl rfl h1.ix2) (oMul_int ?_)) oAdd_int) rfl (oPow_int ?_)) (p44 44 31 (by decide)) (oMod_int (decide_eq_true (by decide)))
      · show (sm 3267000013 && sm (c + 1)) = true
        rw [sm_lt (by decide) (by decide), sm_lt (by omega) (by omega)]; rfl
      · show (decide ((0 : Int) ≤ 3) && decide ((3 : Int) ≤ 64) && sm _) = true
        rw [sm_lt (by omega) (by omega)]; rfl
    rw [seq_ok (Γ' := [some (.ref u), some (.int m), some (.int X1), none]) (s' := s1) (set_at e1)]
    have e2 : xBin oMod (xBin (oAdd false) (xBin (oMul false) (xVar 2) (xVar 2)) (xBin (oMul false) (xC (.int 5754853343)) (xBin oIx (xVar 0) (xC (.int 2))))) (xBin (oAdd false) (xBin oPow (xC (.int 10)) (xC (.int 43))) (xC (.int 57))) [some (.ref u), some (.int m), some (.int X1), none] s1 = .ok (.int X2) s1 := by
      have sq : sm X1 = true := sm_lt q0 (by omega)
      refine bin_at (bin_at (bin_at rfl rfl (oMul_int ?_)) (bin_at rfl (bin_at rfl rfl h1.ix2) (oMul_int ?_)) oAdd_int) (p44 43 57 (by decide)) (oMod_int (decide_eq_true (by decide)))
      · show (sm X1 && sm X1) = true
        rw [sq]; rfl
      · show (sm 5754853343 && sm (c + 1)) = true
        rw [sm_lt (by decide) (by decide), sm_lt (by omega) (by omega)]; rfl
    rw [seq_ok (Γ' := [some (.ref u), some (.int m), some (.int X2), none]) (s' := s1) (set_at e2)]
    rw [ret_at (bin_at (bin_at (o := oFdiv) rfl rfl (oFdiv_int (by show (decide ((0 : Int) < 433494437) && sm 433494437) = true; rw [sm_lt (by decide) (by decide)]; rfl))) rfl (oMod_int (decide_eq_true (by omega))))]
    rw [Int.toNat_of_nonneg r0]
theorem lt_at {f g : XF} {Γ : Sl} {s : S} {a b : Int} (hf : f Γ s = .ok (.int a) s) (hg : g Γ s = .ok (.int b) s) : xBin oLt f g Γ s = .ok (.bl (decide (a < b))) s := bin_at hf hg rfl
theorem len_at {f : XF} {Γ : Sl} {s : S} {d : D} {ds : List D} (hf : f Γ s = .ok d s) (hd : lstOf d s = some ds) : xFn oLen (aCons f aNil) Γ s = .ok (.int ds.length) s := by
  have e : oLen [d] s = .ok (.int ds.length) s := by
    unfold oLen
    cases d with
    | lst es => cases hd; rfl
    | ref n =>
      have hd' := hd
      unfold lstOf at hd'
      dsimp only at hd' ⊢
      split at hd'
      · rename_i es hg
        cases hd'
        have q : dicOf (.ref n) s = none := by unfold dicOf; simp only [hg]
        rw [q, hd]
      · cases hd'
    | _ => cases hd
  simp only [xFn, aCons, aNil, hf, L3.R.bind, e]
theorem urn_ok {K : PySem.W.Frag} {s : S} {ns : List Int} {k : Nat} (w : WF s) (hk : k ≤ 63) (hn : ns.length ≤ 63) :
    ∃ a b s', f__law_urn K [.lst (ns.map .int), .int k] s = .ok (.ref s.nx) s' ∧ UAt s' s.nx a b 0 ∧ Fr [] s s' ∧ WF s' := by
  have key : ∀ cell : Int, ∃ a b : Int, 0 ≤ a ∧ 0 ≤ b ∧ b < 2 ^ 150 ∧ (sRet (xLst true (aCons (xFn oMax2 (aCons (xC (.int 0)) (aCons (xBin oSub (xVar 2) (xBin oPow (xC (.int 10)) (xC (.int 18)))) aNil))) (aCons (xBin (oAdd false) (xBin (oAdd false) (xBin (oMul false) (xBin oMod (xVar 2) (xBin (oAdd false) (xBin oPow (xC (.int 10)) (xC (.int 39))) (xC (.int 23)))) (xC (.int 256))) (xBin (oMul false) (xC (.int 41)) (xVar 1))) (xC (.int 13))) (aCons (xC (.int 0)) aNil)))))
      [some (.lst (ns.map .int)), some (.int k), some (.int cell)] s = .ok (.rt (.ref s.nx)) (s.new (.lst [.int a, .int b, .int 0])) := by
    intro cell
    have q0 : 0 ≤ cell % (10 ^ 39 + 23) := Int.emod_nonneg _ (by decide)
    have q1 : cell % (10 ^ 39 + 23) < 10 ^ 39 + 23 := Int.emod_lt_of_pos _ (by decide)
    refine ⟨if cell - 10 ^ 18 > 0 then cell - 10 ^ 18 else 0, cell % (10 ^ 39 + 23) * 256 + 41 * k + 13, ?_, by omega, by omega, ?_⟩
    · split <;> omega
    · have e1 : xBin oSub (xVar 2) (xBin oPow (xC (.int 10)) (xC (.int 18))) [some (.lst (ns.map .int)), some (.int k), some (.int cell)] s = .ok (.int (cell - 10 ^ 18)) s :=
        bin_at (y := .int (10 ^ 18)) rfl (bin_at rfl rfl (oPow_int (by show (decide ((0 : Int) ≤ 18) && decide ((18 : Int) ≤ 64) && sm 10) = true; decide))) rfl
      have e2 : xBin (oAdd false) (xBin (oAdd false) (xBin (oMul false) (xBin oMod (xVar 2) (xBin (oAdd false) (xBin oPow (xC (.int 10)) (xC (.int 39))) (xC (.int 23)))) (xC (.int 256))) (xBin (oMul false) (xC (.int 41)) (xVar 1))) (xC (.int 13)) [some (.lst (ns.map .int)), some (.int k), some (.int cell)] s =
          .ok (.int (cell % (10 ^ 39 + 23) * 256 + 41 * k + 13)) s := by
        refine bin_at (bin_at (bin_at (bin_at rfl (p44 39 23 (by decide)) (oMod_int (decide_eq_true (by decide)))) rfl (oMul_int ?_)) (bin_at rfl rfl (oMul_int ?_)) oAdd_int) rfl oAdd_int
        · show (sm (cell % (10 ^ 39 + 23)) && sm 256) = true
          rw [sm_lt q0 (by omega), sm_lt (by decide) (by decide)]; rfl
        · show (sm 41 && sm (k : Int)) = true
          rw [sm_lt (by decide) (by decide), sm_lt (by omega) (by omega)]; rfl
      generalize cell % (10 ^ 39 + 23) * 256 + 41 * (k : Int) + 13 = bb at e2 ⊢
      simp only [sRet, xLst, aCons, aNil, xFn, xC, L3.R.bind, e1, e2, oMax2, newL, if_true]
      rw [if_pos (by show 3 ≤ LIM; decide)]
      rfl
  have fin : ∀ cell : Int, sSeq (sIf (bOf (xBin oLt (xVar 1) (xFn oLen (aCons (xVar 0) aNil)))) (sSet 2 (xBin oIx (xVar 0) (xVar 1))) sNil)
      (sRet (xLst true (aCons (xFn oMax2 (aCons (xC (.int 0)) (aCons (xBin oSub (xVar 2) (xBin oPow (xC (.int 10)) (xC (.int 18)))) aNil))) (aCons (xBin (oAdd false) (xBin (oAdd false) (xBin (oMul false) (xBin oMod (xVar 2) (xBin (oAdd false) (xBin oPow (xC (.int 10)) (xC (.int 39))) (xC (.int 23)))) (xC (.int 256))) (xBin (oMul false) (xC (.int 41)) (xVar 1))) (xC (.int 13))) (aCons (xC (.int 0)) aNil))))) [some (.lst (ns.map .int)), some (.int k), some (.int 0)] s =
      (sRet (xLst true (aCons (xFn oMax2 (aCons (xC (.int 0)) (aCons (xBin oSub (xVar 2) (xBin oPow (xC (.int 10)) (xC (.int 18)))) aNil))) (aCons (xBin (oAdd false) (xBin (oAdd false) (xBin (oMul false) (xBin oMod (xVar 2) (xBin (oAdd false) (xBin oPow (xC (.int 10)) (xC (.int 39))) (xC (.int 23)))) (xC (.int 256))) (xBin (oMul false) (xC (.int 41)) (xVar 1))) (xC (.int 13))) (aCons (xC (.int 0)) aNil)))))
        [some (.lst (ns.map .int)), some (.int k), some (.int (ns.getD k 0))] s := by
    intro _
    have l0 : xBin oLt (xVar 1) (xFn oLen (aCons (xVar 0) aNil)) [some (.lst (ns.map .int)), some (.int k), some (.int 0)] s = .ok (.bl (decide ((k : Int) < ((ns.map D.int).length : Int)))) s := lt_at rfl (len_at rfl rfl)
    by_cases h : k < ns.length
    · have d : decide ((k : Int) < ((ns.map D.int).length : Int)) = true := decide_eq_true (by rw [List.length_map]; omega)
      rw [d] at l0
      have g : ns.getD k 0 = ns[k] := by simp [h]
      rw [g]
      exact seq_ok (by
        rw [if_t (bof_at l0)]
        exact set_at (bin_at (o := oIx) rfl rfl (by
          unfold oIx lstOf
          dsimp only
          rw [atI_nat (by rw [List.getElem?_map, List.getElem?_eq_getElem h]; rfl)])))
    · have d : decide ((k : Int) < ((ns.map D.int).length : Int)) = false := decide_eq_false (by rw [List.length_map]; omega)
      rw [d] at l0
      have g : ns.getD k 0 = 0 := by rw [List.getD_eq_getElem?_getD, List.getElem?_eq_none (by omega)]; rfl
      rw [g]
      exact seq_ok (by
        rw [if_f (bof_at l0)]
        rfl)
  obtain ⟨a, b, a0, b0, b1, e⟩ := key (ns.getD k 0)
  refine ⟨a, b, _, ?_, ⟨by rw [get_new, if_pos rfl], a0, b0, b1, Int.le_refl 0⟩, fr_new, wf_new w _⟩
  refine fnB_rt ?_
  show b__law_urn K [some (.lst (ns.map .int)), some (.int k), none] s = _
  unfold b__law_urn
  rw [seq_ok (Γ' := [some (.lst (ns.map .int)), some (.int k), some (.int 0)]) (s' := s) rfl, fin 0]
  exact e
end L3

set_option Elab.async false
set_option linter.all false
set_option maxRecDepth 100000
set_option maxHeartbeats 1000000
set_option exponentiation.threshold 600
namespace L3
open PySem PySem.Spec PyProof.Rows L2

/-! ### lists of texts compared -/
theorem mapO_str {s : S} {n : Nat} : ∀ {ds : List Str}, (∀ z ∈ ds, PyData.strOk z = true) → mapO (fun d => toP n d s) (ds.map .str) = some (ds.map .str)
  | [], _ => rfl
  | d :: r, h => by
    rw [List.map_cons]
    unfold mapO
    rw [mapO_str fun z hz => h z (List.mem_cons_of_mem _ hz)]
    have hd := h d List.mem_cons_self
    have e : toP n (.str d) s = some (.str d) := by cases n <;> simp [toP, hd]
    rw [e]
    rfl
theorem eqv_strs : ∀ ds : List Str, PyData.eqvAll (ds.map .str) (ds.map .str) = true
  | [] => by unfold PyData.eqvAll; rfl
  | d :: r => by
    rw [List.map_cons]
    unfold PyData.eqvAll PyData.eqv
    rw [eqv_strs r]
    simp
theorem oEq_strs {neg : Bool} {s : S} {ds : List Str} (h : ∀ z ∈ ds, PyData.strOk z = true) : oEq neg (.lst (ds.map .str)) (.lst (ds.map .str)) s = .ok (.bl (!neg)) s := by
  have hx : toP 12 (.lst (ds.map .str)) s = some (.list (ds.map .str)) := by
    show (mapO (fun d => toP 11 d s) (ds.map .str)).map PyData.list = _
    rw [mapO_str h]; rfl
  unfold oEq oEqD
  rw [show isS2 (.lst (ds.map .str)) (.lst (ds.map .str)) = false from rfl, if_neg Bool.false_ne_true, hx]
  dsimp only
  have e : PyData.eqv (.list (ds.map .str)) (.list (ds.map .str)) = true := by unfold PyData.eqv; exact eqv_strs ds
  rw [e]
  cases neg <;> rfl
/-! ### signs in order -/
theorem strOk_of {z : Str} (h : ∀ c ∈ tlS z, c < 128) : PyData.strOk z = true := by
  unfold PyData.strOk
  rw [Array.all_eq_true']
  intro c hc
  have := h c (by simpa using hc)
  exact decide_eq_true (by omega)
def low (z : Str) : Prop := ∀ c ∈ tlS z, c < 128
theorem low_app {x y : Str} (h : low x) (k : low y) : low (x ++ y) := fun c hc => by
  have hc : c ∈ TL.tl (x ++ y) := hc
  rw [TL.tl_append] at hc
  rcases List.mem_append.mp hc with e | e
  · exact h c e
  · exact k c e
theorem low_num (p : Nat) : low (num p) := fun c hc => by
  rw [tl_num] at hc
  have := TL.numL_digits p c hc
  omega
theorem low_numI {i : Int} (h : 0 ≤ i) : low (num i) := by
  rw [num_nat h]
  exact low_num _
theorem low_join {a : Str} (ha : low a) : ∀ {ys : List Str}, (∀ y ∈ ys, low y) → low (Txt.join a ys) := by
  intro ys h
  rw [TL.join_eq]
  induction ys with
  | nil => intro c hc; cases hc
  | cons y r ih =>
    cases r with
    | nil => exact h y List.mem_cons_self
    | cons z r =>
      show low (y ++ a ++ Str.join a (z :: r))
      exact low_app (low_app (h y List.mem_cons_self) ha) (ih fun w hw => h w (List.mem_cons_of_mem _ hw))
theorem low_lit {z : Str} (h : (tlS z).all (fun c => decide (c < 128)) = true) : low z := fun c hc => of_decide_eq_true (List.all_eq_true.mp h c hc)
theorem low_nms {M : Mc} {b : Nat} (ok : M.Ok b) (hb : b ≤ 1000000) : low (nmsT M) := low_join (low_lit (by decide +kernel)) fun y hy => by
  obtain ⟨o, ho, rfl⟩ := List.mem_map.mp hy
  cases o with
  | none => exact low_lit (by decide +kernel)
  | some v => exact low_numI (nms_lt ok hb _ ho v rfl).1
theorem low_pls {M : Mc} {b : Nat} (ok : M.Ok b) (hb : b ≤ 1000000) : low (plsT M) := low_join (low_lit (by decide +kernel)) fun y hy => by
  obtain ⟨o, ho, rfl⟩ := List.mem_map.mp hy
  exact low_numI (pls_lt ok hb _ ho).1
theorem low_run (n : Nat) (sc : List Nat) : low (runT n sc) := by
  refine low_app (low_app (low_num n) (low_lit (by decide +kernel))) ?_
  unfold schT
  split
  · exact low_lit (by decide +kernel)
  · refine low_join (low_lit (by decide +kernel)) fun y hy => ?_
    obtain ⟨p, _, rfl⟩ := List.mem_map.mp hy
    exact low_num p
/-! ### the law's own reports -/
section
variable {K : PySem.W.Frag} {s : S} {d r h : Nat} {R : Rn} {L Lh : RL}
theorem join_places {Γ : Sl} {i : Nat} (hh : RAt K s h R Lh) (hn : R.n ≤ 40) (hl : R.sc.length ≤ 50000) (hi : i < Γ.length) (hΓ : Γ[1]? = some (some (.ref h))) :
    xBM "str" mJoin (xC (.str " ")) (aCons (xComp false [i] (iSeq (xProp (He.ga K "Run") (f_Run_places_now K) (xVar 1))) (gSet i) bYes (xFn oStrC (aCons (xBin oIx (xVar i) (xC (.int 0))) aNil))) aNil) Γ s = .ok (.str (plsT R.m)) s := by
  have hpn : R.m.n ≤ 40 := by rw [Rn.mn]; exact hn
  have c : xComp false [i] (iSeq (xProp (He.ga K "Run") (f_Run_places_now K) (xVar 1))) (gSet i) bYes (xFn oStrC (aCons (xBin oIx (xVar i) (xC (.int 0))) aNil)) Γ s = .ok (.lst ((R.m.pls.map fun c => num c.1).map .str)) s := by
    unfold xComp iSeq
    rw [prop_places hh hn hl hΓ]
    simp only [L3.R.bind, wOf, wipeD]
    rw [comp_map (fun d => match d with | .tup (.int i :: _) => .str (num i) | _ => .non) rfl _ (by rw [List.length_map, pls_len]; show R.m.n ≤ 1000000; omega) fun d hd => ?_]
    · simp only [L3.R.bind, newL, Bool.false_eq_true, if_false]
      rw [List.map_map, List.map_map]
      rfl
    · obtain ⟨c, hc, rfl⟩ := List.mem_map.mp hd
      obtain ⟨h0, h1⟩ := pls_lt hh.ok (by omega) c hc
      refine ⟨_, rfl, ?_⟩
      have g : ((Γ.set i none).set i (some (cD c)))[i]? = some (some (cD c)) := by rw [List.getElem?_set_self (by rw [List.length_set]; exact hi)]
      have x0 : oIx (cD c) (.int 0) s = .ok (.int c.1) s := rfl
      simp only [xFn, aCons, aNil, xBin, xVar, xC, g, L3.R.bind, x0, str_ok h0 h1]
      rfl
  have j := join_ok (a := " ") (s := s) (ys := R.m.pls.map fun c => num c.1) (by decide) (fun y hy => by
    obtain ⟨c, hc, rfl⟩ := List.mem_map.mp hy
    obtain ⟨h0, h1⟩ := pls_lt hh.ok (by omega) c hc
    exact numI_len h0 h1) (by rw [List.length_map, pls_len]; omega)
  simp only [xBM, xC, L3.R.bind, isTy, aCons, c, aNil]
  rw [if_pos (by decide), j]
  rfl
theorem equal_ok (w : WF s) (hd : s.get d = some (.ins (He.ga K "Desk") (dfs r))) (hr : RAt K s r R L) (hh : RAt K s h R Lh) (h1 : 1 ≤ R.n) (hn : R.n ≤ 40) (hl : R.sc.length ≤ 50000) :
    ∃ s', f__law_equal K [.ref d, .ref h] s = .ok (.bl true) s' ∧ Fr [] s s' ∧ WF s' := by
  let Γ0 : Sl := [some (.ref d), some (.ref h), none, none, none, none, none]
  have e1 := join_names (s := s) (M := R.m) (b := R.sc.length) (i := 5) (Γ := Γ0) (f := xProp (He.ga K "Run") (f_Run_names_now K) (xVar 1)) hh.ok (by omega) (by rw [Rn.mn]; exact hn) (prop_names hh hn hl rfl) (by show 5 < 7; decide)
  let Γ1 : Sl := [some (.ref d), some (.ref h), some (.str (nmsT R.m)), none, none, none, none]
  have e2 := join_places (i := 6) (Γ := Γ1) hh hn hl (by show 6 < 7; decide) rfl
  let Γ2 : Sl := [some (.ref d), some (.ref h), some (.str (nmsT R.m)), some (.str (plsT R.m)), none, none, none]
  obtain ⟨s1, e3, f1, w1⟩ := show_run_ok (K := K) w h1 hn hh.can hl
  have p1 := prop_count hh (Γ := Γ2) (i := 1) rfl
  have p2 := prop_steps hh (Γ := Γ2) (i := 1) rfl
  have c3 : xCall 2 (f_show_run K) (aCons (xProp (He.ga K "Run") (f_Run_process_count K) (xVar 1)) (aCons (xProp (He.ga K "Run") (f_Run_steps_done K) (xVar 1)) aNil)) Γ2 s = .ok (.str (runT R.n R.sc)) s1 := by
    generalize R.sc.map nD = z at e3 p2
    simp only [xCall, aCons, p1, p2, aNil, L3.R.bind, List.length_cons, List.length_nil, if_true, e3]
  let Γ3 : Sl := [some (.ref d), some (.ref h), some (.str (nmsT R.m)), some (.str (plsT R.m)), some (.str (runT R.n R.sc)), none, none]
  have hd1 : s1.get d = some (.ins (He.ga K "Desk") (dfs r)) := f1.keep w hd (by simp)
  have hr1 := hr.other w f1 (by simp)
  have x1 := exec_names hd1 hr1 hn hl
  have x2 := exec_places hd1 hr1 hn hl
  obtain ⟨s2, x3, f2, w2⟩ := exec_text hd1 hr1 w1 h1 hn hl
  refine ⟨s2, ?_, f1.tr f2, w2⟩
  have i1 := isIns_at hd1
  have ml : (dfs r).lookup ("execute" : Str) = none := rfl
  have ok3 : ∀ z ∈ [nmsT R.m, plsT R.m, runT R.n R.sc], PyData.strOk z = true := by
    intro z hz
    simp only [List.mem_cons, List.not_mem_nil, or_false] at hz
    rcases hz with e | e | e
    · rw [e]; exact strOk_of (low_nms hr.ok (by omega))
    · rw [e]; exact strOk_of (low_pls hr.ok (by omega))
    · rw [e]; exact strOk_of (low_run _ _)
  have q := oEq_strs (neg := false) (s := s2) ok3
  refine fnB_rt ?_
  show b__law_equal K Γ0 s = _
  unfold b__law_equal
  rw [seq_ok (Γ' := Γ1) (s' := s) (set_at e1), seq_ok (Γ' := Γ2) (s' := s) (set_at e2), seq_ok (Γ' := Γ3) (s' := s1) (set_at c3)]
  refine ret_at ?_
  simp only [List.map_cons, List.map_nil, Bool.not_false] at q
  have a1 : ∀ {z o : Str} {sa sb : S}, f_Desk_execute K [.ref d, .str z] sa = .ok (.str o) sb → sa.get d = some (.ins (He.ga K "Desk") (dfs r)) → xMeth (He.ga K "Desk") "execute" 2 (f_Desk_execute K) (xVar 0) (aCons (xC (.str z)) aNil) Γ3 sa = .ok (.str o) sb := by
    intro z o sa sb e g
    have i := isIns_at g
    show xMeth (He.ga K "Desk") "execute" 2 (f_Desk_execute K) (xVar 0) (aCons (xC (.str z)) aNil) [some (.ref d), some (.ref h), some (.str (nmsT R.m)), some (.str (plsT R.m)), some (.str (runT R.n R.sc)), none, none] sa = _
    simp only [xMeth, xVar, List.getElem?_cons_zero, L3.R.bind, i, ml, Option.isNone_none, if_true, aCons, xC, aNil, List.length_cons, List.length_nil, e]
  have l1 : xLst false (aCons (xMeth (He.ga K "Desk") "execute" 2 (f_Desk_execute K) (xVar 0) (aCons (xC (.str "names")) aNil)) (aCons (xMeth (He.ga K "Desk") "execute" 2 (f_Desk_execute K) (xVar 0) (aCons (xC (.str "places")) aNil)) (aCons (xMeth (He.ga K "Desk") "execute" 2 (f_Desk_execute K) (xVar 0) (aCons (xC (.str "text")) aNil)) aNil))) Γ3 s1 =
      .ok (.lst [.str (nmsT R.m), .str (plsT R.m), .str (runT R.n R.sc)]) s2 := by
    simp only [xLst, aCons, aNil, a1 x1 hd1, a1 x2 hd1, a1 x3 hd1, L3.R.bind, newL, Bool.false_eq_true, if_false]
    rw [if_pos (by show 3 ≤ LIM; decide)]
  have l2 : xLst false (aCons (xVar 2) (aCons (xVar 3) (aCons (xVar 4) aNil))) Γ3 s2 = .ok (.lst [.str (nmsT R.m), .str (plsT R.m), .str (runT R.n R.sc)]) s2 := by
    show xLst false (aCons (xVar 2) (aCons (xVar 3) (aCons (xVar 4) aNil))) [some (.ref d), some (.ref h), some (.str (nmsT R.m)), some (.str (plsT R.m)), some (.str (runT R.n R.sc)), none, none] s2 = _
    simp only [xLst, aCons, aNil, xVar, List.getElem?_cons_zero, List.getElem?_cons_succ, L3.R.bind, newL, Bool.false_eq_true, if_false]
    rw [if_pos (by show 3 ≤ LIM; decide)]
  unfold xBin
  rw [l1]
  simp only [L3.R.bind, l2, q]
end
end L3

set_option Elab.async false
set_option linter.all false
set_option maxRecDepth 100000
set_option maxHeartbeats 1000000
set_option exponentiation.threshold 600
namespace L3
open PySem PySem.Spec PyProof.Rows L2

/-! ### a desk and a run beside it -/
structure Two (K : PySem.W.Frag) (s : S) (d r h : Nat) (R : Rn) (L Lh : RL) (c : Nat) : Prop where
  w : WF s
  hd : s.get d = some (.ins (He.ga K "Desk") (dfs r))
  hr : RAt K s r R L
  hh : RAt K s h R Lh
  dj : ∀ k ∈ L.ids r, k ∉ Lh.ids h
  dr : d ∉ L.ids r
  dh : d ∉ Lh.ids h
  n1 : 1 ≤ R.n
  n40 : R.n ≤ 40
  fl : R.m.fl.length ≤ 2 * c
  sc : R.sc.length ≤ 400 * c
  pa : R.pa.length ≤ c
section
variable {K : PySem.W.Frag} {s : S} {d r h c : Nat} {R : Rn} {L Lh : RL}
theorem Two.other (t : Two K s d r h R L Lh c) {s' : S} {J : List Nat} (f : Fr J s s') (h1 : d ∉ J) (h2 : ∀ k ∈ L.ids r, k ∉ J) (h3 : ∀ k ∈ Lh.ids h, k ∉ J) : Two K s' d r h R L Lh c :=
  ⟨f.wf t.w, f.keep t.w t.hd h1, t.hr.other t.w f h2, t.hh.other t.w f h3, t.dj, t.dr, t.dh, t.n1, t.n40, t.fl, t.sc, t.pa⟩
theorem fl_adv (M : Mc) (p : Nat) : M.fl.length ≤ (M.adv p).1.fl.length ∧ (M.adv p).1.fl.length ≤ M.fl.length + 1 := by
  have lp : ∀ c (b : Bool), M.fl.length ≤ (putC M.fl c b).length := fun c b => by
    unfold putC
    split
    · simp
    · simp
  unfold Mc.adv
  split
  · exact ⟨Nat.le_refl _, Nat.le_succ _⟩
  · split
    · split
      · exact ⟨Nat.le_refl _, Nat.le_succ _⟩
      · exact ⟨Nat.le_refl _, Nat.le_succ _⟩
    · split
      · exact ⟨lp _ _, len_putC _ _ _⟩
      · split
        · exact ⟨Nat.le_refl _, Nat.le_succ _⟩
        · exact ⟨Nat.le_refl _, Nat.le_succ _⟩
theorem fl_after : ∀ (l : List Nat) (M : Mc), M.fl.length ≤ (M.after l).fl.length
  | [], M => Nat.le_refl _
  | p :: r, M => Nat.le_trans (fl_adv M p).1 (fl_after r (M.adv p).1)
theorem fl_take (R : Rn) (k : Nat) (pa : List Nat) : ({ R with sc := R.sc.take k, pa := pa } : Rn).m.fl.length ≤ R.m.fl.length := by
  have e : R.m = (({ R with sc := R.sc.take k, pa := pa } : Rn).m).after (R.sc.drop k) := by
    unfold Rn.m
    rw [← after_app, List.take_append_drop]
  rw [e]
  exact fl_after _ _
theorem two_undo (t : Two K s d r h R L Lh c) {k : Nat} {pa : List Nat} (hpa : R.pa = pa ++ [k]) (hc : c ≤ 100) :
    ∃ s1 s2 L' Lh', f_Run_undo K [.ref h] s = .ok .non s1 ∧ f_Desk_execute K [.ref d, .str "undo"] s1 = .ok (.str "ok") s2 ∧ s1.get h = some (.ins (He.ga K "Run") (rfs Lh')) ∧ s1.get d = some (.ins (He.ga K "Desk") (dfs r)) ∧ Two K s2 d r h { R with sc := R.sc.take k, pa := pa } L' Lh' c ∧ Fr (L.ids r ++ Lh.ids h) s s2 ∧
      (∀ j ∈ L'.ids r, j ∈ L.ids r ∨ s.nx ≤ j) ∧ ∀ j ∈ Lh'.ids h, j ∈ Lh.ids h ∨ s.nx ≤ j := by
  have hs : R.sc.length ≤ 50000 := by have := t.sc; omega
  obtain ⟨s1, Lh', e1, hh1, f1, w1, k1⟩ := undo_ok t.hh t.w hpa (by have := t.n40; show R.n ≤ 1000000; omega) (by show R.sc.length < 1000000; omega)
  have hr1 := t.hr.other t.w f1 t.dj
  have hd1 : s1.get d = some (.ins (He.ga K "Desk") (dfs r)) := f1.keep t.w t.hd t.dh
  obtain ⟨s2, L', e2, hr2, f2, w2, k2⟩ := exec_undo hd1 hr1 w1 hpa t.n40 hs
  have ltr := t.hr.lt t.w
  have lth1 := hh1.lt w1
  have dlt : d < s.nx := t.w _ _ t.hd
  have djh : ∀ k ∈ Lh'.ids h, k ∉ L.ids r := fun k hk z => by
    rcases k1 k hk with e | e
    · exact t.dj k z e
    · have := ltr k z; omega
  have hh2 := hh1.other w1 f2 djh
  refine ⟨s1, s2, L', Lh', e1, e2, hh1.gi, hd1, ⟨w2, f2.keep w1 hd1 t.dr, hr2, hh2, fun k hk z => ?_, fun z => ?_, fun z => ?_, t.n1, t.n40, Nat.le_trans (fl_take R k pa) t.fl, ?_, ?_⟩, ?_, fun j hj => ?_, k1⟩
  · rcases k2 k hk with e | e
    · exact djh k z e
    · have := lth1 k z; omega
  · rcases k2 d z with e | e
    · exact t.dr e
    · have := f1.nx; omega
  · rcases k1 d z with e | e
    · exact t.dh e
    · omega
  · show (R.sc.take k).length ≤ _
    rw [List.length_take]
    have := t.sc
    omega
  · have := t.pa
    rw [hpa, List.length_append] at this
    show pa.length ≤ c
    omega
  · exact (f1.sub (L' := L.ids r ++ Lh.ids h) fun k hk _ => List.mem_append_right _ hk).tr (f2.sub fun k hk _ => List.mem_append_left _ hk)
  · rcases k2 j hj with e | e
    · exact .inl e
    · right; have := f1.nx; omega
theorem two_step (t : Two K s d r h R L Lh c) {p : Nat} (hc : c ≤ 100) (hp : p < R.n) (ht : R.m.st[p]? = some false) :
    ∃ s1 s2, f_Desk_execute K [.ref d, .str ("step" ++ " " ++ num p)] s = .ok (.str (tS (R.m.toldOf p))) s1 ∧ f_Run_step K [.ref h, .int p] s1 = .ok (tD (R.m.toldOf p)) s2 ∧ s1.get h = some (.ins (He.ga K "Run") (rfs Lh)) ∧ Two K s2 d r h { R with sc := R.sc ++ [p], pa := R.pa ++ [R.sc.length] } L Lh (c + 1) ∧ Fr (L.ids r ++ Lh.ids h) s s2 := by
  have hs := t.sc
  have hpl := t.pa
  obtain ⟨s1, e1, hr1, f1, w1⟩ := exec_step t.hd t.hr t.w rfl t.n40 hp ht (by omega) (by omega)
  have hh1 := t.hh.other t.w f1 fun k hk z => t.dj k z hk
  have hd1 : s1.get d = some (.ins (He.ga K "Desk") (dfs r)) := f1.keep t.w t.hd t.dr
  obtain ⟨s2, e2, hh2, f2, w2⟩ := step_ok hh1 w1 hp ht (by show R.sc.length + 2 < 1000000; omega) (by show R.pa.length < 1000000; omega)
  have hr2 := hr1.other w1 f2 t.dj
  refine ⟨s1, s2, e1, e2, hh1.gi, ⟨w2, f2.keep w1 hd1 t.dh, hr2, hh2, t.dj, t.dr, t.dh, t.n1, t.n40, ?_, ?_, ?_⟩, ?_⟩
  · rw [show ({ R with sc := R.sc ++ [p], pa := R.pa ++ [R.sc.length] } : Rn).m = (R.m.adv p).1 from m_app R [p] _]
    have := (fl_adv R.m p).2
    have := t.fl
    omega
  · simp; omega
  · simp; omega
  · exact (f1.sub (L' := L.ids r ++ Lh.ids h) fun k hk _ => List.mem_append_left _ hk).tr (f2.sub fun k hk _ => List.mem_append_right _ hk)
theorem two_finish (t : Two K s d r h R L Lh c) {p : Nat} (hc : c ≤ 90) (hp : p < R.n) (ht : R.m.st[p]? = some false) :
    ∃ s1 s2 v R', f_Desk_execute K [.ref d, .str ("finish" ++ " " ++ num p)] s = .ok (.str (num v)) s1 ∧ f_Run_finish K [.ref h, .int p] s1 = .ok (.int v) s2 ∧ 0 ≤ v ∧ v < 10 ^ 13 ∧ s1.get h = some (.ins (He.ga K "Run") (rfs Lh)) ∧ Two K s2 d r h R' L Lh (c + 1) ∧ R'.n = R.n ∧ R'.pa.length = R.pa.length + 1 ∧ Fr (L.ids r ++ Lh.ids h) s s2 := by
  have hs := t.sc
  have hpl := t.pa
  have hfl := t.fl
  obtain ⟨cc, kk, a1, k0⟩ := at1_of t.hr hp ht
  obtain ⟨k, b1, b2, b3⟩ := fin_any a1 k0
  obtain ⟨s1, e1, hr1, f1, w1⟩ := exec_finish t.hd t.hr t.w rfl t.n40 hp ht b2 (by omega) (by omega)
  have hh1 := t.hh.other t.w f1 fun k hk z => t.dj k z hk
  have hd1 : s1.get d = some (.ins (He.ga K "Desk") (dfs r)) := f1.keep t.w t.hd t.dr
  obtain ⟨s2, e2, hh2, f2, w2⟩ := finish_ok hh1 w1 hp ht b2 (by show R.sc.length + k + 1 < 1000000; omega) (by show R.pa.length < 1000000; omega)
  have hr2 := hr1.other w1 f2 t.dj
  have hm : ({ R with sc := R.sc ++ List.replicate k p, pa := R.pa ++ [R.sc.length] } : Rn).m = R.m.after (List.replicate k p) := m_app R _ _
  have ok2 := hr2.ok
  rw [hm] at ok2
  have bb := nm_get (p := p) ok2 (by simp; omega)
  refine ⟨s1, s2, _, _, e1, e2, bb.1, bb.2, hh1.gi, ⟨w2, f2.keep w1 hd1 t.dh, hr2, hh2, t.dj, t.dr, t.dh, t.n1, t.n40, ?_, ?_, ?_⟩, rfl, by simp, ?_⟩
  · rw [hm]; omega
  · simp; omega
  · simp; omega
  · exact (f1.sub (L' := L.ids r ++ Lh.ids h) fun k hk _ => List.mem_append_left _ hk).tr (f2.sub fun k hk _ => List.mem_append_right _ hk)
end
/-! ### who may step -/
def abl (i : Nat) : List (Option Int) → List Nat
  | [] => []
  | none :: r => i :: abl (i + 1) r
  | some _ :: r => abl (i + 1) r
theorem abl_get : ∀ (l : List (Option Int)) (i p : Nat), p ∈ abl i l → ∃ j, p = i + j ∧ l[j]? = some none
  | [], i, p, h => by cases h
  | none :: r, i, p, h => by
    rcases List.mem_cons.mp h with e | h
    · exact ⟨0, e, rfl⟩
    · obtain ⟨j, e1, e2⟩ := abl_get r (i + 1) p h
      exact ⟨j + 1, by omega, e2⟩
  | some v :: r, i, p, h => by
    obtain ⟨j, e1, e2⟩ := abl_get r (i + 1) p h
    exact ⟨j + 1, by omega, e2⟩
theorem abl_len : ∀ (l : List (Option Int)) (i : Nat), (abl i l).length ≤ l.length
  | [], i => Nat.le_refl _
  | none :: r, i => Nat.succ_le_succ (abl_len r (i + 1))
  | some v :: r, i => Nat.le_succ_of_le (abl_len r (i + 1))
def qA (d : D) : Bool := match d with
  | .tup [_, .non] => true
  | _ => false
def fA (d : D) : D := match d with
  | .tup (x :: _) => x
  | _ => .non
theorem abl_enum : ∀ (l : List (Option Int)) (i : Nat), ((enumD i (l.map oD)).filter qA).map fA = (abl i l).map nD
  | [], i => rfl
  | none :: r, i => by
    show (((D.tup [.int i, .non]) :: enumD (i + 1) (r.map oD)).filter qA).map fA = _
    rw [List.filter_cons_of_pos rfl, List.map_cons, abl_enum r (i + 1)]
    rfl
  | some v :: r, i => by
    show (((D.tup [.int i, .int v]) :: enumD (i + 1) (r.map oD)).filter qA).map fA = _
    rw [List.filter_cons_of_neg (by simp [qA]), abl_enum r (i + 1)]
    rfl
theorem enum_mem : ∀ (l : List (Option Int)) (i : Nat) (x : D), x ∈ enumD i (l.map oD) → ∃ (j : Nat) (o : Option Int), x = .tup [.int j, oD o]
  | [], i, x, h => by cases h
  | o :: r, i, x, h => by
    rcases List.mem_cons.mp h with e | h
    · exact ⟨i, o, e⟩
    · exact enum_mem r (i + 1) x h
theorem able_st {M : Mc} {p : Nat} (h : p ∈ abl 0 M.nms) : p < M.n ∧ M.st.getD p false = false := by
  obtain ⟨j, e, g⟩ := abl_get _ _ _ h
  have e : p = j := by omega
  subst e
  unfold Mc.nms at g
  rw [List.getElem?_map] at g
  cases q : (List.range M.n)[p]? with
  | none => rw [q] at g; cases g
  | some i =>
    obtain ⟨h1, h2⟩ := List.getElem?_eq_some_iff.mp q
    rw [List.length_range] at h1
    rw [List.getElem_range] at h2
    subst h2
    rw [q] at g
    refine ⟨h1, ?_⟩
    cases z : M.st.getD p false with
    | false => rfl
    | true =>
      have g' : some (if M.st.getD p false = true then some (nm (M.ce.getD p (0, 0))) else none) = some none := g
      rw [z] at g'
      simp at g'
theorem st_get {M : Mc} {b p : Nat} (ok : M.Ok b) (hp : p < M.n) (h : M.st.getD p false = false) : M.st[p]? = some false := by
  have : p < M.st.length := by rw [ok.lt]; exact hp
  rw [List.getD_eq_getElem?_getD, List.getElem?_eq_getElem this] at h
  rw [List.getElem?_eq_getElem this]
  simpa using h
theorem able_ok {K : PySem.W.Frag} {s : S} {h : Nat} {R : Rn} {Lh : RL} {Γ : Sl} (hh : RAt K s h R Lh) (hn : R.n ≤ 40) (hl : R.sc.length ≤ 50000) (h2 : Γ[2]? = some (some (.ref h))) (h10 : Γ.length = 10) :
    xComp true [6, 9] (iEnumD (xProp (He.ga K "Run") (f_Run_names_now K) (xVar 2))) (gTupD 2 (gsCons (gSet 6) (gsCons (gSet 9) gsNil))) (bOf (xBin (oIs false) (xVar 9) (xC .non))) (xVar 6) Γ s = .ok (.ref s.nx) (s.new (.lst ((abl 0 R.m.nms).map nD))) := by
  unfold xComp iEnumD
  rw [prop_names hh hn hl h2]
  simp only [L3.R.bind]
  rw [comp_pure qA fA rfl _ [] (by
    rw [enumD_len, List.length_map, nms_len, Rn.mn, List.length_nil]
    show 0 + R.n ≤ 1000000; omega) fun x hx => ?_]
  · simp only [L3.R.bind, List.nil_append, newL, if_true, abl_enum]
  · obtain ⟨j, o, rfl⟩ := enum_mem _ _ _ hx
    refine ⟨((wipeD Γ [6, 9]).set 6 (some (.int j))).set 9 (some (oD o)), rfl, ?_, fun _ => ?_⟩
    · have g : (((wipeD Γ [6, 9]).set 6 (some (.int j))).set 9 (some (oD o)))[9]? = some (some (oD o)) := by
        rw [List.getElem?_set_self (by simp [wipeD, h10])]
      refine bof_at ?_
      simp only [xBin, xVar, xC, g, L3.R.bind, oIs, Bool.false_eq_true, if_false]
      cases o <;> rfl
    · have g : (((wipeD Γ [6, 9]).set 6 (some (.int j))).set 9 (some (oD o)))[6]? = some (some (.int j)) := by
        rw [List.getElem?_set_ne (by decide), List.getElem?_set_self (by simp [wipeD, h10])]
      simp only [xVar, g]
      rfl
end L3

set_option Elab.async false
set_option linter.all false
set_option maxRecDepth 100000
set_option maxHeartbeats 1000000
set_option exponentiation.threshold 600
namespace L3
open PySem PySem.Spec PyProof.Rows L2

/-- what stands while the law goes on with one desk and one run -/
structure Inv46 (K : PySem.W.Frag) (s : S) (u d r h q : Nat) (R : Rn) (L Lh : RL) (c : Nat) (zb : Int) (e : Nat) : Prop where
  t : Two K s d r h R L Lh c
  hu : ∃ a b z, UAt s u a b z ∧ z ≤ zb
  hq : ∃ pl : List Int, s.get q = some (.lst (pl.map .int)) ∧ pl.length = R.pa.length + e
  ud : u ≠ d
  uq : u ≠ q
  dq : d ≠ q
  ur : u ∉ L.ids r
  uh : u ∉ Lh.ids h
  qr : q ∉ L.ids r
  qh : q ∉ Lh.ids h
theorem and_t {f g : XB} {Γ : Sl} {s s1 : S} (h : f Γ s = .ok true s1) : bAnd f g Γ s = g Γ s1 := by
  unfold bAnd
  rw [h]; rfl
theorem and_f {f g : XB} {Γ : Sl} {s s1 : S} (h : f Γ s = .ok false s1) : bAnd f g Γ s = .ok false s1 := by
  unfold bAnd
  rw [h]; rfl
theorem eq_at {neg : Bool} {f g : XF} {Γ : Sl} {s : S} {i j : Int} (hf : f Γ s = .ok (.int i) s) (hg : g Γ s = .ok (.int j) s) : xBin (oEq neg) f g Γ s = .ok (.bl (if neg = true then !decide (i = j) else decide (i = j))) s := bin_at hf hg oEq_int
theorem nil_at {neg : Bool} {f : XF} {Γ : Sl} {s : S} {x : D} {ns : List Int} (hf : f Γ s = .ok x s) (h : lstOf x s = some (ns.map .int)) : xBin (oEq neg) f (xLst false aNil) Γ s = .ok (.bl (if neg = true then !ns.isEmpty else ns.isEmpty)) s :=
  bin_at hf rfl (oEq_nil h)
theorem call_at {n : Nat} {F : List D → S → R D} {fa : XA} {Γ : Sl} {s s1 s2 : S} {ds : List D} {v : D} (ha : fa Γ s = .ok ds s1) (hl : ds.length = n) (hF : F ds s1 = .ok v s2) : xCall n F fa Γ s = .ok v s2 := by
  unfold xCall
  rw [ha]
  simp only [L3.R.bind, hl, if_true, hF]
theorem args_1 {f : XF} {Γ : Sl} {s s1 : S} {a : D} (hf : f Γ s = .ok a s1) : aCons f aNil Γ s = .ok [a] s1 := by
  simp only [aCons, aNil, hf, L3.R.bind]
theorem args_2 {f g : XF} {Γ : Sl} {s s1 s2 : S} {a b : D} (hf : f Γ s = .ok a s1) (hg : g Γ s1 = .ok b s2) : aCons f (aCons g aNil) Γ s = .ok [a, b] s2 := by
  simp only [aCons, aNil, hf, hg, L3.R.bind]
theorem meth0_at {C : Addr} {m : Str} {F : List D → S → R D} {f : XF} {Γ : Sl} {s s2 : S} {k : Nat} {fs : List (Str × D)} {v : D} (hf : f Γ s = .ok (.ref k) s) (hg : s.get k = some (.ins C fs)) (hm : fs.lookup m = none) (hF : F [.ref k] s = .ok v s2) : xMeth C m 1 F f aNil Γ s = .ok v s2 := by
  simp only [xMeth, hf, L3.R.bind, isIns_at hg, hm, Option.isNone_none, if_true, aNil, List.length_cons, List.length_nil, hF]
theorem meth1_at {C : Addr} {m : Str} {F : List D → S → R D} {f g : XF} {Γ : Sl} {s s1 s2 : S} {k : Nat} {fs : List (Str × D)} {a v : D} (hf : f Γ s = .ok (.ref k) s) (hg : s.get k = some (.ins C fs)) (hm : fs.lookup m = none) (ha : g Γ s = .ok a s1) (hF : F [.ref k, a] s1 = .ok v s2) : xMeth C m 2 F f (aCons g aNil) Γ s = .ok v s2 := by
  simp only [xMeth, hf, L3.R.bind, isIns_at hg, hm, Option.isNone_none, if_true, aCons, ha, aNil, List.length_cons, List.length_nil, hF]
theorem drop_at {f : XF} {Γ : Sl} {s s1 : S} {v : D} (h : f Γ s = .ok v s1) : sDrop f Γ s = .ok (.nx Γ) s1 := by
  unfold sDrop
  rw [h]; rfl
theorem oEq_s {neg : Bool} {f g : XF} {Γ : Sl} {s s1 s2 : S} {a b : Str} (hf : f Γ s = .ok (.str a) s1) (hg : g Γ s1 = .ok (.str b) s2) : xBin (oEq neg) f g Γ s = .ok (.bl (if neg = true then !decide (a = b) else decide (a = b))) s2 := by
  unfold xBin
  rw [hf]
  simp only [L3.R.bind, hg, oEq_str]
theorem cat_at {f : XF} {Γ : Sl} {s : S} {a b : Str} (hf : f Γ s = .ok (.str b) s) (h : a.length + b.length ≤ 1000000) : xBin (oAdd false) (xC (.str a)) f Γ s = .ok (.str (a ++ b)) s := by
  refine bin_at rfl hf ?_
  unfold oAdd
  dsimp only
  rw [if_pos (show _ ≤ LIM from h)]
theorem strc_at {f : XF} {Γ : Sl} {s s1 : S} {i : Int} (hf : f Γ s = .ok (.int i) s1) (h0 : 0 ≤ i) (h1 : i < 10 ^ 13) : xFn oStrC (aCons f aNil) Γ s = .ok (.str (num i)) s1 := by
  simp only [xFn, aCons, aNil, hf, L3.R.bind, str_ok h0 h1]
theorem ix_at {f g : XF} {Γ : Sl} {s s1 s2 : S} {x i v : D} (hf : f Γ s = .ok x s1) (hg : g Γ s1 = .ok i s2) (ho : oIx x i s2 = .ok v s2) : xBin oIx f g Γ s = .ok v s2 := by
  unfold xBin
  rw [hf]
  simp only [L3.R.bind, hg, ho]
theorem lst3_at {f g h : XF} {Γ : Sl} {s s1 s2 s3 : S} {a b c : D} (hf : f Γ s = .ok a s1) (hg : g Γ s1 = .ok b s2) (hh : h Γ s2 = .ok c s3) : xLst false (aCons f (aCons g (aCons h aNil))) Γ s = .ok (.lst [a, b, c]) s3 := by
  simp only [xLst, aCons, hf, hg, hh, aNil, L3.R.bind, newL, Bool.false_eq_true, if_false]
  rw [if_pos (by show 3 ≤ LIM; decide)]
theorem par_at {i j : Nat} {f g : XF} {Γ : Sl} {s s1 s2 : S} {a b : D} (hf : f Γ s = .ok a s1) (hg : g Γ s1 = .ok b s2) : sPar i j (aCons f (aCons g aNil)) Γ s = .ok (.nx ((Γ.set i (some a)).set j (some b))) s2 := by
  unfold sPar
  rw [args_2 hf hg]
  rfl
theorem ix_last {s : S} {x : Nat} {ds : List D} {d : D} (h : s.get x = some (.lst (ds ++ [d]))) : oIx (.ref x) (.int (-1)) s = .ok d s := by
  unfold oIx
  have e : atI (ds ++ [d]) (-1) = some d := by
    unfold atI ixN
    rw [if_neg (by decide), if_pos (by simp; omega)]
    have : ((-1 : Int) + ((ds ++ [d]).length : Int)).toNat = ds.length := by simp; omega
    rw [this]
    simp
  simp only [lst_at' h, e]
section
variable {K : PySem.W.Frag} {s : S} {u d r h q c : Nat} {R : Rn} {L Lh : RL} {zb : Int} {e : Nat}
theorem Inv46.draw (I : Inv46 K s u d r h q R L Lh c zb e) {m : Nat} (m1 : 1 ≤ m) (m2 : m < 2 ^ 62) (hz : zb < 2 ^ 59) :
    ∃ (v : Nat) (s' : S), f__law_dip K [.ref u, .int m] s = .ok (.int v) s' ∧ v < m ∧ Inv46 K s' u d r h q R L Lh c (zb + 1) e ∧ Fr [u] s s' := by
  obtain ⟨a, b, z, hu, hz1⟩ := I.hu
  obtain ⟨v, a', c', s', e, hv, hu', hc', f, w'⟩ := dip_ok (K := K) I.t.w hu m1 m2 (by omega)
  obtain ⟨pl, hq, hl⟩ := I.hq
  refine ⟨v, s', e, hv, ⟨I.t.other f (by simp; exact fun e => I.ud e.symm) (fun k hk => by simp; exact fun e => I.ur (e ▸ hk)) (fun k hk => by simp; exact fun e => I.uh (e ▸ hk)), ⟨a', b, c', hu', by omega⟩, ⟨pl, f.keep I.t.w hq (by simp; exact fun e => I.uq e.symm), hl⟩, I.ud, I.uq, I.dq, I.ur, I.uh, I.qr, I.qh⟩, f⟩
theorem Inv46.idle (I : Inv46 K s u d r h q R L Lh c zb e) {s' : S} (f : Fr [] s s') : Inv46 K s' u d r h q R L Lh c zb e := by
  obtain ⟨a, b, z, hu, hz1⟩ := I.hu
  obtain ⟨pl, hq, hl⟩ := I.hq
  exact ⟨I.t.other f (by simp) (by simp) (by simp), ⟨a, b, z, ⟨f.keep I.t.w hu.g (by simp), hu.a0, hu.b0, hu.b1, hu.c0⟩, hz1⟩, ⟨pl, f.keep I.t.w hq (by simp), hl⟩, I.ud, I.uq, I.dq, I.ur, I.uh, I.qr, I.qh⟩
/-- past is written -/
theorem Inv46.wq (I : Inv46 K s u d r h q R L Lh c zb e) (ds : List D) : Two K (s.put q (.lst ds)) d r h R L Lh c ∧ (∃ a b z, UAt (s.put q (.lst ds)) u a b z ∧ z ≤ zb) ∧ (s.put q (.lst ds)).get q = some (.lst ds) := by
  obtain ⟨a, b, z, hu, hz1⟩ := I.hu
  obtain ⟨pl, hq, hl⟩ := I.hq
  have f : Fr [q] s (s.put q (.lst ds)) := fr_put (by simp)
  exact ⟨I.t.other f (by simp; exact I.dq) (fun k hk => by simp; exact fun e => I.qr (e ▸ hk)) (fun k hk => by simp; exact fun e => I.qh (e ▸ hk)), ⟨a, b, z, ⟨f.keep I.t.w hu.g (by simp; exact I.uq), hu.a0, hu.b0, hu.b1, hu.c0⟩, hz1⟩, get_put_same hq⟩
theorem Inv46.mono (I : Inv46 K s u d r h q R L Lh c zb e) {c' : Nat} {zb' : Int} (h1 : c ≤ c') (h2 : zb ≤ zb') : Inv46 K s u d r h q R L Lh c' zb' e := by
  obtain ⟨a, b, z, hu, hz1⟩ := I.hu
  exact ⟨⟨I.t.w, I.t.hd, I.t.hr, I.t.hh, I.t.dj, I.t.dr, I.t.dh, I.t.n1, I.t.n40, by have := I.t.fl; omega, by have := I.t.sc; omega, by have := I.t.pa; omega⟩, ⟨a, b, z, hu, by omega⟩, I.hq, I.ud, I.uq, I.dq, I.ur, I.uh, I.qr, I.qh⟩
def J46 (u d r h q : Nat) (L Lh : RL) : List Nat := u :: d :: q :: (L.ids r ++ Lh.ids h)
theorem called_ok (I : Inv46 K s u d r h q R L Lh c zb 0) (hc : c ≤ 80) (hz : zb ≤ 10 ^ 9) :
    ∃ s' R' L' Lh', f__law_called K [.ref u, .ref d, .ref h, .ref q] s = .ok (.bl true) s' ∧ Inv46 K s' u d r h q R' L' Lh' (c + 1) (zb + 3) 0 ∧ R'.n = R.n ∧ Fr (J46 u d r h q L Lh) s s' ∧ ∀ j ∈ J46 u d r h q L' Lh', j ∈ J46 u d r h q L Lh ∨ s.nx ≤ j := by
  have hs : R.sc.length ≤ 50000 := by have := I.t.sc; omega
  let Γ (a w p : Option D) : Sl := [some (.ref u), some (.ref d), some (.ref h), some (.ref q), a, w, p, none, none, none]
  -- able
  have e1 := able_ok (K := K) (s := s) (Γ := Γ none none none) I.t.hh I.t.n40 hs rfl rfl
  generalize hA : abl 0 R.m.nms = A at e1
  let s1 := s.new (.lst (A.map nD))
  let x := s.nx
  have f1 : Fr [] s s1 := fr_new
  have I1 : Inv46 K s1 u d r h q R L Lh c zb 0 := I.idle f1
  have g1 : s1.get x = some (.lst (A.map nD)) := by rw [get_new, if_pos rfl]
  have xlt : x < s1.nx := Nat.lt_succ_self _
  have ult : u < x := by obtain ⟨a, b, z, hu, _⟩ := I.hu; exact I.t.w _ _ hu.g
  have qlt : q < x := by obtain ⟨pl, hq, _⟩ := I.hq; exact I.t.w _ _ hq
  -- way
  obtain ⟨way, s2, e2, hway, I2, f2⟩ := I1.draw (m := 8) (by decide) (by decide) (by omega)
  have g2 : s2.get x = some (.lst (A.map nD)) := f2.keep I1.t.w g1 (by simp; omega)
  obtain ⟨pl, hq2, hpl⟩ := I2.hq
  have F12 : Fr (J46 u d r h q L Lh) s s2 := (f1.sub (by simp)).tr (f2.sub fun k hk _ => by simp at hk; simp [J46, hk])
  have Jself : ∀ j ∈ J46 u d r h q L Lh, j ∈ J46 u d r h q L Lh ∨ s.nx ≤ j := fun j hj => .inl hj
  have start : ∀ {res : L3.R Fl}, (sSeq (sIf (bAnd (bOf (xBin (oEq false) (xVar 5) (xC (.int 0)))) (bOf (xBin (oEq true) (xVar 3) (xLst false aNil))))
      (sSeq (sDrop (xBM "list" mPop (xVar 3) aNil))
      (sSeq (sDrop (xMeth (He.ga K "Run") "undo" 1 (f_Run_undo K) (xVar 2) aNil))
      (sRet (xBin (oEq false) (xMeth (He.ga K "Desk") "execute" 2 (f_Desk_execute K) (xVar 1) (aCons (xC (.str "undo")) aNil)) (xC (.str "ok"))))))
      sNil)
      (sSeq (sIf (bOf (xBin (oEq false) (xVar 4) (xLst false aNil)))
      (sRet (xC (.bl true)))
      sNil)
      (sSeq (sDrop (xBM "list" mAppend (xVar 3) (aCons (xVar 5) aNil)))
      (sSeq (sSet 6 (xBin oIx (xLst false (aCons (xBin oIx (xVar 4) (xCall 2 (f__law_dip K) (aCons (xVar 0) (aCons (xFn oLen (aCons (xVar 4) aNil)) aNil)))) (aCons (xBin oIx (xVar 4) (xC (.int 0))) (aCons (xBin oIx (xVar 4) (xNeg (xC (.int 1)))) aNil)))) (xCall 2 (f__law_dip K) (aCons (xVar 0) (aCons (xC (.int 3)) aNil)))))
      (sSeq (sIf (bAnd (bOf (xBin (oEq false) (xVar 5) (xC (.int 1)))) (bOf (xBin oLt (xFn (oLenO (He.ga K "Run") (f_Run___len__ K)) (aCons (xVar 2) aNil)) (xC (.int 400)))))
      (sRet (xBin (oEq false) (xMeth (He.ga K "Desk") "execute" 2 (f_Desk_execute K) (xVar 1) (aCons (xBin (oAdd false) (xC (.str "finish ")) (xFn oStrC (aCons (xVar 6) aNil))) aNil)) (xFn oStrC (aCons (xMeth (He.ga K "Run") "finish" 2 (f_Run_finish K) (xVar 2) (aCons (xVar 6) aNil)) aNil))))
      sNil)
      (sSeq (sPar 7 8 (aCons (xMeth (He.ga K "Desk") "execute" 2 (f_Desk_execute K) (xVar 1) (aCons (xBin (oAdd false) (xC (.str "step ")) (xFn oStrC (aCons (xVar 6) aNil))) aNil)) (aCons (xMeth (He.ga K "Run") "step" 2 (f_Run_step K) (xVar 2) (aCons (xVar 6) aNil)) aNil)))
      (sRet (xBin (oEq false) (xVar 7) (xIf (bOf (xBin (oIs false) (xVar 8) (xC .non))) (xC (.str "-")) (xBin (oAdd false) (xBin (oAdd false) (xBin oIx (xVar 8) (xC (.int 0))) (xC (.str " "))) (xFn oStrC (aCons (xBin oIx (xVar 8) (xC (.int 1))) aNil))))))))))))
      (Γ (some (.ref x)) (some (.int way)) none) s2 = res → b__law_called K (Γ none none none) s = res := by
    intro res hres
    unfold b__law_called
    rw [seq_ok (Γ' := Γ (some (.ref x)) none none) (s' := s1) (set_at e1), seq_ok (Γ' := Γ (some (.ref x)) (some (.int way)) none) (s' := s2) (set_at (call_at (args_2 rfl rfl) rfl e2))]
    exact hres
  have w0 : xBin (oEq false) (xVar 5) (xC (.int 0)) (Γ (some (.ref x)) (some (.int way)) none) s2 = .ok (.bl (decide ((way : Int) = 0))) s2 := eq_at rfl rfl
  have pn : xBin (oEq true) (xVar 3) (xLst false aNil) (Γ (some (.ref x)) (some (.int way)) none) s2 = .ok (.bl (!pl.isEmpty)) s2 := nil_at rfl (lst_at' hq2)
  by_cases hA0 : way = 0 ∧ pl ≠ []
  · -- undo
    obtain ⟨h0, hne⟩ := hA0
    subst h0
    have hpa : ∃ pa k, R.pa = pa ++ [k] := by
      have : R.pa ≠ [] := fun e => hne (List.length_eq_zero_iff.mp (by rw [hpl, e]; rfl))
      exact ⟨R.pa.dropLast, R.pa.getLast this, (List.dropLast_concat_getLast this).symm⟩
    obtain ⟨pa, k, hpa⟩ := hpa
    obtain ⟨t3, hu3, hq3⟩ := I2.wq (pl.map D.int).dropLast
    let s3 := s2.put q (.lst (pl.map D.int).dropLast)
    have f3 : Fr [q] s2 s3 := fr_put (by simp)
    obtain ⟨s4, s5, L', Lh', e4, e5, gh4, gd4, t5, f5, kr, kh⟩ := two_undo t3 hpa (by omega)
    have hplen : (pl.map D.int) ≠ [] := by simpa using hne
    have pop : mPop (.ref q) [] s2 = .ok ((pl.map D.int).getLast hplen) s3 := by
      unfold mPop
      simp only [hq2]
      have : (pl.map D.int)[(pl.map D.int).length - 1]? = some ((pl.map D.int).getLast hplen) := by
        rw [← List.getLast?_eq_getElem?, List.getLast?_eq_getLast hplen]
      rw [this]
    obtain ⟨a, b, z, hu, hzz⟩ := hu3
    have uf : u ∉ L.ids r ++ Lh.ids h := fun z => (List.mem_append.mp z).elim I.ur I.uh
    have qf : q ∉ L.ids r ++ Lh.ids h := fun z => (List.mem_append.mp z).elim I.qr I.qh
    have kr : ∀ j ∈ L'.ids r, j ∈ L.ids r ∨ s2.nx ≤ j := kr
    have kh : ∀ j ∈ Lh'.ids h, j ∈ Lh.ids h ∨ s2.nx ≤ j := kh
    have nx2 := F12.nx
    refine ⟨s5, _, L', Lh', fnB_rt (start ?_), ⟨⟨t5.w, t5.hd, t5.hr, t5.hh, t5.dj, t5.dr, t5.dh, t5.n1, t5.n40, by have := t5.fl; omega, by have := t5.sc; omega, by have := t5.pa; omega⟩, ⟨a, b, z, ⟨f5.keep t3.w hu.g uf, hu.a0, hu.b0, hu.b1, hu.c0⟩, by omega⟩, ⟨pl.dropLast, ?_, ?_⟩, I.ud, I.uq, I.dq, ?_, ?_, ?_, ?_⟩, rfl, ?_, ?_⟩
    · refine seq_rt ?_
      rw [if_t (s1 := s2) (by
        rw [and_t (bof_at w0)]
        refine bof_at ?_
        rw [pn]
        cases pl with
        | nil => exact absurd rfl hne
        | cons a b => rfl)]
      have v3 : xBM "list" mPop (xVar 3) aNil (Γ (some (.ref x)) (some (.int (0 : Nat))) none) s2 = .ok ((pl.map D.int).getLast hplen) s3 := by
        show xBM "list" mPop (xVar 3) aNil [some (.ref u), some (.ref d), some (.ref h), some (.ref q), some (.ref x), some (.int (0 : Nat)), none, none, none, none] s2 = _
        simp only [xBM, xVar, List.getElem?_cons_zero, List.getElem?_cons_succ, L3.R.bind, isTy_lst hq2, if_true, aNil, pop]
      rw [seq_ok (drop_at v3)]
      rw [seq_ok (drop_at (meth0_at (m := "undo") rfl t3.hh.gi rfl e4))]
      refine ret_at ?_
      rw [oEq_s (meth1_at (m := "execute") rfl gd4 rfl rfl e5) rfl]
      rfl
    · rw [f5.keep t3.w hq3 qf, List.map_dropLast]
    · rw [List.length_dropLast, hpl, hpa, List.length_append]
      rfl
    · exact fun z => (kr u z).elim I.ur fun e => by omega
    · exact fun z => (kh u z).elim I.uh fun e => by omega
    · exact fun z => (kr q z).elim I.qr fun e => by omega
    · exact fun z => (kh q z).elim I.qh fun e => by omega
    · exact F12.tr ((f3.sub fun k hk _ => by simp at hk; simp [J46, hk]).tr (f5.sub fun k hk _ => by simp only [J46, List.mem_cons]; exact .inr (.inr (.inr hk))))
    · intro j hj
      simp only [J46, List.mem_cons, List.mem_append] at hj ⊢
      rcases hj with e | e | e | e | e
      · exact .inl (.inl e)
      · exact .inl (.inr (.inl e))
      · exact .inl (.inr (.inr (.inl e)))
      · exact (kr j e).elim (fun e => .inl (.inr (.inr (.inr (.inl e))))) fun e => .inr (by omega)
      · exact (kh j e).elim (fun e => .inl (.inr (.inr (.inr (.inr e))))) fun e => .inr (by omega)
  · -- no undo
    have c1 : bAnd (bOf (xBin (oEq false) (xVar 5) (xC (.int 0)))) (bOf (xBin (oEq true) (xVar 3) (xLst false aNil))) (Γ (some (.ref x)) (some (.int way)) none) s2 = .ok false s2 := by
      by_cases h0 : way = 0
      · have : pl = [] := by
          cases pl with
          | nil => rfl
          | cons a b => exact absurd ⟨h0, by simp⟩ hA0
        subst this
        rw [and_t (bof_at (by rw [w0, h0]; rfl))]
        exact bof_at pn
      · exact and_f (bof_at (by rw [w0, decide_eq_false (by omega)]))
    have an : xBin (oEq false) (xVar 4) (xLst false aNil) (Γ (some (.ref x)) (some (.int way)) none) s2 = .ok (.bl (A.map fun (p : Nat) => (p : Int)).isEmpty) s2 := nil_at rfl (by rw [lst_at' g2, nD_map])
    cases hAe : A with
    | nil =>
      rw [hAe] at an
      refine ⟨s2, R, L, Lh, fnB_rt (start ?_), I2.mono (by omega) (by omega), rfl, F12, Jself⟩
      rw [seq_ok (by rw [if_f c1]; rfl)]
      refine seq_rt ?_
      rw [if_t (bof_at an)]
      rfl
    | cons a0 A' =>
      have hAne : A ≠ [] := by rw [hAe]; simp
      have hA1 : 0 < A.length := by rw [hAe]; exact Nat.succ_pos _
      have hA2 : A.length ≤ 40 := by
        rw [← hA]
        refine Nat.le_trans (abl_len _ _) ?_
        rw [nms_len, Rn.mn]
        exact I.t.n40
      rw [hAe] at an
      have an : xBin (oEq false) (xVar 4) (xLst false aNil) (Γ (some (.ref x)) (some (.int way)) none) s2 = .ok (.bl false) s2 := an
      -- past.append
      obtain ⟨t3, hu3, hq3⟩ := I2.wq (pl.map D.int ++ [.int way])
      let s3 := s2.put q (.lst (pl.map D.int ++ [.int way]))
      have f3 : Fr [q] s2 s3 := fr_put (by simp)
      have hpl3 := I2.t.pa
      have I3 : Inv46 K s3 u d r h q R L Lh c (zb + 1) 1 := ⟨t3, hu3, ⟨pl ++ [(way : Int)], by rw [hq3, List.map_append]; rfl, by rw [List.length_append, hpl]; rfl⟩, I.ud, I.uq, I.dq, I.ur, I.uh, I.qr, I.qh⟩
      have g3 : s3.get x = some (.lst (A.map nD)) := f3.keep I2.t.w g2 (by simp; omega)
      have ap := append_ok (d := .int way) hq2 (by rw [List.length_map, hpl]; show _ < 1000000; omega)
      -- who
      obtain ⟨v1, s4, e4, hv1, I4, f4⟩ := I3.draw (m := A.length) hA1 (by omega) (by omega)
      have g4 : s4.get x = some (.lst (A.map nD)) := f4.keep I3.t.w g3 (by simp; omega)
      obtain ⟨v2, s5, e5, hv2, I5, f5⟩ := I4.draw (m := 3) (by decide) (by decide) (by omega)
      have F15 : Fr (J46 u d r h q L Lh) s s5 := F12.tr ((f3.sub fun k hk _ => by simp at hk; simp [J46, hk]).tr ((f4.sub fun k hk _ => by simp at hk; simp [J46, hk]).tr (f5.sub fun k hk _ => by simp at hk; simp [J46, hk])))
      obtain ⟨p1, hp1⟩ : ∃ p, A[v1]? = some p := ⟨_, List.getElem?_eq_getElem hv1⟩
      have z : A = A.dropLast ++ [A.getLast hAne] := (List.dropLast_concat_getLast hAne).symm
      obtain ⟨p, hpA, hp⟩ : ∃ p, p ∈ A ∧ ([nD p1, nD a0, nD (A.getLast hAne)] : List D)[v2]? = some (nD p) := by
        have : v2 = 0 ∨ v2 = 1 ∨ v2 = 2 := by omega
        rcases this with e | e | e
        · subst e; exact ⟨p1, List.mem_of_getElem? hp1, rfl⟩
        · subst e; exact ⟨a0, by rw [hAe]; exact List.mem_cons_self, rfl⟩
        · subst e; exact ⟨_, List.getLast_mem hAne, rfl⟩
      have whoE : xBin oIx (xLst false (aCons (xBin oIx (xVar 4) (xCall 2 (f__law_dip K) (aCons (xVar 0) (aCons (xFn oLen (aCons (xVar 4) aNil)) aNil)))) (aCons (xBin oIx (xVar 4) (xC (.int 0))) (aCons (xBin oIx (xVar 4) (xNeg (xC (.int 1)))) aNil)))) (xCall 2 (f__law_dip K) (aCons (xVar 0) (aCons (xC (.int 3)) aNil)))
          (Γ (some (.ref x)) (some (.int way)) none) s3 = .ok (nD p) s5 := by
        have ln : xFn oLen (aCons (xVar 4) aNil) (Γ (some (.ref x)) (some (.int way)) none) s3 = .ok (.int A.length) s3 := by
          have := len_at (f := xVar 4) (Γ := Γ (some (.ref x)) (some (.int way)) none) (s := s3) rfl (lst_at' g3)
          rw [List.length_map] at this
          exact this
        refine ix_at (lst3_at (a := nD p1) (b := nD a0) (c := nD (A.getLast hAne)) (s2 := s4) (ix_at (s1 := s3) (x := .ref x) rfl (call_at (args_2 rfl ln) rfl e4) (oIx_at g4 (by rw [List.getElem?_map, hp1]; rfl))) (ix_at (s1 := s4) (x := .ref x) rfl rfl (oIx_at (p := 0) g4 (by rw [hAe]; rfl))) (ix_at (s1 := s4) (s2 := s4) (x := .ref x) rfl rfl ?_)) (call_at (args_2 rfl rfl) rfl e5) ?_
        · refine ix_last (ds := A.dropLast.map nD) ?_
          have z2 : A.map nD = A.dropLast.map nD ++ [nD (A.getLast hAne)] := (congrArg (List.map nD) z).trans List.map_append
          rw [g4, z2]
        · unfold oIx lstOf
          simp only [atI_nat hp]
      have hpst := able_st (M := R.m) (by rw [hA]; exact hpA)
      have hpn : p < R.n := by rw [← Rn.mn R]; exact hpst.1
      have hpt : R.m.st[p]? = some false := st_get I.t.hr.ok hpst.1 hpst.2
      have hpi : (0 : Int) ≤ p := by omega
      have hp40 := I.t.n40
      have pl13 : (num p).length ≤ 13 := numI_len hpi (by omega)
      have go : ∀ {res : L3.R Fl}, (sSeq (sIf (bAnd (bOf (xBin (oEq false) (xVar 5) (xC (.int 1)))) (bOf (xBin oLt (xFn (oLenO (He.ga K "Run") (f_Run___len__ K)) (aCons (xVar 2) aNil)) (xC (.int 400)))))
          (sRet (xBin (oEq false) (xMeth (He.ga K "Desk") "execute" 2 (f_Desk_execute K) (xVar 1) (aCons (xBin (oAdd false) (xC (.str "finish ")) (xFn oStrC (aCons (xVar 6) aNil))) aNil)) (xFn oStrC (aCons (xMeth (He.ga K "Run") "finish" 2 (f_Run_finish K) (xVar 2) (aCons (xVar 6) aNil)) aNil))))
          sNil)
          (sSeq (sPar 7 8 (aCons (xMeth (He.ga K "Desk") "execute" 2 (f_Desk_execute K) (xVar 1) (aCons (xBin (oAdd false) (xC (.str "step ")) (xFn oStrC (aCons (xVar 6) aNil))) aNil)) (aCons (xMeth (He.ga K "Run") "step" 2 (f_Run_step K) (xVar 2) (aCons (xVar 6) aNil)) aNil)))
          (sRet (xBin (oEq false) (xVar 7) (xIf (bOf (xBin (oIs false) (xVar 8) (xC .non))) (xC (.str "-")) (xBin (oAdd false) (xBin (oAdd false) (xBin oIx (xVar 8) (xC (.int 0))) (xC (.str " "))) (xFn oStrC (aCons (xBin oIx (xVar 8) (xC (.int 1))) aNil)))))))) (Γ (some (.ref x)) (some (.int way)) (some (nD p))) s5 = res → b__law_called K (Γ none none none) s = res := by
        intro res hres
        refine start ?_
        rw [seq_ok (by rw [if_f c1]; rfl), seq_ok (by rw [if_f (bof_at an)]; rfl)]
        have v3 : xBM "list" mAppend (xVar 3) (aCons (xVar 5) aNil) (Γ (some (.ref x)) (some (.int way)) none) s2 = .ok .non s3 := by
          show xBM "list" mAppend (xVar 3) (aCons (xVar 5) aNil) [some (.ref u), some (.ref d), some (.ref h), some (.ref q), some (.ref x), some (.int way), none, none, none, none] s2 = _
          simp only [xBM, xVar, List.getElem?_cons_zero, List.getElem?_cons_succ, L3.R.bind, isTy_lst hq2, if_true, aCons, aNil, ap]
          rfl
        rw [seq_ok (drop_at v3), seq_ok (Γ' := Γ (some (.ref x)) (some (.int way)) (some (nD p))) (s' := s5) (set_at whoE)]
        exact hres
      have t5 := I5.t
      have hlen5 : xFn (oLenO (He.ga K "Run") (f_Run___len__ K)) (aCons (xVar 2) aNil) (Γ (some (.ref x)) (some (.int way)) (some (nD p))) s5 = .ok (.int R.sc.length) s5 := by
        have e := len_ok t5.hh
        have i := isIns_at t5.hh.gi
        show xFn (oLenO (He.ga K "Run") (f_Run___len__ K)) (aCons (xVar 2) aNil) [some (.ref u), some (.ref d), some (.ref h), some (.ref q), some (.ref x), some (.int way), some (nD p), none, none, none] s5 = _
        simp only [xFn, aCons, aNil, xVar, List.getElem?_cons_zero, List.getElem?_cons_succ, L3.R.bind, oLenO, i, e, noexc]
        rw [if_pos ⟨by omega, by omega⟩]
      have w1 : xBin (oEq false) (xVar 5) (xC (.int 1)) (Γ (some (.ref x)) (some (.int way)) (some (nD p))) s5 = .ok (.bl (decide ((way : Int) = 1))) s5 := eq_at rfl rfl
      have strp : xFn oStrC (aCons (xVar 6) aNil) (Γ (some (.ref x)) (some (.int way)) (some (nD p))) s5 = .ok (.str (num p)) s5 := strc_at (i := p) rfl hpi (by omega)
      have uf : u ∉ L.ids r ++ Lh.ids h := fun z => (List.mem_append.mp z).elim I.ur I.uh
      have qf : q ∉ L.ids r ++ Lh.ids h := fun z => (List.mem_append.mp z).elim I.qr I.qh
      obtain ⟨a, b, zz, hu5, hzz⟩ := I5.hu
      obtain ⟨pl5, hq5, hpl5⟩ := I5.hq
      by_cases hfin : way = 1 ∧ R.sc.length < 400
      · -- finish
        obtain ⟨s6, s7, v, R', e6, e7, v0, v13, gh6, t7, hRn, hRpa, f7⟩ := two_finish t5 (by omega) hpn hpt
        refine ⟨s7, R', L, Lh, fnB_rt (go ?_), ⟨t7, ⟨a, b, zz, ⟨f7.keep t5.w hu5.g uf, hu5.a0, hu5.b0, hu5.b1, hu5.c0⟩, by omega⟩, ⟨pl5, f7.keep t5.w hq5 qf, by rw [hpl5, hRpa]⟩, I.ud, I.uq, I.dq, I.ur, I.uh, I.qr, I.qh⟩, hRn, F15.tr (f7.sub fun k hk _ => by simp only [J46, List.mem_cons]; exact .inr (.inr (.inr hk))), Jself⟩
        refine seq_rt ?_
        rw [if_t (s1 := s5) (by
          rw [and_t (bof_at (by rw [w1, decide_eq_true (by omega)]))]
          refine bof_at ?_
          rw [lt_at hlen5 rfl, decide_eq_true (by omega)])]
        refine ret_at ?_
        have fin0 : xBin (oAdd false) (xC (.str "finish ")) (xFn oStrC (aCons (xVar 6) aNil)) (Γ (some (.ref x)) (some (.int way)) (some (nD p))) s5 = .ok (.str ("finish" ++ " " ++ num p)) s5 := by
          rw [cat_at strp (by rw [show ("finish " : Str).length = 7 from by decide]; omega), show ("finish " : Str) = "finish" ++ " " from by decide +kernel]
        rw [oEq_s (meth1_at (m := "execute") rfl t5.hd rfl fin0 e6) (strc_at (meth1_at (m := "finish") rfl gh6 rfl rfl e7) v0 v13)]
        simp
      · -- step
        obtain ⟨s6, s7, e6, e7, gh6, t7, f7⟩ := two_step t5 (by omega) hpn hpt
        refine ⟨s7, _, L, Lh, fnB_rt (go ?_), ⟨t7, ⟨a, b, zz, ⟨f7.keep t5.w hu5.g uf, hu5.a0, hu5.b0, hu5.b1, hu5.c0⟩, by omega⟩, ⟨pl5, f7.keep t5.w hq5 qf, by rw [hpl5, List.length_append]; rfl⟩, I.ud, I.uq, I.dq, I.ur, I.uh, I.qr, I.qh⟩, rfl, F15.tr (f7.sub fun k hk _ => by simp only [J46, List.mem_cons]; exact .inr (.inr (.inr hk))), Jself⟩
        have c2 : bAnd (bOf (xBin (oEq false) (xVar 5) (xC (.int 1)))) (bOf (xBin oLt (xFn (oLenO (He.ga K "Run") (f_Run___len__ K)) (aCons (xVar 2) aNil)) (xC (.int 400)))) (Γ (some (.ref x)) (some (.int way)) (some (nD p))) s5 = .ok false s5 := by
          by_cases h1 : way = 1
          · rw [and_t (bof_at (by rw [w1, decide_eq_true (by omega)]))]
            refine bof_at ?_
            rw [lt_at hlen5 rfl, decide_eq_false (fun z => hfin ⟨h1, by omega⟩)]
          · exact and_f (bof_at (by rw [w1, decide_eq_false (by omega)]))
        rw [seq_ok (by rw [if_f c2]; rfl)]
        have stp : xBin (oAdd false) (xC (.str "step ")) (xFn oStrC (aCons (xVar 6) aNil)) (Γ (some (.ref x)) (some (.int way)) (some (nD p))) s5 = .ok (.str ("step" ++ " " ++ num p)) s5 := by
          rw [cat_at strp (by rw [show ("step " : Str).length = 5 from by decide]; omega), show ("step " : Str) = "step" ++ " " from by decide +kernel]
        rw [seq_ok (par_at (meth1_at (m := "execute") rfl t5.hd rfl stp e6) (meth1_at (m := "step") rfl gh6 rfl rfl e7))]
        refine ret_at ?_
        have tl := told_lt t5.hr.ok (by omega) (by rw [Rn.mn]; exact hpn : p < R.m.n)
        have ts := told_S (s := s7) tl (Γ := ((Γ (some (.ref x)) (some (.int way)) (some (nD p))).set 7 (some (.str (tS (R.m.toldOf p))))).set 8 (some (tD (R.m.toldOf p)))) (i := 8) rfl
        rw [oEq_s (f := xVar 7) (s1 := s7) (a := tS (R.m.toldOf p)) rfl ts]
        simp
end
end L3

set_option Elab.async false
set_option linter.all false
set_option maxRecDepth 100000
set_option maxHeartbeats 1000000
set_option exponentiation.threshold 600
namespace L3
open PySem PySem.Spec PyProof.Rows L2

theorem comp_step {ch : S → Bool} {g : D → Sl → S → L3.R Sl} {e : XF} {Γ Γ' : Sl} {s s' : S} {d v : D} {r acc : List D} (hch : ch s = true) (hg : g d Γ s = .ok Γ' s) (he : e Γ' s = .ok v s') (hl : acc.length < LIM) : compL ch g bYes e Γ (d :: r) acc s = compL ch g bYes e Γ r (acc ++ [v]) s' := by
  show (if ch s = true then _ else _) = _
  rw [if_pos hch, hg]
  simp only [noX, L3.R.bind, bYes, if_true, he]
  rw [if_pos hl]
theorem comp_end {ch : S → Bool} {g : D → Sl → S → L3.R Sl} {e : XF} {Γ : Sl} {s : S} {acc : List D} (hch : ch s = true) : compL ch g bYes e Γ [] acc s = .ok acc s := by
  show (if ch s = true then _ else _) = _
  rw [if_pos hch]
theorem small_nat {n : Nat} (h : n ≤ 1000000) : small62 (n : Int) = true := by
  have a : (n : Int) < 2 ^ 62 := Int.lt_of_le_of_lt (Int.ofNat_le.mpr h) (by decide)
  have b : -(2 ^ 62) ≤ (n : Int) := Int.le_trans (by decide : (-(2 ^ 62) : Int) ≤ 0) (Int.natCast_nonneg n)
  unfold small62
  rw [decide_eq_true a, decide_eq_true b]
  rfl
theorem rng_aux (q : Int → Bool) {f : XF} {Γ : Sl} {s1 s : S} {n : Nat} (hf : f Γ s = .ok (.int n) s1) (hq : q n = true) : ((f Γ s).bind fun d s => match d with
  | .int j => if q j = true then .ok (⟨rng 0 j.toNat, yes⟩ : Wk) s else .bad
  | _ => .bad) = R.ok ⟨rng 0 n, yes⟩ s1 := by
  rw [hf]
  show (if q (n : Int) = true then R.ok (⟨rng 0 (n : Int).toNat, yes⟩ : Wk) s1 else R.bad) = _
  rw [if_pos hq, Int.toNat_natCast]
theorem range1_at {f : XF} {Γ : Sl} {s1 s : S} {n : Nat} (hf : f Γ s = .ok (.int n) s1) (hn : n ≤ 1000000) : iRange1 f Γ s = .ok ⟨rng 0 n, yes⟩ s1 := rng_aux small62 hf (small_nat hn)
theorem for_at {it : XI} {p : Wk} {g : D → Sl → S → L3.R Sl} {b : XS} {Γ : Sl} {s1 s2 s : S} {r : Fl} (hf : it Γ s = .ok p s1) (h : forL p.chk g b p.ds Γ s1 = .ok r s2) : sFor it g b Γ s = .ok r s2 := by
  unfold sFor
  rw [hf]
  exact h
section
variable {K : PySem.W.Frag} {s : S}
theorem mkRun_ok {Γ : Sl} {f : XF} {c : Nat} (w : WF s) (hf : f Γ s = .ok (.int c) s) (h1 : 1 ≤ c) (h2 : c ≤ 40) :
    ∃ s' L, xMake (He.ga K "Run") 2 (f_Run___init__ K) (aCons f aNil) Γ s = .ok (.ref s.nx) s' ∧ RAt K s' s.nx ⟨c, [], []⟩ L ∧ Fr [] s s' ∧ WF s' ∧ ∀ k ∈ L.ids s.nx, s.nx ≤ k := by
  have w0 := wf_new w (.ins (He.ga K "Run") [])
  obtain ⟨s1, L, e1, h1', f1, w1, k1⟩ := rinit_ok (K := K) (r := s.nx) (c := c) w0 (by rw [get_new, if_pos rfl]) h1 h2
  refine ⟨s1, L, ?_, h1', fr_new.trans f1 fun k hk hlt => by simp at hk; omega, w1, fun k hk => ?_⟩
  · simp only [xMake, aCons, aNil, hf, L3.R.bind, List.length_cons, List.length_nil, if_true, e1]
  · rcases k1 k hk with e | e
    · omega
    · rw [nx_new] at e; omega
theorem mkDesk_ok {Γ : Sl} (w : WF s) : ∃ s', xMake (He.ga K "Desk") 1 (f_Desk___init__ K) aNil Γ s = .ok (.ref s.nx) s' ∧ s'.get s.nx = some (.ins (He.ga K "Desk") [("run_held", .non)]) ∧ Fr [] s s' ∧ WF s' ∧ s.nx < s'.nx := by
  have w0 := wf_new w (.ins (He.ga K "Desk") [])
  have g0 : (s.new (.ins (He.ga K "Desk") [])).get s.nx = some (.ins (He.ga K "Desk") []) := by rw [get_new, if_pos rfl]
  let s1 := (s.new (.ins (He.ga K "Desk") [])).put s.nx (.ins (He.ga K "Desk") [("run_held", .non)])
  have e : f_Desk___init__ K [.ref s.nx] (s.new (.ins (He.ga K "Desk") [])) = .ok .non s1 := by
    refine fnB_nx (Γ := [some (.ref s.nx)]) ?_
    show b_Desk___init__ K [some (.ref s.nx)] _ = _
    unfold b_Desk___init__
    exact fldset_ok rfl rfl g0 (by show 0 < 1000; decide)
  refine ⟨s1, ?_, get_put_same g0, ?_, wf_put w0 _ _, Nat.lt_succ_self _⟩
  · simp only [xMake, aNil, L3.R.bind, List.length_nil, if_true, e]
  · exact fr_new.trans (fr_put (L := [s.nx]) (by simp)) fun k hk hlt => by simp at hk; omega
/-- one of three drawn sizes -/
theorem dip1 {Γ : Sl} {u m : Nat} {a b c : Int} (hΓ : Γ[2]? = some (some (.ref u))) (w : WF s) (h : UAt s u a b c) (m1 : 1 ≤ m) (m2 : m < 1000) (hc : c < 1000000) :
    ∃ (v : Nat) (a' c' : Int) (s' : S), xCall 2 (f__law_dip K) (aCons (xVar 2) (aCons (xC (.int m)) aNil)) Γ s = .ok (.int v) s' ∧ v < m ∧ UAt s' u a' b c' ∧ c' ≤ c + 1 ∧ Fr [u] s s' ∧ WF s' := by
  obtain ⟨v, a', c', s', e, r⟩ := dip_ok (K := K) w h m1 (by omega) (by omega)
  exact ⟨v, a', c', s', call_at (args_2 (by unfold xVar; rw [hΓ]) rfl) rfl e, r⟩
theorem add1 {Γ : Sl} {f : XF} {s' : S} {v : Nat} (hf : f Γ s = .ok (.int v) s') : xBin (oAdd false) (xC (.int 1)) f Γ s = .ok (.int ((v + 1 : Nat) : Int)) s' := by
  unfold xBin
  simp only [xC, L3.R.bind, hf]
  show R.ok (D.int (1 + (v : Int))) s' = _
  rw [show (1 : Int) + v = ((v + 1 : Nat) : Int) by omega]
theorem size_ok {Γ : Sl} {u : Nat} {a b c : Int} (hΓ : Γ[2]? = some (some (.ref u))) (w : WF s) (h : UAt s u a b c) (hc : c < 900000) :
    ∃ (z : Nat) (a' c' : Int) (s' : S), xBin oIx (xLst false (aCons (xBin (oAdd false) (xC (.int 1)) (xCall 2 (f__law_dip K) (aCons (xVar 2) (aCons (xC (.int 4)) aNil)))) (aCons (xBin (oAdd false) (xC (.int 1)) (xCall 2 (f__law_dip K) (aCons (xVar 2) (aCons (xC (.int 12)) aNil)))) (aCons (xBin (oAdd false) (xC (.int 1)) (xCall 2 (f__law_dip K) (aCons (xVar 2) (aCons (xC (.int 40)) aNil)))) aNil)))) (xCall 2 (f__law_dip K) (aCons (xVar 2) (aCons (xC (.int 3)) aNil))) Γ s = .ok (.int z) s' ∧
      1 ≤ z ∧ z ≤ 40 ∧ UAt s' u a' b c' ∧ c' ≤ c + 4 ∧ Fr [u] s s' ∧ WF s' := by
  obtain ⟨v1, a1, c1, s1, e1, b1, h1, d1, f1, w1⟩ := dip1 (K := K) (Γ := Γ) (m := 4) hΓ w h (by decide) (by decide) (by omega)
  obtain ⟨v2, a2, c2, s2, e2, b2, h2, d2, f2, w2⟩ := dip1 (K := K) (Γ := Γ) (m := 12) hΓ w1 h1 (by decide) (by decide) (by omega)
  obtain ⟨v3, a3, c3, s3, e3, b3, h3, d3, f3, w3⟩ := dip1 (K := K) (Γ := Γ) (m := 40) hΓ w2 h2 (by decide) (by decide) (by omega)
  obtain ⟨v4, a4, c4, s4, e4, b4, h4, d4, f4, w4⟩ := dip1 (K := K) (Γ := Γ) (m := 3) hΓ w3 h3 (by decide) (by decide) (by omega)
  obtain ⟨z, hz, z1, z2⟩ : ∃ z : Nat, ([D.int ((v1 + 1 : Nat) : Int), .int ((v2 + 1 : Nat) : Int), .int ((v3 + 1 : Nat) : Int)] : List D)[v4]? = some (.int z) ∧ 1 ≤ z ∧ z ≤ 40 := by
    have : v4 = 0 ∨ v4 = 1 ∨ v4 = 2 := by omega
    rcases this with e | e | e
    · subst e; exact ⟨v1 + 1, rfl, by omega, by omega⟩
    · subst e; exact ⟨v2 + 1, rfl, by omega, by omega⟩
    · subst e; exact ⟨v3 + 1, rfl, by omega, by omega⟩
  refine ⟨z, a4, c4, s4, ix_at (lst3_at (add1 e1) (add1 e2) (add1 e3)) e4 ?_, z1, z2, h4, by omega, f1.tr (f2.tr (f3.tr f4)), w4⟩
  unfold oIx lstOf
  simp only [atI_nat hz]
theorem turn_ok {Γ : Sl} {u d zk : Nat} {a b z : Int} {x x0 x1 x3 x5 x6 x7 x8 x9 x10 : Option D} {hd0 : D} (hz : zk ≤ 1000) (hΓ : Γ = [x0, x1, some (.ref u), x3, some (.ref d), x5, x6, x7, x8, x9, x10]) (w : WF s) (hd : s.get d = some (.ins (He.ga K "Desk") [("run_held", hd0)])) (hu : UAt s u a b z) (hzz : z ≤ zk) (ud : u ≠ d) :
    ∃ s' y6 y7 y8 y9, sSeq (sSet 6 (xBin oIx (xLst false (aCons (xBin (oAdd false) (xC (.int 1)) (xCall 2 (f__law_dip K) (aCons (xVar 2) (aCons (xC (.int 4)) aNil)))) (aCons (xBin (oAdd false) (xC (.int 1)) (xCall 2 (f__law_dip K) (aCons (xVar 2) (aCons (xC (.int 12)) aNil)))) (aCons (xBin (oAdd false) (xC (.int 1)) (xCall 2 (f__law_dip K) (aCons (xVar 2) (aCons (xC (.int 40)) aNil)))) aNil)))) (xCall 2 (f__law_dip K) (aCons (xVar 2) (aCons (xC (.int 3)) aNil)))))
    (sSeq (sPar 8 9 (aCons (xMake (He.ga K "Run") 2 (f_Run___init__ K) (aCons (xVar 6) aNil)) (aCons (xLst true aNil) aNil)))
    (sSeq (sIf (bOf (xBin (oEq true) (xMeth (He.ga K "Desk") "execute" 2 (f_Desk_execute K) (xVar 4) (aCons (xBin (oAdd false) (xC (.str "run ")) (xFn oStrC (aCons (xVar 6) aNil))) aNil)) (xC (.str "ok"))))
    (sRet (xC (.bl false)))
    sNil)
    (sSeq (sFor (iRange1 (xCall 2 (f__law_dip K) (aCons (xVar 2) (aCons (xC (.int 41)) aNil)))) (gSet 7)
    (sSeq (sIf (bNot (bOf (xCall 4 (f__law_called K) (aCons (xVar 2) (aCons (xVar 4) (aCons (xVar 8) (aCons (xVar 9) aNil)))))))
    (sRet (xC (.bl false)))
    sNil)
    (sIf (bAnd (bOf (xBin (oEq false) (xBin oMod (xVar 7) (xC (.int 5))) (xC (.int 0)))) (bNot (bOf (xCall 2 (f__law_equal K) (aCons (xVar 4) (aCons (xVar 8) aNil))))))
    (sRet (xC (.bl false)))
    sNil)))
    (sIf (bNot (bOf (xCall 2 (f__law_equal K) (aCons (xVar 4) (aCons (xVar 8) aNil)))))
    (sRet (xC (.bl false)))
    sNil)))) Γ s = .ok (.nx [x0, x1, some (.ref u), x3, some (.ref d), x5, y6, y7, y8, y9, x10]) s' ∧ WF s' ∧ (∃ hd1, s'.get d = some (.ins (He.ga K "Desk") [("run_held", hd1)])) ∧ (∃ a b z', UAt s' u a b z' ∧ z' ≤ ((zk + 200 : Nat) : Int)) ∧ Fr [u, d] s s' := by
  subst hΓ
  have ult : u < s.nx := w _ _ hu.g
  have dlt : d < s.nx := w _ _ hd
  -- size
  obtain ⟨c, a1, z1, s1, e1, c1, c40, hu1, hz1, f1, w1⟩ := size_ok (K := K) (Γ := [x0, x1, some (.ref u), x3, some (.ref d), x5, x6, x7, x8, x9, x10]) rfl w hu (by omega)
  have hd1 : s1.get d = some (.ins (He.ga K "Desk") [("run_held", hd0)]) := f1.keep w hd (by simp; exact fun e => ud e.symm)
  let Γ1 : Sl := [x0, x1, some (.ref u), x3, some (.ref d), x5, some (.int c), x7, x8, x9, x10]
  -- held, past
  obtain ⟨s2, Lh, e2, hh2, f2, w2, k2⟩ := mkRun_ok (K := K) (Γ := Γ1) (f := xVar 6) (c := c) w1 rfl c1 c40
  let h := s1.nx
  let q := s2.nx
  let s3 := s2.new (.lst [])
  have f3 : Fr [] s2 s3 := fr_new
  have w3 : WF s3 := wf_new w2 _
  have q3 : s3.get q = some (.lst []) := by rw [get_new, if_pos rfl]
  have hlt : h < s2.nx := w2 _ _ hh2.gi
  let Γ3 : Sl := [x0, x1, some (.ref u), x3, some (.ref d), x5, some (.int c), x7, some (.ref h), some (.ref q), x10]
  have e3 : sPar 8 9 (aCons (xMake (He.ga K "Run") 2 (f_Run___init__ K) (aCons (xVar 6) aNil)) (aCons (xLst true aNil) aNil)) Γ1 s1 = .ok (.nx Γ3) s3 := par_at e2 rfl
  have hd3 : s3.get d = some (.ins (He.ga K "Desk") [("run_held", hd0)]) := (f2.tr f3).keep w1 hd1 (by simp)
  have hh3 := hh2.other w2 f3 (by simp)
  have hhlt := hh2.lt w2
  -- run
  obtain ⟨s4, r, L, e4, hd4, hr4, f4, w4, k4⟩ := exec_run (K := K) (z := "run" ++ " " ++ num c) (c := c) (x := hd0) w3 c1 c40 rfl hd3
  have dnew : d < s1.nx := Nat.lt_of_lt_of_le dlt f1.nx
  have unew : u < s1.nx := Nat.lt_of_lt_of_le ult f1.nx
  have s3nx : s3.nx = s2.nx + 1 := rfl
  have n12 := f2.nx
  have dh : d ∉ Lh.ids h := fun z => by have := k2 d z; omega
  have uh : u ∉ Lh.ids h := fun z => by have := k2 u z; omega
  have qh : q ∉ Lh.ids h := fun z => by have := hhlt q z; omega
  have dr : d ∉ L.ids r := fun z => by have := k4 d z; omega
  have ur : u ∉ L.ids r := fun z => by have := k4 u z; omega
  have qr : q ∉ L.ids r := fun z => by have := k4 q z; omega
  have I4 : Inv46 K s4 u d r h q ⟨c, [], []⟩ L Lh 0 ((zk : Int) + 4) 0 := by
    refine ⟨⟨w4, hd4, hr4, hh3.other w3 f4 (fun k hk => by simp; exact fun e => dh (e ▸ hk)), fun k hk z => ?_, dr, dh, c1, c40, ?_, Nat.zero_le _, Nat.zero_le _⟩, ⟨a1, b, z1, ?_, by omega⟩, ⟨[], ?_, rfl⟩, ud, by omega, by omega, ur, uh, qr, qh⟩
    · have := k4 k hk; have := hhlt k z; omega
    · exact Nat.le_refl _
    · have g := (f4.keep w3 ((f2.tr f3).keep w1 hu1.g (by simp)) (by simp; exact ud))
      exact ⟨g, hu1.a0, hu1.b0, hu1.b1, hu1.c0⟩
    · exact f4.keep w3 q3 (by simp; omega)
  have F4 : Fr [u, d] s s4 := (f1.sub fun k hk _ => by simp at hk; simp [hk]).tr ((f2.sub (by simp)).tr ((f3.sub (by simp)).tr (f4.sub fun k hk _ => by simp at hk; simp [hk])))
  have runS : xBin (oAdd false) (xC (.str "run ")) (xFn oStrC (aCons (xVar 6) aNil)) Γ3 s3 = .ok (.str ("run" ++ " " ++ num c)) s3 := by
    rw [cat_at (strc_at (i := c) rfl (by omega) (by omega)) (by rw [show ("run " : Str).length = 4 from by decide]; have := numI_len (i := c) (by omega) (by omega); omega), show ("run " : Str) = "run" ++ " " from by decide +kernel]
  have c4 : bOf (xBin (oEq true) (xMeth (He.ga K "Desk") "execute" 2 (f_Desk_execute K) (xVar 4) (aCons (xBin (oAdd false) (xC (.str "run ")) (xFn oStrC (aCons (xVar 6) aNil))) aNil)) (xC (.str "ok"))) Γ3 s3 = .ok false s4 := by
    refine bof_at ?_
    rw [oEq_s (meth1_at (m := "execute") rfl hd3 rfl runS e4) rfl]
    simp
  -- how often
  obtain ⟨n, s5, e5, hn41, I5, f5⟩ := I4.draw (m := 41) (by decide) (by decide) (by omega)
  have e5' : xCall 2 (f__law_dip K) (aCons (xVar 2) (aCons (xC (.int 41)) aNil)) Γ3 s4 = .ok (.int n) s5 := call_at (args_2 rfl rfl) rfl e5
  have F5 : Fr [u, d] s s5 := F4.tr (f5.sub fun k hk _ => by simp at hk; simp [hk])
  have nx5 := F5.nx
  have ge5 : ∀ j ∈ L.ids r ++ Lh.ids h, s1.nx ≤ j := fun j hj => by
    rcases List.mem_append.mp hj with e | e
    · have := k4 j e; omega
    · exact k2 j e
  let Iv : List D → Sl → S → Prop := fun rest Γ s' => ∃ c R L Lh y, Γ = [x0, x1, some (.ref u), x3, some (.ref d), x5, some (.int c), y, some (.ref h), some (.ref q), x10] ∧ (∃ k, k + rest.length ≤ 41 ∧ Inv46 K s' u d r h q R L Lh k ((zk : Int) + 5 + 3 * k) 0) ∧ (∀ v ∈ rest, ∃ j : Nat, v = .int j) ∧ Fr [u, d] s s' ∧ ∀ j ∈ L.ids r ++ Lh.ids h, s1.nx ≤ j
  have step : ∀ v rest Γ s', Iv (v :: rest) Γ s' → ∃ Γ1 s1, gSet 7 v Γ s' = .ok Γ1 s1 ∧ ∃ Γ2 s2, (sSeq (sIf (bNot (bOf (xCall 4 (f__law_called K) (aCons (xVar 2) (aCons (xVar 4) (aCons (xVar 8) (aCons (xVar 9) aNil)))))))
    (sRet (xC (.bl false)))
    sNil)
    (sIf (bAnd (bOf (xBin (oEq false) (xBin oMod (xVar 7) (xC (.int 5))) (xC (.int 0)))) (bNot (bOf (xCall 2 (f__law_equal K) (aCons (xVar 4) (aCons (xVar 8) aNil))))))
    (sRet (xC (.bl false)))
    sNil) Γ1 s1 = .ok (.nx Γ2) s2 ∨ sSeq (sIf (bNot (bOf (xCall 4 (f__law_called K) (aCons (xVar 2) (aCons (xVar 4) (aCons (xVar 8) (aCons (xVar 9) aNil)))))))
    (sRet (xC (.bl false)))
    sNil)
    (sIf (bAnd (bOf (xBin (oEq false) (xBin oMod (xVar 7) (xC (.int 5))) (xC (.int 0)))) (bNot (bOf (xCall 2 (f__law_equal K) (aCons (xVar 4) (aCons (xVar 8) aNil))))))
    (sRet (xC (.bl false)))
    sNil) Γ1 s1 = .ok (.ct Γ2) s2) ∧ Iv rest Γ2 s2 := by
    rintro v rest Γ s' ⟨c, R, L, Lh, y, rfl, ⟨k, hk, I⟩, hv, F, ge⟩
    obtain ⟨j, rfl⟩ := hv v List.mem_cons_self
    rw [List.length_cons] at hk
    obtain ⟨s6, R', L', Lh', e6, I6, _, f6, new6⟩ := called_ok I (by omega) (by omega)
    let Γ6 : Sl := [x0, x1, some (.ref u), x3, some (.ref d), x5, some (.int c), some (.int j), some (.ref h), some (.ref q), x10]
    have sc6 := I6.t.sc
    obtain ⟨s7, e7, f7, w7⟩ := equal_ok I6.t.w I6.t.hd I6.t.hr I6.t.hh I6.t.n1 I6.t.n40 (by omega)
    have I7 := I6.idle f7
    have nxs := F.nx
    have n1s := f1.nx
    have F6 : Fr [u, d] s s6 := F.trans f6 fun k hk hlt => by
      simp only [J46, List.mem_cons] at hk
      rcases hk with e | e | e | e
      · simp [e]
      · simp [e]
      · omega
      · have := ge k e; omega
    have ge6 : ∀ j ∈ L'.ids r ++ Lh'.ids h, s1.nx ≤ j := fun j hj => by
      rcases new6 j (by simp only [J46, List.mem_cons]; exact .inr (.inr (.inr hj))) with e | e
      · simp only [J46, List.mem_cons] at e
        rcases e with e | e | e | e
        · subst e
          exact absurd hj fun z => (List.mem_append.mp z).elim I6.ur I6.uh
        · subst e
          exact absurd hj fun z => (List.mem_append.mp z).elim I6.t.dr I6.t.dh
        · omega
        · exact ge j e
      · have := I.t.w _ _ I.t.hh.gi
        omega
    have a1 : sIf (bNot (bOf (xCall 4 (f__law_called K) (aCons (xVar 2) (aCons (xVar 4) (aCons (xVar 8) (aCons (xVar 9) aNil))))))) (sRet (xC (.bl false))) sNil Γ6 s' = .ok (.nx Γ6) s6 := by
      have cc : xCall 4 (f__law_called K) (aCons (xVar 2) (aCons (xVar 4) (aCons (xVar 8) (aCons (xVar 9) aNil)))) Γ6 s' = .ok (.bl true) s6 := call_at (ds := [.ref u, .ref d, .ref h, .ref q]) (s1 := s') rfl rfl e6
      rw [if_f (s1 := s6) (by unfold bNot; rw [bof_at cc]; rfl)]
      rfl
    have m5 : xBin (oEq false) (xBin oMod (xVar 7) (xC (.int 5))) (xC (.int 0)) Γ6 s6 = .ok (.bl (decide ((j : Int) % 5 = 0))) s6 := eq_at (bin_at (o := oMod) rfl rfl (oMod_int (decide_eq_true (by decide)))) rfl
    have z7 : ((zk : Int) + 5 + 3 * (k : Int)) + 3 = (zk : Int) + 5 + 3 * ((k + 1 : Nat) : Int) := by omega
    rw [z7] at I6 I7
    refine ⟨Γ6, s', rfl, ?_⟩
    by_cases hj : (j : Int) % 5 = 0
    · refine ⟨Γ6, s7, .inl ?_, c, R', L', Lh', _, rfl, ⟨k + 1, by omega, I7⟩, fun v hv' => hv v (List.mem_cons_of_mem _ hv'), F6.tr (f7.sub (by simp)), ge6⟩
      rw [seq_ok a1]
      have cc : xCall 2 (f__law_equal K) (aCons (xVar 4) (aCons (xVar 8) aNil)) Γ6 s6 = .ok (.bl true) s7 := call_at (ds := [.ref d, .ref h]) (s1 := s6) rfl rfl e7
      rw [if_f (s1 := s7) (by
        rw [and_t (bof_at (by rw [m5, decide_eq_true hj]))]
        unfold bNot; rw [bof_at cc]; rfl)]
      rfl
    · refine ⟨Γ6, s6, .inl ?_, c, R', L', Lh', _, rfl, ⟨k + 1, by omega, I6⟩, fun v hv' => hv v (List.mem_cons_of_mem _ hv'), F6, ge6⟩
      rw [seq_ok a1, if_f (and_f (bof_at (by rw [m5, decide_eq_false hj])))]
      rfl
  obtain ⟨Γ', s6, e6, c6, R6, L6, Lh6, y6, hΓ6, ⟨k6, hk6, I6⟩, _, F6, ge6⟩ := forL_ok (ch := yes) (g := gSet 7) Iv (fun _ _ _ _ => rfl) step (rng 0 n) Γ3 s5
    ⟨c, ⟨c, [], []⟩, L, Lh, x7, rfl, ⟨0, by unfold rng; rw [List.length_map, List.length_range]; omega, by rw [show ((zk : Int) + 5 + 3 * ((0 : Nat) : Int)) = (zk : Int) + 4 + 1 by omega]; exact I5⟩, fun v hv => by
      rw [rng_map (α := Unit)] at hv
      obtain ⟨j, _, rfl⟩ := List.mem_map.mp hv
      exact ⟨j, rfl⟩, F5, ge5⟩
  subst hΓ6
  have sc6 := I6.t.sc
  obtain ⟨s7, e7, f7, w7⟩ := equal_ok I6.t.w I6.t.hd I6.t.hr I6.t.hh I6.t.n1 I6.t.n40 (by omega)
  obtain ⟨aa, bb, zz, hu6, hzz6⟩ := I6.hu
  refine ⟨s7, some (.int c6), y6, some (.ref h), some (.ref q), ?_, w7, ⟨.ref r, f7.keep I6.t.w I6.t.hd (by simp)⟩, ⟨aa, bb, zz, ⟨f7.keep I6.t.w hu6.g (by simp), hu6.a0, hu6.b0, hu6.b1, hu6.c0⟩, by omega⟩, F6.tr (f7.sub (by simp))⟩
  rw [seq_ok (Γ' := Γ1) (s' := s1) (set_at e1), seq_ok e3, seq_ok (by rw [if_f c4]; rfl)]
  rw [seq_ok (for_at (range1_at e5' (by omega)) e6)]
  have cc : xCall 2 (f__law_equal K) (aCons (xVar 4) (aCons (xVar 8) aNil)) [x0, x1, some (.ref u), x3, some (.ref d), x5, some (.int c6), y6, some (.ref h), some (.ref q), x10] s6 = .ok (.bl true) s7 := call_at (ds := [.ref d, .ref h]) (s1 := s6) rfl rfl e7
  rw [if_f (s1 := s7) (by unfold bNot; rw [bof_at cc]; rfl)]
  rfl
end
end L3

set_option Elab.async false
set_option linter.all false
set_option maxRecDepth 100000
set_option maxHeartbeats 1000000
set_option exponentiation.threshold 600
namespace L3
open PySem PySem.Spec PyProof.Rows L2

theorem fn_at {op : List D → S → L3.R D} {fa : XA} {Γ : Sl} {s s1 s2 : S} {ds : List D} {v : D} (ha : fa Γ s = .ok ds s1) (ho : op ds s1 = .ok v s2) : xFn op fa Γ s = .ok v s2 := by
  show (fa Γ s).bind op = _
  rw [ha]
  exact ho
section
variable {K : PySem.W.Frag} {s : S}
/-- the desk beside it -/
structure Mate (K : PySem.W.Frag) (s : S) (m r : Nat) (L : RL) : Prop where
  hd : s.get m = some (.ins (He.ga K "Desk") (dfs r))
  hr : RAt K s r ⟨3, [1, 1], [0, 1]⟩ L
theorem mate_ok {Γ : Sl} {m : Nat} (w : WF s) (hd : s.get m = some (.ins (He.ga K "Desk") [("run_held", .non)])) (h5 : Γ[5]? = some (some (.ref m))) (h11 : Γ.length = 11) :
    ∃ s' r L, bOf (xBin (oEq true) (xComp false [10] (iSeq (xLst false (aCons (xC (.str "run 3")) (aCons (xC (.str "step 1")) (aCons (xC (.str "step 1")) aNil))))) (gSet 10) bYes (xMeth (He.ga K "Desk") "execute" 2 (f_Desk_execute K) (xVar 5) (aCons (xVar 10) aNil))) (xLst false (aCons (xC (.str "ok")) (aCons (xC (.str "-")) (aCons (xC (.str "-")) aNil))))) Γ s = .ok false s' ∧
      Mate K s' m r L ∧ Fr [m] s s' ∧ WF s' ∧ ∀ k ∈ L.ids r, s.nx ≤ k := by
  have mlt : m < s.nx := w _ _ hd
  obtain ⟨s1, r, L, e1, hd1, hr1, f1, w1, k1⟩ := exec_run (K := K) (z := "run 3") (c := 3) w (by decide) (by decide) (by decide +kernel) hd
  have t0 : (⟨3, [], []⟩ : Rn).m.toldOf 1 = none := by rfl
  obtain ⟨s2, e2, hr2, f2, w2⟩ := exec_step (K := K) (z := "step 1") (p := 1) hd1 hr1 w1 (by decide +kernel) (by decide) (by decide) (by rfl) (by decide) (by decide)
  rw [t0] at e2
  have mr : m ∉ L.ids r := fun z => by have := k1 m z; omega
  have hd2 : s2.get m = some (.ins (He.ga K "Desk") (dfs r)) := f2.keep w1 hd1 mr
  have t1 : (⟨3, [1], [0]⟩ : Rn).m.toldOf 1 = none := by rfl
  obtain ⟨s3, e3, hr3, f3, w3⟩ := exec_step (K := K) (z := "step 1") (p := 1) (R := ⟨3, [1], [0]⟩) hd2 hr2 w2 (by decide +kernel) (by decide) (by decide) (by rfl) (by decide) (by decide)
  rw [t1] at e3
  have hd3 : s3.get m = some (.ins (He.ga K "Desk") (dfs r)) := f3.keep w2 hd2 mr
  refine ⟨s3, r, L, ?_, ⟨hd3, hr3⟩, f1.trans ((f2.tr f3)) fun k hk hlt => by have := k1 k hk; omega, w3, k1⟩
  have g5 : ∀ v : D, ((wipeD Γ [10]).set 10 (some v))[5]? = some (some (.ref m)) := fun v => by
    rw [List.getElem?_set_ne (by decide)]
    show (Γ.set 10 none)[5]? = _
    rw [List.getElem?_set_ne (by decide), h5]
  have g10 : ∀ v : D, ((wipeD Γ [10]).set 10 (some v))[10]? = some (some v) := fun v => by
    rw [List.getElem?_set_self (by simp [wipeD, h11])]
  have ex : ∀ {z o : Str} {sa sb : S} {fs : List (Str × D)}, sa.get m = some (.ins (He.ga K "Desk") fs) → fs.lookup ("execute" : Str) = none → f_Desk_execute K [.ref m, .str z] sa = .ok (.str o) sb →
      xMeth (He.ga K "Desk") "execute" 2 (f_Desk_execute K) (xVar 5) (aCons (xVar 10) aNil) ((wipeD Γ [10]).set 10 (some (.str z))) sa = .ok (.str o) sb := fun {z o sa sb fs} g1 g2 e =>
    meth1_at (by unfold xVar; rw [g5]) g1 g2 (by unfold xVar; rw [g10]) e
  have cmp : xComp false [10] (iSeq (xLst false (aCons (xC (.str "run 3")) (aCons (xC (.str "step 1")) (aCons (xC (.str "step 1")) aNil))))) (gSet 10) bYes (xMeth (He.ga K "Desk") "execute" 2 (f_Desk_execute K) (xVar 5) (aCons (xVar 10) aNil)) Γ s = .ok (.lst [.str "ok", .str "-", .str "-"]) s3 := by
    unfold xComp iSeq
    rw [lst3_at (a := .str "run 3") (b := .str "step 1") (c := .str "step 1") (s1 := s) (s2 := s) (s3 := s) rfl rfl rfl]
    simp only [L3.R.bind, wOf]
    rw [comp_step (v := .str "ok") (s' := s1) rfl rfl (ex hd rfl e1) (by decide), comp_step (v := .str "-") (s' := s2) rfl rfl (ex hd1 rfl e2) (by show 1 < LIM; decide), comp_step (v := .str "-") (s' := s3) rfl rfl (ex hd2 rfl e3) (by show 2 < LIM; decide), comp_end rfl]
    rfl
  refine bof_at ?_
  have q := oEq_strs (neg := true) (s := s3) (ds := ["ok", "-", "-"]) (by decide +kernel)
  unfold xBin
  rw [cmp]
  simp only [L3.R.bind]
  rw [lst3_at (a := .str "ok") (b := .str "-") (c := .str "-") (s1 := s3) (s2 := s3) (s3 := s3) rfl rfl rfl]
  exact q
theorem mate_end {Γ : Sl} {m r : Nat} {L : RL} (w : WF s) (h : Mate K s m r L) (h5 : Γ[5]? = some (some (.ref m))) :
    ∃ s', bOf (xBin (oEq true) (xLst false (aCons (xMeth (He.ga K "Desk") "execute" 2 (f_Desk_execute K) (xVar 5) (aCons (xC (.str "text")) aNil)) (aCons (xMeth (He.ga K "Desk") "execute" 2 (f_Desk_execute K) (xVar 5) (aCons (xC (.str "names")) aNil)) aNil))) (xLst false (aCons (xC (.str "3 1,1")) (aCons (xC (.str "- - -")) aNil)))) Γ s = .ok false s' ∧ WF s' := by
  obtain ⟨s1, e1, f1, w1⟩ := exec_text h.hd h.hr w (by decide) (by decide) (by decide)
  have hd1 : s1.get m = some (.ins (He.ga K "Desk") (dfs r)) := f1.keep w h.hd (by simp)
  have hr1 := h.hr.other w f1 (by simp)
  have e2 := exec_names hd1 hr1 (by decide) (by decide)
  have t1 : runT (⟨3, [1, 1], [0, 1]⟩ : Rn).n (⟨3, [1, 1], [0, 1]⟩ : Rn).sc = "3 1,1" := by decide +kernel
  have t2 : nmsT (⟨3, [1, 1], [0, 1]⟩ : Rn).m = "- - -" := by decide +kernel
  rw [t1] at e1
  rw [t2] at e2
  refine ⟨s1, bof_at ?_, w1⟩
  have v : xVar 5 Γ s = .ok (.ref m) s := by unfold xVar; rw [h5]
  have v1 : xVar 5 Γ s1 = .ok (.ref m) s1 := by unfold xVar; rw [h5]
  have q := oEq_strs (neg := true) (s := s1) (ds := ["3 1,1", "- - -"]) (by decide +kernel)
  have l2 : ∀ {f g : XF} {a b : D} {sa sb sc : S}, f Γ sa = .ok a sb → g Γ sb = .ok b sc → xLst false (aCons f (aCons g aNil)) Γ sa = .ok (.lst [a, b]) sc := fun {f g a b sa sb sc} hf hg => by
    unfold xLst
    rw [args_2 hf hg]
    simp only [L3.R.bind, newL, Bool.false_eq_true, if_false]
    rw [if_pos (by show 2 ≤ LIM; decide)]
  unfold xBin
  rw [l2 (meth1_at (m := "execute") v h.hd rfl rfl e1) (meth1_at (m := "execute") v1 hd1 rfl rfl e2)]
  simp only [L3.R.bind]
  rw [l2 (a := .str "3 1,1") (b := .str "- - -") (sb := s1) (sc := s1) rfl rfl]
  exact q
end
theorem law_plain (K : PySem.W.Frag) (ns : List Int) (hn : ns.length ≤ 63) : ∃ s', f_law K [.lst (ns.map .int)] s00 = .ok (.bl true) s' := by
  have w0 : WF s00 := fun k o e => by cases e
  obtain ⟨N, hN, eN⟩ : ∃ N : Nat, N ≤ 4 ∧ xFn oMax2 (aCons (xC (.int 1)) (aCons (xFn oMin2 (aCons (xC (.int 4)) (aCons (xBin (oAdd false) (xFn oLen (aCons (xVar 0) aNil)) (xC (.int 1))) aNil))) aNil)) [some (.lst (ns.map .int)), none, none, none, none, none, none, none, none, none, none] s00 = .ok (.int N) s00 := by
    have l : xBin (oAdd false) (xFn oLen (aCons (xVar 0) aNil)) (xC (.int 1)) [some (.lst (ns.map .int)), none, none, none, none, none, none, none, none, none, none] s00 = .ok (.int ((ns.map D.int).length + 1)) s00 := bin_at (len_at rfl rfl) rfl oAdd_int
    rw [List.length_map] at l
    let v : Int := if (ns.length : Int) + 1 < 4 then (ns.length : Int) + 1 else 4
    have hv : 1 ≤ v ∧ v ≤ 4 := by
      show 1 ≤ (if (ns.length : Int) + 1 < 4 then (ns.length : Int) + 1 else 4) ∧ (if (ns.length : Int) + 1 < 4 then (ns.length : Int) + 1 else 4) ≤ 4
      split <;> omega
    have m : xFn oMin2 (aCons (xC (.int 4)) (aCons (xBin (oAdd false) (xFn oLen (aCons (xVar 0) aNil)) (xC (.int 1))) aNil)) [some (.lst (ns.map .int)), none, none, none, none, none, none, none, none, none, none] s00 = .ok (.int v) s00 := by
      exact fn_at (args_2 rfl l) rfl
    refine ⟨v.toNat, by omega, fn_at (args_2 rfl m) ?_⟩
    show R.ok (D.int (if v > 1 then v else 1)) s00 = _
    have e : (if v > 1 then v else 1) = (v.toNat : Int) := by split <;> omega
    rw [e]
  let Iv : List D → Sl → S → Prop := fun rest Γ s => ∃ y1 y2 y3 y4 y5 y6 y7 y8 y9 y10, Γ = [some (.lst (ns.map .int)), y1, y2, y3, y4, y5, y6, y7, y8, y9, y10] ∧ WF s ∧ ∀ v ∈ rest, ∃ j : Nat, v = .int j ∧ j ≤ 4
  have fin : ∀ {Γ : Sl} {s : S}, Iv (rng 0 N) Γ s → ∃ Γ' s', forL yes (gSet 1) (sSeq (sSet 2 (xCall 2 (f__law_urn K) (aCons (xVar 0) (aCons (xVar 1) aNil))))
    (sSeq (sAsg (xTup (aCons (xMake (He.ga K "Desk") 1 (f_Desk___init__ K) aNil) (aCons (xMake (He.ga K "Desk") 1 (f_Desk___init__ K) aNil) aNil))) (gTupD 2 (gsCons (gSet 4) (gsCons (gSet 5) gsNil))))
    (sSeq (sIf (bOf (xBin (oEq true) (xComp false [10] (iSeq (xLst false (aCons (xC (.str "run 3")) (aCons (xC (.str "step 1")) (aCons (xC (.str "step 1")) aNil))))) (gSet 10) bYes (xMeth (He.ga K "Desk") "execute" 2 (f_Desk_execute K) (xVar 5) (aCons (xVar 10) aNil))) (xLst false (aCons (xC (.str "ok")) (aCons (xC (.str "-")) (aCons (xC (.str "-")) aNil))))))
    (sRet (xC (.bl false)))
    sNil)
    (sSeq (sFor (iRange1 (xC (.int 3))) (gSet 3)
    (sSeq (sSet 6 (xBin oIx (xLst false (aCons (xBin (oAdd false) (xC (.int 1)) (xCall 2 (f__law_dip K) (aCons (xVar 2) (aCons (xC (.int 4)) aNil)))) (aCons (xBin (oAdd false) (xC (.int 1)) (xCall 2 (f__law_dip K) (aCons (xVar 2) (aCons (xC (.int 12)) aNil)))) (aCons (xBin (oAdd false) (xC (.int 1)) (xCall 2 (f__law_dip K) (aCons (xVar 2) (aCons (xC (.int 40)) aNil)))) aNil)))) (xCall 2 (f__law_dip K) (aCons (xVar 2) (aCons (xC (.int 3)) aNil)))))
    (sSeq (sPar 8 9 (aCons (xMake (He.ga K "Run") 2 (f_Run___init__ K) (aCons (xVar 6) aNil)) (aCons (xLst true aNil) aNil)))
    (sSeq (sIf (bOf (xBin (oEq true) (xMeth (He.ga K "Desk") "execute" 2 (f_Desk_execute K) (xVar 4) (aCons (xBin (oAdd false) (xC (.str "run ")) (xFn oStrC (aCons (xVar 6) aNil))) aNil)) (xC (.str "ok"))))
    (sRet (xC (.bl false)))
    sNil)
    (sSeq (sFor (iRange1 (xCall 2 (f__law_dip K) (aCons (xVar 2) (aCons (xC (.int 41)) aNil)))) (gSet 7)
    (sSeq (sIf (bNot (bOf (xCall 4 (f__law_called K) (aCons (xVar 2) (aCons (xVar 4) (aCons (xVar 8) (aCons (xVar 9) aNil)))))))
    (sRet (xC (.bl false)))
    sNil)
    (sIf (bAnd (bOf (xBin (oEq false) (xBin oMod (xVar 7) (xC (.int 5))) (xC (.int 0)))) (bNot (bOf (xCall 2 (f__law_equal K) (aCons (xVar 4) (aCons (xVar 8) aNil))))))
    (sRet (xC (.bl false)))
    sNil)))
    (sIf (bNot (bOf (xCall 2 (f__law_equal K) (aCons (xVar 4) (aCons (xVar 8) aNil)))))
    (sRet (xC (.bl false)))
    sNil))))))
    (sIf (bOf (xBin (oEq true) (xLst false (aCons (xMeth (He.ga K "Desk") "execute" 2 (f_Desk_execute K) (xVar 5) (aCons (xC (.str "text")) aNil)) (aCons (xMeth (He.ga K "Desk") "execute" 2 (f_Desk_execute K) (xVar 5) (aCons (xC (.str "names")) aNil)) aNil))) (xLst false (aCons (xC (.str "3 1,1")) (aCons (xC (.str "- - -")) aNil)))))
    (sRet (xC (.bl false)))
    sNil))))) (rng 0 N) Γ s = .ok (.nx Γ') s' ∧ Iv [] Γ' s' := fun {Γ s} h => forL_ok (ch := yes) Iv (fun _ _ _ _ => rfl) (by
    rintro v rest Γ s ⟨y1, y2, y3, y4, y5, y6, y7, y8, y9, y10, rfl, w, hv⟩
    obtain ⟨k, rfl, hk⟩ := hv v List.mem_cons_self
    -- urn
    obtain ⟨a, b, s1, e1, hu1, f1, w1⟩ := urn_ok (K := K) (s := s) (ns := ns) (k := k) w (by omega) hn
    let u := s.nx
    -- desks
    let Γ1 : Sl := [some (.lst (ns.map .int)), some (.int k), some (.ref u), y3, y4, y5, y6, y7, y8, y9, y10]
    obtain ⟨s2, e2, hd2, f2, w2, n2⟩ := mkDesk_ok (K := K) (Γ := Γ1) w1
    obtain ⟨s3, e3, hm3, f3, w3, n3⟩ := mkDesk_ok (K := K) (Γ := Γ1) w2
    let d := s1.nx
    let m := s2.nx
    have ult : u < s1.nx := w1 _ _ hu1.g
    have ud : u ≠ d := Nat.ne_of_lt ult
    have dm : d ≠ m := Nat.ne_of_lt n2
    have um : u ≠ m := by show u ≠ s2.nx; omega
    have hd3 : s3.get d = some (.ins (He.ga K "Desk") [("run_held", .non)]) := f3.keep w2 hd2 (by simp)
    let Γ3 : Sl := [some (.lst (ns.map .int)), some (.int k), some (.ref u), y3, some (.ref d), some (.ref m), y6, y7, y8, y9, y10]
    -- the desk beside
    obtain ⟨s4, r, L, e4, hM4, f4, w4, k4⟩ := mate_ok (K := K) (Γ := Γ3) w3 hm3 rfl rfl
    have hu4 : UAt s4 u a b 0 := ⟨((f2.tr f3).trans (L' := [m]) f4 (fun k hk hlt => by simp at hk; subst hk; exact absurd hlt (by show ¬ s2.nx < s1.nx; omega))).keep w1 hu1.g (by simp), hu1.a0, hu1.b0, hu1.b1, hu1.c0⟩
    have hd4 : s4.get d = some (.ins (He.ga K "Desk") [("run_held", .non)]) := f4.keep w3 hd3 (by simp; exact dm)
    have lu : u ∉ L.ids r := fun z => by have := k4 u z; omega
    have ld : d ∉ L.ids r := fun z => by have := k4 d z; omega
    -- three turns
    let Tv : List D → Sl → S → Prop := fun rest Γ s' => ∃ x3 x6 x7 x8 x9, Γ = [some (.lst (ns.map .int)), some (.int k), some (.ref u), x3, some (.ref d), some (.ref m), x6, x7, x8, x9, y10] ∧ WF s' ∧ (∃ h1, s'.get d = some (.ins (He.ga K "Desk") [("run_held", h1)])) ∧ (∃ zk : Nat, zk + 200 * rest.length ≤ 600 ∧ ∃ a b z, UAt s' u a b z ∧ z ≤ (zk : Int)) ∧ Fr [u, d] s4 s'
    obtain ⟨Γ5, s5, e5, x3, x6, x7, x8, x9, hΓ5, w5, ⟨h5, hd5⟩, _, f5⟩ := forL_ok (ch := yes) (g := gSet 3) (b := sSeq (sSet 6 (xBin oIx (xLst false (aCons (xBin (oAdd false) (xC (.int 1)) (xCall 2 (f__law_dip K) (aCons (xVar 2) (aCons (xC (.int 4)) aNil)))) (aCons (xBin (oAdd false) (xC (.int 1)) (xCall 2 (f__law_dip K) (aCons (xVar 2) (aCons (xC (.int 12)) aNil)))) (aCons (xBin (oAdd false) (xC (.int 1)) (xCall 2 (f__law_dip K) (aCons (xVar 2) (aCons (xC (.int 40)) aNil)))) aNil)))) (xCall 2 (f__law_dip K) (aCons (xVar 2) (aCons (xC (.int 3)) aNil)))))
    (sSeq (sPar 8 9 (aCons (xMake (He.ga K "Run") 2 (f_Run___init__ K) (aCons (xVar 6) aNil)) (aCons (xLst true aNil) aNil)))
    (sSeq (sIf (bOf (xBin (oEq true) (xMeth (He.ga K "Desk") "execute" 2 (f_Desk_execute K) (xVar 4) (aCons (xBin (oAdd false) (xC (.str "run ")) (xFn oStrC (aCons (xVar 6) aNil))) aNil)) (xC (.str "ok"))))
    (sRet (xC (.bl false)))
    sNil)
    (sSeq (sFor (iRange1 (xCall 2 (f__law_dip K) (aCons (xVar 2) (aCons (xC (.int 41)) aNil)))) (gSet 7)
    (sSeq (sIf (bNot (bOf (xCall 4 (f__law_called K) (aCons (xVar 2) (aCons (xVar 4) (aCons (xVar 8) (aCons (xVar 9) aNil)))))))
    (sRet (xC (.bl false)))
    sNil)
    (sIf (bAnd (bOf (xBin (oEq false) (xBin oMod (xVar 7) (xC (.int 5))) (xC (.int 0)))) (bNot (bOf (xCall 2 (f__law_equal K) (aCons (xVar 4) (aCons (xVar 8) aNil))))))
    (sRet (xC (.bl false)))
    sNil)))
    (sIf (bNot (bOf (xCall 2 (f__law_equal K) (aCons (xVar 4) (aCons (xVar 8) aNil)))))
    (sRet (xC (.bl false)))
    sNil))))) Tv (fun _ _ _ _ => rfl) (by
      rintro v rest Γ s' ⟨x3, x6, x7, x8, x9, rfl, w', ⟨h1, hd'⟩, ⟨zk, hzk, a', b', z', hu', hz'⟩, F⟩
      rw [List.length_cons] at hzk
      obtain ⟨s6, q6, q7, q8, q9, e6, w6, hd6, hu6, F6⟩ := turn_ok (K := K) (zk := zk) (Γ := [some (.lst (ns.map .int)), some (.int k), some (.ref u), some v, some (.ref d), some (.ref m), x6, x7, x8, x9, y10]) (x := none) (by omega) rfl w' hd' hu' hz' ud
      exact ⟨_, s', rfl, _, s6, .inl e6, some v, q6, q7, q8, q9, rfl, w6, hd6, ⟨zk + 200, by omega, hu6⟩, F.tr F6⟩) (rng 0 3) Γ3 s4 ⟨y3, y6, y7, y8, y9, rfl, w4, ⟨.non, hd4⟩, ⟨0, by decide, a, b, 0, hu4, Int.le_refl 0⟩, Fr.refl s4⟩
    -- the desk beside, at the end
    have hM5 : Mate K s5 m r L := ⟨f5.keep w4 hM4.hd (by simp; exact ⟨fun e => um e.symm, fun e => dm e.symm⟩), hM4.hr.other w4 f5 fun j hj => by
      simp
      exact ⟨fun e => lu (e ▸ hj), fun e => ld (e ▸ hj)⟩⟩
    subst hΓ5
    obtain ⟨s6, e6, w6⟩ := mate_end (K := K) (Γ := [some (.lst (ns.map .int)), some (.int k), some (.ref u), x3, some (.ref d), some (.ref m), x6, x7, x8, x9, y10]) w5 hM5 rfl
    refine ⟨[some (.lst (ns.map .int)), some (.int k), y2, y3, y4, y5, y6, y7, y8, y9, y10], s, rfl, [some (.lst (ns.map .int)), some (.int k), some (.ref u), x3, some (.ref d), some (.ref m), x6, x7, x8, x9, y10], s6, .inl ?_, some (.int k), some (.ref u), x3, some (.ref d), some (.ref m), x6, x7, x8, x9, y10, rfl, w6, fun v' hv' => hv v' (List.mem_cons_of_mem _ hv')⟩
    rw [seq_ok (Γ' := Γ1) (s' := s1) (set_at (call_at (args_2 rfl rfl) rfl e1))]
    rw [seq_ok (Γ' := Γ3) (s' := s3) (by
      unfold sAsg xTup
      rw [args_2 e2 e3]
      rfl)]
    rw [seq_ok (by rw [if_f e4]; rfl)]
    rw [seq_ok (for_at (p := ⟨rng 0 3, yes⟩) (range1_at (n := 3) rfl (by decide)) e5)]
    rw [if_f e6]
    rfl) (rng 0 N) Γ s h
  obtain ⟨Γ', s', e, y1, y2, y3, y4, y5, y6, y7, y8, y9, y10, hΓ, _⟩ := fin (Γ := [some (.lst (ns.map .int)), none, none, none, none, none, none, none, none, none, none]) (s := s00) ⟨none, none, none, none, none, none, none, none, none, none, rfl, w0, fun v hv => by
    rw [rng_map (α := Unit)] at hv
    obtain ⟨j, hj, rfl⟩ := List.mem_map.mp hv
    exact ⟨j, rfl, by have := List.mem_range.mp hj; omega⟩⟩
  refine ⟨s', fnB_rt ?_⟩
  show b_law K [some (.lst (ns.map .int)), none, none, none, none, none, none, none, none, none, none] s00 = _
  unfold b_law
  rw [seq_ok (for_at (range1_at eN (by omega)) e)]
  rfl
end L3

set_option Elab.async false
set_option linter.all false
set_option maxRecDepth 100000
set_option maxHeartbeats 0
open PySem PySem.W PySem.Calls PyProof.Rows
theorem PySem.Challenge.cw_splitnames_k46_desks_beside_runs_holds : PySem.Challenge.rw_splitnames_k46_desks_beside_runs.Holds := by
  w_on; o_law
  refine HandSHeadRun.head_any (r := OpenLaw.row PySem.Challenge.rw_splitnames_k46_desks_beside_runs) (q := view (OpenLaw.row PySem.Challenge.rw_splitnames_k46_desks_beside_runs).prog [85]) (H := L3.hk) (ob := L3.ob) (M := 20000) (loose := L3.loose) (d := HandSHeadRun.topDef (OpenLaw.row PySem.Challenge.rw_splitnames_k46_desks_beside_runs).prog 85) (kwd := []) L3.ob_eq
    (by kernel_rfl) (fun s => by kernel_rfl) L3.head_run (by kernel_rfl) (by kernel_rfl) (by kernel_rfl) (by rfl) (by first | assumption | decide +kernel) (by decide +kernel) ⟨rfl, rfl, rfl, rfl, rfl, by decide +kernel⟩ ?hw ?hc
  case hw => w_witness2
  case hc =>
    refine L3.walkN (l := PySem.Challenge.rw_splitnames_k46_desks_beside_runs) (k := 10) (x := "script") rfl (by kernel_rfl) ⟨rfl, by decide, by decide⟩ ?F
    intro w mg fa h Y G hmg0
    obtain ⟨K, KX, c⟩ := Y
    have hmg : mg ("law" : PySem.Str) = some (.ref fa) := by
      have e : (HandSHeadRun.topDef (OpenLaw.row PySem.Challenge.rw_splitnames_k46_desks_beside_runs).prog 85).name = ("law" : PySem.Str) := by kernel_rfl
      rw [← e]
      exact hmg0
    have T := L3.tt_of KX G c
    have ea := hmg.symm.trans T.g_law
    cases ea
    exact ⟨K, L3.f_law K, KX, c.nl, L3.law_plain K, L3.Good.law T.F_law (fun _ _ _ _ _ _ us hl => match us, hl with | [_], _ => rfl) fun base _ _ => L3.ok_law T⟩
#print axioms PySem.Challenge.cw_splitnames_k46_desks_beside_runs_holds

