import PyProof.Rows.All
import Wide.All
import OpenK.AllK
import Wide.FinOn
import HandS.ForMost
import HandS.Wide
import HandS.Gcd
import HandS.Style
import HandS.TupMul
import HandS.IsInst
import HandS.Flow
import HandS.Conv
import HandS.Defaults
import HandS.Walk
import HandS.TupAny
import PySem.Challenge.RW_lastfigure_k89_fine_starts
set_option Elab.async false
set_option linter.all false
set_option maxRecDepth 100000
set_option maxHeartbeats 4000000
set_option exponentiation.threshold 10000
/-! Lf1: plain data, the store, how they stand in the heap. -/
namespace Lf
open PySem PySem.Spec PyProof.Rows L2

inductive D where
  | non | bl (b : Bool) | int (i : Int) | str (s : Str) | tup (ds : List D) | lst (ds : List D) | frz (ds : List D) | loc (l : Nat)

inductive Cell where
  | lst (ds : List D) | ins (C : Addr) (fs : List (Str × D)) | dead

/-- the cells; n0: how many were there at the entry -/
structure Sto where
  n0 : Nat
  cs : List Cell
abbrev Sto.push (G : Sto) (c : Cell) : Sto := ⟨G.n0, G.cs ++ [c]⟩
abbrev Sto.set (G : Sto) (l : Nat) (c : Cell) : Sto := ⟨G.n0, G.cs.set l c⟩
abbrev Sto.none : Sto := ⟨0, []⟩
abbrev Evn := List (Option D)

mutual
inductive Rep (K : PySem.W.Frag) (H : Hp) (μ : List Addr) : V → D → Prop where
  | non : Rep K H μ .non .non
  | bl (b : Bool) : Rep K H μ (.bl b) (.bl b)
  | int (i : Int) : Rep K H μ (.int i) (.int i)
  | str (s : Str) : Rep K H μ (.str s) (.str s)
  | tup {a : Addr} {xs : List V} {ds : List D} : SqT K H a xs → Reps K H μ xs ds → Rep K H μ (.ref a) (.tup ds)
  | lst {a : Addr} {xs : List V} {ds : List D} : H a = some (.lst xs) → Reps K H μ xs ds → Rep K H μ (.ref a) (.lst ds)
  | frz {a : Addr} {xs : List V} {ds : List D} : SqL K H a xs → Reps K H μ xs ds → Rep K H μ (.ref a) (.frz ds)
  | loc {a : Addr} {l : Nat} : μ[l]? = some a → Rep K H μ (.ref a) (.loc l)
inductive Reps (K : PySem.W.Frag) (H : Hp) (μ : List Addr) : List V → List D → Prop where
  | nil : Reps K H μ [] []
  | cons {v : V} {d : D} {vs : List V} {ds : List D} : Rep K H μ v d → Reps K H μ vs ds → Reps K H μ (v :: vs) (d :: ds)
end

theorem same_rd {H H' : Hp} {a : Addr} {u : HO} (e : Same H H') (h : Rd H a u) : Rd H' a u := by
  rcases h with h | ⟨o, h⟩
  · exact Or.inl (e a _ h)
  · exact Or.inr ⟨o, e a _ h⟩
theorem same_sqT {K : PySem.W.Frag} {H H' : Hp} {a : Addr} {xs : List V} (e : Same H H') (h : SqT K H a xs) : SqT K H' a xs := by
  rcases h with h | h
  · exact Or.inl (same_rd e h)
  · exact Or.inr h
theorem same_sqL {K : PySem.W.Frag} {H H' : Hp} {a : Addr} {xs : List V} (e : Same H H') (h : SqL K H a xs) : SqL K H' a xs := by
  rcases h with h | h
  · exact Or.inl (same_rd e h)
  · exact Or.inr h
theorem same_new {H : Hp} {p : Addr} {o : HO} (h : H p = none) : Same H (upd H p o) := fun a u e => by
  rw [upd_ne (ne_of_none e h)]
  exact e
theorem pre_get {μ μ' : List Addr} (h : μ <+: μ') {l : Nat} {a : Addr} (e : μ[l]? = some a) : μ'[l]? = some a := by
  obtain ⟨t, rfl⟩ := h
  have hl : l < μ.length := (List.getElem?_eq_some_iff.mp e).1
  rw [List.getElem?_append_left hl]
  exact e

mutual
theorem Rep.mono {K : PySem.W.Frag} {H H' : Hp} {μ μ' : List Addr} (hs : Same H H') (hm : μ <+: μ') : ∀ {v : V} {d : D}, Rep K H μ v d → Rep K H' μ' v d
  | _, _, .non => .non
  | _, _, .bl b => .bl b
  | _, _, .int i => .int i
  | _, _, .str s => .str s
  | _, _, .tup h r => .tup (same_sqT hs h) (Reps.mono hs hm r)
  | _, _, .lst h r => .lst (hs _ _ h) (Reps.mono hs hm r)
  | _, _, .frz h r => .frz (same_sqL hs h) (Reps.mono hs hm r)
  | _, _, .loc e => .loc (pre_get hm e)
theorem Reps.mono {K : PySem.W.Frag} {H H' : Hp} {μ μ' : List Addr} (hs : Same H H') (hm : μ <+: μ') : ∀ {vs : List V} {ds : List D}, Reps K H μ vs ds → Reps K H' μ' vs ds
  | _, _, .nil => .nil
  | _, _, .cons h r => .cons (Rep.mono hs hm h) (Reps.mono hs hm r)
end

section
variable {K : PySem.W.Frag} {H : Hp} {μ : List Addr}
theorem Reps.length : ∀ {vs : List V} {ds : List D}, Reps K H μ vs ds → vs.length = ds.length
  | _, _, .nil => rfl
  | _, _, .cons _ r => by rw [List.length_cons, List.length_cons, Reps.length r]
theorem Reps.get : ∀ {vs : List V} {ds : List D} {i : Nat} {d : D}, Reps K H μ vs ds → ds[i]? = some d → ∃ v, vs[i]? = some v ∧ Rep K H μ v d
  | _, _, _, _, .nil, e => by simp at e
  | _, _, 0, d, .cons h _, e => by simp at e; subst e; exact ⟨_, rfl, h⟩
  | _, _, i + 1, d, .cons _ r, e => by
    obtain ⟨v, e1, e2⟩ := Reps.get (i := i) r (by simpa using e)
    exact ⟨v, by simpa using e1, e2⟩
theorem Reps.get' {vs : List V} {ds : List D} {i : Nat} {v : V} (r : Reps K H μ vs ds) (e : vs[i]? = some v) : ∃ d, ds[i]? = some d ∧ Rep K H μ v d := by
  have h1 : i < vs.length := (List.getElem?_eq_some_iff.mp e).1
  rw [r.length] at h1
  obtain ⟨v', e1, e2⟩ := r.get (List.getElem?_eq_getElem h1)
  rw [e] at e1
  cases e1
  exact ⟨_, List.getElem?_eq_getElem h1, e2⟩
theorem Reps.append : ∀ {vs ws : List V} {ds es : List D}, Reps K H μ vs ds → Reps K H μ ws es → Reps K H μ (vs ++ ws) (ds ++ es)
  | _, _, _, _, .nil, q => q
  | _, _, _, _, .cons h r, q => .cons h (Reps.append r q)
theorem Reps.one {v : V} {d : D} (h : Rep K H μ v d) : Reps K H μ [v] [d] := .cons h .nil
theorem Reps.set {v : V} {d : D} (h : Rep K H μ v d) : ∀ {vs : List V} {ds : List D} (i : Nat), Reps K H μ vs ds → Reps K H μ (vs.set i v) (ds.set i d)
  | _, _, _, .nil => .nil
  | _, _, 0, .cons _ r => .cons h r
  | _, _, i + 1, .cons q r => .cons q (Reps.set h i r)
theorem Reps.take : ∀ {vs : List V} {ds : List D} (n : Nat), Reps K H μ vs ds → Reps K H μ (vs.take n) (ds.take n)
  | _, _, 0, _ => .nil
  | _, _, _ + 1, .nil => .nil
  | _, _, n + 1, .cons h r => .cons h (Reps.take n r)
theorem Reps.drop : ∀ {vs : List V} {ds : List D} (n : Nat), Reps K H μ vs ds → Reps K H μ (vs.drop n) (ds.drop n)
  | _, _, 0, r => r
  | _, _, _ + 1, .nil => .nil
  | _, _, n + 1, .cons _ r => Reps.drop n r
theorem Reps.reverse {vs : List V} {ds : List D} (r : Reps K H μ vs ds) : Reps K H μ vs.reverse ds.reverse := by
  induction vs generalizing ds with
  | nil => cases r; exact .nil
  | cons v vs ih =>
    cases r with
    | cons h r =>
      rw [List.reverse_cons, List.reverse_cons]
      exact (ih r).append (.one h)
theorem Reps.dropLast {vs : List V} {ds : List D} (r : Reps K H μ vs ds) : Reps K H μ vs.dropLast ds.dropLast := by
  rw [List.dropLast_eq_take, List.dropLast_eq_take, r.length]
  exact r.take _
theorem Reps.eraseIdx : ∀ {vs : List V} {ds : List D} (i : Nat), Reps K H μ vs ds → Reps K H μ (vs.eraseIdx i) (ds.eraseIdx i)
  | _, _, _, .nil => .nil
  | _, _, 0, .cons _ r => r
  | _, _, i + 1, .cons h r => .cons h (Reps.eraseIdx i r)
theorem Reps.rep {vs : List V} {ds : List D} (r : Reps K H μ vs ds) : ∀ n : Nat, Reps K H μ (List.replicate n vs).flatten (List.replicate n ds).flatten
  | 0 => .nil
  | n + 1 => by
    rw [List.replicate_succ, List.replicate_succ, List.flatten_cons, List.flatten_cons]
    exact r.append (Reps.rep r n)
theorem Reps.ints : ∀ (ns : List Int), Reps K H μ (ns.map V.int) (ns.map D.int)
  | [] => .nil
  | n :: ns => .cons (.int n) (Reps.ints ns)
end

/-! ### cells -/
inductive RepF (K : PySem.W.Frag) (H : Hp) (μ : List Addr) : List (Str × V) → List (Str × D) → Prop where
  | nil : RepF K H μ [] []
  | cons {x : Str} {v : V} {d : D} {vs : List (Str × V)} {ds : List (Str × D)} : Rep K H μ v d → RepF K H μ vs ds → RepF K H μ ((x, v) :: vs) ((x, d) :: ds)
theorem RepF.mono {K : PySem.W.Frag} {H H' : Hp} {μ μ' : List Addr} (hs : Same H H') (hm : μ <+: μ') : ∀ {vs : List (Str × V)} {ds : List (Str × D)}, RepF K H μ vs ds → RepF K H' μ' vs ds
  | _, _, .nil => .nil
  | _, _, .cons h r => .cons (h.mono hs hm) (RepF.mono hs hm r)

def CellAt (K : PySem.W.Frag) (Hf : Hp) (μ : List Addr) (H : Hp) (a : Addr) : Cell → Prop
  | .lst ds => Hf a = none ∧ ∃ vs, H a = some (.lst vs) ∧ Reps K Hf μ vs ds
  | .ins C fs => Hf a = none ∧ ∃ dx fv, H a = some (.ins C dx fv) ∧ RepF K Hf μ fv fs
  | .dead => ∃ o, H a = some o
theorem CellAt.there {K : PySem.W.Frag} {Hf H : Hp} {μ : List Addr} {a : Addr} {c : Cell} (h : CellAt K Hf μ H a c) : H a ≠ none := by
  cases c with
  | lst ds => obtain ⟨_, vs, e, _⟩ := h; rw [e]; exact fun z => by cases z
  | ins C fs => obtain ⟨_, dx, fv, e, _⟩ := h; rw [e]; exact fun z => by cases z
  | dead => obtain ⟨o, e⟩ := h; rw [e]; exact fun z => by cases z
theorem CellAt.mono {K : PySem.W.Frag} {Hf Hf' H H' : Hp} {μ μ' : List Addr} {a : Addr} {c : Cell} (h : CellAt K Hf μ H a c) (hs : Same Hf Hf') (hm : μ <+: μ') (hn : H a ≠ none → Hf' a = Hf a) (hk : ∀ o, H a = some o → H' a = some o) : CellAt K Hf' μ' H' a c := by
  have t := hn h.there
  cases c with
  | lst ds => obtain ⟨n, vs, e, r⟩ := h; exact ⟨t.trans n, vs, hk _ e, r.mono hs hm⟩
  | ins C fs => obtain ⟨n, dx, fv, e, r⟩ := h; exact ⟨t.trans n, dx, fv, hk _ e, r.mono hs hm⟩
  | dead => obtain ⟨o, e⟩ := h; exact ⟨o, hk _ e⟩

def EnvOk (K : PySem.W.Frag) (Hf : Hp) (μ : List Addr) (ρ : Evn) (σ : L2.St) : Prop :=
  ρ.length = σ.length ∧ ∀ (i : Nat) (d : D), ρ[i]? = some (some d) → ∃ v, σ[i]? = some (some v) ∧ Rep K Hf μ v d
theorem EnvOk.mono {K : PySem.W.Frag} {Hf Hf' : Hp} {μ μ' : List Addr} {ρ : Evn} {σ : L2.St} (h : EnvOk K Hf μ ρ σ) (hs : Same Hf Hf') (hm : μ <+: μ') : EnvOk K Hf' μ' ρ σ :=
  ⟨h.1, fun i d e => let ⟨v, e1, r⟩ := h.2 i d e; ⟨v, e1, r.mono hs hm⟩⟩
theorem EnvOk.set {K : PySem.W.Frag} {Hf : Hp} {μ : List Addr} {ρ : Evn} {σ : L2.St} {v : V} {d : D} (h : EnvOk K Hf μ ρ σ) (r : Rep K Hf μ v d) (i : Nat) : EnvOk K Hf μ (ρ.set i (some d)) (σ.set i (some v)) := by
  refine ⟨by rw [List.length_set, List.length_set, h.1], fun j e q => ?_⟩
  by_cases hj : i = j
  · subst hj
    by_cases hl : i < ρ.length
    · rw [List.getElem?_set_self hl] at q
      cases q
      exact ⟨v, by rw [List.getElem?_set_self (by rw [← h.1]; exact hl)], r⟩
    · rw [List.getElem?_eq_none (by rw [List.length_set]; omega)] at q
      cases q
  · rw [List.getElem?_set_ne hj] at q
    rw [List.getElem?_set_ne hj]
    exact h.2 j e q
theorem EnvOk.unset {K : PySem.W.Frag} {Hf : Hp} {μ : List Addr} {ρ : Evn} {σ : L2.St} (h : EnvOk K Hf μ ρ σ) (i : Nat) : EnvOk K Hf μ (ρ.set i none) (σ.set i none) := by
  refine ⟨by rw [List.length_set, List.length_set, h.1], fun j e q => ?_⟩
  by_cases hj : i = j
  · subst hj
    by_cases hl : i < ρ.length
    · rw [List.getElem?_set_self hl] at q
      cases q
    · rw [List.getElem?_eq_none (by rw [List.length_set]; omega)] at q
      cases q
  · rw [List.getElem?_set_ne hj] at q
    rw [List.getElem?_set_ne hj]
    exact h.2 j e q
def wipeD (ρ : Evn) : List Nat → Evn
  | [] => ρ
  | v :: vs => (wipeD ρ vs).set v none
theorem EnvOk.wipe {K : PySem.W.Frag} {Hf : Hp} {μ : List Addr} {ρ : Evn} {σ : L2.St} (h : EnvOk K Hf μ ρ σ) : ∀ vs : List Nat, EnvOk K Hf μ (wipeD ρ vs) (wipe σ vs)
  | [] => h
  | v :: vs => (EnvOk.wipe h vs).unset v

/-- the entry of an activation: what stood, what must stay, what was known, the cells handed in -/
structure Act where
  dom : Addr → Prop
  P : Hp
  Hf0 : Hp
  μ0 : List Addr
  pd : ∀ a o, P a = some o → dom a
  pm : ∀ a ∈ μ0, P a = none

structure Rel (K : PySem.W.Frag) (Z : Act) (Hf : Hp) (μ : List Addr) (ρ : Evn) (G : Sto) (σ : L2.St) (H : Hp) : Prop where
  sub : Same Hf H
  base : Same Z.Hf0 Hf
  old : ∀ a, Z.dom a → Hf a = Z.Hf0 a
  keep : ∀ a o, Z.P a = some o → H a = some o
  live : ∀ a, Z.dom a → H a ≠ none
  pre : Z.μ0 <+: μ
  new : ∀ l a, μ[l]? = some a → Z.μ0.length ≤ l → ¬ Z.dom a
  nd : μ.Nodup
  len : μ.length = G.cs.length
  n0 : G.n0 = Z.μ0.length
  cells : ∀ (l : Nat) (c : Cell) (a : Addr), G.cs[l]? = some c → μ[l]? = some a → CellAt K Hf μ H a c
  env : EnvOk K Hf μ ρ σ

structure Grow (Hf H Hf' H' : Hp) : Prop where
  same : Same Hf Hf'
  sub : Same Hf' H'
  keep : Same H H'
  old : ∀ a, H a ≠ none → Hf' a = Hf a
theorem Grow.refl {Hf H : Hp} (s : Same Hf H) : Grow Hf H Hf H := ⟨Same.refl _, s, Same.refl _, fun _ _ => rfl⟩
theorem Grow.trans {A B A' B' A2 B2 : Hp} (x : Grow A B A' B') (y : Grow A' B' A2 B2) : Grow A B A2 B2 :=
  ⟨x.same.trans y.same, y.sub, x.keep.trans y.keep, fun a h => by
    have h' : B' a ≠ none := by
      cases q : B a with
      | none => exact absurd q h
      | some o => rw [x.keep a o q]; exact fun z => by cases z
    rw [y.old a h', x.old a h]⟩
theorem Grow.new {Hf H : Hp} (s : Same Hf H) {p : Addr} {o : HO} (h : H p = none) : Grow Hf H (upd Hf p o) (upd H p o) := by
  have hf : Hf p = none := s.free h
  refine ⟨same_new hf, fun a u e => ?_, same_new h, fun a ha => ?_⟩
  · by_cases hp : a = p
    · subst hp
      rw [upd_same] at e ⊢
      exact e
    · rw [upd_ne hp] at e ⊢
      exact s a u e
  · by_cases hp : a = p
    · subst hp; exact absurd h ha
    · rw [upd_ne hp]

section
variable {K : PySem.W.Frag} {Z : Act} {Hf Hf' : Hp} {μ : List Addr} {ρ : Evn} {G : Sto} {σ : L2.St} {H H' : Hp}
theorem Rel.cell (R : Rel K Z Hf μ ρ G σ H) {l : Nat} {c : Cell} (e : G.cs[l]? = some c) : ∃ a, μ[l]? = some a ∧ CellAt K Hf μ H a c := by
  have hl : l < μ.length := by rw [R.len]; exact (List.getElem?_eq_some_iff.mp e).1
  exact ⟨_, List.getElem?_eq_getElem hl, R.cells l c _ e (List.getElem?_eq_getElem hl)⟩
theorem Rel.at_ (R : Rel K Z Hf μ ρ G σ H) {l : Nat} {a : Addr} (e : μ[l]? = some a) : H a ≠ none := by
  have hl : l < G.cs.length := by rw [← R.len]; exact (List.getElem?_eq_some_iff.mp e).1
  exact (R.cells l _ a (List.getElem?_eq_getElem hl) e).there
theorem Rel.fresh (R : Rel K Z Hf μ ρ G σ H) {a : Addr} (h : H a = none) : ¬ Z.dom a ∧ a ∉ μ := by
  refine ⟨fun z => R.live a z h, fun hm => ?_⟩
  obtain ⟨l, e⟩ := List.getElem?_of_mem hm
  exact R.at_ e h
theorem Rel.grow (R : Rel K Z Hf μ ρ G σ H) (g : Grow Hf H Hf' H') : Rel K Z Hf' μ ρ G σ H' where
  sub := g.sub
  base := R.base.trans g.same
  old := fun a h => (g.old a (R.live a h)).trans (R.old a h)
  keep := fun a o h => g.keep a o (R.keep a o h)
  live := fun a h => by
    cases q : H a with
    | none => exact absurd q (R.live a h)
    | some o => rw [g.keep a o q]; exact fun z => by cases z
  pre := R.pre
  new := R.new
  nd := R.nd
  len := R.len
  n0 := R.n0
  cells := fun l c a e1 e2 => (R.cells l c a e1 e2).mono g.same (List.prefix_refl _) (g.old a) fun o q => g.keep a o q
  env := R.env.mono g.same (List.prefix_refl _)
theorem Rel.envs (R : Rel K Z Hf μ ρ G σ H) {ρ' : Evn} {σ' : L2.St} (e : EnvOk K Hf μ ρ' σ') : Rel K Z Hf μ ρ' G σ' H :=
  ⟨R.sub, R.base, R.old, R.keep, R.live, R.pre, R.new, R.nd, R.len, R.n0, R.cells, e⟩
theorem Rel.set (R : Rel K Z Hf μ ρ G σ H) {v : V} {d : D} (r : Rep K Hf μ v d) (i : Nat) : Rel K Z Hf μ (ρ.set i (some d)) G (σ.set i (some v)) H := R.envs (R.env.set r i)
theorem nodup_app {μ : List Addr} {p : Addr} (h : μ.Nodup) (hp : p ∉ μ) : (μ ++ [p]).Nodup := by
  rw [List.nodup_append]
  refine ⟨h, by simp, fun a ha b hb => ?_⟩
  have : b = p := by simpa using hb
  subst this
  exact fun e => hp (e ▸ ha)
theorem pre_app {μ : List Addr} {p : Addr} : μ <+: μ ++ [p] := ⟨[p], rfl⟩
theorem app_get {α : Type} {xs : List α} {x y : α} {l : Nat} (e : (xs ++ [x])[l]? = some y) : (l < xs.length ∧ xs[l]? = some y) ∨ (l = xs.length ∧ y = x) := by
  by_cases hl : l < xs.length
  · rw [List.getElem?_append_left hl] at e
    exact .inl ⟨hl, e⟩
  · rw [List.getElem?_append_right (by omega)] at e
    have hlt : l - xs.length < [x].length := (List.getElem?_eq_some_iff.mp e).1
    have e0 : l - xs.length = 0 := by simp at hlt; omega
    rw [e0] at e
    exact .inr ⟨by omega, by simpa using e.symm⟩
/-- an object apart from all that is known -/
structure Apart (Z : Act) (Hf : Hp) (μ : List Addr) (p : Addr) : Prop where
  hf : Hf p = none
  mu : p ∉ μ
  h0 : ¬ Z.dom p
theorem Rel.apart (R : Rel K Z Hf μ ρ G σ H) {p : Addr} (h : H p = none) : Apart Z Hf μ p := ⟨R.sub.free h, (R.fresh h).2, (R.fresh h).1⟩
theorem Rel.adoptCell (R : Rel K Z Hf μ ρ G σ H) {p : Addr} (a : Apart Z Hf μ p) {c : Cell} (hc : CellAt K Hf (μ ++ [p]) H p c) : Rel K Z Hf (μ ++ [p]) ρ (G.push c) σ H := by
  refine ⟨R.sub, R.base, R.old, R.keep, R.live, R.pre.trans pre_app, fun l b e hl => ?_, nodup_app R.nd a.mu, ?_, R.n0, fun l c' b e1 e2 => ?_, R.env.mono (Same.refl _) pre_app⟩
  · rcases app_get e with ⟨_, e⟩ | ⟨_, e⟩
    · exact R.new l b e hl
    · rw [e]; exact a.h0
  · show (μ ++ [p]).length = (G.cs ++ [c]).length
    rw [List.length_append, List.length_append, R.len]; rfl
  · rcases app_get (show (G.cs ++ [c])[l]? = some c' from e1) with ⟨h1, e1⟩ | ⟨h1, e1⟩
    · rcases app_get e2 with ⟨_, e2⟩ | ⟨h2, _⟩
      · exact (R.cells l c' b e1 e2).mono (Same.refl _) pre_app (fun _ => rfl) (fun u q => q)
      · have := R.len; omega
    · rcases app_get e2 with ⟨h2, _⟩ | ⟨_, e2⟩
      · have := R.len; omega
      · subst e1 e2; exact hc
theorem Rel.extra (R : Rel K Z Hf μ ρ G σ H) {p : Addr} (a : Apart Z Hf μ p) (o : HO) : Rel K Z Hf μ ρ G σ (upd H p o) where
  sub := fun b u e => by
    have : b ≠ p := fun z => by rw [z, a.hf] at e; cases e
    rw [upd_ne this]; exact R.sub b u e
  base := R.base
  old := R.old
  keep := fun b u e => by
    have : b ≠ p := fun z => a.h0 (by rw [← z]; exact Z.pd b u e)
    rw [upd_ne this]; exact R.keep b u e
  live := fun b h => by
    have : b ≠ p := fun z => a.h0 (by rw [← z]; exact h)
    rw [upd_ne this]; exact R.live b h
  pre := R.pre
  new := R.new
  nd := R.nd
  len := R.len
  n0 := R.n0
  cells := fun l c b e1 e2 => by
    have : b ≠ p := fun z => a.mu (by rw [← z]; exact List.mem_of_getElem? e2)
    exact (R.cells l c b e1 e2).mono (Same.refl _) (List.prefix_refl _) (fun _ => rfl) (fun u q => by rw [upd_ne this]; exact q)
  env := R.env
theorem Rel.newCell (R : Rel K Z Hf μ ρ G σ H) {p : Addr} {o : HO} {c : Cell} (h : H p = none) (hc : CellAt K Hf (μ ++ [p]) (upd H p o) p c) : Rel K Z Hf (μ ++ [p]) ρ (G.push c) σ (upd H p o) :=
  (R.extra (R.apart h) o).adoptCell (R.apart h) hc
theorem Rel.adopt (R : Rel K Z Hf μ ρ G σ H) {p : Addr} (a : Apart Z Hf μ p) {o : HO} (h : H p = some o) : Rel K Z (upd Hf p o) μ ρ G σ H ∧ Same Hf (upd Hf p o) := by
  have sm : Same Hf (upd Hf p o) := same_new a.hf
  refine ⟨⟨fun b u e => ?_, R.base.trans sm, fun b hb => ?_, R.keep, R.live, R.pre, R.new, R.nd, R.len, R.n0, fun l c b e1 e2 => ?_, R.env.mono sm (List.prefix_refl _)⟩, sm⟩
  · by_cases hb : b = p
    · subst hb; rw [upd_same] at e; rw [h]; exact e
    · rw [upd_ne hb] at e; exact R.sub b u e
  · have : b ≠ p := fun z => a.h0 (by rw [← z]; exact hb)
    rw [upd_ne this]; exact R.old b hb
  · have : b ≠ p := fun z => a.mu (by rw [← z]; exact List.mem_of_getElem? e2)
    exact (R.cells l c b e1 e2).mono sm (List.prefix_refl _) (fun _ => upd_ne this) (fun u q => q)
theorem nd_get {μ : List Addr} (h : μ.Nodup) {i j : Nat} {a : Addr} (x : μ[i]? = some a) (y : μ[j]? = some a) : i = j := by
  obtain ⟨h1, e1⟩ := List.getElem?_eq_some_iff.mp x
  obtain ⟨h2, e2⟩ := List.getElem?_eq_some_iff.mp y
  exact (List.getElem_inj h).mp (e1.trans e2.symm)
/-- a cell is written -/
theorem Rel.setCell (R : Rel K Z Hf μ ρ G σ H) {l : Nat} {a : Addr} {o : HO} {c : Cell} (hl : l < G.cs.length) (ha : μ[l]? = some a) (hf : Hf a = none) (hc : CellAt K Hf μ (upd H a o) a c) : Rel K Z Hf μ ρ (G.set l c) σ (upd H a o) := by
  have np : ∀ b u, Z.P b = some u → b ≠ a := fun b u e z => by
    subst z
    by_cases hlt : l < Z.μ0.length
    · have hm : b ∈ Z.μ0 := by
        obtain ⟨t, ht⟩ := R.pre
        rw [← ht, List.getElem?_append_left hlt] at ha
        exact List.mem_of_getElem? ha
      rw [Z.pm b hm] at e; cases e
    · exact R.new l b ha (by omega) (Z.pd b u e)
  refine ⟨fun b u e => ?_, R.base, R.old, fun b u e => ?_, fun b h => ?_, R.pre, R.new, R.nd, by show _ = (G.cs.set l c).length; rw [List.length_set]; exact R.len, R.n0, fun l' c' b e1 e2 => ?_, R.env⟩
  · have : b ≠ a := fun z => by rw [z, hf] at e; cases e
    rw [upd_ne this]; exact R.sub b u e
  · rw [upd_ne (np b u e)]; exact R.keep b u e
  · by_cases hb : b = a
    · rw [hb, upd_same]; exact fun z => by cases z
    · rw [upd_ne hb]; exact R.live b h
  · have e1 : (G.cs.set l c)[l']? = some c' := e1
    by_cases hll : l = l'
    · subst hll
      rw [List.getElem?_set_self hl] at e1
      cases e1
      rw [ha] at e2
      cases e2
      exact hc
    · rw [List.getElem?_set_ne hll] at e1
      have : b ≠ a := fun z => by subst z; exact hll (nd_get R.nd ha e2)
      exact (R.cells l' c' b e1 e2).mono (Same.refl _) (List.prefix_refl _) (fun _ => rfl) (fun u q => by rw [upd_ne this]; exact q)
/-- a cell's list becomes a value, the cell is dead -/
theorem Rel.freeze (R : Rel K Z Hf μ ρ G σ H) {l : Nat} {a : Addr} {ds : List D} (e : G.cs[l]? = some (.lst ds)) (ha : μ[l]? = some a) (hz : G.n0 ≤ l) :
    ∃ Hf', Same Hf Hf' ∧ Rel K Z Hf' μ ρ (G.set l .dead) σ H ∧ Rep K Hf' μ (.ref a) (.lst ds) := by
  rw [R.n0] at hz
  obtain ⟨hn, vs, hv, r⟩ := R.cells l _ a e ha
  have sm : Same Hf (upd Hf a (.lst vs)) := same_new hn
  have hl : l < G.cs.length := (List.getElem?_eq_some_iff.mp e).1
  refine ⟨upd Hf a (.lst vs), sm, ⟨fun b u q => ?_, R.base.trans sm, fun b hb => ?_, R.keep, R.live, R.pre, R.new, R.nd, by show _ = (G.cs.set l .dead).length; rw [List.length_set]; exact R.len, R.n0, fun l' c' b e1 e2 => ?_, R.env.mono sm (List.prefix_refl _)⟩, .lst upd_same (r.mono sm (List.prefix_refl _))⟩
  · by_cases hb : b = a
    · subst hb; rw [upd_same] at q; rw [hv]; exact q
    · rw [upd_ne hb] at q; exact R.sub b u q
  · have : b ≠ a := fun z => R.new l b (by rw [z]; exact ha) hz hb
    rw [upd_ne this]; exact R.old b hb
  · have e1 : (G.cs.set l .dead)[l']? = some c' := e1
    by_cases hll : l = l'
    · subst hll
      rw [List.getElem?_set_self hl] at e1
      cases e1
      rw [ha] at e2
      cases e2
      exact ⟨_, hv⟩
    · rw [List.getElem?_set_ne hll] at e1
      have : b ≠ a := fun z => by subst z; exact hll (nd_get R.nd ha e2)
      exact (R.cells l' c' b e1 e2).mono sm (List.prefix_refl _) (fun _ => upd_ne this) (fun u q => q)
/-- an object apart is set under protection, and let go -/
def Act.with_ (Z : Act) (p : Addr) (o : HO) (hf : Z.Hf0 p = none) (hm : p ∉ Z.μ0) : Act :=
  { dom := fun a => Z.dom a ∨ a = p, P := upd Z.P p o, Hf0 := Z.Hf0, μ0 := Z.μ0,
    pd := fun a u e => by
      by_cases h : a = p
      · exact .inr h
      · rw [upd_ne h] at e; exact .inl (Z.pd a u e)
    pm := fun a h => by rw [upd_ne (fun z => hm (by rw [← z]; exact h))]; exact Z.pm a h }
theorem Rel.guard (R : Rel K Z Hf μ ρ G σ H) {p : Addr} {o : HO} (a : Apart Z Hf μ p) (h : H p = some o) : ∃ hf hm, Rel K (Z.with_ p o hf hm) Hf μ ρ G σ H := by
  have hf : Z.Hf0 p = none := by
    cases q : Z.Hf0 p with
    | none => rfl
    | some u => have := R.base p u q; rw [a.hf] at this; cases this
  have hm : p ∉ Z.μ0 := fun z => a.mu (R.pre.subset z)
  refine ⟨hf, hm, R.sub, R.base, fun b hb => ?_, fun b u e => ?_, fun b hb => ?_, R.pre, fun l b e hl hb => ?_, R.nd, R.len, R.n0, R.cells, R.env⟩
  · rcases hb with hb | hb
    · exact R.old b hb
    · rw [hb, a.hf]; exact hf.symm
  · by_cases hb : b = p
    · have e : upd Z.P p o b = some u := e
      rw [hb, upd_same] at e; rw [hb, h]; exact e
    · have e : upd Z.P p o b = some u := e
      rw [upd_ne hb] at e; exact R.keep b u e
  · rcases hb with hb | hb
    · exact R.live b hb
    · rw [hb, h]; exact fun z => by cases z
  · rcases hb with hb | hb
    · exact R.new l b e hl hb
    · exact a.mu (by rw [← hb]; exact List.mem_of_getElem? e)
theorem Rel.unguard {p : Addr} {o : HO} {hf : Z.Hf0 p = none} {hm : p ∉ Z.μ0} (R : Rel K (Z.with_ p o hf hm) Hf μ ρ G σ H) (h0 : ¬ Z.dom p) : Rel K Z Hf μ ρ G σ H ∧ Apart Z Hf μ p ∧ H p = some o := by
  refine ⟨⟨R.sub, R.base, fun b hb => R.old b (.inl hb), fun b u e => R.keep b u ?_, fun b hb => R.live b (.inl hb), R.pre, fun l b e hl hb => R.new l b e hl (.inl hb), R.nd, R.len, R.n0, R.cells, R.env⟩, ⟨(R.old p (.inr rfl)).trans hf, fun hmu => ?_, h0⟩, R.keep p o upd_same⟩
  · have : b ≠ p := fun z => h0 (by rw [← z]; exact Z.pd b u e)
    show upd Z.P p o b = some u
    rw [upd_ne this]; exact e
  · obtain ⟨l, hl⟩ := List.getElem?_of_mem hmu
    by_cases hlt : l < Z.μ0.length
    · obtain ⟨t, ht⟩ := R.pre
      have ht : Z.μ0 ++ t = μ := ht
      rw [← ht, List.getElem?_append_left hlt] at hl
      exact hm (List.mem_of_getElem? hl)
    · exact R.new l p hl (by show Z.μ0.length ≤ l; omega) (.inr rfl)
/-- the entry of a called def that is handed the cells at μ -/
def Act.entry (H Hf : Hp) (μ : List Addr) : Act :=
  { dom := fun a => H a ≠ none, P := fun a => if a ∈ μ then none else H a, Hf0 := Hf, μ0 := μ,
    pd := fun a o e => by
      split at e
      · cases e
      · rw [e]; exact fun z => by cases z
    pm := fun a h => by rw [if_pos h] }
theorem Rel.enter (R : Rel K Z Hf μ ρ G σ H) : Rel K (Act.entry H Hf μ) Hf μ [] ⟨G.cs.length, G.cs⟩ [] H :=
  ⟨R.sub, Same.refl _, fun _ _ => rfl, fun a o e => (by
    have e : (if a ∈ μ then none else H a) = some o := e
    split at e
    · cases e
    · exact e), fun _ h => h, List.prefix_refl _, fun l a e hl => (by rw [List.getElem?_eq_none (show μ.length ≤ l from hl)] at e; cases e), R.nd, R.len, R.len.symm, R.cells, rfl, fun i d e => by simp at e⟩
theorem Rel.leave {μ' : List Addr} {ρ' : Evn} {G' : Sto} {σ' : L2.St} (R : Rel K Z Hf μ ρ G σ H) (R' : Rel K (Act.entry H Hf μ) Hf' μ' ρ' G' σ' H') : Rel K Z Hf' μ' ρ ⟨G.n0, G'.cs⟩ σ H' where
  sub := R'.sub
  base := R.base.trans R'.base
  old := fun a h => (R'.old a (R.live a h)).trans (R.old a h)
  keep := fun a o e => by
    refine R'.keep a o ?_
    show (if a ∈ μ then none else H a) = some o
    rw [if_neg, R.keep a o e]
    intro hmu
    obtain ⟨l, hl⟩ := List.getElem?_of_mem hmu
    by_cases hlt : l < Z.μ0.length
    · obtain ⟨t, ht⟩ := R.pre
      rw [← ht, List.getElem?_append_left hlt] at hl
      rw [Z.pm a (List.mem_of_getElem? hl)] at e
      cases e
    · exact R.new l a hl (by omega) (Z.pd a o e)
  live := fun a h => R'.live a (R.live a h)
  pre := R.pre.trans R'.pre
  new := fun l a e hl => by
    by_cases hlt : l < μ.length
    · obtain ⟨t, ht⟩ := R'.pre
      have ht : μ ++ t = μ' := ht
      rw [← ht, List.getElem?_append_left hlt] at e
      exact R.new l a e hl
    · have := R'.new l a e (by show μ.length ≤ l; omega)
      exact fun z => this (R.live a z)
  nd := R'.nd
  len := R'.len
  n0 := R.n0
  cells := R'.cells
  env := R.env.mono R'.base R'.pre
/-- .. that is handed none -/
theorem Rel.enter0 (R : Rel K Z Hf μ ρ G σ H) : Rel K (Act.entry H Hf []) Hf [] [] Sto.none [] H :=
  ⟨R.sub, Same.refl _, fun _ _ => rfl, fun a o e => (by
    have e : (if a ∈ ([] : List Addr) then none else H a) = some o := e
    rw [if_neg (by simp)] at e
    exact e), fun _ h => h, List.prefix_refl _, fun l a e _ => (by simp at e), List.nodup_nil, rfl, rfl, fun l c a e _ => (by simp at e), rfl, fun i d e => by simp at e⟩
theorem Rel.leave0 {μ' : List Addr} {ρ' : Evn} {G' : Sto} {σ' : L2.St} (R' : Rel K (Act.entry H Hf []) Hf' μ' ρ' G' σ' H') : Grow Hf H Hf' H' :=
  ⟨R'.base, R'.sub, fun a o e => R'.keep a o (by show (if a ∈ ([] : List Addr) then none else H a) = some o; rw [if_neg (by simp)]; exact e), R'.old⟩
end
end Lf

/-! Lf2: expressions as functions of plain data. -/
namespace Lf
open PySem PySem.Spec PyProof.Rows L2

abbrev M (α : Type) := Evn → Sto → Option (α × Sto)

/-- a family of contexts (one body; or a comprehension's blocks) -/
structure Fam where
  ι : Type
  X : ι → Cx
  P : Program
  w : World
  K : PySem.W.Frag
  mg : Str → Option Value
  base : Heap
  k : Nat
  hP : ∀ i, (X i).prog = P
  hw : ∀ i, (X i).w = w
  hK : ∀ i, (X i).K = K
  hm : ∀ i, (X i).mg = mg
  hb : ∀ i, (X i).base = base
  calm : ∀ i, (X i).calm = true
  nd : ∀ i, (X i).N.Nodup
  room : ∀ i, Room k (X i).A

def EvE (K : PySem.W.Frag) (t : TE) (m : M D) : Prop :=
  ∀ Z Hf μ ρ G σ H, Rel K Z Hf μ ρ G σ H → ∀ d G', m ρ G = some (d, G') → ∀ Q : VK,
    (∀ Hf' μ' v H', Rel K Z Hf' μ' ρ G' σ H' → Same Hf Hf' → μ <+: μ' → Rep K Hf' μ' v d → Q v H') → t σ H Q
def EvB (K : PySem.W.Frag) (t : TT) (m : M Bool) : Prop :=
  ∀ Z Hf μ ρ G σ H, Rel K Z Hf μ ρ G σ H → ∀ d G', m ρ G = some (d, G') → ∀ Q : Bool → Hp → Prop,
    (∀ Hf' μ' H', Rel K Z Hf' μ' ρ G' σ H' → Same Hf Hf' → μ <+: μ' → Q d H') → t σ H Q
def EvA (K : PySem.W.Frag) (t : TA) (m : M (List D)) : Prop :=
  ∀ Z Hf μ ρ G σ H, Rel K Z Hf μ ρ G σ H → ∀ ds G', m ρ G = some (ds, G') → ∀ Q : List V → Hp → Prop,
    (∀ Hf' μ' vs H', Rel K Z Hf' μ' ρ G' σ H' → Same Hf Hf' → μ <+: μ' → Reps K Hf' μ' vs ds → Q vs H') → t σ H Q
def EvO (K : PySem.W.Frag) (t : TO) (m : M (Option Int)) : Prop :=
  ∀ Z Hf μ ρ G σ H, Rel K Z Hf μ ρ G σ H → ∀ d G', m ρ G = some (d, G') → ∀ Q : Option Int → Hp → Prop,
    (∀ Hf' μ' H', Rel K Z Hf' μ' ρ G' σ H' → Same Hf Hf' → μ <+: μ' → Q d H') → t σ H Q

def PM (F : Fam) (e : Expr) (m : M D) : Prop := ∃ t, (∀ i, PE (F.X i) e t) ∧ EvE F.K t m
def PB (F : Fam) (e : Expr) (m : M Bool) : Prop := ∃ t, (∀ i, PT (F.X i) e t) ∧ EvB F.K t m
def PBw (F : Fam) (e : Expr) (m : M Bool) : Prop := ∃ t, (∀ i, PW (F.X i) e t) ∧ EvB F.K t m
def PL (F : Fam) (es : List Expr) (m : M (List D)) : Prop := ∃ t, (∀ i, PA (F.X i) es t) ∧ EvA F.K t m
def PP (F : Fam) (e : Option Expr) (m : M (Option Int)) : Prop := ∃ t, (∀ i, PO (F.X i) e t) ∧ EvO F.K t m

/-! ### names and constants -/
def mVar (i : Nat) : M D := fun ρ G => match ρ[i]? with | some (some d) => some (d, G) | _ => none
def mC (d : D) : M D := fun _ G => some (d, G)
theorem ev_var {K : PySem.W.Frag} {i : Nat} : EvE K (tVar i) (mVar i) := by
  intro Z Hf μ ρ G σ H R d G' e Q q
  unfold mVar at e
  split at e
  · rename_i d' he
    cases e
    obtain ⟨v, hv, r⟩ := R.env.2 i _ he
    exact ⟨v, hv, q Hf μ v H R (Same.refl _) (List.prefix_refl _) r⟩
  · cases e
theorem ev_c {K : PySem.W.Frag} {v : V} {d : D} (h : ∀ H μ, Rep K H μ v d) : EvE K (tC v) (mC d) := by
  intro Z Hf μ ρ G σ H R d' G' e Q q
  cases e
  exact q Hf μ v H R (Same.refl _) (List.prefix_refl _) (h _ _)
theorem pm_var {F : Fam} (i : Nat) {x : Str} {pos : Pos} (hN : ∀ j, (F.X j).N[i]? = some x := by intro _; rfl) (hv : ∀ j, Vis (F.X j).env.scope x := by first | exact fun _ => Or.inl rfl | exact fun _ => Or.inr (Or.inl rfl) | exact fun _ => Or.inr (Or.inr rfl)) (hd : (x == ("__debug__" : Str)) = false := by decide)
    (hcd : (x == ("__classdict__" : Str)) = false := by decide) : PM F (.Name x pos) (mVar i) := ⟨_, fun j => pe_var (hN j) (hv j) hd hcd, ev_var⟩
theorem pm_int {F : Fam} {n : Int} {j pos} : PM F (.Constant (.int n) j pos) (mC (.int n)) := ⟨_, fun _ => pe_int, ev_c fun _ _ => .int n⟩
theorem pm_bl {F : Fam} {b j pos} : PM F (.Constant (.bool b) j pos) (mC (.bl b)) := ⟨_, fun _ => pe_bl, ev_c fun _ _ => .bl b⟩
theorem pm_non {F : Fam} {j pos} : PM F (.Constant .none j pos) (mC .non) := ⟨_, fun _ => pe_non, ev_c fun _ _ => .non⟩
theorem pm_str {F : Fam} {x j pos} : PM F (.Constant (.str x) j pos) (mC (.str x)) := ⟨_, fun _ => pe_str, ev_c fun _ _ => .str x⟩
/-- a module's constant that is a number or a text -/
theorem pm_glob {F : Fam} {x : Str} {v : V} {d : D} {u : Value} {pos : Pos} (hg : ∀ j, Gl (F.X j) x) (hm : F.mg x = some u) (r : RelV v u) (h : ∀ H μ, Rep F.K H μ v d) (hd : (x == ("__debug__" : Str)) = false := by decide) : PM F (.Name x pos) (mC d) :=
  ⟨_, fun j => pe_glob (hg j) (by rw [F.hm j]; exact hm) r hd, ev_c h⟩

/-! ### lists of arguments, displays -/
def mNil : M (List D) := fun _ G => some ([], G)
def mCons (a : M D) (r : M (List D)) : M (List D) := fun ρ G => (a ρ G).bind fun p => (r ρ p.2).bind fun q => some (p.1 :: q.1, q.2)
theorem pl_nil {F : Fam} : PL F [] mNil := by
  refine ⟨_, fun _ => pa_nil, ?_⟩
  intro Z Hf μ ρ G σ H R ds G' e Q q
  cases e
  exact q Hf μ [] H R (Same.refl _) (List.prefix_refl _) .nil
theorem pl_cons {F : Fam} {e : Expr} {es : List Expr} {a : M D} {r : M (List D)} (ha : PM F e a) (hr : PL F es r) (hs : ∀ i, starEach (e :: es) (F.X i).env = (false, eval e (F.X i).env) :: starEach es (F.X i).env := by intro _; rfl) : PL F (e :: es) (mCons a r) := by
  obtain ⟨ta, pa, ea⟩ := ha
  obtain ⟨tr, pr, er⟩ := hr
  refine ⟨_, fun i => pa_cons (pa i) (pr i) (hs i), ?_⟩
  intro Z Hf μ ρ G σ H R ds G' e Q q
  unfold mCons at e
  obtain ⟨⟨x, G1⟩, e1, e⟩ := Option.bind_eq_some_iff.mp e
  obtain ⟨⟨xs, G2⟩, e2, e⟩ := Option.bind_eq_some_iff.mp e
  cases e
  refine ea Z Hf μ ρ G σ H R x G1 e1 _ fun Hf1 μ1 v H1 R1 s1 m1 r1 => ?_
  refine er Z Hf1 μ1 ρ G1 σ H1 R1 xs G2 e2 _ fun Hf2 μ2 vs H2 R2 s2 m2 r2 => ?_
  exact q Hf2 μ2 (v :: vs) H2 R2 (s1.trans s2) (m1.trans m2) (.cons (r1.mono s2 m2) r2)
def szOk (n : Nat) : Bool := decide (n ≤ 16777216)
theorem szOk_le {n : Nat} (h : szOk n = true) : n ≤ sizeLine := by rw [sizeLine_eq]; exact of_decide_eq_true h
def mTup (m : M (List D)) : M D := fun ρ G => (m ρ G).bind fun p => if szOk p.1.length then some (.tup p.1, p.2) else none
def mLst (m : M (List D)) : M D := fun ρ G => (m ρ G).bind fun p => if szOk p.1.length then some (.lst p.1, p.2) else none
/-- a list as a cell -/
def mNew (m : M (List D)) : M D := fun ρ G => (m ρ G).bind fun p => if szOk p.1.length then some (.loc p.2.cs.length, p.2.push (.lst p.1)) else none
section
variable {K : PySem.W.Frag} {Z : Act} {Hf Hf' : Hp} {μ : List Addr} {ρ : Evn} {G : Sto} {σ : L2.St} {H H' : Hp}
theorem Rel.tupNew (R : Rel K Z Hf μ ρ G σ H) {p : Addr} (hp : H p = none) {vs : List V} {ds : List D} (r : Reps K Hf μ vs ds) : Rel K Z (upd Hf p (.tup vs)) μ ρ G σ (upd H p (.tup vs)) ∧ Same Hf (upd Hf p (.tup vs)) ∧ Rep K (upd Hf p (.tup vs)) μ (.ref p) (.tup ds) := by
  have g : Grow Hf H (upd Hf p (.tup vs)) (upd H p (.tup vs)) := Grow.new R.sub hp
  exact ⟨R.grow g, g.same, .tup (SqT.of upd_same) (r.mono g.same (List.prefix_refl _))⟩
theorem Rel.lstNew (R : Rel K Z Hf μ ρ G σ H) {p : Addr} (hp : H p = none) {vs : List V} {ds : List D} (r : Reps K Hf μ vs ds) : Rel K Z (upd Hf p (.lst vs)) μ ρ G σ (upd H p (.lst vs)) ∧ Same Hf (upd Hf p (.lst vs)) ∧ Rep K (upd Hf p (.lst vs)) μ (.ref p) (.lst ds) := by
  have g : Grow Hf H (upd Hf p (.lst vs)) (upd H p (.lst vs)) := Grow.new R.sub hp
  exact ⟨R.grow g, g.same, .lst upd_same (r.mono g.same (List.prefix_refl _))⟩
theorem Rel.cellNew (R : Rel K Z Hf μ ρ G σ H) {p : Addr} (hp : H p = none) {vs : List V} {ds : List D} (r : Reps K Hf μ vs ds) : Rel K Z Hf (μ ++ [p]) ρ (G.push (.lst ds)) σ (upd H p (.lst vs)) ∧ Rep K Hf (μ ++ [p]) (.ref p) (.loc G.cs.length) := by
  refine ⟨R.newCell hp ⟨R.sub.free hp, vs, upd_same, r.mono (Same.refl _) pre_app⟩, .loc ?_⟩
  rw [← R.len, List.getElem?_append_right (Nat.le_refl _), Nat.sub_self]
  rfl
end
theorem pm_tup {F : Fam} {es : List Expr} {m : M (List D)} {x1 pos} (h : PL F es m) : PM F (.Tuple es x1 pos) (mTup m) := by
  obtain ⟨t, p, ev⟩ := h
  refine ⟨_, fun i => pe_tup (p i), ?_⟩
  intro Z Hf μ ρ G σ H R d G' e Q q
  unfold mTup at e
  obtain ⟨⟨xs, G1⟩, e1, e⟩ := Option.bind_eq_some_iff.mp e
  split at e
  · rename_i hz
    cases e
    refine ev Z Hf μ ρ G σ H R xs G1 e1 _ fun Hf1 μ1 vs H1 R1 s1 m1 r1 => ⟨by rw [r1.length]; exact szOk_le hz, fun p hp => ?_⟩
    obtain ⟨R2, s2, r2⟩ := R1.tupNew hp r1
    exact q _ μ1 _ _ R2 (s1.trans s2) m1 r2
  · cases e
theorem pm_lst {F : Fam} {es : List Expr} {m : M (List D)} {pos} (h : PL F es m) : PM F (.List es pos) (mLst m) := by
  obtain ⟨t, p, ev⟩ := h
  refine ⟨_, fun i => pe_lst (p i), ?_⟩
  intro Z Hf μ ρ G σ H R d G' e Q q
  unfold mLst at e
  obtain ⟨⟨xs, G1⟩, e1, e⟩ := Option.bind_eq_some_iff.mp e
  split at e
  · rename_i hz
    cases e
    refine ev Z Hf μ ρ G σ H R xs G1 e1 _ fun Hf1 μ1 vs H1 R1 s1 m1 r1 => ⟨by rw [r1.length]; exact szOk_le hz, fun p hp => ?_⟩
    obtain ⟨R2, s2, r2⟩ := R1.lstNew hp r1
    exact q _ μ1 _ _ R2 (s1.trans s2) m1 r2
  · cases e
theorem pm_new {F : Fam} {es : List Expr} {m : M (List D)} {pos} (h : PL F es m) : PM F (.List es pos) (mNew m) := by
  obtain ⟨t, p, ev⟩ := h
  refine ⟨_, fun i => pe_lst (p i), ?_⟩
  intro Z Hf μ ρ G σ H R d G' e Q q
  unfold mNew at e
  obtain ⟨⟨xs, G1⟩, e1, e⟩ := Option.bind_eq_some_iff.mp e
  split at e
  · rename_i hz
    cases e
    refine ev Z Hf μ ρ G σ H R xs G1 e1 _ fun Hf1 μ1 vs H1 R1 s1 m1 r1 => ⟨by rw [r1.length]; exact szOk_le hz, fun p hp => ?_⟩
    obtain ⟨R2, r2⟩ := R1.cellNew hp r1
    exact q _ _ _ _ R2 s1 (m1.trans pre_app) r2
  · cases e

/-! ### two-place operations -/
def mBin (f : D → D → Option D) (a b : M D) : M D := fun ρ G => (a ρ G).bind fun p => (b ρ p.2).bind fun q => (f p.1 q.1).bind fun z => some (z, q.2)
def BinOk (K : PySem.W.Frag) (r : R2) (f : D → D → Option D) : Prop := ∀ x y z, f x y = some z → ∀ Hf μ v u H, Same Hf H → Rep K Hf μ v x → Rep K Hf μ u y → ∀ Q : VK,
  (∀ Hf' H' t, Grow Hf H Hf' H' → Rep K Hf' μ t z → Q t H') → r v u H Q
theorem ev_bin {K : PySem.W.Frag} {r : R2} {f : D → D → Option D} {ta tb : TE} {a b : M D} (hf : BinOk K r f) (ha : EvE K ta a) (hb : EvE K tb b) : EvE K (tOp r ta tb) (mBin f a b) := by
  intro Z Hf μ ρ G σ H R d G' e Q q
  unfold mBin at e
  obtain ⟨⟨x, G1⟩, e1, e⟩ := Option.bind_eq_some_iff.mp e
  obtain ⟨⟨y, G2⟩, e2, e⟩ := Option.bind_eq_some_iff.mp e
  obtain ⟨z, e3, e⟩ := Option.bind_eq_some_iff.mp e
  cases e
  refine ha Z Hf μ ρ G σ H R x G1 e1 _ fun Hf1 μ1 v H1 R1 s1 m1 r1 => ?_
  refine hb Z Hf1 μ1 ρ G1 σ H1 R1 y G2 e2 _ fun Hf2 μ2 u H2 R2 s2 m2 r2 => ?_
  refine hf x y _ e3 Hf2 μ2 v u H2 R2.sub (r1.mono s2 m2) r2 Q fun Hf3 H3 t g r3 => ?_
  exact q Hf3 μ2 t H3 (R2.grow g) ((s1.trans s2).trans g.same) (m1.trans m2) r3
theorem pm_op {F : Fam} {op : Operator} {r : R2} {f : D → D → Option D} {a b : Expr} {ma mb : M D} {pos : Pos} (ho : ∀ i, OpR (F.X i) (binaryOp op) r) (hf : BinOk F.K r f) (ha : PM F a ma) (hb : PM F b mb) : PM F (.BinOp a op b pos) (mBin f ma mb) := by
  obtain ⟨ta, pa, ea⟩ := ha
  obtain ⟨tb, pb, eb⟩ := hb
  exact ⟨_, fun i => pe_op (ho i) (pa i) (pb i), ev_bin hf ea eb⟩
/-- a comparison as a value -/
theorem pm_cmp {F : Fam} {op : CmpOp} {r : R2} {f : D → D → Option D} {a b : Expr} {ma mb : M D} {pos : Pos} (ho : ∀ i, OpR (F.X i) (compareOp op) r) (hf : BinOk F.K r f) (ha : PM F a ma) (hb : PM F b mb) (hm : behindInMarks op b = false) : PM F (.Compare a [op] [b] pos) (mBin f ma mb) := by
  obtain ⟨ta, pa, ea⟩ := ha
  obtain ⟨tb, pb, eb⟩ := hb
  exact ⟨_, fun i => pe_cmpR (ho i) (pa i) (pb i) hm, ev_bin hf ea eb⟩
def mBool (a : M D) : M Bool := fun ρ G => (a ρ G).bind fun p => match p.1 with | .bl b => some (b, p.2) | _ => none
theorem ev_test {K : PySem.W.Frag} {t : TE} {a : M D} (ha : EvE K t a) : EvB K (tTest t) (mBool a) := by
  intro Z Hf μ ρ G σ H R d G' e Q q
  unfold mBool at e
  obtain ⟨⟨x, G1⟩, e1, e⟩ := Option.bind_eq_some_iff.mp e
  refine ha Z Hf μ ρ G σ H R x G1 e1 _ fun Hf1 μ1 v H1 R1 s1 m1 r1 => ?_
  cases x <;> simp only [reduceCtorEq] at e
  cases e
  cases r1
  exact ⟨_, rfl, q Hf1 μ1 H1 R1 s1 m1⟩
theorem pb_cmp {F : Fam} {op : CmpOp} {r : R2} {f : D → D → Option D} {a b : Expr} {ma mb : M D} {pos : Pos} (ho : ∀ i, OpR (F.X i) (compareOp op) r) (hf : BinOk F.K r f) (ha : PM F a ma) (hb : PM F b mb) (hm : behindInMarks op b = false) : PB F (.Compare a [op] [b] pos) (mBool (mBin f ma mb)) := by
  obtain ⟨ta, pa, ea⟩ := ha
  obtain ⟨tb, pb, eb⟩ := hb
  exact ⟨_, fun i => pt_cmpR (ho i) (pa i) (pb i) hm, ev_test (ev_bin hf ea eb)⟩

/-! the operations themselves -/
theorem bin_int0 {K : PySem.W.Frag} {g : Int → Int → V} {f : D → D → Option D} {h : Int → Int → D} (hr : ∀ i j H μ, Rep K H μ (g i j) (h i j)) (hf : ∀ x y z, f x y = some z → ∃ i j, x = .int i ∧ y = .int j ∧ z = h i j) : BinOk K (rI0 g) f := by
  intro x y z e Hf μ v u H s r1 r2 Q q
  obtain ⟨i, j, rfl, rfl, rfl⟩ := hf x y z e
  cases r1
  cases r2
  exact ⟨i, j, rfl, rfl, q Hf H _ (Grow.refl s) (hr i j _ _)⟩
theorem bin_intC {K : PySem.W.Frag} {C : Int → Int → Prop} {g : Int → Int → V} {f : D → D → Option D} {h : Int → Int → D} (hr : ∀ i j H μ, Rep K H μ (g i j) (h i j)) (hf : ∀ x y z, f x y = some z → ∃ i j, x = .int i ∧ y = .int j ∧ C i j ∧ z = h i j) : BinOk K (rI C g) f := by
  intro x y z e Hf μ v u H s r1 r2 Q q
  obtain ⟨i, j, rfl, rfl, hc, rfl⟩ := hf x y z e
  cases r1
  cases r2
  exact ⟨i, j, rfl, rfl, hc, q Hf H _ (Grow.refl s) (hr i j _ _)⟩
/-- two rules for one operation -/
theorem bin_or {K : PySem.W.Frag} {r r' : R2} {f g h : D → D → Option D} (a : BinOk K r f) (b : BinOk K r' g) (hh : ∀ x y z, h x y = some z → f x y = some z ∨ g x y = some z) : BinOk K (fun x y H Q => r x y H Q ∨ r' x y H Q) h := by
  intro x y z e Hf μ v u H s r1 r2 Q q
  rcases hh x y z e with e | e
  · exact .inl (a x y z e Hf μ v u H s r1 r2 Q q)
  · exact .inr (b x y z e Hf μ v u H s r1 r2 Q q)
end Lf

/-! Lf3: the operators, tests, places, slices, built-in functions. -/
namespace Lf
open PySem PySem.Spec PyProof.Rows L2

/-! ### arithmetic -/
def mulOk (i j : Int) : Bool := decide (i.natAbs.log2 + j.natAbs.log2 < 1000000)
def divOk (j : Int) : Bool := decide (0 < j) && decide (j.natAbs.log2 < 9000)
def divOkN (j : Int) : Bool := decide (j < 0) && decide (j.natAbs < 1073741824)
def powOk (i j : Int) : Bool := decide (0 ≤ j) && decide (j ≤ 1000000) && decide (i.natAbs < 2 ^ 64)
def fAdd : D → D → Option D
  | .int i, .int j => some (.int (i + j))
  | .str a, .str b => if szOk (a.length + b.length) then some (.str (a ++ b)) else none
  | .tup a, .tup b => if szOk (a.length + b.length) then some (.tup (a ++ b)) else none
  | .lst a, .lst b => if szOk (a.length + b.length) then some (.lst (a ++ b)) else none
  | _, _ => none
def fSub : D → D → Option D
  | .int i, .int j => some (.int (i - j))
  | _, _ => none
def fMul : D → D → Option D
  | .int i, .int j => if mulOk i j then some (.int (i * j)) else none
  | .tup a, .int k => if !a.isEmpty && decide (1 ≤ k) && decide (k ≤ 1000) && decide (a.length ≤ 1000) then some (.tup (List.replicate k.toNat a).flatten) else none
  | _, _ => none
def fDiv : D → D → Option D
  | .int i, .int j => if divOk j then some (.int (i / j)) else if divOkN j then some (.int (i.fdiv j)) else none
  | _, _ => none
def fMod : D → D → Option D
  | .int i, .int j => if 0 < j then some (.int (i % j)) else if j < 0 then some (.int (i.fmod j)) else none
  | _, _ => none
def fPow : D → D → Option D
  | .int i, .int j => if powOk i j then some (.int (i ^ j.toNat)) else none
  | _, _ => none
def fShl : D → D → Option D
  | .int i, .int j => if powOk i j then some (.int (i * 2 ^ j.toNat)) else none
  | _, _ => none

/-- a tuple once is itself -/
theorem tuple_mul1 (l : Addr) (items : Array Value) (n : Nat) (sl : Array (Option Value)) (dd : Option Addr) (u : Tok) (c1 : (items.isEmpty || (1 : Int) == 1) = true) :
    Meets (Builtin.«tuple.__mul__» ⟨[.ref l, .int 1 u], []⟩) (fun _ R s => s.heap.get? l = some { cls := .type "tuple", dict := dd, data := .seq items n, slots := sl } ∧ R (.ok (.ret (Value.ref l))) s) :=
  .of_wp fun prog w A R s h => by
    obtain ⟨hp, g, d, tk, os⟩ := s
    obtain ⟨hl, h⟩ := h
    have f1 := AutoSeq1.idx_int
    wp_walk using wpAny_loadPart' hl
    repeat (first
      | (refine wpAny_ite_false (decide_eq_false (by decide)) ?_; wp_walk using wpAny_loadPart' hl)
      | (refine wpAny_ite_true (decide_eq_true (by rw [c1])) ?_; wp_walk using wpAny_loadPart' hl)
      | (refine wpAny_ite_true (decide_eq_true rfl) ?_; wp_walk using wpAny_loadPart' hl))
    exact ⟨_, rfl, h⟩
def rRepT1 (K : PySem.W.Frag) : R2 := fun x y H Q => ∃ l xs, x = .ref l ∧ y = .int 1 ∧ SqT K H l xs ∧ Q (.ref l) H
section
variable {X : Cx}
theorem op_repT1 : OpR X (binaryOp .Mult) (rRepT1 X.K) := by
  intro pins s σ H x y v u Q I rx ry h
  obtain ⟨l, xs, rfl, rfl, hT, q⟩ := h
  cases rx
  obtain ⟨t, rfl⟩ := ry
  obtain ⟨its, r, ⟨⟨cls, dd, data, sl⟩, ho, hc, n, hd⟩, hs⟩ := I.tuple hT
  simp only at hc hd
  subst hc hd
  have c1 : (its.toArray.isEmpty || (1 : Int) == 1) = true := by simp
  refine wpAny_binaryOp_repeat_ref (T := "tuple") (U := "int") (by decide) ⟨_, ho, rfl⟩ (fun s' => typeIs_int s' 1 t) noFill_tuple_mul F.fills_int_mul F.slot_int_rmul repeat_tuple F.slot_int_index.lookup
    (call_meets F.slot_int_rmul (typeIs_int s 1 t) F.entry_int_rmul (F.args_int_rmul_2 _ _) (int_rmul_tuple 1 t l its.toArray n dd sl)
      ⟨ho, rfl, ⟨_, ho, rfl⟩, call_meets F.slot_tuple_mul ⟨_, ho, rfl⟩ F.entry_tuple_mul (F.args_tuple_mul_2 _ _) (tuple_mul1 l its.toArray n sl dd t c1) ⟨ho, ?_⟩⟩)
  exact ⟨.ref l, H, I, rfl, q⟩
end

/-! ### adequacy of the operations -/
section
variable {K : PySem.W.Frag}
theorem bk_addI : BinOk K (rI0 fun i j => .int (i + j)) (fun x y => match x, y with | .int i, .int j => some (.int (i + j)) | _, _ => none) :=
  bin_int0 (h := fun i j => .int (i + j)) (fun i j _ _ => .int _) (by
    intro x y z e
    split at e
    · cases e; exact ⟨_, _, rfl, rfl, rfl⟩
    · cases e)
theorem bk_subI : BinOk K (rI0 fun i j => .int (i - j)) fSub :=
  bin_int0 (h := fun i j => .int (i - j)) (fun i j _ _ => .int _) (by
    intro x y z e
    unfold fSub at e
    split at e
    · cases e; exact ⟨_, _, rfl, rfl, rfl⟩
    · cases e)
def rStrAdd : R2 := fun x y H Q => ∃ i j, x = .str i ∧ y = .str j ∧ i.length + j.length ≤ sizeLine ∧ Q (.str (i ++ j)) H
theorem bk_addS : BinOk K rStrAdd (fun x y => match x, y with | .str a, .str b => if szOk (a.length + b.length) then some (.str (a ++ b)) else none | _, _ => none) := by
  intro x y z e Hf μ v u H s r1 r2 Q q
  dsimp only at e
  split at e
  · split at e
    · rename_i hz
      cases e
      cases r1
      cases r2
      exact ⟨_, _, rfl, rfl, szOk_le hz, q Hf H _ (Grow.refl s) (.str _)⟩
    · cases e
  · cases e
theorem Reps.nil_iff {H : Hp} {μ : List Addr} {vs : List V} {ds : List D} (r : Reps K H μ vs ds) : vs = [] ↔ ds = [] := by
  cases r <;> simp
theorem bk_addT : BinOk K (rCatA K) (fun x y => match x, y with | .tup a, .tup b => if szOk (a.length + b.length) then some (.tup (a ++ b)) else none | _, _ => none) := by
  intro x y z e Hf μ v u H s r1 r2 Q q
  dsimp only at e
  split at e
  · split at e
    · rename_i hz
      cases e
      cases r1 with
      | tup h1 r1 =>
      cases r2 with
      | tup h2 r2 =>
      rename_i a xs b ys
      refine ⟨a, b, xs, ys, rfl, rfl, same_sqT s h1, same_sqT s h2, by rw [r1.length, r2.length]; exact szOk_le hz, fun ex => ?_, fun _ ey => ?_, fun _ _ p hp => ?_⟩
      · have : _ = [] := r1.nil_iff.mp ex
        subst this
        exact q Hf H _ (Grow.refl s) (.tup h2 r2)
      · have : _ = [] := r2.nil_iff.mp ey
        subst this
        rw [List.append_nil] at q
        exact q Hf H _ (Grow.refl s) (.tup h1 r1)
      · have g : Grow Hf H (upd Hf p (.tup (xs ++ ys))) (upd H p (.tup (xs ++ ys))) := Grow.new s hp
        exact q _ _ _ g (.tup (SqT.of upd_same) ((r1.append r2).mono g.same (List.prefix_refl _)))
    · cases e
  · cases e
theorem bk_addL : BinOk K rCat (fun x y => match x, y with | .lst a, .lst b => if szOk (a.length + b.length) then some (.lst (a ++ b)) else none | _, _ => none) := by
  intro x y z e Hf μ v u H s r1 r2 Q q
  dsimp only at e
  split at e
  · split at e
    · rename_i hz
      cases e
      cases r1 with
      | lst h1 r1 =>
      cases r2 with
      | lst h2 r2 =>
      rename_i a xs b ys
      refine ⟨a, b, xs, ys, rfl, rfl, s _ _ h1, s _ _ h2, by rw [r1.length, r2.length]; exact szOk_le hz, fun p hp => ?_⟩
      have g : Grow Hf H (upd Hf p (.lst (xs ++ ys))) (upd H p (.lst (xs ++ ys))) := Grow.new s hp
      exact q _ _ _ g (.lst upd_same ((r1.append r2).mono g.same (List.prefix_refl _)))
    · cases e
  · cases e
def rAddAll (K : PySem.W.Frag) : R2 := fun x y H Q => (rI0 fun i j => .int (i + j)) x y H Q ∨ (rStrAdd x y H Q ∨ (rCatA K x y H Q ∨ rCat x y H Q))
theorem bk_add : BinOk K (rAddAll K) fAdd := by
  refine bin_or bk_addI (bin_or bk_addS (bin_or bk_addT bk_addL (h := fun x y => match x, y with | .tup a, .tup b => if szOk (a.length + b.length) then some (.tup (a ++ b)) else none | .lst a, .lst b => if szOk (a.length + b.length) then some (.lst (a ++ b)) else none | _, _ => none) ?_)
    (h := fun x y => match x, y with | .str a, .str b => if szOk (a.length + b.length) then some (.str (a ++ b)) else none | .tup a, .tup b => if szOk (a.length + b.length) then some (.tup (a ++ b)) else none | .lst a, .lst b => if szOk (a.length + b.length) then some (.lst (a ++ b)) else none | _, _ => none) ?_) ?_
  · intro x y z e
    cases x <;> cases y <;> first | exact .inl e | exact .inr e | cases e
  · intro x y z e
    cases x <;> cases y <;> first | exact .inl e | exact .inr e | cases e
  · intro x y z e
    cases x <;> cases y <;> first | exact .inl e | exact .inr e | cases e
theorem bk_mulI : BinOk K (rI CMulW fun i j => .int (i * j)) (fun x y => match x, y with | .int i, .int j => if mulOk i j then some (.int (i * j)) else none | _, _ => none) :=
  bin_intC (h := fun i j => .int (i * j)) (fun i j _ _ => .int _) (by
    intro x y z e
    split at e
    · split at e
      · rename_i h
        cases e
        exact ⟨_, _, rfl, rfl, (by unfold mulOk at h; exact of_decide_eq_true (p := _ < _) h), rfl⟩
      · cases e
    · cases e)
def rRepA (K : PySem.W.Frag) : R2 := fun x y H Q => rRepT K x y H Q ∨ rRepT1 K x y H Q
theorem bk_mulT : BinOk K (rRepA K) (fun x y => match x, y with | .tup a, .int k => if !a.isEmpty && decide (1 ≤ k) && decide (k ≤ 1000) && decide (a.length ≤ 1000) then some (.tup (List.replicate k.toNat a).flatten) else none | _, _ => none) := by
  intro x y z e Hf μ v u H s r1 r2 Q q
  dsimp only at e
  split at e
  · split at e
    · rename_i h
      simp only [Bool.and_eq_true, decide_eq_true_eq, Bool.not_eq_true', List.isEmpty_eq_false_iff] at h
      obtain ⟨⟨⟨h1, h2⟩, h3⟩, h4⟩ := h
      cases e
      cases r1 with
      | tup t1 r1 =>
      cases r2
      rename_i k a xs
      by_cases hk : k = 1
      · subst hk
        refine .inr ⟨a, xs, rfl, rfl, same_sqT s t1, ?_⟩
        have e1 : ∀ (l : List D), (List.replicate (1 : Int).toNat l).flatten = l := fun l => by simp
        rw [e1] at q
        exact q Hf H _ (Grow.refl s) (.tup t1 r1)
      · refine .inl ⟨a, k, xs, rfl, rfl, same_sqT s t1, fun z => h1 (r1.nil_iff.mp z), by omega, h3, by rw [r1.length]; exact h4, fun p hp => ?_⟩
        have g : Grow Hf H (upd Hf p (.tup (List.replicate k.toNat xs).flatten)) (upd H p (.tup (List.replicate k.toNat xs).flatten)) := Grow.new s hp
        exact q _ _ _ g (.tup (SqT.of upd_same) ((r1.rep k.toNat).mono g.same (List.prefix_refl _)))
    · cases e
  · cases e
def rMulAll (K : PySem.W.Frag) : R2 := fun x y H Q => (rI CMulW fun i j => .int (i * j)) x y H Q ∨ rRepA K x y H Q
theorem bk_mul : BinOk K (rMulAll K) fMul := by
  refine bin_or bk_mulI bk_mulT ?_
  intro x y z e
  cases x <;> cases y <;> first | exact .inl e | exact .inr e | cases e
def rDivAll : R2 := fun x y H Q => (rI CDivW fun i j => .int (i / j)) x y H Q ∨ (rI CDivN fun i j => .int (i.fdiv j)) x y H Q
theorem bk_div : BinOk K rDivAll fDiv := by
  refine bin_or (f := fun x y => match x, y with | .int i, .int j => if divOk j then some (.int (i / j)) else none | _, _ => none) (g := fun x y => match x, y with | .int i, .int j => if divOkN j then some (.int (i.fdiv j)) else none | _, _ => none)
    (bin_intC (h := fun i j => .int (i / j)) (fun i j _ _ => .int _) ?_) (bin_intC (h := fun i j => .int (i.fdiv j)) (fun i j _ _ => .int _) ?_) ?_
  · intro x y z e
    split at e
    · split at e
      · rename_i h
        cases e
        unfold divOk at h
        simp only [Bool.and_eq_true, decide_eq_true_eq] at h
        exact ⟨_, _, rfl, rfl, h, rfl⟩
      · cases e
    · cases e
  · intro x y z e
    split at e
    · split at e
      · rename_i h
        cases e
        unfold divOkN at h
        simp only [Bool.and_eq_true, decide_eq_true_eq] at h
        exact ⟨_, _, rfl, rfl, ⟨by omega, h.2⟩, rfl⟩
      · cases e
    · cases e
  · intro x y z e
    cases x <;> cases y <;> first | (cases e; done) | skip
    unfold fDiv at e
    dsimp only at e ⊢
    split at e
    · rename_i h
      exact .inl (by rw [if_pos h]; exact e)
    · split at e
      · rename_i h
        exact .inr (by rw [if_pos h]; exact e)
      · cases e
def rModAll : R2 := fun x y H Q => (rI (fun _ j => 0 < j) fun i j => .int (i % j)) x y H Q ∨ (rI (fun _ j => j ≠ 0) fun i j => .int (i.fmod j)) x y H Q
theorem bk_mod : BinOk K rModAll fMod := by
  refine bin_or (f := fun x y => match x, y with | .int i, .int j => if 0 < j then some (.int (i % j)) else none | _, _ => none) (g := fun x y => match x, y with | .int i, .int j => if j < 0 then some (.int (i.fmod j)) else none | _, _ => none)
    (bin_intC (h := fun i j => .int (i % j)) (fun i j _ _ => .int _) ?_) (bin_intC (h := fun i j => .int (i.fmod j)) (fun i j _ _ => .int _) ?_) ?_
  · intro x y z e
    split at e
    · split at e
      · rename_i h
        cases e
        exact ⟨_, _, rfl, rfl, h, rfl⟩
      · cases e
    · cases e
  · intro x y z e
    split at e
    · split at e
      · rename_i h
        cases e
        exact ⟨_, _, rfl, rfl, by omega, rfl⟩
      · cases e
    · cases e
  · intro x y z e
    cases x <;> cases y <;> first | (cases e; done) | skip
    unfold fMod at e
    dsimp only at e ⊢
    split at e
    · rename_i h
      exact .inl (by rw [if_pos h]; exact e)
    · split at e
      · rename_i h
        exact .inr (by rw [if_pos h]; exact e)
      · cases e
theorem bk_pow : BinOk K (rI CPow fun i j => .int (i ^ j.toNat)) fPow :=
  bin_intC (h := fun i j => .int (i ^ j.toNat)) (fun i j _ _ => .int _) (by
    intro x y z e
    unfold fPow at e
    split at e
    · split at e
      · rename_i h
        cases e
        unfold powOk at h
        simp only [Bool.and_eq_true, decide_eq_true_eq] at h
        exact ⟨_, _, rfl, rfl, ⟨h.1.1, h.1.2, h.2⟩, rfl⟩
      · cases e
    · cases e)
theorem bk_shl : BinOk K (rI CPow fun i j => .int (i * 2 ^ j.toNat)) fShl :=
  bin_intC (h := fun i j => .int (i * 2 ^ j.toNat)) (fun i j _ _ => .int _) (by
    intro x y z e
    unfold fShl at e
    split at e
    · split at e
      · rename_i h
        cases e
        unfold powOk at h
        simp only [Bool.and_eq_true, decide_eq_true_eq] at h
        exact ⟨_, _, rfl, rfl, ⟨h.1.1, h.1.2, h.2⟩, rfl⟩
      · cases e
    · cases e)
end
section
variable {F : Fam} {a b : Expr} {ma mb : M D} {pos : Pos}
theorem op_addAll {X : Cx} : OpR X (binaryOp .Add) (rAddAll X.K) := op_add.or (op_add_str.or (op_catA.or op_cat))
theorem op_mulAll {X : Cx} : OpR X (binaryOp .Mult) (rMulAll X.K) := op_mulW.or (op_repT.or op_repT1)
theorem pm_add (ha : PM F a ma) (hb : PM F b mb) : PM F (.BinOp a .Add b pos) (mBin fAdd ma mb) := pm_op (fun i => by have h := op_addAll (X := F.X i); rw [F.hK i] at h; exact h) bk_add ha hb
theorem pm_sub (ha : PM F a ma) (hb : PM F b mb) : PM F (.BinOp a .Sub b pos) (mBin fSub ma mb) := pm_op (fun i => op_sub) bk_subI ha hb
theorem pm_mul (ha : PM F a ma) (hb : PM F b mb) : PM F (.BinOp a .Mult b pos) (mBin fMul ma mb) := pm_op (fun i => by have h := op_mulAll (X := F.X i); rw [F.hK i] at h; exact h) bk_mul ha hb
theorem pm_div (ha : PM F a ma) (hb : PM F b mb) : PM F (.BinOp a .FloorDiv b pos) (mBin fDiv ma mb) := pm_op (fun i => op_fdivW.or op_fdivN) bk_div ha hb
theorem pm_mod (ha : PM F a ma) (hb : PM F b mb) : PM F (.BinOp a .Mod b pos) (mBin fMod ma mb) := pm_op (fun i => op_mod.or op_modN) bk_mod ha hb
theorem pm_pow (ha : PM F a ma) (hb : PM F b mb) : PM F (.BinOp a .Pow b pos) (mBin fPow ma mb) := pm_op (fun i => op_pow) bk_pow ha hb
theorem pm_shl (ha : PM F a ma) (hb : PM F b mb) : PM F (.BinOp a .LShift b pos) (mBin fShl ma mb) := pm_op (fun i => op_shl) bk_shl ha hb
def mUn (f : D → Option D) (a : M D) : M D := fun ρ G => (a ρ G).bind fun p => (f p.1).bind fun z => some (z, p.2)
def fNeg : D → Option D | .int i => some (.int (-i)) | _ => none
theorem pm_neg (ha : PM F a ma) : PM F (.UnaryOp .USub a pos) (mUn fNeg ma) := by
  obtain ⟨ta, pa, ea⟩ := ha
  refine ⟨_, fun i => pe_un un_neg (pa i), ?_⟩
  intro Z Hf μ ρ G σ H R d G' e Q q
  unfold mUn at e
  obtain ⟨⟨x, G1⟩, e1, e⟩ := Option.bind_eq_some_iff.mp e
  obtain ⟨z, e2, e⟩ := Option.bind_eq_some_iff.mp e
  cases e
  refine ea Z Hf μ ρ G σ H R x _ e1 _ fun Hf1 μ1 v H1 R1 s1 m1 r1 => ?_
  cases x <;> simp only [fNeg, reduceCtorEq] at e2
  cases e2
  cases r1
  exact ⟨_, rfl, q Hf1 μ1 _ H1 R1 s1 m1 (.int _)⟩
end

/-! ### comparisons -/
def fLt : D → D → Option D | .int i, .int j => some (.bl (decide (i < j))) | _, _ => none
def fLe : D → D → Option D | .int i, .int j => some (.bl (decide (i ≤ j))) | _, _ => none
def fGt : D → D → Option D | .int i, .int j => some (.bl (decide (j < i))) | _, _ => none
def fGe : D → D → Option D | .int i, .int j => some (.bl (decide (j ≤ i))) | _, _ => none
mutual
def toPy : D → Option PyData
  | .non => some .none
  | .bl b => some (.bool b)
  | .int i => some (.int i)
  | .str s => some (.str s)
  | .tup ds => (toPys ds).map .tuple
  | .lst ds => (toPys ds).map .list
  | .frz ds => (toPys ds).map .list
  | .loc _ => none
def toPys : List D → Option (List PyData)
  | [] => some []
  | d :: ds => (toPy d).bind fun x => (toPys ds).map (x :: ·)
end
/-- the equality of data -/
def eqD (x y : D) : Option Bool := match x, y with
  | .int i, .int j => some (i == j)
  | .str i, .str j => some (i == j)
  | .bl i, .bl j => some (i == j)
  | x, y => (toPy x).bind fun a => (toPy y).bind fun b => if SeqAt.shaped a && SeqAt.shaped b then some (PyData.eqv a b) else none
def fEq (x y : D) : Option D := (eqD x y).map .bl
def fNe (x y : D) : Option D := (eqD x y).map fun b => .bl (!b)
mutual
theorem dp_of {K : PySem.W.Frag} {H : Hp} {μ : List Addr} : ∀ {v : V} {d : D} {p : PyData}, Rep K H μ v d → toPy d = some p → Dp K H v p
  | _, _, _, .non, e => by cases e; exact .non
  | _, _, _, .bl b, e => by cases e; exact .bl b
  | _, _, _, .int i, e => by cases e; exact .int i
  | _, _, _, .str s, e => by cases e; exact .str s
  | _, _, _, .tup h r, e => by
    unfold toPy at e
    obtain ⟨ps, e1, e2⟩ := Option.map_eq_some_iff.mp e
    cases e2
    exact .tup h (dps_of r e1)
  | _, _, _, .lst h r, e => by
    unfold toPy at e
    obtain ⟨ps, e1, e2⟩ := Option.map_eq_some_iff.mp e
    cases e2
    exact .lst (SqL.of h) (dps_of r e1)
  | _, _, _, .frz h r, e => by
    unfold toPy at e
    obtain ⟨ps, e1, e2⟩ := Option.map_eq_some_iff.mp e
    cases e2
    exact .lst h (dps_of r e1)
  | _, _, _, .loc _, e => by cases e
theorem dps_of {K : PySem.W.Frag} {H : Hp} {μ : List Addr} : ∀ {vs : List V} {ds : List D} {ps : List PyData}, Reps K H μ vs ds → toPys ds = some ps → DpAll K H vs ps
  | _, _, _, .nil, e => by cases e; exact .nil
  | _, _, _, .cons h r, e => by
    unfold toPys at e
    obtain ⟨x, e1, e⟩ := Option.bind_eq_some_iff.mp e
    obtain ⟨xs, e2, e3⟩ := Option.map_eq_some_iff.mp e
    cases e3
    exact .cons (dp_of h e1) (dps_of r e2)
end
theorem eqD_py {x y : D} {b : Bool} (h : eqD x y = some b) : (∃ i j, x = .str i ∧ y = .str j ∧ b = (i == j)) ∨ ∃ a c, toPy x = some a ∧ toPy y = some c ∧ SeqAt.shaped a = true ∧ SeqAt.shaped c = true ∧ PyData.eqv a c = b := by
  unfold eqD at h
  split at h
  · cases h; exact .inr ⟨_, _, rfl, rfl, rfl, rfl, rfl⟩
  · cases h; exact .inl ⟨_, _, rfl, rfl, rfl⟩
  · cases h; exact .inr ⟨_, _, rfl, rfl, rfl, rfl, rfl⟩
  · obtain ⟨a, e1, h⟩ := Option.bind_eq_some_iff.mp h
    obtain ⟨c, e2, h⟩ := Option.bind_eq_some_iff.mp h
    split at h
    · rename_i hs
      rw [Bool.and_eq_true] at hs
      cases h
      exact .inr ⟨a, c, e1, e2, hs.1, hs.2, rfl⟩
    · cases h
def rEqA (K : PySem.W.Frag) : R2 := fun x y H Q => rEq x y H Q ∨ rEqD K x y H Q
def rNeA (K : PySem.W.Frag) : R2 := fun x y H Q => rNe x y H Q ∨ rNeD K x y H Q
theorem bk_eq {K : PySem.W.Frag} : BinOk K (rEqA K) fEq := by
  intro x y z e Hf μ v u H s r1 r2 Q q
  obtain ⟨b, e1, e2⟩ := Option.map_eq_some_iff.mp e
  subst e2
  rcases eqD_py e1 with ⟨i, j, rfl, rfl, rfl⟩ | ⟨a, c, h1, h2, h3, h4, h5⟩
  · cases r1
    cases r2
    exact .inl ⟨rfl, by rw [dec_str]; exact q Hf H _ (Grow.refl s) (.bl _)⟩
  · subst h5
    exact .inr ⟨a, c, dp_of (r1.mono s (List.prefix_refl _)) h1, dp_of (r2.mono s (List.prefix_refl _)) h2, h3, h4, q Hf H _ (Grow.refl s) (.bl _)⟩
theorem bk_ne {K : PySem.W.Frag} : BinOk K (rNeA K) fNe := by
  intro x y z e Hf μ v u H s r1 r2 Q q
  obtain ⟨b, e1, e2⟩ := Option.map_eq_some_iff.mp e
  subst e2
  rcases eqD_py e1 with ⟨i, j, rfl, rfl, rfl⟩ | ⟨a, c, h1, h2, h3, h4, h5⟩
  · cases r1
    cases r2
    exact .inl ⟨rfl, by rw [dec_str]; exact q Hf H _ (Grow.refl s) (.bl _)⟩
  · subst h5
    exact .inr ⟨a, c, dp_of (r1.mono s (List.prefix_refl _)) h1, dp_of (r2.mono s (List.prefix_refl _)) h2, h3, h4, q Hf H _ (Grow.refl s) (.bl _)⟩
def isNon : D → Bool | .non => true | _ => false
def fIsN (x y : D) : Option D := match y with | .non => some (.bl (isNon x)) | _ => none
def fNotN (x y : D) : Option D := match y with | .non => some (.bl (!isNon x)) | _ => none
theorem isNon_of {K : PySem.W.Frag} {H : Hp} {μ : List Addr} {v : V} {d : D} (r : Rep K H μ v d) : decide (v = V.non) = isNon d := by
  cases r <;> simp [isNon]
theorem bk_isN {K : PySem.W.Frag} : BinOk K (fun x y H Q => y = .non ∧ Q (.bl (decide (x = .non))) H) fIsN := by
  intro x y z e Hf μ v u H s r1 r2 Q q
  unfold fIsN at e
  split at e
  · cases e
    cases r2
    rw [isNon_of r1]
    exact ⟨rfl, q Hf H _ (Grow.refl s) (.bl _)⟩
  · cases e
theorem bk_notN {K : PySem.W.Frag} : BinOk K (fun x y H Q => y = .non ∧ Q (.bl (!decide (x = .non))) H) fNotN := by
  intro x y z e Hf μ v u H s r1 r2 Q q
  unfold fNotN at e
  split at e
  · cases e
    cases r2
    rw [isNon_of r1]
    exact ⟨rfl, q Hf H _ (Grow.refl s) (.bl _)⟩
  · cases e
theorem bk_cmpI {K : PySem.W.Frag} {p : Int → Int → Bool} {f : D → D → Option D} (hf : ∀ x y z, f x y = some z → ∃ i j, x = .int i ∧ y = .int j ∧ z = .bl (p i j)) : BinOk K (rI0 fun i j => .bl (p i j)) f :=
  bin_int0 (h := fun i j => .bl (p i j)) (fun i j _ _ => .bl _) hf
theorem bk_lt {K : PySem.W.Frag} : BinOk K (rI0 fun i j => .bl (decide (i < j))) fLt := bk_cmpI (by intro x y z e; unfold fLt at e; split at e <;> cases e; exact ⟨_, _, rfl, rfl, rfl⟩)
theorem bk_le {K : PySem.W.Frag} : BinOk K (rI0 fun i j => .bl (decide (i ≤ j))) fLe := bk_cmpI (by intro x y z e; unfold fLe at e; split at e <;> cases e; exact ⟨_, _, rfl, rfl, rfl⟩)
theorem bk_gt {K : PySem.W.Frag} : BinOk K (rI0 fun i j => .bl (decide (j < i))) fGt := bk_cmpI (by intro x y z e; unfold fGt at e; split at e <;> cases e; exact ⟨_, _, rfl, rfl, rfl⟩)
theorem bk_ge {K : PySem.W.Frag} : BinOk K (rI0 fun i j => .bl (decide (j ≤ i))) fGe := bk_cmpI (by intro x y z e; unfold fGe at e; split at e <;> cases e; exact ⟨_, _, rfl, rfl, rfl⟩)
/-- a comparison's rule: its sign, its function -/
structure CmpR (F : Fam) (op : CmpOp) (f : D → D → Option D) : Prop where
  ex : ∃ r, (∀ i, OpR (F.X i) (compareOp op) r) ∧ BinOk F.K r f
section
variable {F : Fam} {a b : Expr} {ma mb : M D} {pos : Pos} {op : CmpOp} {f : D → D → Option D}
theorem cr_lt : CmpR F .Lt fLt := ⟨_, fun _ => op_lt, bk_lt⟩
theorem cr_le : CmpR F .LtE fLe := ⟨_, fun _ => op_le, bk_le⟩
theorem cr_gt : CmpR F .Gt fGt := ⟨_, fun _ => op_gt, bk_gt⟩
theorem cr_ge : CmpR F .GtE fGe := ⟨_, fun _ => op_ge, bk_ge⟩
theorem cr_eq : CmpR F .Eq fEq := ⟨_, fun i => by have h : OpR (F.X i) (compareOp .Eq) (rEqA (F.X i).K) := op_eq.or (op_eqD (F.room i).units); rw [F.hK i] at h; exact h, bk_eq⟩
theorem cr_ne : CmpR F .NotEq fNe := ⟨_, fun i => by have h : OpR (F.X i) (compareOp .NotEq) (rNeA (F.X i).K) := op_ne.or (op_neD (F.room i).units); rw [F.hK i] at h; exact h, bk_ne⟩
theorem cr_isN : CmpR F .Is fIsN := ⟨_, fun _ => op_isN, bk_isN⟩
theorem cr_notN : CmpR F .IsNot fNotN := ⟨_, fun _ => op_notN, bk_notN⟩
theorem pm_cp (c : CmpR F op f) (ha : PM F a ma) (hb : PM F b mb) (hm : behindInMarks op b = false := by exact nomark _) : PM F (.Compare a [op] [b] pos) (mBin f ma mb) := by
  obtain ⟨r, h1, h2⟩ := c.ex
  exact pm_cmp h1 h2 ha hb hm
theorem pb_cp (c : CmpR F op f) (ha : PM F a ma) (hb : PM F b mb) (hm : behindInMarks op b = false := by exact nomark _) : PB F (.Compare a [op] [b] pos) (mBool (mBin f ma mb)) := by
  obtain ⟨r, h1, h2⟩ := c.ex
  exact pb_cmp h1 h2 ha hb hm
end
end Lf

/-! Lf4: tests, places, slices, built-in functions. -/
namespace Lf
open PySem PySem.Spec PyProof.Rows L2

/-! ### what can be read as a row of items -/
def seqOf (G : Sto) : D → Option (List D)
  | .tup ds => some ds
  | .lst ds => some ds
  | .frz ds => some ds
  | .loc l => match G.cs[l]? with | some (.lst ds) => some ds | _ => none
  | _ => none
theorem seqOf_loc {G : Sto} {l : Nat} {ds : List D} (e : seqOf G (.loc l) = some ds) : G.cs[l]? = some (.lst ds) := by
  have e : (match G.cs[l]? with | some (.lst ds) => some ds | _ => none) = some ds := e
  split at e
  · rename_i hg
    cases e
    exact hg
  · cases e
section
variable {K : PySem.W.Frag} {Z : Act} {Hf Hf' : Hp} {μ : List Addr} {ρ : Evn} {G : Sto} {σ : L2.St} {H H' : Hp}
theorem Rel.seq (R : Rel K Z Hf μ ρ G σ H) {v : V} {d : D} {ds : List D} (r : Rep K Hf μ v d) (e : seqOf G d = some ds) : ∃ a xs, v = .ref a ∧ (SqL K H a xs ∨ SqT K H a xs) ∧ Reps K Hf μ xs ds := by
  cases r with
  | tup h r => cases e; exact ⟨_, _, rfl, .inr (same_sqT R.sub h), r⟩
  | lst h r => cases e; exact ⟨_, _, rfl, .inl (SqL.of (R.sub _ _ h)), r⟩
  | frz h r => cases e; exact ⟨_, _, rfl, .inl (same_sqL R.sub h), r⟩
  | loc h =>
    obtain ⟨_, vs, hv, r⟩ := R.cells _ _ _ (seqOf_loc e) h
    exact ⟨_, vs, rfl, .inl (SqL.of hv), r⟩
  | _ => cases e
theorem Rel.size (R : Rel K Z Hf μ ρ G σ H) {v : V} {d : D} {ds : List D} (r : Rep K Hf μ v d) (e : seqOf G d = some ds) : True := trivial
end

/-! ### truth -/
def truD (G : Sto) : D → Option Bool
  | .non => some false
  | .bl b => some b
  | .int i => some (i != 0)
  | .str y => if szOk y.length then some ((y.length : Int) != 0) else none
  | d => (seqOf G d).map fun ds => !ds.isEmpty
def mTru (a : M D) : M Bool := fun ρ G => (a ρ G).bind fun p => (truD p.2 p.1).bind fun b => some (b, p.2)
theorem isEmpty_reps {K : PySem.W.Frag} {H : Hp} {μ : List Addr} {vs : List V} {ds : List D} (r : Reps K H μ vs ds) : vs.isEmpty = ds.isEmpty := by cases r <;> rfl
theorem Rel.tru {K : PySem.W.Frag} {Z : Act} {Hf : Hp} {μ : List Addr} {ρ : Evn} {G : Sto} {σ : L2.St} {H : Hp} (R : Rel K Z Hf μ ρ G σ H) {v : V} {d : D} {b : Bool} (r : Rep K Hf μ v d) (e : truD G d = some b) : TruV K v H b := by
  have sq : ∀ {d : D}, Rep K Hf μ v d → (seqOf G d).map (fun ds => !ds.isEmpty) = some b → TruV K v H b := fun {d} r e => by
    obtain ⟨ds, e1, e2⟩ := Option.map_eq_some_iff.mp e
    obtain ⟨a, xs, rfl, h, rr⟩ := R.seq r e1
    subst e2
    rcases h with h | h
    · exact .inl ⟨xs, h, by rw [isEmpty_reps rr]⟩
    · exact .inr (.inl ⟨xs, h, by rw [isEmpty_reps rr]⟩)
  cases d with
  | non => cases r; cases e; exact rfl
  | bl k => cases r; cases e; exact rfl
  | int i => cases r; cases e; exact rfl
  | str y =>
    cases r
    have e : (if szOk y.length then some ((y.length : Int) != 0) else none) = some b := e
    split at e
    · rename_i hz
      cases e
      exact ⟨szOk_le hz, rfl⟩
    · cases e
  | tup ds => exact sq r e
  | lst ds => exact sq r e
  | frz ds => exact sq r e
  | loc l => exact sq r e
theorem pb_tru {F : Fam} {a : Expr} {ma : M D} (ha : PM F a ma) (he : ∀ i whole, isTrue a (F.X i).env whole = (do let v ← whole; standAt a.pos; holding [v] (truthy v)) := by intro _ _; rfl) : PB F a (mTru ma) := by
  obtain ⟨ta, pa, ea⟩ := ha
  refine ⟨fun σ H Q => ta σ H fun x H' => ∃ k, TruV F.K x H' k ∧ Q k H', fun i => by have h := pt_truth (pa i) (he i); rw [F.hK i] at h; exact h, ?_⟩
  intro Z Hf μ ρ G σ H R d G' e Q q
  unfold mTru at e
  obtain ⟨⟨x, G1⟩, e1, e⟩ := Option.bind_eq_some_iff.mp e
  obtain ⟨b, e2, e⟩ := Option.bind_eq_some_iff.mp e
  cases e
  refine ea Z Hf μ ρ G σ H R x _ e1 _ fun Hf1 μ1 v H1 R1 s1 m1 r1 => ⟨d, R1.tru r1 e2, q Hf1 μ1 H1 R1 s1 m1⟩

/-! ### and, or, not -/
def mAnd (a b : M Bool) : M Bool := fun ρ G => (a ρ G).bind fun p => if p.1 then b ρ p.2 else some (false, p.2)
def mOr (a b : M Bool) : M Bool := fun ρ G => (a ρ G).bind fun p => if p.1 then some (true, p.2) else b ρ p.2
def mNot (a : M Bool) : M Bool := fun ρ G => (a ρ G).bind fun p => some (!p.1, p.2)
section
variable {F : Fam} {a b : Expr} {rest : List Expr} {pos : Pos} {ma mb : M Bool}
theorem pb_of (h : PBw F a ma) : PB F a ma := let ⟨t, p, e⟩ := h; ⟨t, fun i => (p i).pt, e⟩
theorem bw_and1 (h : PB F a ma) : PBw F (.BoolOp .And [a] pos) ma := let ⟨t, p, e⟩ := h; ⟨t, fun i => pw_and1 (p i), e⟩
theorem bw_or1 (h : PB F a ma) : PBw F (.BoolOp .Or [a] pos) ma := let ⟨t, p, e⟩ := h; ⟨t, fun i => pw_or1 (p i), e⟩
theorem bw_and (ha : PB F a ma) (hb : PBw F (.BoolOp .And (b :: rest) pos) mb) : PBw F (.BoolOp .And (a :: b :: rest) pos) (mAnd ma mb) := by
  obtain ⟨ta, pa, ea⟩ := ha
  obtain ⟨tb, pb, eb⟩ := hb
  refine ⟨_, fun i => pw_and (pa i) (pb i), ?_⟩
  intro Z Hf μ ρ G σ H R d G' e Q q
  unfold mAnd at e
  obtain ⟨⟨x, G1⟩, e1, e⟩ := Option.bind_eq_some_iff.mp e
  refine ea Z Hf μ ρ G σ H R x _ e1 _ fun Hf1 μ1 H1 R1 s1 m1 => ?_
  cases x with
  | true => exact iteT (eb Z Hf1 μ1 ρ G1 σ H1 R1 d G' e Q fun Hf2 μ2 H2 R2 s2 m2 => q Hf2 μ2 H2 R2 (s1.trans s2) (m1.trans m2))
  | false => cases e; exact iteF (q Hf1 μ1 H1 R1 s1 m1)
theorem bw_or (ha : PB F a ma) (hb : PBw F (.BoolOp .Or (b :: rest) pos) mb) : PBw F (.BoolOp .Or (a :: b :: rest) pos) (mOr ma mb) := by
  obtain ⟨ta, pa, ea⟩ := ha
  obtain ⟨tb, pb, eb⟩ := hb
  refine ⟨_, fun i => pw_or (pa i) (pb i), ?_⟩
  intro Z Hf μ ρ G σ H R d G' e Q q
  unfold mOr at e
  obtain ⟨⟨x, G1⟩, e1, e⟩ := Option.bind_eq_some_iff.mp e
  refine ea Z Hf μ ρ G σ H R x _ e1 _ fun Hf1 μ1 H1 R1 s1 m1 => ?_
  cases x with
  | true => cases e; exact iteT (q Hf1 μ1 H1 R1 s1 m1)
  | false => exact iteF (eb Z Hf1 μ1 ρ G1 σ H1 R1 d G' e Q fun Hf2 μ2 H2 R2 s2 m2 => q Hf2 μ2 H2 R2 (s1.trans s2) (m1.trans m2))
theorem pb_not (ha : PB F a ma) : PB F (.UnaryOp .Not a pos) (mNot ma) := by
  obtain ⟨ta, pa, ea⟩ := ha
  refine ⟨_, fun i => pt_not (pa i), ?_⟩
  intro Z Hf μ ρ G σ H R d G' e Q q
  unfold mNot at e
  obtain ⟨⟨x, G1⟩, e1, e⟩ := Option.bind_eq_some_iff.mp e
  cases e
  exact ea Z Hf μ ρ G σ H R x _ e1 _ fun Hf1 μ1 H1 R1 s1 m1 => q Hf1 μ1 H1 R1 s1 m1
end
/-! .. as values -/
def mAndV (a b : M D) : M D := fun ρ G => (a ρ G).bind fun p => match p.1 with | .bl true => b ρ p.2 | .bl false => some (.bl false, p.2) | _ => none
def mOrV (a b : M D) : M D := fun ρ G => (a ρ G).bind fun p => match p.1 with | .bl true => some (.bl true, p.2) | .bl false => b ρ p.2 | _ => none
def mNotV (a : M D) : M D := fun ρ G => (a ρ G).bind fun p => match p.1 with | .bl b => some (.bl (!b), p.2) | _ => none
def mIf (c : M Bool) (a b : M D) : M D := fun ρ G => (c ρ G).bind fun p => if p.1 then a ρ p.2 else b ρ p.2
section
variable {F : Fam} {a b c : Expr} {rest : List Expr} {pos : Pos} {ma mb : M D} {mc : M Bool} {op : BoolOp}
theorem pm_one (h : PM F a ma) : PM F (.BoolOp op [a] pos) ma := let ⟨t, p, e⟩ := h; ⟨t, fun i => pe_one (p i), e⟩
theorem pm_and (ha : PM F a ma) (hb : PM F (.BoolOp .And (b :: rest) pos) mb) : PM F (.BoolOp .And (a :: b :: rest) pos) (mAndV ma mb) := by
  obtain ⟨ta, pa, ea⟩ := ha
  obtain ⟨tb, pb, eb⟩ := hb
  refine ⟨_, fun i => pe_and (pa i) (pb i), ?_⟩
  intro Z Hf μ ρ G σ H R d G' e Q q
  unfold mAndV at e
  obtain ⟨⟨x, G1⟩, e1, e⟩ := Option.bind_eq_some_iff.mp e
  refine ea Z Hf μ ρ G σ H R x _ e1 _ fun Hf1 μ1 v H1 R1 s1 m1 r1 => ?_
  split at e
  · rename_i hx
    cases (show x = _ from hx)
    cases r1
    exact ⟨true, rfl, iteT (eb Z Hf1 μ1 ρ G1 σ H1 R1 d G' e Q fun Hf2 μ2 v2 H2 R2 s2 m2 r2 => q Hf2 μ2 v2 H2 R2 (s1.trans s2) (m1.trans m2) r2)⟩
  · rename_i hx
    cases (show x = _ from hx)
    cases r1
    cases e
    exact ⟨false, rfl, iteF (q Hf1 μ1 _ H1 R1 s1 m1 (.bl _))⟩
  · cases e
theorem pm_or (ha : PM F a ma) (hb : PM F (.BoolOp .Or (b :: rest) pos) mb) : PM F (.BoolOp .Or (a :: b :: rest) pos) (mOrV ma mb) := by
  obtain ⟨ta, pa, ea⟩ := ha
  obtain ⟨tb, pb, eb⟩ := hb
  refine ⟨_, fun i => pe_or (pa i) (pb i), ?_⟩
  intro Z Hf μ ρ G σ H R d G' e Q q
  unfold mOrV at e
  obtain ⟨⟨x, G1⟩, e1, e⟩ := Option.bind_eq_some_iff.mp e
  refine ea Z Hf μ ρ G σ H R x _ e1 _ fun Hf1 μ1 v H1 R1 s1 m1 r1 => ?_
  split at e
  · rename_i hx
    cases (show x = _ from hx)
    cases r1
    cases e
    exact ⟨true, rfl, iteT (q Hf1 μ1 _ H1 R1 s1 m1 (.bl _))⟩
  · rename_i hx
    cases (show x = _ from hx)
    cases r1
    exact ⟨false, rfl, iteF (eb Z Hf1 μ1 ρ G1 σ H1 R1 d G' e Q fun Hf2 μ2 v2 H2 R2 s2 m2 r2 => q Hf2 μ2 v2 H2 R2 (s1.trans s2) (m1.trans m2) r2)⟩
  · cases e
theorem pm_not (ha : PM F a ma) : PM F (.UnaryOp .Not a pos) (mNotV ma) := by
  obtain ⟨ta, pa, ea⟩ := ha
  refine ⟨_, fun i => pe_not (pa i), ?_⟩
  intro Z Hf μ ρ G σ H R d G' e Q q
  unfold mNotV at e
  obtain ⟨⟨x, G1⟩, e1, e⟩ := Option.bind_eq_some_iff.mp e
  refine ea Z Hf μ ρ G σ H R x _ e1 _ fun Hf1 μ1 v H1 R1 s1 m1 r1 => ?_
  split at e
  · rename_i hx
    cases (show x = _ from hx)
    cases r1
    cases e
    exact ⟨_, rfl, q Hf1 μ1 _ H1 R1 s1 m1 (.bl _)⟩
  · cases e
theorem pm_if (hc : PB F c mc) (ha : PM F a ma) (hb : PM F b mb) : PM F (.IfExp c a b pos) (mIf mc ma mb) := by
  obtain ⟨tc, pc, ec⟩ := hc
  obtain ⟨ta, pa, ea⟩ := ha
  obtain ⟨tb, pb, eb⟩ := hb
  refine ⟨_, fun i => pe_ifExp (pc i) (pa i) (pb i), ?_⟩
  intro Z Hf μ ρ G σ H R d G' e Q q
  unfold mIf at e
  obtain ⟨⟨x, G1⟩, e1, e⟩ := Option.bind_eq_some_iff.mp e
  refine ec Z Hf μ ρ G σ H R x _ e1 _ fun Hf1 μ1 H1 R1 s1 m1 => ?_
  cases x with
  | true => exact iteT (ea Z Hf1 μ1 ρ G1 σ H1 R1 d G' e Q fun Hf2 μ2 v H2 R2 s2 m2 r2 => q Hf2 μ2 v H2 R2 (s1.trans s2) (m1.trans m2) r2)
  | false => exact iteF (eb Z Hf1 μ1 ρ G1 σ H1 R1 d G' e Q fun Hf2 μ2 v H2 R2 s2 m2 r2 => q Hf2 μ2 v H2 R2 (s1.trans s2) (m1.trans m2) r2)
end

/-! ### a place -/
def fIdx (G : Sto) (x y : D) : Option D := match x, y with
  | .str z, .int i => if szOk z.length then (atI z.cps.toList i).map fun c => .str ⟨#[c]⟩ else none
  | x, .int i => (seqOf G x).bind fun ds => atI ds i
  | _, _ => none
def mIdx (a b : M D) : M D := fun ρ G => (a ρ G).bind fun p => (b ρ p.2).bind fun q => (fIdx q.2 p.1 q.1).bind fun z => some (z, q.2)
theorem Reps.atI {K : PySem.W.Frag} {H : Hp} {μ : List Addr} {vs : List V} {ds : List D} (r : Reps K H μ vs ds) {i : Int} {d : D} (e : L2.atI ds i = some d) : ∃ v, L2.atI vs i = some v ∧ Rep K H μ v d := by
  unfold L2.atI at e ⊢
  obtain ⟨j, e1, e2⟩ := Option.bind_eq_some_iff.mp e
  obtain ⟨v, h1, h2⟩ := r.get e2
  exact ⟨v, by rw [r.length, e1]; exact h1, h2⟩
section
variable {F : Fam} {a b : Expr} {pos : Pos} {ma mb : M D}
theorem pm_ix (ha : PM F a ma) (hb : PM F b mb) (hs : PlainIx b := by exact fun _ _ => rfl) : PM F (.Subscript a b pos) (mIdx ma mb) := by
  obtain ⟨ta, pa, ea⟩ := ha
  obtain ⟨tb, pb, eb⟩ := hb
  refine ⟨tOp (rIx F.K) ta tb, fun i => by have h := pe_ix (pos := pos) ix_seq (pa i) (pb i) hs; rw [F.hK i] at h; exact h, ?_⟩
  intro Z Hf μ ρ G σ H R d G' e Q q
  unfold mIdx at e
  obtain ⟨⟨x, G1⟩, e1, e⟩ := Option.bind_eq_some_iff.mp e
  obtain ⟨⟨y, G2⟩, e2, e⟩ := Option.bind_eq_some_iff.mp e
  obtain ⟨z, e3, e⟩ := Option.bind_eq_some_iff.mp e
  cases e
  refine ea Z Hf μ ρ G σ H R x _ e1 _ fun Hf1 μ1 v H1 R1 s1 m1 r1 => ?_
  refine eb Z Hf1 μ1 ρ G1 σ H1 R1 y _ e2 _ fun Hf2 μ2 u H2 R2 s2 m2 r2 => ?_
  have r1' := r1.mono s2 m2
  have fin : ∀ {w : V}, Rep F.K Hf2 μ2 w d → Q w H2 := fun {w} r => q Hf2 μ2 w H2 R2 (s1.trans s2) (m1.trans m2) r
  dsimp only at e3
  unfold fIdx at e3
  split at e3
  · split at e3
    · rename_i hz
      obtain ⟨c, e4, e5⟩ := Option.map_eq_some_iff.mp e3
      cases r1'
      cases r2
      cases e5
      exact .inr (.inr ⟨_, _, c, rfl, rfl, szOk_le hz, e4, fin (.str _)⟩)
    · cases e3
  · obtain ⟨ds, e4, e5⟩ := Option.bind_eq_some_iff.mp e3
    obtain ⟨p, xs, rfl, h, rr⟩ := R2.seq r1' e4
    obtain ⟨w, hw, rw'⟩ := rr.atI e5
    cases r2
    rcases h with h | h
    · exact .inl ⟨p, xs, _, w, rfl, rfl, h, hw, fin rw'⟩
    · exact .inr (.inl ⟨p, xs, _, w, rfl, rfl, h, hw, fin rw'⟩)
  · cases e3
end

/-! ### slices -/
def cutD {α : Type} (xs : List α) (lo hi : Option Int) : List α := (xs.drop (HT.sIx xs.length 0 lo)).take (HT.sIx xs.length xs.length hi - HT.sIx xs.length 0 lo)
def fSl (G : Sto) (x : D) (lo hi : Option Int) : Option D := match x with
  | .str z => if szOk z.length then some (.str (cutS z lo hi)) else none
  | .tup ds => some (.tup (cutD ds lo hi))
  | x => (seqOf G x).map fun ds => .lst (cutD ds lo hi)
def mNoP : M (Option Int) := fun _ G => some (none, G)
def mPart (a : M D) : M (Option Int) := fun ρ G => (a ρ G).bind fun p => match p.1 with | .int i => some (some i, p.2) | _ => none
def mSl (a : M D) (l h : M (Option Int)) : M D := fun ρ G => (a ρ G).bind fun p => (l ρ p.2).bind fun q => (h ρ q.2).bind fun r => (fSl r.2 p.1 q.1 r.1).bind fun z => some (z, r.2)
theorem Reps.cut {K : PySem.W.Frag} {H : Hp} {μ : List Addr} {vs : List V} {ds : List D} (r : Reps K H μ vs ds) (lo hi : Option Int) : Reps K H μ (cutV vs lo hi) (cutD ds lo hi) := by
  unfold cutV cutD
  rw [r.length]
  exact (r.drop _).take _
theorem cutD_whole {α : Type} {xs : List α} {lo hi : Option Int} (h : HT.sIx xs.length 0 lo = 0 ∧ HT.sIx xs.length xs.length hi = xs.length) : cutD xs lo hi = xs := by
  unfold cutD
  rw [h.1, h.2]
  simp
section
variable {F : Fam} {a : Expr} {lo hi : Option Expr} {pos p2 : Pos} {ma : M D} {ml mh : M (Option Int)}
theorem pp_none : PP F none mNoP := by
  refine ⟨_, fun _ => po_none, ?_⟩
  intro Z Hf μ ρ G σ H R d G' e Q q
  cases e
  exact q Hf μ H R (Same.refl _) (List.prefix_refl _)
theorem pp_some (h : PM F a ma) : PP F (some a) (mPart ma) := by
  obtain ⟨t, p, ev⟩ := h
  refine ⟨_, fun i => po_some (p i), ?_⟩
  intro Z Hf μ ρ G σ H R d G' e Q q
  unfold mPart at e
  obtain ⟨⟨x, G1⟩, e1, e⟩ := Option.bind_eq_some_iff.mp e
  refine ev Z Hf μ ρ G σ H R x _ e1 _ fun Hf1 μ1 v H1 R1 s1 m1 r1 => ?_
  cases x <;> simp only [reduceCtorEq] at e
  cases e
  cases r1
  exact ⟨_, rfl, q Hf1 μ1 H1 R1 s1 m1⟩
def rSlAll (K : PySem.W.Frag) : V → Option Int → Option Int → Hp → VK → Prop := fun x lo hi H Q => rSlL K x lo hi H Q ∨ (rSlA K x lo hi H Q ∨ rSlS x lo hi H Q)
theorem sl_all {X : Cx} : SlR X (rSlAll X.K) := sl_list.or (sl_tupA.or sl_str)
theorem pm_sl (ha : PM F a ma) (hl : PP F lo ml) (hh : PP F hi mh) : PM F (.Subscript a (.Slice lo hi none p2) pos) (mSl ma ml mh) := by
  obtain ⟨ta, pa, ea⟩ := ha
  obtain ⟨tl, pl, el⟩ := hl
  obtain ⟨th, ph, eh⟩ := hh
  refine ⟨tSl (rSlAll F.K) ta tl th, fun i => by have h := pe_slice (pos := pos) (p2 := p2) sl_all (pa i) (pl i) (ph i); rw [F.hK i] at h; exact h, ?_⟩
  intro Z Hf μ ρ G σ H R d G' e Q q
  unfold mSl at e
  obtain ⟨⟨x, G1⟩, e1, e⟩ := Option.bind_eq_some_iff.mp e
  obtain ⟨⟨l, G2⟩, e2, e⟩ := Option.bind_eq_some_iff.mp e
  obtain ⟨⟨h, G3⟩, e3, e⟩ := Option.bind_eq_some_iff.mp e
  obtain ⟨z, e4, e⟩ := Option.bind_eq_some_iff.mp e
  cases e
  refine ea Z Hf μ ρ G σ H R x _ e1 _ fun Hf1 μ1 v H1 R1 s1 m1 r1 => ?_
  refine el Z Hf1 μ1 ρ G1 σ H1 R1 l _ e2 _ fun Hf2 μ2 H2 R2 s2 m2 => ?_
  refine eh Z Hf2 μ2 ρ G2 σ H2 R2 h _ e3 _ fun Hf3 μ3 H3 R3 s3 m3 => ?_
  have r1' := (r1.mono s2 m2).mono s3 m3
  have ss := (s1.trans s2).trans s3
  have mm := (m1.trans m2).trans m3
  dsimp only at e4
  have asL : ∀ {ds : List D} {p : Addr} {xs : List V}, v = .ref p → SqL F.K H3 p xs → Reps F.K Hf3 μ3 xs ds → d = .lst (cutD ds l h) → rSlAll F.K v l h H3 Q := fun {ds p xs} ev hx rr ed => by
    subst ev ed
    refine .inl ⟨p, xs, rfl, hx, fun a ha => ?_⟩
    obtain ⟨R4, s4, r4⟩ := R3.lstNew ha (rr.cut l h)
    exact q _ _ _ _ R4 (ss.trans s4) mm r4
  unfold fSl at e4
  split at e4
  · split at e4
    · rename_i hz
      cases e4
      cases r1'
      exact .inr (.inr ⟨_, rfl, szOk_le hz, q Hf3 μ3 _ H3 R3 ss mm (.str _)⟩)
    · cases e4
  · cases e4
    cases r1' with
    | tup ht rr =>
    rename_i a xs
    refine .inr (.inl ⟨a, xs, rfl, same_sqT R3.sub ht, fun hw => ?_, fun hw p hp => ?_⟩)
    · rw [rr.length] at hw
      rw [cutD_whole hw] at q
      exact q Hf3 μ3 _ H3 R3 ss mm (.tup ht rr)
    · obtain ⟨R4, s4, r4⟩ := R3.tupNew hp (rr.cut l h)
      exact q _ _ _ _ R4 (ss.trans s4) mm r4
  · rename_i n1 n2
    obtain ⟨ds, e5, e6⟩ := Option.map_eq_some_iff.mp e4
    cases r1' with
    | tup _ _ => exact absurd rfl (n2 _)
    | lst hx rr => cases e5; exact asL rfl (SqL.of (R3.sub _ _ hx)) rr e6.symm
    | frz hx rr => cases e5; exact asL rfl (same_sqL R3.sub hx) rr e6.symm
    | loc hx =>
      obtain ⟨_, vs, hv, r⟩ := R3.cells _ _ _ (seqOf_loc e5) hx
      exact asL rfl (SqL.of hv) r e6.symm
    | _ => cases e5
end

/-! ### built-in functions -/
def mCB (f : Sto → List D → Option D) (ms : M (List D)) : M D := fun ρ G => (ms ρ G).bind fun p => (f p.2 p.1).bind fun z => some (z, p.2)
def CrOk (K : PySem.W.Frag) (r : List V → Hp → VK → Prop) (f : Sto → List D → Option D) : Prop := ∀ G ds z, f G ds = some z → ∀ Z Hf μ ρ σ H, Rel K Z Hf μ ρ G σ H → ∀ vs, Reps K Hf μ vs ds → ∀ Q : VK,
  (∀ Hf' H' t, Grow Hf H Hf' H' → Rep K Hf' μ t z → Q t H') → r vs H Q
theorem ev_cb {K : PySem.W.Frag} {r : List V → Hp → VK → Prop} {f : Sto → List D → Option D} {t : TA} {ms : M (List D)} (hf : CrOk K r f) (h : EvA K t ms) : EvE K (tCB r t) (mCB f ms) := by
  intro Z Hf μ ρ G σ H R d G' e Q q
  unfold mCB at e
  obtain ⟨⟨xs, G1⟩, e1, e⟩ := Option.bind_eq_some_iff.mp e
  obtain ⟨z, e2, e⟩ := Option.bind_eq_some_iff.mp e
  cases e
  refine h Z Hf μ ρ G σ H R xs _ e1 _ fun Hf1 μ1 vs H1 R1 s1 m1 r1 => ?_
  exact hf _ xs _ e2 Z Hf1 μ1 ρ σ H1 R1 vs r1 Q fun Hf2 H2 t g r2 => q Hf2 μ1 t H2 (R1.grow g) (s1.trans g.same) m1 r2
section
variable {F : Fam} {x : Str} {p pos : Pos} {e : Expr} {es : List Expr} {ms : M (List D)} {id T : String} {r : List V → Hp → VK → Prop} {f : Sto → List D → Option D}
theorem pm_callB (hc : ∀ i, CallR (F.X i) (.builtin id) r) (hf : CrOk F.K r f) (hg : ∀ i, Gl (F.X i) x) (hm : F.mg x = none) (hv : bootBuiltins x = some (.builtin id)) (ha : PL F (e :: es) ms) (hn : x ≠ "__name__" := by decide) (hdb : (x == ("__debug__" : Str)) = false := by decide)
    (he : ∀ i, starEach (e :: es) (F.X i).env = (false, eval e (F.X i).env) :: starEach es (F.X i).env := by intro _; rfl) (hpl : ∀ i, (backTo pos (starEach es (F.X i).env)).any (·.1) = false := by intro _; rfl) : PM F (.Call (.Name x p) (e :: es) [] pos) (mCB f ms) := by
  obtain ⟨t, pa, ev⟩ := ha
  exact ⟨_, fun i => pe_callB (hc i) (hg i) (by rw [F.hm i]; exact hm) hv (pa i) hn hdb (he i) (hpl i), ev_cb hf ev⟩
theorem pm_callTy (hc : ∀ i, CallR (F.X i) (.type T) r) (hf : CrOk F.K r f) (hg : ∀ i, Gl (F.X i) x) (hm : F.mg x = none) (hv : bootBuiltins x = some (.type T)) (ha : PL F (e :: es) ms) (hn : x ≠ "__name__" := by decide) (hdb : (x == ("__debug__" : Str)) = false := by decide)
    (he : ∀ i, starEach (e :: es) (F.X i).env = (false, eval e (F.X i).env) :: starEach es (F.X i).env := by intro _; rfl) (hpl : ∀ i, (backTo pos (starEach es (F.X i).env)).any (·.1) = false := by intro _; rfl) : PM F (.Call (.Name x p) (e :: es) [] pos) (mCB f ms) := by
  obtain ⟨t, pa, ev⟩ := ha
  exact ⟨_, fun i => pe_callTy (hc i) (hg i) (by rw [F.hm i]; exact hm) hv (pa i) hn hdb (he i) (hpl i), ev_cb hf ev⟩
/-- a built-in function under a module's name -/
theorem pm_callBf (hc : ∀ i, CallR (F.X i) (.builtin id) r) (hf : CrOk F.K r f) (hg : ∀ i, Gl (F.X i) x) (hm : F.mg x = some (.builtin id)) (ha : PL F (e :: es) ms) (hdb : (x == ("__debug__" : Str)) = false := by decide)
    (he : ∀ i, starEach (e :: es) (F.X i).env = (false, eval e (F.X i).env) :: starEach es (F.X i).env := by intro _; rfl) (hpl : ∀ i, (backTo pos (starEach es (F.X i).env)).any (·.1) = false := by intro _; rfl) : PM F (.Call (.Name x p) (e :: es) [] pos) (mCB f ms) := by
  obtain ⟨t, pa, ev⟩ := ha
  exact ⟨_, fun i => pe_callBfun (hc i) (hg i) (by rw [F.hm i]; exact hm) (pa i) hdb (he i) (hpl i), ev_cb hf ev⟩
end
def bAbs : Sto → List D → Option D | _, [.int i] => some (.int (if i < 0 then -i else i)) | _, _ => none
def bMax : Sto → List D → Option D | _, [.int i, .int j] => some (.int (if j > i then j else i)) | _, _ => none
def bMin : Sto → List D → Option D | _, [.int i, .int j] => some (.int (if j < i then j else i)) | _, _ => none
def bInt : Sto → List D → Option D | _, [.int i] => some (.int i) | _, [.bl b] => some (.int (if b then 1 else 0)) | _, _ => none
def bLen : Sto → List D → Option D
  | _, [.str y] => if szOk y.length then some (.int y.length) else none
  | G, [d] => (seqOf G d).map fun ds => .int ds.length
  | _, _ => none
def bGcd : Sto → List D → Option D | _, [.int i, .int j] => some (.int (Nat.gcd i.natAbs j.natAbs : Nat)) | _, _ => none
def bTuple : Sto → List D → Option D | G, [d] => (seqOf G d).map .tup | _, _ => none
def bList : Sto → List D → Option D | G, [d] => (seqOf G d).map .lst | _, _ => none
section
variable {K : PySem.W.Frag}
theorem co_abs : CrOk K (fun xs H Q => ∃ i, xs = [.int i] ∧ Q (.int (if i < 0 then -i else i)) H) bAbs := by
  intro G ds z e Z Hf μ ρ σ H R vs r Q q
  unfold bAbs at e
  split at e
  · cases e; cases r with | cons h t => cases t; cases h; exact ⟨_, rfl, q Hf H _ (Grow.refl R.sub) (.int _)⟩
  · cases e
theorem co_max : CrOk K (fun xs H Q => ∃ i j, xs = [.int i, .int j] ∧ Q (.int (if j > i then j else i)) H) bMax := by
  intro G ds z e Z Hf μ ρ σ H R vs r Q q
  unfold bMax at e
  split at e
  · cases e; cases r with | cons h t => cases t with | cons h' t => cases t; cases h; cases h'; exact ⟨_, _, rfl, q Hf H _ (Grow.refl R.sub) (.int _)⟩
  · cases e
theorem co_min : CrOk K (fun xs H Q => ∃ i j, xs = [.int i, .int j] ∧ Q (.int (if j < i then j else i)) H) bMin := by
  intro G ds z e Z Hf μ ρ σ H R vs r Q q
  unfold bMin at e
  split at e
  · cases e; cases r with | cons h t => cases t with | cons h' t => cases t; cases h; cases h'; exact ⟨_, _, rfl, q Hf H _ (Grow.refl R.sub) (.int _)⟩
  · cases e
theorem co_int : CrOk K (fun xs H Q => (∃ i, xs = [.int i] ∧ Q (.int i) H) ∨ ∃ k, xs = [.bl k] ∧ Q (.int (if k then 1 else 0)) H) bInt := by
  intro G ds z e Z Hf μ ρ σ H R vs r Q q
  unfold bInt at e
  split at e
  · cases e; cases r with | cons h t => cases t; cases h; exact .inl ⟨_, rfl, q Hf H _ (Grow.refl R.sub) (.int _)⟩
  · cases e; cases r with | cons h t => cases t; cases h; exact .inr ⟨_, rfl, q Hf H _ (Grow.refl R.sub) (.int _)⟩
  · cases e
theorem co_len : CrOk K (fun xs H Q => ∃ x n, xs = [x] ∧ LenV K x H n ∧ Q (.int n) H) bLen := by
  intro G ds z e Z Hf μ ρ σ H R vs r Q q
  unfold bLen at e
  split at e
  · split at e
    · rename_i hz
      cases e; cases r with | cons h t => cases t; cases h; exact ⟨_, _, rfl, ⟨szOk_le hz, rfl⟩, q Hf H _ (Grow.refl R.sub) (.int _)⟩
    · cases e
  · obtain ⟨es, e1, e2⟩ := Option.map_eq_some_iff.mp e
    cases e2
    cases r with
    | cons h t =>
      cases t
      obtain ⟨a, xs, rfl, hx, rr⟩ := R.seq h e1
      refine ⟨_, xs.length, rfl, ?_, by rw [rr.length]; exact q Hf H _ (Grow.refl R.sub) (.int _)⟩
      rcases hx with hx | hx
      · exact .inl ⟨xs, hx, rfl⟩
      · exact .inr ⟨xs, hx, rfl⟩
  · cases e
theorem co_gcd : CrOk K rGcd bGcd := by
  intro G ds z e Z Hf μ ρ σ H R vs r Q q
  unfold bGcd at e
  split at e
  · cases e; cases r with | cons h t => cases t with | cons h' t => cases t; cases h; cases h'; exact ⟨_, _, rfl, q Hf H _ (Grow.refl R.sub) (.int _)⟩
  · cases e
def rTupOf (K : PySem.W.Frag) : List V → Hp → VK → Prop := fun xs H Q => ∃ p ys, xs = [.ref p] ∧ ((SqL K H p ys ∧ ∀ l, H l = none → Q (.ref l) (upd H l (.tup ys))) ∨ (SqT K H p ys ∧ Q (.ref p) H))
theorem co_tuple : CrOk K (rTupOf K) bTuple := by
  intro G ds z e Z Hf μ ρ σ H R vs r Q q
  unfold bTuple at e
  split at e
  · obtain ⟨es, e1, e2⟩ := Option.map_eq_some_iff.mp e
    cases e2
    cases r with
    | cons h t =>
      cases t
      have lst : ∀ {a : Addr} {xs : List V}, SqL K H a xs → Reps K Hf μ xs es → rTupOf K [.ref a] H Q := fun {a xs} hx rr => by
        refine ⟨a, xs, rfl, .inl ⟨hx, fun l hl => ?_⟩⟩
        have g : Grow Hf H (upd Hf l (.tup xs)) (upd H l (.tup xs)) := Grow.new R.sub hl
        exact q _ _ _ g (.tup (SqT.of upd_same) (rr.mono g.same (List.prefix_refl _)))
      cases h with
      | tup hx rr => cases e1; exact ⟨_, _, rfl, .inr ⟨same_sqT R.sub hx, q Hf H _ (Grow.refl R.sub) (.tup hx rr)⟩⟩
      | lst hx rr => cases e1; exact lst (SqL.of (R.sub _ _ hx)) rr
      | frz hx rr => cases e1; exact lst (same_sqL R.sub hx) rr
      | loc hx =>
        obtain ⟨_, vs, hv, rr⟩ := R.cells _ _ _ (seqOf_loc e1) hx
        exact lst (SqL.of hv) rr
      | _ => cases e1
  · cases e
def rListOf (K : PySem.W.Frag) : List V → Hp → VK → Prop := fun xs H Q => ∃ p ys, xs = [.ref p] ∧ (SqL K H p ys ∨ SqT K H p ys) ∧ ∀ l, H l = none → Q (.ref l) (upd H l (.lst ys))
theorem co_list : CrOk K (rListOf K) bList := by
  intro G ds z e Z Hf μ ρ σ H R vs r Q q
  unfold bList at e
  split at e
  · obtain ⟨es, e1, e2⟩ := Option.map_eq_some_iff.mp e
    cases e2
    cases r with
    | cons h t =>
      cases t
      obtain ⟨a, xs, rfl, hx, rr⟩ := R.seq h e1
      refine ⟨a, xs, rfl, hx, fun l hl => ?_⟩
      have g : Grow Hf H (upd Hf l (.lst xs)) (upd H l (.lst xs)) := Grow.new R.sub hl
      exact q _ _ _ g (.lst upd_same (rr.mono g.same (List.prefix_refl _)))
  · cases e
end
section
variable {F : Fam} {p pos : Pos} {e : Expr} {es : List Expr} {ms : M (List D)}
theorem pm_abs (hg : ∀ i, Gl (F.X i) "abs") (hm : F.mg "abs" = none) (ha : PL F [e] ms) (he : ∀ i, starEach [e] (F.X i).env = (false, eval e (F.X i).env) :: starEach [] (F.X i).env := by intro _; rfl) : PM F (.Call (.Name "abs" p) [e] [] pos) (mCB bAbs ms) :=
  pm_callB (fun _ => call_abs) co_abs hg hm (by decide +kernel) ha (he := he)
theorem pm_len (hg : ∀ i, Gl (F.X i) "len") (hm : F.mg "len" = none) (ha : PL F [e] ms) (he : ∀ i, starEach [e] (F.X i).env = (false, eval e (F.X i).env) :: starEach [] (F.X i).env := by intro _; rfl) : PM F (.Call (.Name "len" p) [e] [] pos) (mCB bLen ms) :=
  pm_callB (fun i => by have h := call_len (X := F.X i); rw [F.hK i] at h; exact h) co_len hg hm (by decide +kernel) ha (he := he)
theorem pm_intc (hg : ∀ i, Gl (F.X i) "int") (hm : F.mg "int" = none) (ha : PL F [e] ms) (he : ∀ i, starEach [e] (F.X i).env = (false, eval e (F.X i).env) :: starEach [] (F.X i).env := by intro _; rfl) : PM F (.Call (.Name "int" p) [e] [] pos) (mCB bInt ms) :=
  pm_callTy (fun _ => call_int1) co_int hg hm (by decide +kernel) ha (he := he)
theorem pm_tuple (hg : ∀ i, Gl (F.X i) "tuple") (hm : F.mg "tuple" = none) (ha : PL F [e] ms) (he : ∀ i, starEach [e] (F.X i).env = (false, eval e (F.X i).env) :: starEach [] (F.X i).env := by intro _; rfl) : PM F (.Call (.Name "tuple" p) [e] [] pos) (mCB bTuple ms) :=
  pm_callTy (fun i => by have h := call_tuple_of (X := F.X i); rw [F.hK i] at h; exact h) co_tuple hg hm (by decide +kernel) ha (he := he)
theorem pm_list (hg : ∀ i, Gl (F.X i) "list") (hm : F.mg "list" = none) (ha : PL F [e] ms) (he : ∀ i, starEach [e] (F.X i).env = (false, eval e (F.X i).env) :: starEach [] (F.X i).env := by intro _; rfl) : PM F (.Call (.Name "list" p) [e] [] pos) (mCB bList ms) :=
  pm_callTy (fun i => by have h := call_list_of (X := F.X i); rw [F.hK i] at h; exact h) co_list hg hm (by decide +kernel) ha (he := he)
theorem pm_max {e2 : Expr} (hg : ∀ i, Gl (F.X i) "max") (hm : F.mg "max" = none) (ha : PL F [e, e2] ms) (he : ∀ i, starEach [e, e2] (F.X i).env = (false, eval e (F.X i).env) :: starEach [e2] (F.X i).env := by intro _; rfl) (hpl : ∀ i, (backTo pos (starEach [e2] (F.X i).env)).any (·.1) = false := by intro _; rfl) : PM F (.Call (.Name "max" p) [e, e2] [] pos) (mCB bMax ms) :=
  pm_callB (fun i => call_max2 (F.calm i)) co_max hg hm (by decide +kernel) ha (he := he) (hpl := hpl)
theorem pm_min {e2 : Expr} (hg : ∀ i, Gl (F.X i) "min") (hm : F.mg "min" = none) (ha : PL F [e, e2] ms) (he : ∀ i, starEach [e, e2] (F.X i).env = (false, eval e (F.X i).env) :: starEach [e2] (F.X i).env := by intro _; rfl) (hpl : ∀ i, (backTo pos (starEach [e2] (F.X i).env)).any (·.1) = false := by intro _; rfl) : PM F (.Call (.Name "min" p) [e, e2] [] pos) (mCB bMin ms) :=
  pm_callB (fun i => call_min2 (F.calm i)) co_min hg hm (by decide +kernel) ha (he := he) (hpl := hpl)
theorem pm_gcd {x : Str} {e2 : Expr} (hg : ∀ i, Gl (F.X i) x) (hm : F.mg x = some (.builtin "math.gcd")) (ha : PL F [e, e2] ms) (hdb : (x == ("__debug__" : Str)) = false := by decide) (he : ∀ i, starEach [e, e2] (F.X i).env = (false, eval e (F.X i).env) :: starEach [e2] (F.X i).env := by intro _; rfl) (hpl : ∀ i, (backTo pos (starEach [e2] (F.X i).env)).any (·.1) = false := by intro _; rfl) : PM F (.Call (.Name x p) [e, e2] [] pos) (mCB bGcd ms) :=
  pm_callBf (fun i => cr_gcd) co_gcd hg hm ha hdb (he := he) (hpl := hpl)
end

/-! ### isinstance of a built-in type -/
def tyD : D → Option String
  | .non => some "NoneType"
  | .bl _ => some "bool"
  | .int _ => some "int"
  | .str _ => some "str"
  | .tup _ => some "tuple"
  | .lst _ => some "list"
  | .frz _ => some "list"
  | .loc _ => none
/-- the answers of isinstance, by the type's name: none, bool, int, str, tuple, list -/
structure IsiT (T : String) (f : D → Option Bool) : Prop where
  ok : ∀ d b, f d = some b → ∃ t, tyD d = some t ∧ kitB t T = some b
def isBoolD : D → Option Bool | .bl _ => some true | .loc _ => none | _ => some false
def isIntD : D → Option Bool | .bl _ => some true | .int _ => some true | .loc _ => none | _ => some false
def isStrD : D → Option Bool | .str _ => some true | .loc _ => none | _ => some false
def isTupD : D → Option Bool | .tup _ => some true | .loc _ => none | _ => some false
def isLstD : D → Option Bool | .lst _ => some true | .frz _ => some true | .loc _ => none | _ => some false
theorem kbB : kitB "NoneType" "bool" = some false ∧ kitB "bool" "bool" = some true ∧ kitB "int" "bool" = some false ∧ kitB "str" "bool" = some false ∧ kitB "tuple" "bool" = some false ∧ kitB "list" "bool" = some false := by decide +kernel
theorem kbI : kitB "NoneType" "int" = some false ∧ kitB "bool" "int" = some true ∧ kitB "int" "int" = some true ∧ kitB "str" "int" = some false ∧ kitB "tuple" "int" = some false ∧ kitB "list" "int" = some false := by decide +kernel
theorem kbS : kitB "NoneType" "str" = some false ∧ kitB "bool" "str" = some false ∧ kitB "int" "str" = some false ∧ kitB "str" "str" = some true ∧ kitB "tuple" "str" = some false ∧ kitB "list" "str" = some false := by decide +kernel
theorem kbT : kitB "NoneType" "tuple" = some false ∧ kitB "bool" "tuple" = some false ∧ kitB "int" "tuple" = some false ∧ kitB "str" "tuple" = some false ∧ kitB "tuple" "tuple" = some true ∧ kitB "list" "tuple" = some false := by decide +kernel
theorem kbL : kitB "NoneType" "list" = some false ∧ kitB "bool" "list" = some false ∧ kitB "int" "list" = some false ∧ kitB "str" "list" = some false ∧ kitB "tuple" "list" = some false ∧ kitB "list" "list" = some true := by decide +kernel
theorem it_bool : IsiT "bool" isBoolD := ⟨fun d b e => by obtain ⟨h1, h2, h3, h4, h5, h6⟩ := kbB; cases d <;> cases e <;> exact ⟨_, rfl, by assumption⟩⟩
theorem it_int : IsiT "int" isIntD := ⟨fun d b e => by obtain ⟨h1, h2, h3, h4, h5, h6⟩ := kbI; cases d <;> cases e <;> exact ⟨_, rfl, by assumption⟩⟩
theorem it_str : IsiT "str" isStrD := ⟨fun d b e => by obtain ⟨h1, h2, h3, h4, h5, h6⟩ := kbS; cases d <;> cases e <;> exact ⟨_, rfl, by assumption⟩⟩
theorem it_tup : IsiT "tuple" isTupD := ⟨fun d b e => by obtain ⟨h1, h2, h3, h4, h5, h6⟩ := kbT; cases d <;> cases e <;> exact ⟨_, rfl, by assumption⟩⟩
theorem it_lst : IsiT "list" isLstD := ⟨fun d b e => by obtain ⟨h1, h2, h3, h4, h5, h6⟩ := kbL; cases d <;> cases e <;> exact ⟨_, rfl, by assumption⟩⟩
theorem tyX_of {K : PySem.W.Frag} {Hf H : Hp} {μ : List Addr} {v : V} {d : D} {t : String} (s : Same Hf H) (r : Rep K Hf μ v d) (e : tyD d = some t) : TyX K H v (.type t) := by
  cases r with
  | non => cases e; exact .base .non
  | bl b => cases e; exact .base (.bl b)
  | int i => cases e; exact .base (.int i)
  | str x => cases e; exact .base (.str x)
  | tup h r =>
    cases e
    rcases h with (h | ⟨o, h⟩) | ⟨o, its, n, hk, hc, _⟩
    · exact .base (.tup (s _ _ h))
    · exact .fTuple (s _ _ h)
    · exact .kTuple hk hc
  | lst h r => cases e; exact .base (.lst (s _ _ h))
  | frz h r =>
    cases e
    rcases h with (h | ⟨o, h⟩) | ⟨o, its, n, hk, hc, _⟩
    · exact .base (.lst (s _ _ h))
    · exact .base (.frz (s _ _ h))
    · exact .kList hk hc
  | loc h => cases e
def mIsi (f : D → Option Bool) (a : M D) : M D := fun ρ G => (a ρ G).bind fun p => (f p.1).bind fun b => some (.bl b, p.2)
theorem pm_isi {F : Fam} {T : String} {f : D → Option Bool} {e : Expr} {ma : M D} {x : Str} {p p2 pos : Pos} (it : IsiT T f) (hg : ∀ i, Gl (F.X i) "isinstance") (hm : F.mg "isinstance" = none) (hgT : ∀ i, Gl (F.X i) x) (hmT : F.mg x = none) (hv : bootBuiltins x = some (.type T)) (ha : PM F e ma)
    (hn : x ≠ "__name__" := by decide) (hd : (x == ("__debug__" : Str)) = false := by decide)
    (he : ∀ i, starEach [e, .Name x p2] (F.X i).env = (false, eval e (F.X i).env) :: starEach [.Name x p2] (F.X i).env := by intro _; rfl) (he2 : ∀ i, starEach [.Name x p2] (F.X i).env = (false, eval (.Name x p2) (F.X i).env) :: starEach [] (F.X i).env := by intro _; rfl)
    (hpl : ∀ i, (backTo pos (starEach [.Name x p2] (F.X i).env)).any (·.1) = false := by intro _; rfl) : PM F (.Call (.Name "isinstance" p) [e, .Name x p2] [] pos) (mIsi f ma) := by
  obtain ⟨t, pa, ev⟩ := ha
  refine ⟨tCB (rIsi F.K) (tCons t (tCons (tC (.ty T)) tNil)), fun i => by
    have h := pe_callB (x := "isinstance") (p := p) (pos := pos) (call_isi (X := F.X i)) (hg i) (by rw [F.hm i]; exact hm) (by decide +kernel) (pa_cons (pa i) (pa_cons (pe_bltn (v := .ty T) (pos := p2) (hgT i) (by rw [F.hm i]; exact hmT) hv rfl hn hd) pa_nil (he2 i)) (he i)) (by decide) (by decide) (he i) (hpl i)
    rw [F.hK i] at h
    exact h, ?_⟩
  intro Z Hf μ ρ G σ H R d G' e Q q
  unfold mIsi at e
  obtain ⟨⟨x, G1⟩, e1, e⟩ := Option.bind_eq_some_iff.mp e
  obtain ⟨b, e2, e⟩ := Option.bind_eq_some_iff.mp e
  cases e
  refine ev Z Hf μ ρ G σ H R x _ e1 _ fun Hf1 μ1 v H1 R1 s1 m1 r1 => ?_
  obtain ⟨t, h1, h2⟩ := it.ok x b e2
  exact ⟨v, .ty T, .type t, .type T, b, rfl, .ty T, tyX_of R1.sub r1 h1, kit_ty h2, q Hf1 μ1 _ H1 R1 s1 m1 (.bl b)⟩
end Lf

/-! Lf5: statements, loops, comprehensions, defs. -/
namespace Lf
open PySem PySem.Spec PyProof.Rows L2

/-! ### statements -/
inductive Out where
  | nx | bk | ct | rt (d : D)
abbrev MS := Evn → Sto → Option (Out × Evn × Sto)
def Post (K : PySem.W.Frag) (Z : Act) (Hf : Hp) (μ : List Addr) (o : Out) (ρ : Evn) (G : Sto) (E : Ends) : Prop :=
  match o with
  | .nx => ∀ Hf' μ' σ' H', Rel K Z Hf' μ' ρ G σ' H' → Same Hf Hf' → μ <+: μ' → E.nx σ' H'
  | .bk => ∀ Hf' μ' σ' H', Rel K Z Hf' μ' ρ G σ' H' → Same Hf Hf' → μ <+: μ' → E.bk σ' H'
  | .ct => ∀ Hf' μ' σ' H', Rel K Z Hf' μ' ρ G σ' H' → Same Hf Hf' → μ <+: μ' → E.ct σ' H'
  | .rt d => ∀ Hf' μ' v σ' H', Rel K Z Hf' μ' ρ G σ' H' → Same Hf Hf' → μ <+: μ' → Rep K Hf' μ' v d → E.rt v H'
theorem Post.mono {K : PySem.W.Frag} {Z : Act} {Hf Hf1 : Hp} {μ μ1 : List Addr} {o : Out} {ρ : Evn} {G : Sto} {E : Ends} (p : Post K Z Hf μ o ρ G E) (s : Same Hf Hf1) (m : μ <+: μ1) : Post K Z Hf1 μ1 o ρ G E := by
  cases o with
  | nx => exact fun Hf' μ' σ' H' R s' m' => p Hf' μ' σ' H' R (s.trans s') (m.trans m')
  | bk => exact fun Hf' μ' σ' H' R s' m' => p Hf' μ' σ' H' R (s.trans s') (m.trans m')
  | ct => exact fun Hf' μ' σ' H' R s' m' => p Hf' μ' σ' H' R (s.trans s') (m.trans m')
  | rt d => exact fun Hf' μ' v σ' H' R s' m' r => p Hf' μ' v σ' H' R (s.trans s') (m.trans m') r
def EvS (K : PySem.W.Frag) (t : TS) (m : MS) : Prop :=
  ∀ Z Hf μ ρ G σ H, Rel K Z Hf μ ρ G σ H → ∀ o ρ' G', m ρ G = some (o, ρ', G') → ∀ E : Ends, Post K Z Hf μ o ρ' G' E → t E σ H
def QS (F : Fam) (st : Stmt) (m : MS) : Prop := ∃ t, (∀ i, PS (F.X i) st t) ∧ EvS F.K t m
def QSs (F : Fam) (sts : List Stmt) (m : MS) : Prop := ∃ t, (∀ i, PSs (F.X i) sts t) ∧ EvS F.K t m

def mSkip : MS := fun ρ G => some (.nx, ρ, G)
def mSeq (a b : MS) : MS := fun ρ G => (a ρ G).bind fun r => match r.1 with | .nx => b r.2.1 r.2.2 | o => some (o, r.2.1, r.2.2)
theorem qs_nil {F : Fam} : QSs F [] mSkip := by
  refine ⟨_, fun _ => pss_nil, ?_⟩
  intro Z Hf μ ρ G σ H R o ρ' G' e E q
  cases e
  exact q Hf μ σ H R (Same.refl _) (List.prefix_refl _)
theorem qs_one {F : Fam} {st : Stmt} {m : MS} (h : QS F st m) : QSs F [st] m := let ⟨t, p, e⟩ := h; ⟨t, fun i => pss_one (p i), e⟩
theorem qs_cons {F : Fam} {st : Stmt} {sts : List Stmt} {a b : MS} (ha : QS F st a) (hb : QSs F sts b) : QSs F (st :: sts) (mSeq a b) := by
  obtain ⟨ta, pa, ea⟩ := ha
  obtain ⟨tb, pb, eb⟩ := hb
  refine ⟨_, fun i => pss_cons (pa i) (pb i), ?_⟩
  intro Z Hf μ ρ G σ H R o ρ' G' e E q
  unfold mSeq at e
  obtain ⟨⟨o1, ρ1, G1⟩, e1, e⟩ := Option.bind_eq_some_iff.mp e
  refine ea Z Hf μ ρ G σ H R o1 ρ1 G1 e1 _ ?_
  cases o1 with
  | nx => exact fun Hf1 μ1 σ1 H1 R1 s1 m1 => eb Z Hf1 μ1 ρ1 G1 σ1 H1 R1 o ρ' G' e E (q.mono s1 m1)
  | bk => cases e; exact q
  | ct => cases e; exact q
  | rt d => cases e; exact q
/-- a cell's list turned to a value, between two statements -/
def mFrz (i : Nat) (b : MS) : MS := fun ρ G => match ρ[i]? with
  | some (some (.loc l)) => if G.n0 ≤ l then (match G.cs[l]? with | some (.lst ds) => b (ρ.set i (some (.lst ds))) (G.set l .dead) | _ => none) else none
  | _ => none
theorem qs_frz {F : Fam} {sts : List Stmt} {m : MS} (i : Nat) (h : QSs F sts m) : QSs F sts (mFrz i m) := by
  obtain ⟨t, p, ev⟩ := h
  refine ⟨t, p, ?_⟩
  intro Z Hf μ ρ G σ H R o ρ' G' e E q
  unfold mFrz at e
  split at e
  · rename_i l hl
    split at e
    · rename_i hz
      split at e
      · rename_i ds hg
        obtain ⟨v, hv, r⟩ := R.env.2 i _ hl
        cases r with
        | loc ha =>
        obtain ⟨Hf1, s1, R1, r1⟩ := R.freeze hg ha hz
        have R2 : Rel F.K Z Hf1 μ (ρ.set i (some (.lst ds))) (G.set l .dead) σ H := by
          refine R1.envs ⟨by rw [List.length_set]; exact R1.env.1, fun j d ej => ?_⟩
          by_cases hj : i = j
          · subst hj
            have hlt : i < ρ.length := (List.getElem?_eq_some_iff.mp hl).1
            rw [List.getElem?_set_self hlt] at ej
            cases ej
            exact ⟨_, hv, r1⟩
          · rw [List.getElem?_set_ne hj] at ej
            exact R1.env.2 j d ej
        exact ev Z Hf1 μ _ _ σ H R2 o ρ' G' e E (q.mono s1 (List.prefix_refl _))
      · cases e
    · cases e
  · cases e
def mRet (a : M D) : MS := fun ρ G => (a ρ G).bind fun p => some (.rt p.1, ρ, p.2)
def mRetN : MS := fun ρ G => some (.rt .non, ρ, G)
def mDrop (a : M D) : MS := fun ρ G => (a ρ G).bind fun p => some (.nx, ρ, p.2)
def mBrk : MS := fun ρ G => some (.bk, ρ, G)
def mCnt : MS := fun ρ G => some (.ct, ρ, G)
def mIfS (c : M Bool) (a b : MS) : MS := fun ρ G => (c ρ G).bind fun p => if p.1 then a ρ p.2 else b ρ p.2
def mAsg (i : Nat) (a : M D) : MS := fun ρ G => (a ρ G).bind fun p => some (.nx, ρ.set i (some p.1), p.2)
section
variable {F : Fam} {e : Expr} {pos : Pos} {m : M D}
theorem q_ret (h : PM F e m) : QS F (.Return (some e) pos) (mRet m) := by
  obtain ⟨t, p, ev⟩ := h
  refine ⟨_, fun i => ps_ret (p i), ?_⟩
  intro Z Hf μ ρ G σ H R o ρ' G' e E q
  unfold mRet at e
  obtain ⟨⟨x, G1⟩, e1, e⟩ := Option.bind_eq_some_iff.mp e
  cases e
  exact ev Z Hf μ ρ G σ H R x _ e1 _ fun Hf1 μ1 v H1 R1 s1 m1 r1 => q Hf1 μ1 v σ H1 R1 s1 m1 r1
theorem q_retN : QS F (.Return none pos) mRetN := by
  refine ⟨_, fun i => ps_retN, ?_⟩
  intro Z Hf μ ρ G σ H R o ρ' G' e E q
  cases e
  exact q Hf μ _ σ H R (Same.refl _) (List.prefix_refl _) .non
theorem q_expr (h : PM F e m) (hs : ∀ i, swapsWith e none pos.line (F.X i).env = pure false := by intro _; rfl) : QS F (.Expr e pos) (mDrop m) := by
  obtain ⟨t, p, ev⟩ := h
  refine ⟨_, fun i => ps_expr (p i) (hs i), ?_⟩
  intro Z Hf μ ρ G σ H R o ρ' G' e E q
  unfold mDrop at e
  obtain ⟨⟨x, G1⟩, e1, e⟩ := Option.bind_eq_some_iff.mp e
  cases e
  exact ev Z Hf μ ρ G σ H R x _ e1 _ fun Hf1 μ1 v H1 R1 s1 m1 r1 => q Hf1 μ1 σ H1 R1 s1 m1
theorem q_pass : QS F (.Pass pos) mSkip := by
  refine ⟨_, fun i => ps_pass, ?_⟩
  intro Z Hf μ ρ G σ H R o ρ' G' e E q
  cases e
  exact q Hf μ σ H R (Same.refl _) (List.prefix_refl _)
theorem q_break : QS F (.Break pos) mBrk := by
  refine ⟨_, fun i => ps_break, ?_⟩
  intro Z Hf μ ρ G σ H R o ρ' G' e E q
  cases e
  exact q Hf μ σ H R (Same.refl _) (List.prefix_refl _)
theorem q_continue : QS F (.Continue pos) mCnt := by
  refine ⟨_, fun i => ps_continue, ?_⟩
  intro Z Hf μ ρ G σ H R o ρ' G' e E q
  cases e
  exact q Hf μ σ H R (Same.refl _) (List.prefix_refl _)
theorem q_if {c : Expr} {a b : List Stmt} {mc : M Bool} {ma mb : MS} (hc : PB F c mc) (ha : QSs F a ma) (hb : QSs F b mb) : QS F (.If c a b pos) (mIfS mc ma mb) := by
  obtain ⟨tc, pc, ec⟩ := hc
  obtain ⟨ta, pa, ea⟩ := ha
  obtain ⟨tb, pb, eb⟩ := hb
  refine ⟨_, fun i => ps_if (pc i) (pa i) (pb i), ?_⟩
  intro Z Hf μ ρ G σ H R o ρ' G' e E q
  unfold mIfS at e
  obtain ⟨⟨x, G1⟩, e1, e⟩ := Option.bind_eq_some_iff.mp e
  refine ec Z Hf μ ρ G σ H R x _ e1 _ fun Hf1 μ1 H1 R1 s1 m1 => ?_
  cases x with
  | true => exact iteT (ea Z Hf1 μ1 ρ G1 σ H1 R1 o ρ' G' e E (q.mono s1 m1))
  | false => exact iteF (eb Z Hf1 μ1 ρ G1 σ H1 R1 o ρ' G' e E (q.mono s1 m1))
theorem ev_asg {K : PySem.W.Frag} {t : TE} {m : M D} {i : Nat} (ev : EvE K t m) : EvS K (tAsg t (gName i)) (mAsg i m) := by
  intro Z Hf μ ρ G σ H R o ρ' G' e E q
  unfold mAsg at e
  obtain ⟨⟨x, G1⟩, e1, e⟩ := Option.bind_eq_some_iff.mp e
  cases e
  exact ev Z Hf μ ρ G σ H R x _ e1 _ fun Hf1 μ1 v H1 R1 s1 m1 r1 => q Hf1 μ1 _ H1 (R1.set r1 i) s1 m1
theorem q_set {i : Nat} {x : Str} {pos' : Pos} (h : PM F e m) (hi : ∀ j, (F.X j).N[i]? = some x := by intro _; rfl) (hx : ∀ j, Loc (F.X j).env.scope x := by first | exact fun _ => Or.inl rfl | exact fun _ => Or.inr rfl) (hf : ∀ j, (F.X j).fn x = true ∨ (F.X j).env.scope.names.lookup x = some .local := by first | exact fun _ => Or.inl rfl | exact fun _ => Or.inr rfl) (hs : ∀ j, swapsWith e (some (.Name x pos')) pos.line (F.X j).env = pure false := by intro _; rfl) :
    QS F (.Assign [.Name x pos'] e pos) (mAsg i m) := by
  obtain ⟨t, p, ev⟩ := h
  exact ⟨_, fun j => ps_set (F.nd j) (hi j) (hx j) (p j) (hs j) (hf j), ev_asg ev⟩
/-- name op= e -/
def mAug (i : Nat) (f : D → D → Option D) (a : M D) : MS := fun ρ G => match ρ[i]? with
  | some (some x) => (a ρ G).bind fun p => (f x p.1).bind fun z => some (.nx, ρ.set i (some z), p.2)
  | _ => none
theorem q_aug {op : Operator} {r : R2} {f : D → D → Option D} {i : Nat} {x : Str} {pos' : Pos} (ho : ∀ j, OpR (F.X j) (inplaceOp op) r) (hfn : BinOk F.K r f) (h : PM F e m) (hi : ∀ j, (F.X j).N[i]? = some x := by intro _; rfl) (hx : ∀ j, Loc (F.X j).env.scope x := by first | exact fun _ => Or.inl rfl | exact fun _ => Or.inr rfl) (hf : ∀ j, (F.X j).fn x = true ∨ (F.X j).env.scope.names.lookup x = some .local := by first | exact fun _ => Or.inl rfl | exact fun _ => Or.inr rfl) :
    QS F (.AugAssign (.Name x pos') op e pos) (mAug i f m) := by
  obtain ⟨t, p, ev⟩ := h
  refine ⟨_, fun j => ps_aug (F.nd j) (hi j) (hx j) (p j) (ho j) (hf j), ?_⟩
  intro Z Hf μ ρ G σ H R o ρ' G' e E q
  unfold mAug at e
  split at e
  · rename_i x hx
    obtain ⟨⟨y, G1⟩, e1, e⟩ := Option.bind_eq_some_iff.mp e
    obtain ⟨z, e2, e⟩ := Option.bind_eq_some_iff.mp e
    cases e
    obtain ⟨v, hv, r0⟩ := R.env.2 i _ hx
    refine ⟨v, hv, ev Z Hf μ ρ G σ H R y _ e1 _ fun Hf1 μ1 u H1 R1 s1 m1 r1 => ?_⟩
    exact hfn x y z e2 Hf1 μ1 v u H1 R1.sub (r0.mono s1 m1) r1 _ fun Hf2 H2 w g r2 => q Hf2 μ1 _ H2 ((R1.grow g).set r2 i) (s1.trans g.same) m1
  · cases e
end

section
variable {F : Fam} {e : Expr} {pos pos' : Pos} {m : M D} {i : Nat} {x : Str}
theorem iop_mulW {X : Cx} : OpR X (inplaceOp .Mult) (rI CMulW fun i j => .int (i * j)) := opI fun _ _ _ _ _ _ _ hc q => imul_int q hc.ok
theorem aug_mul (h : PM F e m) (hi : ∀ j, (F.X j).N[i]? = some x := by intro _; rfl) (hx : ∀ j, Loc (F.X j).env.scope x := by first | exact fun _ => Or.inl rfl | exact fun _ => Or.inr rfl) (hf : ∀ j, (F.X j).fn x = true ∨ (F.X j).env.scope.names.lookup x = some .local := by first | exact fun _ => Or.inl rfl | exact fun _ => Or.inr rfl) :
    QS F (.AugAssign (.Name x pos') .Mult e pos) (mAug i (fun x y => match x, y with | .int i, .int j => if mulOk i j then some (.int (i * j)) else none | _, _ => none) m) := q_aug (fun _ => iop_mulW) bk_mulI h hi hx hf
theorem aug_add (h : PM F e m) (hi : ∀ j, (F.X j).N[i]? = some x := by intro _; rfl) (hx : ∀ j, Loc (F.X j).env.scope x := by first | exact fun _ => Or.inl rfl | exact fun _ => Or.inr rfl) (hf : ∀ j, (F.X j).fn x = true ∨ (F.X j).env.scope.names.lookup x = some .local := by first | exact fun _ => Or.inl rfl | exact fun _ => Or.inr rfl) :
    QS F (.AugAssign (.Name x pos') .Add e pos) (mAug i (fun x y => match x, y with | .int i, .int j => some (.int (i + j)) | _, _ => none) m) := q_aug (fun _ => iop_add) bk_addI h hi hx hf
theorem aug_sub (h : PM F e m) (hi : ∀ j, (F.X j).N[i]? = some x := by intro _; rfl) (hx : ∀ j, Loc (F.X j).env.scope x := by first | exact fun _ => Or.inl rfl | exact fun _ => Or.inr rfl) (hf : ∀ j, (F.X j).fn x = true ∨ (F.X j).env.scope.names.lookup x = some .local := by first | exact fun _ => Or.inl rfl | exact fun _ => Or.inr rfl) :
    QS F (.AugAssign (.Name x pos') .Sub e pos) (mAug i fSub m) := q_aug (fun _ => iop_sub) bk_subI h hi hx hf
end
/-! ### targets -/
abbrev Tgt := D → Evn → Option Evn
def OnlyAt (is : List Nat) (σ σ' : L2.St) : Prop := σ'.length = σ.length ∧ ∀ j, j ∉ is → σ'[j]? = σ[j]?
theorem OnlyAt.set {is : List Nat} {σ : L2.St} {i : Nat} {v : Option V} (h : i ∈ is) : OnlyAt is σ (σ.set i v) := ⟨List.length_set, fun j hj => List.getElem?_set_ne (fun e => hj (by rw [← e]; exact h))⟩
theorem OnlyAt.trans {is : List Nat} {a b c : L2.St} (x : OnlyAt is a b) (y : OnlyAt is b c) : OnlyAt is a c := ⟨y.1.trans x.1, fun j hj => (y.2 j hj).trans (x.2 j hj)⟩
theorem OnlyAt.mono {is js : List Nat} {a b : L2.St} (x : OnlyAt is a b) (h : ∀ i ∈ is, i ∈ js) : OnlyAt js a b := ⟨x.1, fun j hj => x.2 j fun z => hj (h j z)⟩
theorem OnlyAt.refl {is : List Nat} {a : L2.St} : OnlyAt is a a := ⟨rfl, fun _ _ => rfl⟩
def EvG (K : PySem.W.Frag) (g : TG) (f : Tgt) (is : List Nat) : Prop :=
  ∀ Z Hf μ ρ G σ H, Rel K Z Hf μ ρ G σ H → ∀ v d ρ', Rep K Hf μ v d → f d ρ = some ρ' → ∀ Q : L2.St → Hp → Prop, (∀ σ', Rel K Z Hf μ ρ' G σ' H → OnlyAt is σ σ' → Q σ' H) → g v σ H Q
def EvGs (K : PySem.W.Frag) (g : TGs) (f : List D → Evn → Option Evn) (is : List Nat) : Prop :=
  ∀ Z Hf μ ρ G σ H, Rel K Z Hf μ ρ G σ H → ∀ vs ds ρ', Reps K Hf μ vs ds → f ds ρ = some ρ' → ∀ Q : L2.St → Hp → Prop, (∀ σ', Rel K Z Hf μ ρ' G σ' H → OnlyAt is σ σ' → Q σ' H) → g vs σ H Q
def QG (F : Fam) (tg : Expr) (f : Tgt) (is : List Nat) : Prop := ∃ g, (∀ i, PG (F.X i) tg g) ∧ EvG F.K g f is
def QGs (F : Fam) (tgs : List Expr) (f : List D → Evn → Option Evn) (is : List Nat) : Prop := ∃ g, (∀ i, PGs (F.X i) tgs g) ∧ EvGs F.K g f is
def gtName (i : Nat) : Tgt := fun d ρ => some (ρ.set i (some d))
def gtNil : List D → Evn → Option Evn | [], ρ => some ρ | _, _ => none
def gtCons (f : Tgt) (g : List D → Evn → Option Evn) : List D → Evn → Option Evn | d :: ds, ρ => (f d ρ).bind fun ρ1 => g ds ρ1 | [], _ => none
def gtTup (n : Nat) (f : List D → Evn → Option Evn) : Tgt := fun d ρ => match d with | .tup ds => if ds.length = n then f ds ρ else none | _ => none
section
variable {F : Fam} {pos : Pos}
theorem qg_name {i : Nat} {x : Str} (hi : ∀ j, (F.X j).N[i]? = some x := by intro _; rfl) (hx : ∀ j, Loc (F.X j).env.scope x := by first | exact fun _ => Or.inl rfl | exact fun _ => Or.inr rfl) (hf : ∀ j, (F.X j).fn x = true ∨ (F.X j).env.scope.names.lookup x = some .local := by first | exact fun _ => Or.inl rfl | exact fun _ => Or.inr rfl) : QG F (.Name x pos) (gtName i) [i] := by
  refine ⟨_, fun j => pg_name (F.nd j) (hi j) (hx j) (hf j), ?_⟩
  intro Z Hf μ ρ G σ H R v d ρ' r e Q q
  cases e
  exact q _ (R.set r i) (OnlyAt.set (by simp))
theorem qgs_nil : QGs F [] gtNil [] := by
  refine ⟨_, fun j => pgs_nil, ?_⟩
  intro Z Hf μ ρ G σ H R vs ds ρ' r e Q q
  cases r with
  | nil => cases e; exact ⟨rfl, q _ R OnlyAt.refl⟩
  | cons _ _ => cases e
theorem qgs_cons {t : Expr} {ts : List Expr} {f : Tgt} {g : List D → Evn → Option Evn} {is js : List Nat} (h1 : QG F t f is) (h2 : QGs F ts g js)
    (hs : ∀ j, (assignEach (t :: ts) (F.X j).env).map (·.2) = assign t (F.X j).env :: (assignEach ts (F.X j).env).map (·.2) := by intro _; rfl) : QGs F (t :: ts) (gtCons f g) (is ++ js) := by
  obtain ⟨t1, p1, e1⟩ := h1
  obtain ⟨t2, p2, e2⟩ := h2
  refine ⟨_, fun j => pgs_cons (p1 j) (p2 j) (hs j), ?_⟩
  intro Z Hf μ ρ G σ H R vs ds ρ' r e Q q
  cases r with
  | nil => cases e
  | cons r rs =>
    obtain ⟨ρ1, h1, h2⟩ := Option.bind_eq_some_iff.mp (show (f _ ρ).bind _ = some ρ' from e)
    refine ⟨_, _, rfl, e1 Z Hf μ ρ G σ H R _ _ ρ1 r h1 _ fun σ1 R1 o1 => ?_⟩
    exact e2 Z Hf μ ρ1 G σ1 H R1 _ _ ρ' rs h2 Q fun σ2 R2 o2 => q σ2 R2 ((o1.mono fun i hi => List.mem_append_left _ hi).trans (o2.mono fun i hi => List.mem_append_right _ hi))
theorem qg_tup {es : List Expr} {k n : Nat} {f : List D → Evn → Option Evn} {is : List Nat} (h : QGs F es f is) (hn : ∀ j, (assignEach es (F.X j).env).length = n := by intro _; rfl) (hst : ∀ j, (assignEach es (F.X j).env).findIdx? (·.1) = none := by intro _; rfl) : QG F (.Tuple es k pos) (gtTup n f) is := by
  obtain ⟨t, p, ev⟩ := h
  refine ⟨gTup F.K n t, fun j => by have h := pg_tup (X := F.X j) (k := k) (pos := pos) (F.calm j) (p j) (hn j) (hst j); rw [F.hK j] at h; exact h, ?_⟩
  intro Z Hf μ ρ G σ H R v d ρ' r e Q q
  unfold gtTup at e
  split at e
  · split at e
    · rename_i hl
      cases r with
      | tup h r => exact ⟨_, _, rfl, same_sqT R.sub h, by rw [r.length]; exact hl, ev Z Hf μ ρ G σ H R _ _ ρ' r e Q q⟩
    · cases e
  · cases e
/-- target = e -/
def mAsgG (f : Tgt) (a : M D) : MS := fun ρ G => (a ρ G).bind fun p => (f p.1 ρ).bind fun ρ' => some (.nx, ρ', p.2)
theorem q_asg {tg e : Expr} {m : M D} {f : Tgt} {is : List Nat} (h : PM F e m) (hg : QG F tg f is) (hs : ∀ j, swapsWithSole [tg] e pos.line (F.X j).env = pure false := by intro _; rfl) (hw : ∀ j, swappedStores [tg] e (F.X j).env = pure none := by intro _; rfl)
    (h1 : ∀ j, (assignEach [tg] (F.X j).env).map (·.2) = [assign tg (F.X j).env] := by intro _; rfl) : QS F (.Assign [tg] e pos) (mAsgG f m) := by
  obtain ⟨t, p, ev⟩ := h
  obtain ⟨g, pg, eg⟩ := hg
  refine ⟨_, fun j => ps_asg (p j) (pg j) (hs j) (hw j) (h1 j), ?_⟩
  intro Z Hf μ ρ G σ H R o ρ' G' e E q
  unfold mAsgG at e
  obtain ⟨⟨x, G1⟩, e1, e⟩ := Option.bind_eq_some_iff.mp e
  obtain ⟨ρ1, e2, e⟩ := Option.bind_eq_some_iff.mp e
  cases e
  exact ev Z Hf μ ρ G σ H R x _ e1 _ fun Hf1 μ1 v H1 R1 s1 m1 r1 => eg Z Hf1 μ1 ρ G1 σ H1 R1 v x ρ' r1 e2 _ fun σ1 R2 _ => q Hf1 μ1 σ1 H1 R2 s1 m1
/-- a, b = x, y -/
def mPar2 (i j : Nat) (ms : M (List D)) : MS := fun ρ G => (ms ρ G).bind fun p => match p.1 with | [x, y] => some (.nx, (ρ.set i (some x)).set j (some y), p.2) | _ => none
def mPar3 (i j l : Nat) (ms : M (List D)) : MS := fun ρ G => (ms ρ G).bind fun p => match p.1 with | [x, y, z] => some (.nx, ((ρ.set i (some x)).set j (some y)).set l (some z), p.2) | _ => none
theorem q_par2 {i j : Nat} {x y : Str} {a b : Expr} {ms : M (List D)} {px py pt : Pos} {kt k2 pt2} (hi : ∀ n, (F.X n).N[i]? = some x) (hj : ∀ n, (F.X n).N[j]? = some y) (hij : i ≠ j)
    (hx : ∀ n, (F.X n).env.scope.names.lookup x = some .local) (hy : ∀ n, (F.X n).env.scope.names.lookup y = some .local) (ha : PL F [a, b] ms)
    (hw : ∀ n, swappedStores [.Tuple [.Name x px, .Name y py] kt pt] (.Tuple [a, b] k2 pt2) (F.X n).env = pure (some [x, y]))
    (hs : ∀ n, swapsWithSole [.Tuple [.Name x px, .Name y py] kt pt] (.Tuple [a, b] k2 pt2) pos.line (F.X n).env = pure false := by intro _; rfl) :
    QS F (.Assign [.Tuple [.Name x px, .Name y py] kt pt] (.Tuple [a, b] k2 pt2) pos) (mPar2 i j ms) := by
  obtain ⟨t, p, ev⟩ := ha
  refine ⟨_, fun n => ps_par (F.calm n) (F.nd n) (hi n) (hj n) hij (hx n) (hy n) (p n) (hw n) (hs n), ?_⟩
  intro Z Hf μ ρ G σ H R o ρ' G' e E q
  unfold mPar2 at e
  obtain ⟨⟨xs, G1⟩, e1, e⟩ := Option.bind_eq_some_iff.mp e
  dsimp only at e
  split at e
  · cases e
    refine ev Z Hf μ ρ G σ H R _ _ e1 _ fun Hf1 μ1 vs H1 R1 s1 m1 r1 => ?_
    cases r1 with
    | cons ra r1 =>
    cases r1 with
    | cons rb r1 =>
    cases r1
    exact ⟨_, _, rfl, q Hf1 μ1 _ H1 ((R1.set ra i).set rb j) s1 m1⟩
  · cases e
theorem q_par3 {i j l : Nat} {x y z : Str} {a b c : Expr} {ms : M (List D)} {px py pz pt : Pos} {kt k2 pt2} (hi : ∀ n, (F.X n).N[i]? = some x) (hj : ∀ n, (F.X n).N[j]? = some y) (hl : ∀ n, (F.X n).N[l]? = some z) (hij : i ≠ j) (hil : i ≠ l) (hjl : j ≠ l)
    (hx : ∀ n, (F.X n).env.scope.names.lookup x = some .local) (hy : ∀ n, (F.X n).env.scope.names.lookup y = some .local) (hz : ∀ n, (F.X n).env.scope.names.lookup z = some .local) (ha : PL F [a, b, c] ms)
    (hw : ∀ n, swappedStores [.Tuple [.Name x px, .Name y py, .Name z pz] kt pt] (.Tuple [a, b, c] k2 pt2) (F.X n).env = pure (some [x, y, z]))
    (hs : ∀ n, swapsWithSole [.Tuple [.Name x px, .Name y py, .Name z pz] kt pt] (.Tuple [a, b, c] k2 pt2) pos.line (F.X n).env = pure false := by intro _; rfl) :
    QS F (.Assign [.Tuple [.Name x px, .Name y py, .Name z pz] kt pt] (.Tuple [a, b, c] k2 pt2) pos) (mPar3 i j l ms) := by
  obtain ⟨t, p, ev⟩ := ha
  refine ⟨_, fun n => ps_par3 (F.calm n) (F.nd n) (hi n) (hj n) (hl n) hij hil hjl (hx n) (hy n) (hz n) (p n) (hw n) (hs n), ?_⟩
  intro Z Hf μ ρ G σ H R o ρ' G' e E q
  unfold mPar3 at e
  obtain ⟨⟨xs, G1⟩, e1, e⟩ := Option.bind_eq_some_iff.mp e
  dsimp only at e
  split at e
  · cases e
    refine ev Z Hf μ ρ G σ H R _ _ e1 _ fun Hf1 μ1 vs H1 R1 s1 m1 r1 => ?_
    cases r1 with
    | cons ra r1 =>
    cases r1 with
    | cons rb r1 =>
    cases r1 with
    | cons rc r1 =>
    cases r1
    exact ⟨_, _, _, rfl, q Hf1 μ1 _ H1 (((R1.set ra i).set rb j).set rc l) s1 m1⟩
  · cases e
end
end Lf

/-! Lf6: loops, comprehensions, cells, defs. -/
namespace Lf
open PySem PySem.Spec PyProof.Rows L2

/-! ### what is walked -/
def IterOk (K : PySem.W.Frag) (Hf : Hp) (μ : List Addr) (J : It) (ds : List D) : Prop :=
  ∃ Gp Y, Walk J ds.length Gp Y ∧ (∀ H, Same Hf H → Gp H) ∧ ∀ Hfc i H x H', Same Hf Hfc → Same Hfc H → i < ds.length → Y i H x H' → ∃ Hf2, Grow Hfc H Hf2 H' ∧ ∃ d, ds[i]? = some d ∧ Rep K Hf2 μ x d
def EvI (K : PySem.W.Frag) (wi : TI) (m : M (List D)) : Prop :=
  ∀ Z Hf μ ρ G σ H, Rel K Z Hf μ ρ G σ H → ∀ ds G', m ρ G = some (ds, G') → ∀ Q : It → Hp → Prop,
    (∀ Hf' μ' J H', Rel K Z Hf' μ' ρ G' σ H' → Same Hf Hf' → μ <+: μ' → IterOk K Hf' μ' J ds → Q J H') → wi σ H Q
def QI (F : Fam) (tg e : Expr) (m : M (List D)) : Prop := ∃ wi, (∀ i, PI (F.X i) tg e wi) ∧ EvI F.K wi m

def iSeq (K : PySem.W.Frag) (tl : TE) : TI := fun σ H R => tl σ H fun x H1 => ∃ a, x = .ref a ∧ (((∃ xs, SqL K H1 a xs) ∧ R (Itl K a) H1) ∨ ((∃ xs, SqT K H1 a xs) ∧ R (Itt K a) H1))
theorem pi_seq {X : Cx} {tg l : Expr} {tl : TE} (hl : PE X l tl) : PI X tg l (iSeq X.K tl) := by
  refine ⟨fun pins s σ H R I h => ?_⟩
  refine thn (hl.run pins s σ H _ I h) fun v s1 ⟨x, H1, I1, r1, q1⟩ => ?_
  obtain ⟨a, e, q1⟩ := q1
  subst e
  cases r1
  rcases q1 with ⟨⟨xs, hq⟩, q⟩ | ⟨⟨xs, hq⟩, q⟩
  · obtain ⟨its, rv, p, hz⟩ := I1.list hq
    refine wpAny_pyIter_list p.isList ?_
    refine ⟨s1.heap.objs.size, [s1.heap.objs.size], _, _, H1, rfl, I1.kept (t' := s1.toks) fun b o e => Heap.get?_push_of_some _ e, turn_list a _, ⟨_, Heap.get?_push_size _ rfl, rfl, rfl⟩, fun b hb => ?_, q⟩
    have e : b = s1.heap.objs.size := by simpa using hb
    subst e
    exact I1.fpOk (Nat.le_refl _) (I1.hok.fresh (Nat.le_refl _))
  · obtain ⟨its, rv, p, hz⟩ := I1.tuple hq
    refine wpAny_pyIter_tuple (show s1.heap.IsTuple a its.toArray from p) ?_
    refine ⟨s1.heap.objs.size, [s1.heap.objs.size], _, _, H1, rfl, I1.kept (t' := s1.toks) fun b o e => Heap.get?_push_of_some _ e, turn_tuple a _, ⟨_, Heap.get?_push_size _ rfl, rfl, rfl⟩, fun b hb => ?_, q⟩
    have e : b = s1.heap.objs.size := by simpa using hb
    subst e
    exact I1.fpOk (Nat.le_refl _) (I1.hok.fresh (Nat.le_refl _))
/-- a frozen row of items -/
def rowOf : D → Option (List D)
  | .tup ds => some ds
  | .lst ds => some ds
  | .frz ds => some ds
  | _ => none
theorem rep_row {K : PySem.W.Frag} {Hf : Hp} {μ : List Addr} {v : V} {d : D} {ds : List D} (r : Rep K Hf μ v d) (e : rowOf d = some ds) : ∃ a xs, v = .ref a ∧ (SqL K Hf a xs ∨ SqT K Hf a xs) ∧ Reps K Hf μ xs ds := by
  cases r with
  | tup h r => cases e; exact ⟨_, _, rfl, .inr h, r⟩
  | lst h r => cases e; exact ⟨_, _, rfl, .inl (SqL.of h), r⟩
  | frz h r => cases e; exact ⟨_, _, rfl, .inl h, r⟩
  | _ => cases e
def mRow (a : M D) : M (List D) := fun ρ G => (a ρ G).bind fun p => (rowOf p.1).bind fun ds => some (ds, p.2)
theorem iter_at {K : PySem.W.Frag} {Hf : Hp} {μ : List Addr} {xs : List V} {ds : List D} {Hfc H : Hp} {i : Nat} {x : V} {H' : Hp} (rr : Reps K Hf μ xs ds) (s1 : Same Hf Hfc) (s2 : Same Hfc H) (y : YAt xs i H x H') : ∃ Hf2, Grow Hfc H Hf2 H' ∧ ∃ d, ds[i]? = some d ∧ Rep K Hf2 μ x d := by
  obtain ⟨rfl, hx⟩ := y
  obtain ⟨d, hd, r⟩ := rr.get' hx
  exact ⟨Hfc, Grow.refl s2, d, hd, r.mono s1 (List.prefix_refl _)⟩
theorem qi_row {F : Fam} {tg e : Expr} {m : M D} (h : PM F e m) : QI F tg e (mRow m) := by
  obtain ⟨t, p, ev⟩ := h
  refine ⟨iSeq F.K t, fun i => by have h := pi_seq (tg := tg) (p i); rw [F.hK i] at h; exact h, ?_⟩
  intro Z Hf μ ρ G σ H R ds G' e Q q
  unfold mRow at e
  obtain ⟨⟨x, G1⟩, e1, e⟩ := Option.bind_eq_some_iff.mp e
  obtain ⟨es, e2, e⟩ := Option.bind_eq_some_iff.mp e
  cases e
  refine ev Z Hf μ ρ G σ H R x _ e1 _ fun Hf1 μ1 v H1 R1 s1 m1 r1 => ?_
  obtain ⟨a, xs, rfl, h, rr⟩ := rep_row r1 e2
  have hl := rr.length
  rcases h with h | h
  · refine ⟨a, rfl, .inl ⟨⟨xs, same_sqL R1.sub h⟩, q Hf1 μ1 _ H1 R1 s1 m1 ⟨_, _, by rw [← hl]; exact walk_list, fun H' s => same_sqL s h, fun Hfc i H x H' s1 s2 _ y => iter_at rr s1 s2 y⟩⟩⟩
  · refine ⟨a, rfl, .inr ⟨⟨xs, same_sqT R1.sub h⟩, q Hf1 μ1 _ H1 R1 s1 m1 ⟨_, _, by rw [← hl]; exact walk_tup, fun H' s => same_sqT s h, fun Hfc i H x H' s1 s2 _ y => iter_at rr s1 s2 y⟩⟩⟩
def rgOk (i : Int) : Bool := decide (-(2 ^ 62) ≤ i) && decide (i < 2 ^ 62)
/-- lo, lo + 1, .. -/
def rangeD (lo : Int) (n : Nat) : List D := (List.range n).map fun i => .int (lo + (i : Nat))
theorem rangeD_length (lo : Int) (n : Nat) : (rangeD lo n).length = n := by unfold rangeD; rw [List.length_map, List.length_range]
theorem rangeD_get {lo : Int} {n i : Nat} (h : i < n) : (rangeD lo n)[i]? = some (.int (lo + (i : Nat))) := by
  unfold rangeD
  rw [List.getElem?_map, List.getElem?_range h]
  rfl
theorem iter_range {K : PySem.W.Frag} {Hf : Hp} {μ : List Addr} (lo : Int) (n : Nat) : IterOk K Hf μ (Itr lo n) (rangeD lo n) := by
  refine ⟨_, _, by rw [rangeD_length]; exact walk_range, fun _ _ => True.intro, fun Hfc i H x H' s1 s2 hi y => ?_⟩
  obtain ⟨rfl, rfl⟩ := y
  rw [rangeD_length] at hi
  exact ⟨Hfc, Grow.refl s2, _, rangeD_get hi, .int _⟩
def mRange1 (ms : M (List D)) : M (List D) := fun ρ G => (ms ρ G).bind fun p => match p.1 with
  | [.int j] => if rgOk j then some (rangeD 0 j.toNat, p.2) else none
  | _ => none
def mRange2 (ms : M (List D)) : M (List D) := fun ρ G => (ms ρ G).bind fun p => match p.1 with
  | [.int i, .int j] => if rgOk i && rgOk j then some (rangeD i (j - i).toNat, p.2) else none
  | _ => none
section
variable {F : Fam} {tg a b : Expr} {ms : M (List D)} {p pos : Pos}
theorem qi_range1 (hg : ∀ i, Gl (F.X i) "range") (hm : F.mg "range" = none) (ha : PL F [a] ms) (hs : ∀ i, starEach [a] (F.X i).env = [(false, eval a (F.X i).env)] := by intro _; rfl) : QI F tg (.Call (.Name "range" p) [a] [] pos) (mRange1 ms) := by
  obtain ⟨t, pa, ev⟩ := ha
  refine ⟨iRng1 t, fun i => pi_range1 (hg i) (by rw [F.hm i]; exact hm) (pa i) (hs i), ?_⟩
  intro Z Hf μ ρ G σ H R ds G' e Q q
  unfold mRange1 at e
  obtain ⟨⟨xs, G1⟩, e1, e⟩ := Option.bind_eq_some_iff.mp e
  refine ev Z Hf μ ρ G σ H R _ _ e1 _ fun Hf1 μ1 vs H1 R1 s1 m1 r1 => ?_
  dsimp only at e
  split at e
  · split at e
    · rename_i h
      unfold rgOk at h
      simp only [Bool.and_eq_true, decide_eq_true_eq] at h
      cases e
      cases r1 with
      | cons h1 h2 =>
      cases h2
      cases h1
      exact ⟨_, rfl, h.1, h.2, q Hf1 μ1 _ H1 R1 s1 m1 (iter_range _ _)⟩
    · cases e
  · cases e
theorem qi_range2 (hg : ∀ i, Gl (F.X i) "range") (hm : F.mg "range" = none) (ha : PL F [a, b] ms) (hs : ∀ i, starEach [a, b] (F.X i).env = [(false, eval a (F.X i).env), (false, eval b (F.X i).env)] := by intro _; rfl) (hs2 : ∀ i, starEach [b] (F.X i).env = [(false, eval b (F.X i).env)] := by intro _; rfl) :
    QI F tg (.Call (.Name "range" p) [a, b] [] pos) (mRange2 ms) := by
  obtain ⟨t, pa, ev⟩ := ha
  refine ⟨iRng2 t, fun i => pi_range2 (hg i) (by rw [F.hm i]; exact hm) (pa i) (hs i) (hs2 i), ?_⟩
  intro Z Hf μ ρ G σ H R ds G' e Q q
  unfold mRange2 at e
  obtain ⟨⟨xs, G1⟩, e1, e⟩ := Option.bind_eq_some_iff.mp e
  refine ev Z Hf μ ρ G σ H R _ _ e1 _ fun Hf1 μ1 vs H1 R1 s1 m1 r1 => ?_
  dsimp only at e
  split at e
  · split at e
    · rename_i h
      unfold rgOk at h
      simp only [Bool.and_eq_true, decide_eq_true_eq] at h
      cases e
      cases r1 with
      | cons h1 h2 =>
      cases h2 with
      | cons h2 h3 =>
      cases h3
      cases h1
      cases h2
      exact ⟨_, _, rfl, ⟨h.1.1, h.1.2, h.2.1, h.2.2⟩, q Hf1 μ1 _ H1 R1 s1 m1 (iter_range _ _)⟩
    · cases e
  · cases e
end

/-! ### for -/
def forL (f : Tgt) (b : MS) : List D → MS
  | [], ρ, G => some (.nx, ρ, G)
  | d :: ds, ρ, G => (f d ρ).bind fun ρ1 => (b ρ1 G).bind fun r => match r.1 with
    | .nx => forL f b ds r.2.1 r.2.2
    | .ct => forL f b ds r.2.1 r.2.2
    | .bk => some (.nx, r.2.1, r.2.2)
    | .rt d => some (.rt d, r.2.1, r.2.2)
def mFor (it : M (List D)) (f : Tgt) (b : MS) : MS := fun ρ G => (it ρ G).bind fun p => forL f b p.1 ρ p.2
theorem ev_for {K : PySem.W.Frag} {wi : TI} {g : TG} {tb : TS} {it : M (List D)} {f : Tgt} {b : MS} {is : List Nat} (hi : EvI K wi it) (hg : EvG K g f is) (hb : EvS K tb b) : EvS K (tFor wi g tb) (mFor it f b) := by
  intro Z Hf μ ρ G σ H R o ρ' G' e E q
  unfold mFor at e
  obtain ⟨⟨ds, G1⟩, e1, e⟩ := Option.bind_eq_some_iff.mp e
  refine hi Z Hf μ ρ G σ H R _ _ e1 _ fun Hf1 μ1 J H1 R1 s1 m1 ok => ?_
  obtain ⟨Gp, Y, wk, hG, hY⟩ := ok
  refine for_it wk (fun i σ2 H2 => ∃ Hf2 μ2 ρ2 G2, Rel K Z Hf2 μ2 ρ2 G2 σ2 H2 ∧ Same Hf1 Hf2 ∧ μ1 <+: μ2 ∧ forL f b (ds.drop i) ρ2 G2 = some (o, ρ', G')) ⟨Hf1, μ1, ρ, G1, R1, Same.refl _, List.prefix_refl _, e⟩ (fun i σ2 H2 _ ⟨Hf2, μ2, ρ2, G2, R2, s2, m2, _⟩ => hG H2 (s2.trans R2.sub)) ?_ ?_
  · intro i x σ2 H2 H3 hi' hPv y
    obtain ⟨Hf2, μ2, ρ2, G2, R2, s2, m2, e2⟩ := hPv
    obtain ⟨Hf3, g3, d, hd, r3⟩ := hY Hf2 i H2 x H3 s2 R2.sub hi' y
    have hdrop : ds.drop i = d :: ds.drop (i + 1) := by
      rw [List.drop_eq_getElem_cons hi']
      rw [List.getElem?_eq_getElem hi'] at hd
      rw [Option.some.inj hd]
    rw [hdrop] at e2
    unfold forL at e2
    obtain ⟨ρ3, h3, e2⟩ := Option.bind_eq_some_iff.mp e2
    obtain ⟨⟨o4, ρ4, G4⟩, h4, e2⟩ := Option.bind_eq_some_iff.mp e2
    have R3 := R2.grow g3
    refine hg Z Hf3 μ2 ρ2 G2 σ2 H3 R3 x d ρ3 (r3.mono (Same.refl _) m2) h3 _ fun σ4 R4 _ => ?_
    refine hb Z Hf3 μ2 ρ3 G2 σ4 H3 R4 o4 ρ4 G4 h4 _ ?_
    have s3 : Same Hf1 Hf3 := s2.trans g3.same
    cases o4 with
    | nx => exact fun Hf5 μ5 σ5 H5 R5 s5 m5 => ⟨Hf5, μ5, ρ4, G4, R5, s3.trans s5, m2.trans m5, e2⟩
    | ct => exact fun Hf5 μ5 σ5 H5 R5 s5 m5 => ⟨Hf5, μ5, ρ4, G4, R5, s3.trans s5, m2.trans m5, e2⟩
    | bk => cases e2; exact fun Hf5 μ5 σ5 H5 R5 s5 m5 => q Hf5 μ5 σ5 H5 R5 (s1.trans (s3.trans s5)) (m1.trans (m2.trans m5))
    | rt d => cases e2; exact fun Hf5 μ5 v σ5 H5 R5 s5 m5 r5 => q Hf5 μ5 v σ5 H5 R5 (s1.trans (s3.trans s5)) (m1.trans (m2.trans m5)) r5
  · intro σ2 H2 ⟨Hf2, μ2, ρ2, G2, R2, s2, m2, e2⟩
    rw [List.drop_length] at e2
    cases e2
    exact q Hf2 μ2 σ2 H2 R2 (s1.trans s2) (m1.trans m2)
theorem q_for {F : Fam} {tg iter : Expr} {body : List Stmt} {it : M (List D)} {f : Tgt} {b : MS} {is : List Nat} {pos : Pos} (hi : QI F tg iter it) (hg : QG F tg f is) (hb : QSs F body b) (hp : ∀ i, PassesOwn (model (F.X i).prog (F.X i).w) (F.X i).A (F.X i).env (F.X i).xe)
    (hs : ∀ i x, foldedSetIterable iter (F.X i).env x = pure x := by intro _ _; rfl) : QS F (.For tg iter body [] pos) (mFor it f b) := by
  obtain ⟨ti, pi, ei⟩ := hi
  obtain ⟨tg', pg, eg⟩ := hg
  obtain ⟨tb, pb, eb⟩ := hb
  exact ⟨_, fun i => ps_for (hp i) (F.calm i) (pi i) (pg i) (pb i) (hs i), ev_for ei eg eb⟩

/-! ### while -/
def whileN (c : M Bool) (b : MS) : Nat → MS
  | 0 => fun _ _ => none
  | n + 1 => fun ρ G => (c ρ G).bind fun p => if p.1 then (b ρ p.2).bind fun r => match r.1 with
      | .nx => whileN c b n r.2.1 r.2.2
      | .ct => whileN c b n r.2.1 r.2.2
      | .bk => some (.nx, r.2.1, r.2.2)
      | .rt d => some (.rt d, r.2.1, r.2.2)
    else some (.nx, ρ, p.2)
def fuel : Nat := 1000000000
def mWhile (c : M Bool) (b : MS) : MS := whileN c b fuel
theorem ev_while {K : PySem.W.Frag} {tc : TT} {tb : TS} {c : M Bool} {b : MS} (hc : EvB K tc c) (hb : EvS K tb b) : EvS K (tWhile tc tb) (mWhile c b) := by
  intro Z Hf μ ρ G σ H R o ρ' G' e E q
  refine ⟨fun n σ2 H2 => ∃ Hf2 μ2 ρ2 G2, Rel K Z Hf2 μ2 ρ2 G2 σ2 H2 ∧ Same Hf Hf2 ∧ μ <+: μ2 ∧ whileN c b n ρ2 G2 = some (o, ρ', G'), ⟨fuel, Hf, μ, ρ, G, R, Same.refl _, List.prefix_refl _, e⟩, ?_⟩
  rintro n σ2 H2 ⟨Hf2, μ2, ρ2, G2, R2, s2, m2, e2⟩
  cases n with
  | zero => cases e2
  | succ n =>
    unfold whileN at e2
    obtain ⟨⟨k, G3⟩, e3, e2⟩ := Option.bind_eq_some_iff.mp e2
    refine hc Z Hf2 μ2 ρ2 G2 σ2 H2 R2 _ _ e3 _ fun Hf3 μ3 H3 R3 s3 m3 => ?_
    cases k with
    | false =>
      cases e2
      exact iteF (q Hf3 μ3 σ2 H3 R3 (s2.trans s3) (m2.trans m3))
    | true =>
      dsimp only at e2
      rw [if_pos rfl] at e2
      obtain ⟨⟨o4, ρ4, G4⟩, h4, e2⟩ := Option.bind_eq_some_iff.mp e2
      refine iteT ⟨fun σ4 H4 => ∃ Hf4 μ4 ρ5 G5, Rel K Z Hf4 μ4 ρ5 G5 σ4 H4 ∧ Same Hf Hf4 ∧ μ <+: μ4 ∧ whileN c b n ρ5 G5 = some (o, ρ', G'), fun σ4 H4 h => ⟨n, Nat.lt_succ_self n, h⟩, ?_⟩
      refine hb Z Hf3 μ3 ρ2 G3 σ2 H3 R3 o4 ρ4 G4 h4 _ ?_
      have s4 := s2.trans s3
      have m4 := m2.trans m3
      cases o4 with
      | nx => exact fun Hf5 μ5 σ5 H5 R5 s5 m5 => ⟨Hf5, μ5, ρ4, G4, R5, s4.trans s5, m4.trans m5, e2⟩
      | ct => exact fun Hf5 μ5 σ5 H5 R5 s5 m5 => ⟨Hf5, μ5, ρ4, G4, R5, s4.trans s5, m4.trans m5, e2⟩
      | bk => cases e2; exact fun Hf5 μ5 σ5 H5 R5 s5 m5 => q Hf5 μ5 σ5 H5 R5 (s4.trans s5) (m4.trans m5)
      | rt d => cases e2; exact fun Hf5 μ5 v σ5 H5 R5 s5 m5 r5 => q Hf5 μ5 v σ5 H5 R5 (s4.trans s5) (m4.trans m5) r5
theorem q_while {F : Fam} {c : Expr} {body : List Stmt} {mc : M Bool} {b : MS} {pos : Pos} (hc : PB F c mc) (hb : QSs F body b) (hp : ∀ i, PassesOwn (model (F.X i).prog (F.X i).w) (F.X i).A (F.X i).env (F.X i).xe) : QS F (.While c body [] pos) (mWhile mc b) := by
  obtain ⟨tc, pc, ec⟩ := hc
  obtain ⟨tb, pb, eb⟩ := hb
  exact ⟨_, fun i => ps_while (hp i) (pc i) (pb i), ev_while ec eb⟩

/-! ### comprehensions -/
def lcL (f : Tgt) (c : M Bool) (e : M D) (ρ : Evn) : List D → Sto → Option (List D × Sto)
  | [], G => some ([], G)
  | d :: ds, G => (f d ρ).bind fun ρ1 => (c ρ1 G).bind fun p => if p.1 then (e ρ1 p.2).bind fun q => (lcL f c e ρ ds q.2).bind fun r => some (q.1 :: r.1, r.2) else lcL f c e ρ ds p.2
def mLcR (it : M (List D)) (f : Tgt) (c : M Bool) (e : M D) (vs : List Nat) : M (List D) := fun ρ G => (it ρ G).bind fun p => (lcL f c e (wipeD ρ vs) p.1 p.2).bind fun q => if szOk q.1.length then some q else none
def mLc (it : M (List D)) (f : Tgt) (c : M Bool) (e : M D) (vs : List Nat) : M D := fun ρ G => (mLcR it f c e vs ρ G).bind fun q => some (.lst q.1, q.2)
def mLcN (it : M (List D)) (f : Tgt) (c : M Bool) (e : M D) (vs : List Nat) : M D := fun ρ G => (mLcR it f c e vs ρ G).bind fun q => some (.loc q.2.cs.length, q.2.push (.lst q.1))
def mYes : M Bool := fun _ G => some (true, G)
theorem ev_yes {K : PySem.W.Frag} : EvB K tYes mYes := by
  intro Z Hf μ ρ G σ H R d G' e Q q
  cases e
  exact q Hf μ H R (Same.refl _) (List.prefix_refl _)
theorem wipe_get {σ : L2.St} {i : Nat} (vs : List Nat) : (wipe σ vs)[i]? = if i ∈ vs then (if i < σ.length then some none else none) else σ[i]? := by
  induction vs with
  | nil => simp [wipe]
  | cons v vs ih =>
    unfold wipe
    by_cases h : v = i
    · subst h
      rw [if_pos List.mem_cons_self]
      by_cases hl : v < σ.length
      · rw [if_pos hl, List.getElem?_set_self (by rw [wipe_length]; exact hl)]
      · rw [if_neg hl, List.getElem?_eq_none (by rw [List.length_set, wipe_length]; omega)]
    · rw [List.getElem?_set_ne h, ih]
      by_cases hv : i ∈ vs
      · rw [if_pos hv, if_pos (List.mem_cons_of_mem _ hv)]
      · rw [if_neg hv, if_neg (fun z => (List.mem_cons.mp z).elim (fun e => h e.symm) hv)]
theorem wipe_only {σ σ2 : L2.St} {vs is : List Nat} (h : OnlyAt is (wipe σ vs) σ2) (hs : ∀ i ∈ is, i ∈ vs) : wipe σ2 vs = wipe σ vs := by
  refine List.ext_getElem? fun i => ?_
  rw [wipe_get, wipe_get]
  have hl : σ2.length = σ.length := by rw [h.1, wipe_length]
  by_cases hv : i ∈ vs
  · rw [if_pos hv, if_pos hv, hl]
  · rw [if_neg hv, if_neg hv, h.2 i (fun z => hv (hs i z)), wipe_get, if_neg hv]
/-- what a comprehension leaves: a list apart -/
theorem ev_lc {K : PySem.W.Frag} {wi : TI} {g : TG} {tt : TT} {te : TE} {it : M (List D)} {f : Tgt} {c : M Bool} {e : M D} {is vs : List Nat} (hi : EvI K wi it) (hg : EvG K g f is) (hc : EvB K tt c) (he : EvE K te e) (hs : ∀ i ∈ is, i ∈ vs)
    {Z : Act} {Hf : Hp} {μ : List Addr} {ρ : Evn} {G : Sto} {σ : L2.St} {H : Hp} (R : Rel K Z Hf μ ρ G σ H) {ds : List D} {G' : Sto} (h : mLcR it f c e vs ρ G = some (ds, G')) {Q : VK}
    (q : ∀ Hf' μ' p xs H', Rel K Z Hf' μ' ρ G' σ H' → Same Hf Hf' → μ <+: μ' → Apart Z Hf' μ' p → H' p = some (.lst xs) → Reps K Hf' μ' xs ds → Q (.ref p) H') : tLc wi g tt te vs σ H Q := by
  unfold mLcR at h
  obtain ⟨⟨its, G1⟩, e1, h⟩ := Option.bind_eq_some_iff.mp h
  obtain ⟨⟨ds', G2⟩, e2, h⟩ := Option.bind_eq_some_iff.mp h
  split at h
  · rename_i hz
    cases h
    have hz := szOk_le hz
    refine hi Z Hf μ ρ G σ H R _ _ e1 _ fun Hf1 μ1 J H1 R1 s1 m1 ok => ?_
    obtain ⟨Gp, Y, wk, hG, hY⟩ := ok
    intro p hp
    have A1 := R1.apart hp
    refine lc_it wk (fun i H2 => ∃ Hf2 μ2 G2 xs acc rs, Rel K Z Hf2 μ2 (wipeD ρ vs) G2 (wipe σ vs) H2 ∧ Rel K Z Hf2 μ2 ρ G2 σ H2 ∧ Same Hf1 Hf2 ∧ μ1 <+: μ2 ∧ Apart Z Hf2 μ2 p ∧ H2 p = some (.lst xs) ∧ Reps K Hf2 μ2 xs acc ∧
      lcL f c e (wipeD ρ vs) (its.drop i) G2 = some (rs, G') ∧ acc ++ rs = ds) ?_ ?_ ?_ ?_
    · have R2 := R1.extra A1 (.lst [])
      exact ⟨Hf1, μ1, G1, [], [], ds, R2.envs (R2.env.wipe vs), R2, Same.refl _, List.prefix_refl _, A1, upd_same, .nil, e2, rfl⟩
    · rintro i H2 _ ⟨Hf2, μ2, G2, xs, acc, rs, R2, _, s2, _⟩
      exact hG H2 (s2.trans R2.sub)
    · rintro i x H2 H3 hi' ⟨Hf2, μ2, G2, xs, acc, rs, R2, R2', s2, m2, A2, hx, rr, e3, ea⟩ y
      obtain ⟨Hf3, g3, d, hd, r3⟩ := hY Hf2 i H2 x H3 s2 R2.sub hi' y
      have hdrop : its.drop i = d :: its.drop (i + 1) := by
        rw [List.drop_eq_getElem_cons hi']
        rw [List.getElem?_eq_getElem hi'] at hd
        rw [Option.some.inj hd]
      rw [hdrop] at e3
      unfold lcL at e3
      obtain ⟨ρ3, h3, e3⟩ := Option.bind_eq_some_iff.mp e3
      obtain ⟨⟨k, G4⟩, h4, e3⟩ := Option.bind_eq_some_iff.mp e3
      have A3 : Apart Z Hf3 μ2 p := ⟨(g3.old p (by rw [hx]; exact fun z => by cases z)).trans A2.hf, A2.mu, A2.h0⟩
      have hx3 : H3 p = some (.lst xs) := g3.keep p _ hx
      obtain ⟨hf, hm, R3⟩ := (R2.grow g3).guard A3 hx3
      have s3 : Same Hf1 Hf3 := s2.trans g3.same
      have rr3 := rr.mono (μ' := μ2) g3.same (List.prefix_refl _)
      refine hg _ Hf3 μ2 _ G2 _ H3 R3 x d ρ3 (r3.mono (Same.refl _) m2) h3 _ fun σ4 R4 o4 => ⟨wipe_only o4 hs, ?_⟩
      refine hc _ Hf3 μ2 ρ3 G2 σ4 H3 R4 k G4 h4 _ fun Hf5 μ5 H5 R5 s5 m5 => ?_
      have bk : ∀ {Hf6 : Hp} {μ6 : List Addr} {ρ6 : Evn} {G6 : Sto} {σ6 : L2.St} {H6 : Hp}, Rel K (Z.with_ p (.lst xs) hf hm) Hf6 μ6 ρ6 G6 σ6 H6 → Same Hf3 Hf6 → μ2 <+: μ6 → Rel K Z Hf6 μ6 (wipeD ρ vs) G6 (wipe σ vs) H6 ∧ Rel K Z Hf6 μ6 ρ G6 σ H6 := fun {Hf6 μ6 ρ6 G6 σ6 H6} R6 s6 m6 => by
        have R7 := (R6.unguard A3.h0).1
        exact ⟨R7.envs (R2.env.mono (g3.same.trans s6) m6), R7.envs (R2'.env.mono (g3.same.trans s6) m6)⟩
      cases k with
      | false =>
        refine iteF ?_
        obtain ⟨_, A6, hx6⟩ := R5.unguard A3.h0
        obtain ⟨Ra, Rb⟩ := bk R5 s5 m5
        exact ⟨Hf5, μ5, G4, xs, acc, rs, Ra, Rb, s3.trans s5, m2.trans m5, A6, hx6, rr3.mono s5 m5, e3, ea⟩
      | true =>
        refine iteT ?_
        dsimp only at e3
        rw [if_pos rfl] at e3
        obtain ⟨⟨y6, G6⟩, h6, e3⟩ := Option.bind_eq_some_iff.mp e3
        obtain ⟨⟨rs', G7⟩, h7, e3⟩ := Option.bind_eq_some_iff.mp e3
        cases e3
        refine he _ Hf5 μ5 ρ3 G4 σ4 H5 R5 y6 G6 h6 _ fun Hf6 μ6 v6 H6 R6 s6 m6 r6 => ?_
        obtain ⟨_, A6, hx6⟩ := R6.unguard A3.h0
        obtain ⟨Ra, Rb⟩ := bk R6 (s5.trans s6) (m5.trans m6)
        have rr6 := (rr3.mono s5 m5).mono s6 m6
        refine ⟨xs, hx6, ?_, Hf6, μ6, G6, xs ++ [v6], acc ++ [y6], rs', Ra.extra A6 _, Rb.extra A6 _, s3.trans (s5.trans s6), m2.trans (m5.trans m6), A6, upd_same, rr6.append (.one r6), h7, by rw [List.append_assoc]; exact ea⟩
        rw [rr6.length]
        refine Nat.lt_of_lt_of_le ?_ hz
        rw [← ea, List.length_append, List.length_cons]
        omega
    · rintro H2 ⟨Hf2, μ2, G2, xs, acc, rs, R2, R2', s2, m2, A2, hx, rr, e3, ea⟩
      rw [List.drop_length] at e3
      cases e3
      rw [List.append_nil] at ea
      subst ea
      exact q Hf2 μ2 p xs H2 R2' (s1.trans s2) (m1.trans m2) A2 hx rr
  · cases h
theorem ev_lcv {K : PySem.W.Frag} {wi : TI} {g : TG} {tt : TT} {te : TE} {it : M (List D)} {f : Tgt} {c : M Bool} {e : M D} {is vs : List Nat} (hi : EvI K wi it) (hg : EvG K g f is) (hc : EvB K tt c) (he : EvE K te e) (hs : ∀ i ∈ is, i ∈ vs) : EvE K (tLc wi g tt te vs) (mLc it f c e vs) := by
  intro Z Hf μ ρ G σ H R d G' h Q q
  unfold mLc at h
  obtain ⟨⟨ds, G1⟩, e1, h⟩ := Option.bind_eq_some_iff.mp h
  cases h
  refine ev_lc hi hg hc he hs R e1 fun Hf1 μ1 p xs H1 R1 s1 m1 A hx rr => ?_
  obtain ⟨R2, s2⟩ := R1.adopt A hx
  exact q _ μ1 _ H1 R2 (s1.trans s2) m1 (.lst upd_same (rr.mono s2 (List.prefix_refl _)))
theorem ev_lcn {K : PySem.W.Frag} {wi : TI} {g : TG} {tt : TT} {te : TE} {it : M (List D)} {f : Tgt} {c : M Bool} {e : M D} {is vs : List Nat} (hi : EvI K wi it) (hg : EvG K g f is) (hc : EvB K tt c) (he : EvE K te e) (hs : ∀ i ∈ is, i ∈ vs) : EvE K (tLc wi g tt te vs) (mLcN it f c e vs) := by
  intro Z Hf μ ρ G σ H R d G' h Q q
  unfold mLcN at h
  obtain ⟨⟨ds, G1⟩, e1, h⟩ := Option.bind_eq_some_iff.mp h
  cases h
  refine ev_lc hi hg hc he hs R e1 fun Hf1 μ1 p xs H1 R1 s1 m1 A hx rr => ?_
  have R2 := R1.adoptCell A (c := .lst ds) ⟨A.hf, xs, hx, rr.mono (Same.refl _) pre_app⟩
  refine q _ _ _ H1 R2 s1 (m1.trans pre_app) (.loc ?_)
  rw [← R1.len, List.getElem?_append_right (Nat.le_refl _), Nat.sub_self]
  rfl
/-- a comprehension's blocks -/
def Fam.blk (F : Fam) (scope : Scope) : Fam where
  ι := F.ι × Shared × Hp × Addr × List (Str × Addr) × List Addr
  X := fun (i, s, H, C, cl, fp) => (F.X i).blk s H scope (compEnvC scope cl C (F.X i).env) fp
  P := F.P
  w := F.w
  K := F.K
  mg := F.mg
  base := F.base
  k := F.k
  hP := fun i => F.hP i.1
  hw := fun i => F.hw i.1
  hK := fun i => F.hK i.1
  hm := fun i => F.hm i.1
  hb := fun i => F.hb i.1
  calm := fun i => F.calm i.1
  nd := fun i => F.nd i.1
  room := fun i => F.room i.1
def QT (F : Fam) (ifs : List Expr) (m : M Bool) : Prop := ∃ t, (∀ i, PTs (F.X i) ifs t) ∧ EvB F.K t m
theorem qt_nil {F : Fam} : QT F [] mYes := ⟨_, fun _ => pts_nil, ev_yes⟩
theorem qt_one {F : Fam} {c : Expr} {m : M Bool} (h : PB F c m) : QT F [c] m := let ⟨t, p, e⟩ := h; ⟨t, fun i => pts_one (p i), e⟩
section
variable {F : Fam} {elt tg iter : Expr} {ifs : List Expr} {scope : Scope} {own : List (Str × Nat)} {pos : Pos} {it : M (List D)} {f : Tgt} {c : M Bool} {e : M D} {is : List Nat}
theorem pm_lc (hi : QI F tg iter it) (ok : ∀ i, BlkOk (F.X i).N (F.X i).env.scope scope own) (hg : QG (F.blk scope) tg f is) (ht : QT (F.blk scope) ifs c) (he : PM (F.blk scope) elt e) (hsub : ∀ i ∈ is, i ∈ own.map (·.2) := by decide) (hs : ∀ i x, foldedSetIterable iter (F.X i).env x = pure x := by intro _ _; rfl) :
    PM F (.ListComp elt [⟨tg, iter, ifs, 0⟩] scope pos) (mLc it f c e (own.map (·.2))) := by
  obtain ⟨ti, pi, ei⟩ := hi
  obtain ⟨tg', pg, eg⟩ := hg
  obtain ⟨tt, pt, et⟩ := ht
  obtain ⟨te, pe, ee⟩ := he
  exact ⟨_, fun i => pe_lc (F.calm i) (F.nd i) (pi i) (ok i) (fun s H C cl fp => pg (i, s, H, C, cl, fp)) (fun s H C cl fp => pt (i, s, H, C, cl, fp)) (fun s H C cl fp => pe (i, s, H, C, cl, fp)) (hs i), ev_lcv ei eg et ee hsub⟩
theorem pm_lcn (hi : QI F tg iter it) (ok : ∀ i, BlkOk (F.X i).N (F.X i).env.scope scope own) (hg : QG (F.blk scope) tg f is) (ht : QT (F.blk scope) ifs c) (he : PM (F.blk scope) elt e) (hsub : ∀ i ∈ is, i ∈ own.map (·.2) := by decide) (hs : ∀ i x, foldedSetIterable iter (F.X i).env x = pure x := by intro _ _; rfl) :
    PM F (.ListComp elt [⟨tg, iter, ifs, 0⟩] scope pos) (mLcN it f c e (own.map (·.2))) := by
  obtain ⟨ti, pi, ei⟩ := hi
  obtain ⟨tg', pg, eg⟩ := hg
  obtain ⟨tt, pt, et⟩ := ht
  obtain ⟨te, pe, ee⟩ := he
  exact ⟨_, fun i => pe_lc (F.calm i) (F.nd i) (pi i) (ok i) (fun s H C cl fp => pg (i, s, H, C, cl, fp)) (fun s H C cl fp => pt (i, s, H, C, cl, fp)) (fun s H C cl fp => pe (i, s, H, C, cl, fp)) (hs i), ev_lcn ei eg et ee hsub⟩
/-- y = [..] on one line, y a local name -/
theorem q_setLc {i : Nat} {y : Str} {py spos : Pos} (hy : ∀ j, (F.X j).N[i]? = some y) (hyl : ∀ j, (F.X j).env.scope.names.lookup y = some .local) (hsw : ∀ j, swapsWith (.ListComp elt [⟨tg, iter, ifs, 0⟩] scope pos) (some (.Name y py)) spos.line (F.X j).env = pure true)
    (hi : QI F tg iter it) (ok : ∀ i, BlkOk (F.X i).N (F.X i).env.scope scope own) (hg : QG (F.blk scope) tg f is) (ht : QT (F.blk scope) ifs c) (he : PM (F.blk scope) elt e) (hsub : ∀ i ∈ is, i ∈ own.map (·.2) := by decide) (hs : ∀ i x, foldedSetIterable iter (F.X i).env x = pure x := by intro _ _; rfl) :
    QS F (.Assign [.Name y py] (.ListComp elt [⟨tg, iter, ifs, 0⟩] scope pos) spos) (mAsg i (mLc it f c e (own.map (·.2)))) := by
  obtain ⟨ti, pi, ei⟩ := hi
  obtain ⟨tg', pg, eg⟩ := hg
  obtain ⟨tt, pt, et⟩ := ht
  obtain ⟨te, pe, ee⟩ := he
  exact ⟨_, fun i => ps_setLc (F.calm i) (F.nd i) (hy i) (hyl i) (hsw i) (pi i) (ok i) (fun s H C cl fp => pg (i, s, H, C, cl, fp)) (fun s H C cl fp => pt (i, s, H, C, cl, fp)) (fun s H C cl fp => pe (i, s, H, C, cl, fp)) (hs i), ev_asg (ev_lcv ei eg et ee hsub)⟩
theorem q_setLcn {i : Nat} {y : Str} {py spos : Pos} (hy : ∀ j, (F.X j).N[i]? = some y) (hyl : ∀ j, (F.X j).env.scope.names.lookup y = some .local) (hsw : ∀ j, swapsWith (.ListComp elt [⟨tg, iter, ifs, 0⟩] scope pos) (some (.Name y py)) spos.line (F.X j).env = pure true)
    (hi : QI F tg iter it) (ok : ∀ i, BlkOk (F.X i).N (F.X i).env.scope scope own) (hg : QG (F.blk scope) tg f is) (ht : QT (F.blk scope) ifs c) (he : PM (F.blk scope) elt e) (hsub : ∀ i ∈ is, i ∈ own.map (·.2) := by decide) (hs : ∀ i x, foldedSetIterable iter (F.X i).env x = pure x := by intro _ _; rfl) :
    QS F (.Assign [.Name y py] (.ListComp elt [⟨tg, iter, ifs, 0⟩] scope pos) spos) (mAsg i (mLcN it f c e (own.map (·.2)))) := by
  obtain ⟨ti, pi, ei⟩ := hi
  obtain ⟨tg', pg, eg⟩ := hg
  obtain ⟨tt, pt, et⟩ := ht
  obtain ⟨te, pe, ee⟩ := he
  exact ⟨_, fun i => ps_setLc (F.calm i) (F.nd i) (hy i) (hyl i) (hsw i) (pi i) (ok i) (fun s H C cl fp => pg (i, s, H, C, cl, fp)) (fun s H C cl fp => pt (i, s, H, C, cl, fp)) (fun s H C cl fp => pe (i, s, H, C, cl, fp)) (hs i), ev_asg (ev_lcn ei eg et ee hsub)⟩
end
end Lf

/-! Lf7: cells, defs and their calls. -/
namespace Lf
open PySem PySem.Spec PyProof.Rows L2

/-! ### a list cell changed -/
def cellL (G : Sto) (d : D) : Option (Nat × List D) := match d with
  | .loc l => (match G.cs[l]? with | some (.lst ds) => some (l, ds) | _ => none)
  | _ => none
theorem cellL_loc {G : Sto} {d : D} {l : Nat} {ds : List D} (h : cellL G d = some (l, ds)) : d = .loc l ∧ G.cs[l]? = some (.lst ds) := by
  unfold cellL at h
  split at h
  · split at h
    · rename_i hg
      cases h
      exact ⟨rfl, hg⟩
    · cases h
  · cases h
section
variable {K : PySem.W.Frag} {Z : Act} {Hf Hf' : Hp} {μ : List Addr} {ρ : Evn} {G : Sto} {σ : L2.St} {H H' : Hp}
theorem Rel.cellL (R : Rel K Z Hf μ ρ G σ H) {v : V} {d : D} {l : Nat} {ds : List D} (r : Rep K Hf μ v d) (e : cellL G d = some (l, ds)) :
    ∃ a vs, v = .ref a ∧ μ[l]? = some a ∧ H a = some (.lst vs) ∧ Reps K Hf μ vs ds ∧ Hf a = none ∧ l < G.cs.length := by
  obtain ⟨rfl, hg⟩ := cellL_loc e
  cases r with
  | loc ha =>
  obtain ⟨hn, vs, hv, rr⟩ := R.cells _ _ _ hg ha
  exact ⟨_, vs, rfl, ha, hv, rr, hn, (List.getElem?_eq_some_iff.mp hg).1⟩
theorem Rel.setL (R : Rel K Z Hf μ ρ G σ H) {l : Nat} {a : Addr} {vs : List V} {ds : List D} (hl : l < G.cs.length) (ha : μ[l]? = some a) (hf : Hf a = none) (rr : Reps K Hf μ vs ds) : Rel K Z Hf μ ρ (G.set l (.lst ds)) σ (upd H a (.lst vs)) :=
  R.setCell hl ha hf ⟨hf, vs, upd_same, rr⟩
end
def mApp (o e : M D) : M D := fun ρ G => (o ρ G).bind fun p => (cellL p.2 p.1).bind fun _ => (e ρ p.2).bind fun q => (cellL q.2 p.1).bind fun c => if szOk (c.2.length + 1) then some (.non, q.2.set c.1 (.lst (c.2 ++ [q.1]))) else none
def mPop (o : M D) : M D := fun ρ G => (o ρ G).bind fun p => (cellL p.2 p.1).bind fun c => (c.2[c.2.length - 1]?).bind fun d => some (d, p.2.set c.1 (.lst c.2.dropLast))
def mRev (o : M D) : M D := fun ρ G => (o ρ G).bind fun p => (cellL p.2 p.1).bind fun c => some (.non, p.2.set c.1 (.lst c.2.reverse))
section
variable {F : Fam} {o e : Expr} {mo me : M D} {apos cpos : Pos}
theorem pm_append (ho : PM F o mo) (he : PM F e me) (hbase : ∀ i, attributeBase o "append" (F.X i).env (eval o (F.X i).env) = eval o (F.X i).env := by intro _; rfl)
    (hfew : ∀ i, ((backTo cpos (starEach [e] (F.X i).env)).all (fun x => !x.1) && (backToKw cpos (keywordEach [] (F.X i).env)).all (fun x => x.1.isSome) && decide ([e].length + ([] : List Keyword).length + (if ([] : List Keyword).isEmpty then 0 else 1) < 30)) = true := by intro _; rfl)
    (hline : (apos.endLine == cpos.line) = true := by rfl) (hs : ∀ i, starEach [e] (F.X i).env = (false, eval e (F.X i).env) :: starEach [] (F.X i).env := by intro _; rfl) : PM F (.Call (.Attribute o "append" apos) [e] [] cpos) (mApp mo me) := by
  obtain ⟨to, po, eo⟩ := ho
  obtain ⟨te, pe, ee⟩ := he
  refine ⟨tBM F.K "list" rAppend to (tCons te tNil), fun i => by
    have h := pe_bm (cpos := cpos) PySem.F.plainAttrs_list PySem.F.slot_list_append PySem.F.type_list_append mt_append (po i) (pa_cons (pe i) pa_nil (hs i)) (hbase i) (hfew i) hline (hs i) (by rfl)
    rw [F.hK i] at h
    exact h, ?_⟩
  intro Z Hf μ ρ G σ H R d G' h Q q
  unfold mApp at h
  obtain ⟨⟨x, G1⟩, e1, h⟩ := Option.bind_eq_some_iff.mp h
  obtain ⟨⟨l, ds⟩, e2, h⟩ := Option.bind_eq_some_iff.mp h
  obtain ⟨⟨y, G2⟩, e3, h⟩ := Option.bind_eq_some_iff.mp h
  obtain ⟨⟨l', ds'⟩, e4, h⟩ := Option.bind_eq_some_iff.mp h
  split at h
  · rename_i hz
    cases h
    refine eo Z Hf μ ρ G σ H R _ _ e1 _ fun Hf1 μ1 v H1 R1 s1 m1 r1 => ?_
    obtain ⟨a, vs, rfl, ha, hv, rr, hn, hl⟩ := R1.cellL r1 e2
    refine ⟨.inl ⟨rfl, vs, SqL.of hv⟩, ?_⟩
    refine ee Z Hf1 μ1 ρ G1 σ H1 R1 _ _ e3 _ fun Hf2 μ2 u H2 R2 s2 m2 r2 => ?_
    obtain ⟨a', vs', ea, ha', hv', rr', hn', hl'⟩ := R2.cellL (r1.mono s2 m2) e4
    cases ea
    refine ⟨a, vs', u, rfl, rfl, hv', by rw [rr'.length]; exact Nat.lt_of_lt_of_le (Nat.lt_succ_self _) (szOk_le hz), ?_⟩
    exact q Hf2 μ2 _ _ (R2.setL hl' ha' hn' (rr'.append (.one r2))) (s1.trans s2) (m1.trans m2) .non
  · cases h
theorem pm_pop (ho : PM F o mo) (hbase : ∀ i, attributeBase o "pop" (F.X i).env (eval o (F.X i).env) = eval o (F.X i).env := by intro _; rfl) (hline : (apos.endLine == cpos.line) = true := by rfl) : PM F (.Call (.Attribute o "pop" apos) [] [] cpos) (mPop mo) := by
  obtain ⟨to, po, eo⟩ := ho
  refine ⟨tBM0 F.K "list" rPop to, fun i => by
    have h := pe_bm0 (cpos := cpos) PySem.F.plainAttrs_list PySem.F.slot_list_pop PySem.F.type_list_pop mt_pop (po i) (hbase i) hline
    rw [F.hK i] at h
    exact h, ?_⟩
  intro Z Hf μ ρ G σ H R d G' h Q q
  unfold mPop at h
  obtain ⟨⟨x, G1⟩, e1, h⟩ := Option.bind_eq_some_iff.mp h
  obtain ⟨⟨l, ds⟩, e2, h⟩ := Option.bind_eq_some_iff.mp h
  obtain ⟨y, e3, h⟩ := Option.bind_eq_some_iff.mp h
  cases h
  refine eo Z Hf μ ρ G σ H R _ _ e1 _ fun Hf1 μ1 v H1 R1 s1 m1 r1 => ?_
  obtain ⟨a, vs, rfl, ha, hv, rr, hn, hl⟩ := R1.cellL r1 e2
  obtain ⟨w, hw, rw'⟩ := rr.get e3
  refine ⟨.inl ⟨rfl, vs, SqL.of hv⟩, a, vs, w, rfl, rfl, hv, by rw [rr.length]; exact hw, ?_⟩
  exact q Hf1 μ1 _ _ (R1.setL hl ha hn rr.dropLast) s1 m1 rw'
theorem pm_reverse (ho : PM F o mo) (hbase : ∀ i, attributeBase o "reverse" (F.X i).env (eval o (F.X i).env) = eval o (F.X i).env := by intro _; rfl) (hline : (apos.endLine == cpos.line) = true := by rfl) : PM F (.Call (.Attribute o "reverse" apos) [] [] cpos) (mRev mo) := by
  obtain ⟨to, po, eo⟩ := ho
  refine ⟨tBM0 F.K "list" rReverse to, fun i => by
    have h := pe_bm0 (cpos := cpos) PySem.F.plainAttrs_list PySem.F.slot_list_reverse PySem.F.type_list_reverse mt_reverse (po i) (hbase i) hline
    rw [F.hK i] at h
    exact h, ?_⟩
  intro Z Hf μ ρ G σ H R d G' h Q q
  unfold mRev at h
  obtain ⟨⟨x, G1⟩, e1, h⟩ := Option.bind_eq_some_iff.mp h
  obtain ⟨⟨l, ds⟩, e2, h⟩ := Option.bind_eq_some_iff.mp h
  cases h
  refine eo Z Hf μ ρ G σ H R _ _ e1 _ fun Hf1 μ1 v H1 R1 s1 m1 r1 => ?_
  obtain ⟨a, vs, rfl, ha, hv, rr, hn, hl⟩ := R1.cellL r1 e2
  refine ⟨.inl ⟨rfl, vs, SqL.of hv⟩, a, vs, rfl, rfl, hv, ?_⟩
  exact q Hf1 μ1 _ _ (R1.setL hl ha hn rr.reverse) s1 m1 .non
/-- o[i] = e -/
def mSetI (o i e : M D) : MS := fun ρ G => (e ρ G).bind fun p => (o ρ p.2).bind fun q => (i ρ q.2).bind fun r => match r.1 with
  | .int k => (cellL r.2 q.1).bind fun c => (ixN c.2.length k).bind fun j => some (.nx, ρ, r.2.set c.1 (.lst (c.2.set j p.1)))
  | _ => none
theorem q_setI {i : Expr} {mi : M D} {pos spos : Pos} (ho : PM F o mo) (hi : PM F i mi) (he : PM F e me)
    (ha : ∀ j v, assign (.Subscript o i pos) (F.X j).env v = (do
      let ov ← holding [v] (eval o (F.X j).env)
      let iv ← holding [v, ov] (eval i (F.X j).env)
      standAt pos
      holding [v, ov, iv] (setItem ov iv v)
      release [v, ov, iv] []) := by intro _ _; rfl) (hs : ∀ j, swapsWithSole [.Subscript o i pos] e spos.line (F.X j).env = pure false := by intro _; rfl) (hw : ∀ j, swappedStores [.Subscript o i pos] e (F.X j).env = pure none := by intro _; rfl)
    (h1 : ∀ j, (assignEach [.Subscript o i pos] (F.X j).env).map (·.2) = [assign (.Subscript o i pos) (F.X j).env] := by intro _; rfl) : QS F (.Assign [.Subscript o i pos] e spos) (mSetI mo mi me) := by
  obtain ⟨to, po, eo⟩ := ho
  obtain ⟨ti, pi, ei⟩ := hi
  obtain ⟨te, pe, ee⟩ := he
  refine ⟨_, fun j => ps_asg (pe j) (pg_sub (po j) (pi j) set_list (ha j)) (hs j) (hw j) (h1 j), ?_⟩
  intro Z Hf μ ρ G σ H R out ρ' G' h E q
  unfold mSetI at h
  obtain ⟨⟨x, G1⟩, e1, h⟩ := Option.bind_eq_some_iff.mp h
  obtain ⟨⟨y, G2⟩, e2, h⟩ := Option.bind_eq_some_iff.mp h
  obtain ⟨⟨z, G3⟩, e3, h⟩ := Option.bind_eq_some_iff.mp h
  dsimp only at h
  split at h
  · rename_i k
    obtain ⟨⟨l, ds⟩, e4, h⟩ := Option.bind_eq_some_iff.mp h
    obtain ⟨j, e5, h⟩ := Option.bind_eq_some_iff.mp h
    cases h
    refine ee Z Hf μ ρ G σ H R _ _ e1 _ fun Hf1 μ1 v H1 R1 s1 m1 r1 => ?_
    refine eo Z Hf1 μ1 ρ G1 σ H1 R1 _ _ e2 _ fun Hf2 μ2 u H2 R2 s2 m2 r2 => ?_
    refine ei Z Hf2 μ2 ρ G2 σ H2 R2 _ _ e3 _ fun Hf3 μ3 w H3 R3 s3 m3 r3 => ?_
    obtain ⟨a, vs, rfl, ha, hv, rr, hn, hl⟩ := R3.cellL (r2.mono s3 m3) e4
    cases r3
    refine ⟨a, vs, k, j, rfl, rfl, hv, by rw [rr.length]; exact e5, ?_⟩
    exact q Hf3 μ3 σ _ (R3.setL hl ha hn (Reps.set ((r1.mono s2 m2).mono s3 m3) j rr)) ((s1.trans s2).trans s3) ((m1.trans m2).trans m3)
  · cases h
end

/-! ### defs -/
abbrev Fn := List D → Sto → Option (D × Sto)
/-- what a def promises: f of the arguments and the cells -/
def spM (K : PySem.W.Frag) (f : Fn) : Sp := fun vs H Q _ => ∃ Hf μ G ds d G', Rel K (Act.entry H Hf μ) Hf μ [] G [] H ∧ Reps K Hf μ vs ds ∧ f ds G = some (d, G') ∧
  ∀ Hf' μ' v H', Rel K (Act.entry H Hf μ) Hf' μ' [] G' [] H' → Rep K Hf' μ' v d → Q v H'
mutual
/-- no cell from n on is named -/
def belowD (n : Nat) : D → Bool
  | .tup ds => belowDs n ds
  | .lst ds => belowDs n ds
  | .frz ds => belowDs n ds
  | .loc l => decide (l < n)
  | _ => true
def belowDs (n : Nat) : List D → Bool
  | [] => true
  | d :: ds => belowD n d && belowDs n ds
end
def belowC (n : Nat) : Cell → Bool
  | .lst ds => belowDs n ds
  | .ins _ fs => belowDs n (fs.map (·.2))
  | .dead => true
mutual
theorem Rep.cut {K : PySem.W.Frag} {H : Hp} {μ : List Addr} {n : Nat} : ∀ {v : V} {d : D}, Rep K H μ v d → belowD n d = true → Rep K H (μ.take n) v d
  | _, _, .non, _ => .non
  | _, _, .bl b, _ => .bl b
  | _, _, .int i, _ => .int i
  | _, _, .str s, _ => .str s
  | _, _, .tup h r, e => .tup h (Reps.cut_ r e)
  | _, _, .lst h r, e => .lst h (Reps.cut_ r e)
  | _, _, .frz h r, e => .frz h (Reps.cut_ r e)
  | _, _, .loc h, e => .loc (by rw [List.getElem?_take_of_lt (of_decide_eq_true e)]; exact h)
theorem Reps.cut_ {K : PySem.W.Frag} {H : Hp} {μ : List Addr} {n : Nat} : ∀ {vs : List V} {ds : List D}, Reps K H μ vs ds → belowDs n ds = true → Reps K H (μ.take n) vs ds
  | _, _, .nil, _ => .nil
  | _, _, .cons h r, e => by
    unfold belowDs at e
    rw [Bool.and_eq_true] at e
    exact .cons (h.cut e.1) (Reps.cut_ r e.2)
end
theorem RepF.cut {K : PySem.W.Frag} {H : Hp} {μ : List Addr} {n : Nat} : ∀ {vs : List (Str × V)} {ds : List (Str × D)}, RepF K H μ vs ds → belowDs n (ds.map (·.2)) = true → RepF K H (μ.take n) vs ds
  | _, _, .nil, _ => .nil
  | _, _, .cons h r, e => by
    rw [List.map_cons] at e
    unfold belowDs at e
    rw [Bool.and_eq_true] at e
    exact .cons (h.cut e.1) (RepF.cut r e.2)
theorem CellAt.cut {K : PySem.W.Frag} {Hf H : Hp} {μ : List Addr} {a : Addr} {c : Cell} {n : Nat} (h : CellAt K Hf μ H a c) (e : belowC n c = true) : CellAt K Hf (μ.take n) H a c := by
  cases c with
  | lst ds => obtain ⟨h0, vs, h1, r⟩ := h; exact ⟨h0, vs, h1, r.cut_ e⟩
  | ins C fs => obtain ⟨h0, dx, fv, h1, r⟩ := h; exact ⟨h0, dx, fv, h1, r.cut e⟩
  | dead => exact h
/-- the cells made within are let go -/
def fin (G : Sto) (d : D) (G' : Sto) : Option (D × Sto) := if belowD G.cs.length d && (G'.cs.take G.cs.length).all (belowC G.cs.length) then some (d, ⟨G.n0, G'.cs.take G.cs.length⟩) else none
/-- .. or kept -/
def finK (G : Sto) (d : D) (G' : Sto) : Option (D × Sto) := some (d, ⟨G.n0, G'.cs⟩)
def runBody (fin : Sto → D → Sto → Option (D × Sto)) (N np : Nat) (b : MS) : Fn := fun ds G =>
  if ds.length = np then (b (ds.map some ++ List.replicate (N - np) none) ⟨G.cs.length, G.cs⟩).bind fun r => match r.1 with
    | .rt d => fin G d r.2.2
    | .nx => fin G .non r.2.2
    | _ => none
  else none
abbrev runF := runBody fin
abbrev runK := runBody finK
structure FinOk (fin : Sto → D → Sto → Option (D × Sto)) : Prop where
  ok : ∀ {K Hf0 H0 μ0 Hf μ ρ σ H G d G1 d' G' v}, fin G d G1 = some (d', G') → G.cs.length = μ0.length → G.n0 = μ0.length → Rel K (Act.entry H0 Hf0 μ0) Hf μ ρ G1 σ H → Rep K Hf μ v d → ∃ μ', Rel K (Act.entry H0 Hf0 μ0) Hf μ' [] G' [] H ∧ Rep K Hf μ' v d'
theorem Rel.bare {K : PySem.W.Frag} {Z : Act} {Hf : Hp} {μ : List Addr} {ρ : Evn} {G : Sto} {σ : L2.St} {H : Hp} (R : Rel K Z Hf μ ρ G σ H) : Rel K Z Hf μ [] G [] H := R.envs ⟨rfl, fun i d e => by simp at e⟩
theorem fin_ok : FinOk fin := by
  refine ⟨fun {K Hf0 H0 μ0 Hf μ ρ σ H G d G1 d' G' v} h hl hn R r => ?_⟩
  unfold fin at h
  split at h
  · rename_i hb
    rw [Bool.and_eq_true] at hb
    cases h
    have hlen : μ0.length ≤ μ.length := R.pre.length_le
    refine ⟨μ.take G.cs.length, ⟨R.sub, R.base, R.old, R.keep, R.live, ?_, fun l a e hl2 => ?_, R.nd.sublist (List.take_sublist _ _), ?_, hn, fun l c a e1 e2 => ?_, rfl, fun i d e => by simp at e⟩, r.cut hb.1⟩
    · obtain ⟨t, ht⟩ := R.pre
      have ht : μ0 ++ t = μ := ht
      rw [← ht, hl, List.take_left']
      · exact List.prefix_refl _
      · rfl
    · have h1 : l < (μ.take G.cs.length).length := (List.getElem?_eq_some_iff.mp e).1
      rw [List.length_take] at h1
      have hl2 : μ0.length ≤ l := hl2
      omega
    · show (μ.take G.cs.length).length = (G1.cs.take G.cs.length).length
      rw [List.length_take, List.length_take, R.len]
    · have e1 : (G1.cs.take G.cs.length)[l]? = some c := e1
      have h1 : l < (G1.cs.take G.cs.length).length := (List.getElem?_eq_some_iff.mp e1).1
      rw [List.length_take] at h1
      have hm : belowC G.cs.length c = true := List.all_eq_true.mp hb.2 c (List.mem_of_getElem? e1)
      rw [List.getElem?_take_of_lt (by omega)] at e1 e2
      exact (R.cells l c a e1 e2).cut hm
  · cases h
theorem finK_ok : FinOk finK := by
  refine ⟨fun {K Hf0 H0 μ0 Hf μ ρ σ H G d G1 d' G' v} h hl hn R r => ?_⟩
  cases h
  have R' := R.bare
  exact ⟨μ, ⟨R'.sub, R'.base, R'.old, R'.keep, R'.live, R'.pre, R'.new, R'.nd, R'.len, hn, R'.cells, R'.env⟩, r⟩

/-- the family of one body -/
def famOf (P : Program) (w : World) (K : PySem.W.Frag) (mg : Str → Option Value) (base : Heap) (N : List Str) (qual : Str) (scope : Scope) (f : Addr) (cd : Value) (A : Around) (outer : List Env) (s : Shared) (H : Hp) (E : XK) (k : Nat) (nd : N.Nodup) (hr : Room k (A.deeper (envOfC qual scope s.heap.objs.size f cd))) : Fam where
  ι := Unit
  X := fun _ => (cxOf CX0 P w K mg base N qual scope f cd A outer s H E).nox
  P := P
  w := w
  K := K
  mg := mg
  base := base
  k := k
  hP := fun _ => rfl
  hw := fun _ => rfl
  hK := fun _ => rfl
  hm := fun _ => rfl
  hb := fun _ => rfl
  calm := fun _ => rfl
  nd := fun _ => nd
  room := fun _ => hr
theorem start_env {K : PySem.W.Frag} {Hf : Hp} {μ : List Addr} {N : List Str} {vs : List V} {ds : List D} (r : Reps K Hf μ vs ds) : EnvOk K Hf μ (ds.map some ++ List.replicate (N.length - ds.length) none) (L2.start N vs) := by
  have hl := r.length
  refine ⟨?_, fun i d e => ?_⟩
  · unfold L2.start
    rw [List.length_append, List.length_append, List.length_map, List.length_map, List.length_replicate, List.length_replicate, hl]
  · by_cases hi : i < ds.length
    · rw [List.getElem?_append_left (by rw [List.length_map]; exact hi), List.getElem?_map] at e
      obtain ⟨d', e1, e2⟩ := Option.map_eq_some_iff.mp e
      cases e2
      obtain ⟨v, h1, h2⟩ := r.get e1
      refine ⟨v, ?_, h2⟩
      unfold L2.start
      rw [List.getElem?_append_left (by rw [List.length_map, hl]; exact hi), List.getElem?_map, h1]
      rfl
    · rw [List.getElem?_append_right (by rw [List.length_map]; omega), List.getElem?_replicate] at e
      split at e <;> cases e
section
variable {P : Program} {w : World} {K : PySem.W.Frag} {mg : Str → Option Value} {base : Heap}
/-- THE RULE for a def -/
theorem fn_ok {x qual : Str} {st : Stmt} {f : Addr} {fd : FuncData} {N ps : List Str} {k np : Nat} {b : MS} {fi : Sto → D → Sto → Option (D × Sto)} (hfi : FinOk fi) (Fn : Fun K x qual st f fd) (S : FnScope N ps (defScope st)) (hnp : ps.length = np)
    (hbody : ∀ (cdv : Value) (A : Around) (outer : List Env) (s : Shared) (H : Hp) (E : XK) (hr : Room k (A.deeper (envOfC qual (defScope st) s.heap.objs.size f cdv))), QSs (famOf P w K mg base N qual (defScope st) f cdv A outer s H E k S.nd hr) (defBody st) b) :
    FnOk P w K mg base CX0 (k + 1) f fd ps (spM K (runBody fi N.length np b)) := by
  refine Fn.ok S (fun vs H Q E h => ?_) (fun cdv A outer s H vs Q E hr h => ?_)
  · obtain ⟨Hf, μ, G, ds, d, G', R, r, e, q⟩ := h
    unfold runBody at e
    split at e
    · rename_i hl
      rw [r.length, hl, hnp]
    · cases e
  · obtain ⟨Hf, μ, G, ds, d, G', R, r, e, q⟩ := h
    obtain ⟨t, p, ev⟩ := hbody cdv A outer s H E hr
    refine ⟨t, p (), ?_⟩
    unfold runBody at e
    split at e
    · rename_i hl
      obtain ⟨⟨o, ρ1, G1⟩, e1, e⟩ := Option.bind_eq_some_iff.mp e
      have hn : G.n0 = μ.length := R.n0
      have hcl : G.cs.length = μ.length := R.len.symm
      have R0 : Rel K (Act.entry H Hf μ) Hf μ (ds.map some ++ List.replicate (N.length - np) none) ⟨G.cs.length, G.cs⟩ (L2.start N vs) H := by
        have R1 := R.envs (hl ▸ start_env (N := N) r)
        exact ⟨R1.sub, R1.base, R1.old, R1.keep, R1.live, R1.pre, R1.new, R1.nd, R1.len, hcl, R1.cells, R1.env⟩
      refine ev (Act.entry H Hf μ) Hf μ _ _ _ H R0 o ρ1 G1 e1 _ ?_
      cases o with
      | nx =>
        intro Hf1 μ1 σ1 H1 R1 s1 m1
        obtain ⟨μ2, R2, r2⟩ := hfi.ok (v := V.non) e hcl hn R1 .non
        exact q Hf1 μ2 _ H1 R2 r2
      | rt d1 =>
        intro Hf1 μ1 v σ1 H1 R1 s1 m1 r1
        obtain ⟨μ2, R2, r2⟩ := hfi.ok e hcl hn R1 r1
        exact q Hf1 μ2 _ H1 R2 r2
      | bk => cases e
      | ct => cases e
    · cases e
/-- a def that is there, and what it promises -/
def Has (P : Program) (w : World) (K : PySem.W.Frag) (mg : Str → Option Value) (base : Heap) (x : Str) (st : Stmt) (k : Nat) (ps : List Str) (f : Fn) : Prop :=
  ∃ a fd, mg x = some (.ref a) ∧ Fun K x x st a fd ∧ Binds K fd ps [] ∧ FnOk P w K mg base CX0 k a fd ps (spM K f)
theorem Has.mono {x : Str} {st : Stmt} {j k : Nat} {ps : List Str} {f : Fn} (h : Has P w K mg base x st j ps f) (hjk : j ≤ k) : Has P w K mg base x st k ps f := let ⟨a, fd, h1, h2, h3, h4⟩ := h; ⟨a, fd, h1, h2, h3, h4.mono hjk⟩
/-- nothing promised -/
theorem fn_none {f : Addr} {fd : FuncData} {ps : List Str} {k : Nat} : FnOk P w K mg base CX0 k f fd ps (spM K fun _ _ => none) :=
  ⟨fun vs H Q E h => (by obtain ⟨_, _, _, _, _, _, _, _, e, _⟩ := h; cases e), fun A outer s H args us vs Q E _ _ _ _ h => (by obtain ⟨_, _, _, _, _, _, _, _, e, _⟩ := h; cases e)⟩
end

/-! ### calls -/
/-- a def that is handed no cells -/
def mCallP (f : Fn) (ms : M (List D)) : M D := fun ρ G => (ms ρ G).bind fun p => if belowDs 0 p.1 then (f p.1 Sto.none).bind fun q => if belowD 0 q.1 then some (q.1, p.2) else none else none
/-- .. that is handed all cells -/
def mCall (f : Fn) (ms : M (List D)) : M D := fun ρ G => (ms ρ G).bind fun p => (f p.1 ⟨p.2.cs.length, p.2.cs⟩).bind fun q => some (q.1, ⟨p.2.n0, q.2.cs⟩)
theorem ev_callP {K : PySem.W.Frag} {f : Fn} {t : TA} {ms : M (List D)} (h : EvA K t ms) : EvE K (tCall (spM K f) [] E0 t) (mCallP f ms) := by
  intro Z Hf μ ρ G σ H R d G' e Q q
  unfold mCallP at e
  obtain ⟨⟨ds, G1⟩, e1, e⟩ := Option.bind_eq_some_iff.mp e
  split at e
  · rename_i hb
    obtain ⟨⟨d1, G2⟩, e2, e⟩ := Option.bind_eq_some_iff.mp e
    split at e
    · rename_i hb2
      cases e
      refine h Z Hf μ ρ G σ H R _ _ e1 _ fun Hf1 μ1 vs H1 R1 s1 m1 r1 => ?_
      rw [List.append_nil]
      have r0 := r1.cut_ hb
      rw [List.take_zero] at r0
      refine ⟨Hf1, [], Sto.none, ds, d1, G2, R1.enter0, r0, e2, fun Hf2 μ2 v H2 R2 r2 => ?_⟩
      have g := R2.leave0
      have r3 := r2.cut hb2
      rw [List.take_zero] at r3
      exact q Hf2 μ1 v H2 (R1.grow g) (s1.trans g.same) m1 (r3.mono (Same.refl _) (List.nil_prefix))
    · cases e
  · cases e
theorem ev_call {K : PySem.W.Frag} {f : Fn} {t : TA} {ms : M (List D)} (h : EvA K t ms) : EvE K (tCall (spM K f) [] E0 t) (mCall f ms) := by
  intro Z Hf μ ρ G σ H R d G' e Q q
  unfold mCall at e
  obtain ⟨⟨ds, G1⟩, e1, e⟩ := Option.bind_eq_some_iff.mp e
  obtain ⟨⟨d1, G2⟩, e2, e⟩ := Option.bind_eq_some_iff.mp e
  cases e
  refine h Z Hf μ ρ G σ H R _ _ e1 _ fun Hf1 μ1 vs H1 R1 s1 m1 r1 => ?_
  rw [List.append_nil]
  refine ⟨Hf1, μ1, ⟨G1.cs.length, G1.cs⟩, ds, _, G2, R1.enter, r1, e2, fun Hf2 μ2 v H2 R2 r2 => ?_⟩
  exact q Hf2 μ2 v H2 (R1.leave R2) (s1.trans R2.base) (m1.trans R2.pre) r2
section
variable {F : Fam} {x : Str} {st : Stmt} {k : Nat} {ps : List Str} {f : Fn} {p pos : Pos} {e : Expr} {es : List Expr} {ms : M (List D)}
theorem has_fn {i : F.ι} {a : Addr} {fd : FuncData} {sp : Sp} (h : FnOk F.P F.w F.K F.mg F.base CX0 k a fd ps sp) : FnOk (F.X i).prog (F.X i).w (F.X i).K (F.X i).mg (F.X i).base CX0 k a fd ps sp := by
  rw [F.hP i, F.hw i, F.hK i, F.hm i, F.hb i]
  exact h
theorem pm_callP (h : Has F.P F.w F.K F.mg F.base x st k ps f) (hk : k ≤ F.k) (hg : ∀ i, Gl (F.X i) x) (ha : PL F (e :: es) ms) (hdb : (x == ("__debug__" : Str)) = false := by decide) (he : ∀ i, starEach (e :: es) (F.X i).env = (false, eval e (F.X i).env) :: starEach es (F.X i).env := by intro _; rfl) (hpl : ∀ i, (backTo pos (starEach es (F.X i).env)).any (·.1) = false := by intro _; rfl) :
    PM F (.Call (.Name x p) (e :: es) [] pos) (mCallP f ms) := by
  obtain ⟨a, fd, h1, h2, h3, h4⟩ := h
  obtain ⟨t, pa, ev⟩ := ha
  exact ⟨_, fun i => pe_call (has_fn h4) ((F.room i).mono hk) (hg i) (by rw [F.hm i]; exact h1) (by rw [F.hK i]; exact h2.kp) (by rw [F.hK i]; exact h3) .nil pass0 (pa i) hdb (he i) (hpl i), ev_callP ev⟩
theorem pm_call (h : Has F.P F.w F.K F.mg F.base x st k ps f) (hk : k ≤ F.k) (hg : ∀ i, Gl (F.X i) x) (ha : PL F (e :: es) ms) (hdb : (x == ("__debug__" : Str)) = false := by decide) (he : ∀ i, starEach (e :: es) (F.X i).env = (false, eval e (F.X i).env) :: starEach es (F.X i).env := by intro _; rfl) (hpl : ∀ i, (backTo pos (starEach es (F.X i).env)).any (·.1) = false := by intro _; rfl) :
    PM F (.Call (.Name x p) (e :: es) [] pos) (mCall f ms) := by
  obtain ⟨a, fd, h1, h2, h3, h4⟩ := h
  obtain ⟨t, pa, ev⟩ := ha
  exact ⟨_, fun i => pe_call (has_fn h4) ((F.room i).mono hk) (hg i) (by rw [F.hm i]; exact h1) (by rw [F.hK i]; exact h2.kp) (by rw [F.hK i]; exact h3) .nil pass0 (pa i) hdb (he i) (hpl i), ev_call ev⟩
end
end Lf

/-! Lf8: calls by names; what the top has left; the ends. -/
namespace Lf
open PySem PySem.Spec PyProof.Rows L2

def pick {α : Type} (is : List Nat) (xs : List α) : List α := is.filterMap fun i => xs[i]?
theorem vals_pick {zs : List V} {ws : List Value} (r : Vals zs ws) (is : List Nat) : Vals (pick is zs) (pick is ws) := by
  induction is with
  | nil => exact .nil
  | cons i is ih =>
    unfold pick
    rw [List.filterMap_cons, List.filterMap_cons]
    cases h : zs[i]? with
    | none => rw [Vals.none_of r h]; exact ih
    | some z =>
      obtain ⟨u, h1, h2⟩ := Vals.get r h
      rw [h1]
      exact .cons h2 ih
theorem reps_pick {K : PySem.W.Frag} {H : Hp} {μ : List Addr} {vs : List V} {ds : List D} (r : Reps K H μ vs ds) (is : List Nat) : Reps K H μ (pick is vs) (pick is ds) := by
  induction is with
  | nil => exact .nil
  | cons i is ih =>
    unfold pick
    rw [List.filterMap_cons, List.filterMap_cons]
    cases h : ds[i]? with
    | none =>
      have : vs[i]? = none := by
        rw [List.getElem?_eq_none_iff] at h ⊢
        rw [r.length]; exact h
      rw [this]; exact ih
    | some z =>
      obtain ⟨u, h1, h2⟩ := r.get h
      rw [h1]
      exact .cons h2 ih
/-- f(k = v, ..) -/
def tCallK0 (sp : Sp) (is : List Nat) (n : Nat) (E : XK) (tk : TA) : TE := fun σ H Q => tk σ H fun zs H2 => zs.length = n ∧ sp (pick is zs) H2 Q E
theorem pe_callK0 {X : Cx} {CX : CXT} {k : Nat} {f : Addr} {fd : FuncData} {ps ks : List Str} {sp : Sp} {E : XK} {x : Str} {p pos : Pos} {kws : List Keyword} {tk : TA} {is : List Nat} (F : FnOk X.prog X.w X.K X.mg X.base CX k f fd ps sp) (hr : Room k X.A) (hg : Gl X x) (hm : X.mg x = some (.ref f)) (hk : PySem.W.keepIn X.K (.ref f) = true)
    (hb : ∀ (s : Shared) (ws : List Value), ws.length = ks.length → BindsTo s fd ⟨[], ks.zip ws⟩ (ps.zip (pick is ws))) (hx : Passes CX X E) (hkw : PK X kws tk)
    (hall : (backToKw pos (keywordEach kws X.env)).all (·.1.isSome) = true := by rfl) (hks : (backToKw pos (keywordEach kws X.env)).filterMap (·.1) = ks := by rfl) (hdb : (x == ("__debug__" : Str)) = false := by decide)
    (hpl : ((backTo pos (starEach [] X.env)).any (·.1) || (backToKw pos (keywordEach kws X.env)).any (·.1.isNone)) = false := by rfl) : PE X (.Call (.Name x p) [] kws pos) (tCallK0 sp is ks.length E tk) := by
  refine ⟨fun pins s σ H Q I h => ?_⟩
  refine wpAny_Call_Name_kw (ld_glob I hg hm ?_ hdb)
  refine PySem.W.callWith_KW0 (h₀ := X.base) I.ok.mod.kin hk hall ?_ hpl
  refine thn (hkw.run pos pins s σ H _ I h) fun ws s2 ⟨zs, H2, I2, rz, l2, q2⟩ => ⟨I2.kIn, ?_⟩
  rw [hks]
  have r2 := vals_pick rz is
  refine wpAny_call (codeAny_mono (F.run X.A X.stack s2 H2 ⟨[], ks.zip ws⟩ (pick is ws) (pick is zs) Q E hr I2.env0 (hb s2 ws (rz.length.symm.trans l2)) r2 q2) fun r s' hq => ?_)
  cases r with
  | error e => exact hx pins σ H2 s2 e s' I2 hq
  | ok fl =>
    cases fl with
    | ret u => exact I2.after hq
    | next => exact False.elim hq
    | brk => exact False.elim hq
    | cont => exact False.elim hq
def PKm (F : Fam) (kws : List Keyword) (m : M (List D)) : Prop := ∃ t, (∀ i, PK (F.X i) kws t) ∧ EvA F.K t m
theorem pk0 {F : Fam} : PKm F [] mNil := by
  refine ⟨_, fun _ => pk_nil, ?_⟩
  intro Z Hf μ ρ G σ H R ds G' e Q q
  cases e
  exact q Hf μ [] H R (Same.refl _) (List.prefix_refl _) .nil
theorem pk1 {F : Fam} {nm : Option Str} {e : Expr} {kpos : Pos} {kws : List Keyword} {a : M D} {r : M (List D)} (ha : PM F e a) (hr : PKm F kws r) : PKm F (⟨nm, e, kpos⟩ :: kws) (mCons a r) := by
  obtain ⟨ta, pa, ea⟩ := ha
  obtain ⟨tr, pr, er⟩ := hr
  refine ⟨_, fun i => pk_cons (pa i) (pr i), ?_⟩
  intro Z Hf μ ρ G σ H R ds G' e Q q
  unfold mCons at e
  obtain ⟨⟨x, G1⟩, e1, e⟩ := Option.bind_eq_some_iff.mp e
  obtain ⟨⟨xs, G2⟩, e2, e⟩ := Option.bind_eq_some_iff.mp e
  cases e
  refine ea Z Hf μ ρ G σ H R x G1 e1 _ fun Hf1 μ1 v H1 R1 s1 m1 r1 => ?_
  refine er Z Hf1 μ1 ρ G1 σ H1 R1 xs G2 e2 _ fun Hf2 μ2 vs H2 R2 s2 m2 r2 => ?_
  exact q Hf2 μ2 (v :: vs) H2 R2 (s1.trans s2) (m1.trans m2) (.cons (r1.mono s2 m2) r2)
/-- the values of the names, in the parameters' order -/
def mPick (is : List Nat) (n : Nat) (ms : M (List D)) : M (List D) := fun ρ G => (ms ρ G).bind fun p => if p.1.length = n then some (pick is p.1, p.2) else none
section
variable {F : Fam} {x : Str} {st : Stmt} {k : Nat} {ps : List Str} {f : Fn} {p pos : Pos} {kws : List Keyword} {ms : M (List D)}
theorem ev_callPK {K : PySem.W.Frag} {f : Fn} {t : TA} {ms : M (List D)} {is : List Nat} {n : Nat} (h : EvA K t ms) : EvE K (tCallK0 (spM K f) is n E0 t) (mCallP f (mPick is n ms)) := by
  intro Z Hf μ ρ G σ H R d G' e Q q
  unfold mCallP mPick at e
  obtain ⟨⟨ds, G1⟩, e1, e⟩ := Option.bind_eq_some_iff.mp e
  obtain ⟨⟨ds0, G0⟩, e0, e1⟩ := Option.bind_eq_some_iff.mp e1
  split at e1
  · rename_i hn
    cases e1
    split at e
    · rename_i hb
      obtain ⟨⟨d1, G2⟩, e2, e⟩ := Option.bind_eq_some_iff.mp e
      split at e
      · rename_i hb2
        cases e
        refine h Z Hf μ ρ G σ H R _ _ e0 _ fun Hf1 μ1 vs H1 R1 s1 m1 r1 => ⟨by rw [r1.length]; exact hn, ?_⟩
        have r0 := (reps_pick r1 is).cut_ hb
        rw [List.take_zero] at r0
        refine ⟨Hf1, [], Sto.none, _, d1, G2, R1.enter0, r0, e2, fun Hf2 μ2 v H2 R2 r2 => ?_⟩
        have g := R2.leave0
        have r3 := r2.cut hb2
        rw [List.take_zero] at r3
        exact q Hf2 μ1 v H2 (R1.grow g) (s1.trans g.same) m1 (r3.mono (Same.refl _) (List.nil_prefix))
      · cases e
    · cases e
  · cases e1
theorem pm_callPK {ks : List Str} {is : List Nat} (h : Has F.P F.w F.K F.mg F.base x st k ps f) (hk : k ≤ F.k) (hg : ∀ i, Gl (F.X i) x) (ha : PKm F kws ms)
    (hb : ∀ (kV doc pm : Value) (an : Option Addr) (cdv ct : Value) (ws : List Value), ws.length = ks.length → bindArgs (PySem.W.fnOf x x (defArgs st) (defBody st) (defScope st) .none kV doc pm an cdv ct) ⟨[], ks.zip ws⟩ = pure (ps.zip (pick is ws)))
    (hall : ∀ i, (backToKw pos (keywordEach kws (F.X i).env)).all (·.1.isSome) = true := by intro _; rfl) (hks : ∀ i, (backToKw pos (keywordEach kws (F.X i).env)).filterMap (·.1) = ks := by intro _; rfl) (hdb : (x == ("__debug__" : Str)) = false := by decide)
    (hpl : ∀ i, ((backTo pos (starEach [] (F.X i).env)).any (·.1) || (backToKw pos (keywordEach kws (F.X i).env)).any (·.1.isNone)) = false := by intro _; rfl) : PM F (.Call (.Name x p) [] kws pos) (mCallP f (mPick is ks.length ms)) := by
  obtain ⟨a, fd, h1, h2, h3, h4⟩ := h
  obtain ⟨t, pa, ev⟩ := ha
  have hb' : ∀ (s : Shared) (ws : List Value), ws.length = ks.length → BindsTo s fd ⟨[], ks.zip ws⟩ (ps.zip (pick is ws)) := fun s ws hl => by
    obtain ⟨oc, od, kV, doc, pm, an, cdv, ct, osl, rfl, lk, hcd⟩ := h2.ex
    exact .of_eq (hb kV doc pm an cdv ct ws hl)
  exact ⟨_, fun i => pe_callK0 (has_fn h4) ((F.room i).mono hk) (hg i) (by rw [F.hm i]; exact h1) (by rw [F.hK i]; exact h2.kp) hb' pass0 (pa i) (hall i) (hks i) hdb (hpl i), ev_callPK ev⟩
end

/-! ### the text -/
/-- a def as the top has left it -/
def FunAt (K : PySem.W.Frag) (mg : Str → Option Value) (x : Str) (st : Stmt) : Prop := ∃ a fd, mg x = some (.ref a) ∧ Fun K x x st a fd
theorem mk_fun {K : PySem.W.Frag} {mg : Str → Option Value} {h : Heap} (X : K.In h) (G : h.Ns mainGlobals mg) {x : Str} {st : Stmt} {f : Addr} {od an : Option Addr} {sl : Array (Option Value)} {oc kV dc pm cd ct : Value}
    (a : PySem.W.nsIn K mainGlobals x = some (some (.ref f))) (l : K.lookup f = some ⟨oc, od, .func (PySem.W.fnOf x x (defArgs st) (defBody st) (defScope st) .none kV dc pm an cd ct), sl⟩) (c : PySem.W.codeIn K cd x = true) (k : PySem.W.keepIn K (.ref f) = true) : FunAt K mg x st :=
  ⟨f, _, PySem.W.mg_of X G a, fun_mk l c k⟩
section
variable {P : Program} {w : World} {K : PySem.W.Frag} {mg : Str → Option Value} {base : Heap}
theorem has_of {x : Str} {st : Stmt} {N ps : List Str} {k np n : Nat} {b : MS} {fi : Sto → D → Sto → Option (D × Sto)} (hfi : FinOk fi) (A : FunAt K mg x st) (S : FnScope N ps (defScope st)) (hnp : ps.length = np) (hN : N.length = n)
    (hbd : ∀ (kV doc pm : Value) (an : Option Addr) (cdv ct : Value) (us : List Value), us.length = ps.length → bindArgs (PySem.W.fnOf x x (defArgs st) (defBody st) (defScope st) .none kV doc pm an cdv ct) ⟨us, []⟩ = pure (ps.zip us))
    (hbody : ∀ (f : Addr) (cdv : Value) (A : Around) (outer : List Env) (s : Shared) (H : Hp) (E : XK) (hr : Room k (A.deeper (envOfC x (defScope st) s.heap.objs.size f cdv))), QSs (famOf P w K mg base N x (defScope st) f cdv A outer s H E k S.nd hr) (defBody st) b) :
    Has P w K mg base x st (k + 1) ps (runBody fi n np b) := by
  obtain ⟨a, fd, h1, h2⟩ := A
  subst hN
  exact ⟨a, fd, h1, h2, h2.binds hbd, fn_ok hfi h2 S hnp fun cdv A outer s H E hr => hbody a cdv A outer s H E hr⟩
theorem has_none {x : Str} {st : Stmt} {ps : List Str} {k : Nat} (A : FunAt K mg x st) (hbd : ∀ (kV doc pm : Value) (an : Option Addr) (cdv ct : Value) (us : List Value), us.length = ps.length → bindArgs (PySem.W.fnOf x x (defArgs st) (defBody st) (defScope st) .none kV doc pm an cdv ct) ⟨us, []⟩ = pure (ps.zip us)) :
    Has P w K mg base x st k ps fun _ _ => none := by
  obtain ⟨a, fd, h1, h2⟩ := A
  exact ⟨a, fd, h1, h2, h2.binds hbd, fn_none⟩
end
/-- the law's promise, from the value -/
theorem law_sp {K : PySem.W.Frag} {f : Fn} {H : Hp} {a : Addr} {ns : List Int} (hS : SqL K H a (ns.map V.int)) (h : ∃ G', f [.frz (ns.map .int)] Sto.none = some (.bl true, G')) : spM K f [.ref a] H (fun v _ => v = .bl true) fun _ _ _ => False := by
  obtain ⟨G', e⟩ := h
  have R : Rel K (Act.entry H H []) H [] [] Sto.none [] H :=
    ⟨Same.refl _, Same.refl _, fun _ _ => rfl, fun a o e => (by
      have e : (if a ∈ ([] : List Addr) then none else H a) = some o := e
      rw [if_neg (by simp)] at e
      exact e), fun _ h => h, List.prefix_refl _, fun l a e _ => (by simp at e), List.nodup_nil, rfl, rfl, fun l c a e _ => (by simp at e), rfl, fun i d e => by simp at e⟩
  refine ⟨H, [], Sto.none, _, _, G', R, .cons (.frz hS (Reps.ints ns)) .nil, e, fun Hf' μ' v H' _ r => ?_⟩
  cases r
  rfl
end Lf

/-! Lp: plain lemmas: running the mirrors; sizes; fractions. -/
namespace Lf
open PySem PySem.Spec PyProof.Rows L2

/-! ### running -/
theorem fIdx_tup (G : Sto) (ds : List D) (i : Int) : fIdx G (.tup ds) (.int i) = L2.atI ds i := rfl
theorem fIdx_lst (G : Sto) (ds : List D) (i : Int) : fIdx G (.lst ds) (.int i) = L2.atI ds i := rfl
theorem fIdx_frz (G : Sto) (ds : List D) (i : Int) : fIdx G (.frz ds) (.int i) = L2.atI ds i := rfl
theorem atI_n {α : Type} {xs : List α} {j : Nat} {v : α} (h : xs[j]? = some v) : L2.atI xs (j : Int) = some v := L2.atI_nat h
theorem atI_nn {α : Type} {xs : List α} {i : Int} {v : α} (h0 : 0 ≤ i) (h : xs[i.toNat]? = some v) : L2.atI xs i = some v := by
  have := L2.atI_nat h
  rwa [Int.toNat_of_nonneg h0] at this
theorem atI0 {α : Type} (x : α) (xs : List α) : L2.atI (x :: xs) 0 = some x := atI_n (j := 0) rfl
theorem atI1 {α : Type} (x y : α) (xs : List α) : L2.atI (x :: y :: xs) 1 = some y := atI_n (j := 1) rfl
theorem atI2 {α : Type} (x y z : α) (xs : List α) : L2.atI (x :: y :: z :: xs) 2 = some z := atI_n (j := 2) rfl
theorem atI3 {α : Type} (x y z u : α) (xs : List α) : L2.atI (x :: y :: z :: u :: xs) 3 = some u := atI_n (j := 3) rfl
theorem fMul_ii {i j : Int} (h : mulOk i j = true) : fMul (.int i) (.int j) = some (.int (i * j)) := by simp [fMul, h]
theorem fAdd_ii (i j : Int) : fAdd (.int i) (.int j) = some (.int (i + j)) := rfl
theorem fSub_ii (i j : Int) : fSub (.int i) (.int j) = some (.int (i - j)) := rfl
theorem fDiv_ii {i j : Int} (h : divOk j = true) : fDiv (.int i) (.int j) = some (.int (i / j)) := by simp [fDiv, h]
theorem fMod_ii {i j : Int} (h : 0 < j) : fMod (.int i) (.int j) = some (.int (i % j)) := by simp [fMod, h]
theorem fLt_ii (i j : Int) : fLt (.int i) (.int j) = some (.bl (decide (i < j))) := rfl
theorem fLe_ii (i j : Int) : fLe (.int i) (.int j) = some (.bl (decide (i ≤ j))) := rfl
theorem fGt_ii (i j : Int) : fGt (.int i) (.int j) = some (.bl (decide (j < i))) := rfl
theorem fGe_ii (i j : Int) : fGe (.int i) (.int j) = some (.bl (decide (j ≤ i))) := rfl
theorem fEq_ii (i j : Int) : fEq (.int i) (.int j) = some (.bl (i == j)) := rfl
theorem fNe_ii (i j : Int) : fNe (.int i) (.int j) = some (.bl (!(i == j))) := rfl
theorem fNeg_i (i : Int) : fNeg (.int i) = some (.int (-i)) := rfl
theorem fin0 {d : D} {G : Sto} (h : belowD 0 d = true) : fin Sto.none d G = some (d, Sto.none) := by
  unfold fin
  show (if belowD 0 d && (G.cs.take 0).all (belowC 0) then some (d, (⟨0, G.cs.take 0⟩ : Sto)) else none) = _
  rw [h, List.take_zero]
  rfl
theorem fin00 {d : D} {G : Sto} (h : belowD 0 d = true) : fin { n0 := 0, cs := [] } d G = some (d, Sto.none) := fin0 h
theorem callP {f : Fn} {ms : M (List D)} {ρ : Evn} {G G1 : Sto} {ds : List D} {d : D} (h1 : ms ρ G = some (ds, G1)) (h2 : belowDs 0 ds = true) (h3 : f ds Sto.none = some (d, Sto.none)) (h4 : belowD 0 d = true) : mCallP f ms ρ G = some (d, G1) := by
  unfold mCallP
  rw [h1]
  simp [h2, h3, h4]
theorem mulOk_of {a b : Int} {m n : Nat} (ha : a.natAbs < 2 ^ m) (hb : b.natAbs < 2 ^ n) (h : m + n < 1000000) : mulOk a b = true := by
  have l : ∀ (x k : Nat), x < 2 ^ k → x.log2 ≤ k := fun x k hx => by
    by_cases h0 : x = 0
    · rw [h0]; exact Nat.zero_le _
    · exact Nat.le_of_lt ((Nat.log2_lt h0).mpr hx)
  have h1 := l _ _ ha
  have h2 := l _ _ hb
  unfold mulOk
  exact decide_eq_true (by omega)
theorem divOk_of {b : Int} {n : Nat} (h0 : 0 < b) (hb : b.natAbs < 2 ^ n) (h : n ≤ 9000) : divOk b = true := by
  unfold divOk
  rw [Bool.and_eq_true]
  refine ⟨decide_eq_true h0, decide_eq_true ?_⟩
  have : b.natAbs ≠ 0 := by omega
  exact Nat.lt_of_lt_of_le ((Nat.log2_lt this).mpr hb) h
theorem divOk_le {a b : Int} (h0 : 0 < a) (h : a ≤ b) (hb : divOk b = true) : divOk a = true := by
  unfold divOk at hb ⊢
  simp only [Bool.and_eq_true, decide_eq_true_eq] at hb ⊢
  refine ⟨h0, ?_⟩
  have h1 : b.natAbs ≠ 0 := by omega
  have h2 : a.natAbs ≠ 0 := by omega
  have h3 := (Nat.log2_lt h1).mp hb.2
  exact (Nat.log2_lt h2).mpr (Nat.lt_of_le_of_lt (by omega) h3)

/-! ### fractions -/
/-- a fraction as a pair -/
def q2 (q : Rat) : D := .tup [.int q.num, .int q.den]
theorem below_q2 (n : Nat) (q : Rat) : belowD n (q2 q) = true := rfl
theorem belowDs_q2 (n : Nat) : ∀ qs : List Rat, belowDs n (qs.map q2) = true
  | [] => rfl
  | q :: qs => by rw [List.map_cons]; unfold belowDs; rw [below_q2, belowDs_q2 n qs]; rfl
theorem belowDs_ints (n : Nat) : ∀ xs : List Int, belowDs n (xs.map D.int) = true
  | [] => rfl
  | x :: xs => by rw [List.map_cons]; unfold belowDs; rw [belowDs_ints n xs]; rfl
/-- sizes that all rules take -/
structure Sz (q : Rat) : Prop where
  n : q.num.natAbs < 2 ^ 2000
  d : q.den < 2 ^ 2000
/-- q is a whole number over L, at most B in size -/
def Bd (L B : Nat) (q : Rat) : Prop := ∃ a : Int, q * (L : Rat) = (a : Rat) ∧ a.natAbs ≤ B * L
theorem Bd.mk_eq {L B : Nat} {q : Rat} (hL : 0 < L) (h : Bd L B q) : ∃ a : Int, q = mkRat a L ∧ a.natAbs ≤ B * L := by
  obtain ⟨a, e, hb⟩ := h
  refine ⟨a, ?_, hb⟩
  rw [Rat.mkRat_eq_div, ← e, Rat.mul_div_cancel]
  intro z
  have : (L : Rat) = ((0 : Nat) : Rat) := by simpa using z
  have := Rat.natCast_inj.mp this
  omega
theorem Bd.sz {L B : Nat} {q : Rat} (hL : 0 < L) (h : Bd L B q) (h1 : L < 2 ^ 2000) (h2 : B * L < 2 ^ 2000) : Sz q := by
  obtain ⟨a, rfl, hb⟩ := h.mk_eq hL
  have hg : 0 < L.gcd a.natAbs := Nat.gcd_pos_of_pos_left _ hL
  refine ⟨?_, ?_⟩
  · rw [Rat.num_mkRat, if_neg (by omega)]
    have : (a / ((L.gcd a.natAbs : Nat) : Int)).natAbs ≤ a.natAbs := by
      rw [Int.natAbs_ediv_of_dvd]
      · exact Nat.div_le_self _ _
      · exact Int.ofNat_dvd_left.mpr (Nat.gcd_dvd_right _ _)
    omega
  · rw [Rat.den_mkRat, if_neg (by omega)]
    exact Nat.lt_of_le_of_lt (Nat.div_le_self _ _) h1
theorem Bd.add {L B C : Nat} {p q : Rat} (h : Bd L B p) (h' : Bd L C q) : Bd L (B + C) (p + q) := by
  obtain ⟨a, e, hb⟩ := h
  obtain ⟨c, e', hc⟩ := h'
  refine ⟨a + c, by rw [Rat.add_mul, e, e', Rat.intCast_add], ?_⟩
  rw [Nat.add_mul]
  have := Int.natAbs_add_le a c
  omega
theorem Bd.neg {L B : Nat} {p : Rat} (h : Bd L B p) : Bd L B (-p) := by
  obtain ⟨a, e, hb⟩ := h
  exact ⟨-a, by rw [Rat.neg_mul, e, Rat.intCast_neg], by omega⟩
theorem Bd.sub {L B C : Nat} {p q : Rat} (h : Bd L B p) (h' : Bd L C q) : Bd L (B + C) (p - q) := by
  rw [Rat.sub_eq_add_neg]; exact h.add h'.neg
theorem Bd.mul {L B M C : Nat} {p q : Rat} (h : Bd L B p) (h' : Bd M C q) : Bd (L * M) (B * C) (p * q) := by
  obtain ⟨a, e, hb⟩ := h
  obtain ⟨c, e', hc⟩ := h'
  refine ⟨a * c, by rw [Rat.intCast_mul, ← e, ← e', Rat.natCast_mul]; grind, ?_⟩
  rw [Int.natAbs_mul]
  have := Nat.mul_le_mul hb hc
  have e2 : B * C * (L * M) = B * L * (C * M) := by grind
  omega
theorem Bd.mono {L B M C : Nat} {p : Rat} (h : Bd L B p) (hd : L ∣ M) (hb : B ≤ C) : Bd M C p := by
  obtain ⟨a, e, hb'⟩ := h
  obtain ⟨k, rfl⟩ := hd
  refine ⟨a * k, by rw [Rat.natCast_mul, ← Rat.mul_assoc, e, Rat.intCast_mul]; rfl, ?_⟩
  rw [Int.natAbs_mul, Int.natAbs_natCast]
  have h1 := Nat.mul_le_mul_right k hb'
  have h2 := Nat.mul_le_mul_right (L * k) hb
  have e2 : B * (L * k) = B * L * k := by grind
  omega
theorem Bd.int {B : Nat} {n : Int} (h : n.natAbs ≤ B) : Bd 1 B (n : Rat) := ⟨n, by simp, by omega⟩
theorem Bd.inv {k : Nat} (h : 0 < k) : Bd k 1 ((1 : Rat) / (k : Rat)) := by
  refine ⟨1, ?_, by show 1 ≤ 1 * k; omega⟩
  rw [Rat.div_mul_cancel]
  · rfl
  · intro z
    have : (k : Rat) = ((0 : Nat) : Rat) := by simpa using z
    have := Rat.natCast_inj.mp this
    omega
theorem Sz.mul1 {p q : Rat} (hp : Sz p) (hq : Sz q) : mulOk p.num q.num = true := mulOk_of hp.n hq.n (by omega)
theorem Sz.mul2 {p q : Rat} (hp : Sz p) (hq : Sz q) : mulOk p.num q.den = true := mulOk_of hp.n (by rw [Int.natAbs_natCast]; exact hq.d) (by omega)
theorem Sz.mul3 {p q : Rat} (hp : Sz p) (hq : Sz q) : mulOk p.den q.den = true := mulOk_of (by rw [Int.natAbs_natCast]; exact hp.d) (by rw [Int.natAbs_natCast]; exact hq.d) (by omega)
theorem Sz.div {p q : Rat} (hp : Sz p) (hq : Sz q) : divOk ((p.den : Int) * (q.den : Int)) = true := by
  refine divOk_of (n := 4000) ?_ ?_ (by omega)
  · have h1 := p.den_pos
    have h2 := q.den_pos
    have : 0 < p.den * q.den := Nat.mul_pos h1 h2
    omega
  · rw [Int.natAbs_mul, Int.natAbs_natCast, Int.natAbs_natCast, show (4000 : Nat) = 2000 + 2000 from rfl, Nat.pow_add]
    exact Nat.mul_lt_mul'' hp.d hq.d
end Lf
namespace Lf
open PySem PySem.Spec PyProof.Rows L2
/-! ### loops -/
theorem forL_run {f : Tgt} {b : MS} : ∀ {items : List D} (P : Nat → Evn → Sto → Prop) {ρ : Evn} {G : Sto}, P 0 ρ G → (∀ (i : Nat) (d : D) ρ G, items[i]? = some d → P i ρ G → ∃ ρ1 ρ2 G2, f d ρ = some ρ1 ∧ b ρ1 G = some (.nx, ρ2, G2) ∧ P (i + 1) ρ2 G2) →
    ∃ ρ' G', forL f b items ρ G = some (.nx, ρ', G') ∧ P items.length ρ' G'
  | [], P, ρ, G, h0, _ => ⟨ρ, G, rfl, h0⟩
  | d :: ds, P, ρ, G, h0, hs => by
    obtain ⟨ρ1, ρ2, G2, e1, e2, p⟩ := hs 0 d ρ G rfl h0
    obtain ⟨ρ', G', e3, p3⟩ := forL_run (items := ds) (fun i => P (i + 1)) p fun i x ρ G hx hp => hs (i + 1) x ρ G (by simpa using hx) hp
    refine ⟨ρ', G', ?_, p3⟩
    show (f d ρ).bind _ = _
    rw [e1, Option.bind_some, e2, Option.bind_some]
    exact e3
/-- a loop that may leave -/
theorem forL_runR {f : Tgt} {b : MS} : ∀ {items : List D} (P : Nat → Evn → Sto → Prop) {ρ : Evn} {G : Sto} {R : Out → Evn → Sto → Prop}, P 0 ρ G → (∀ (i : Nat) (d : D) ρ G, items[i]? = some d → P i ρ G → ∃ ρ1 o ρ2 G2, f d ρ = some ρ1 ∧ b ρ1 G = some (o, ρ2, G2) ∧ ((o = .nx ∧ P (i + 1) ρ2 G2) ∨ (∃ r, o = .rt r ∧ R (.rt r) ρ2 G2))) →
    (∀ ρ G, P items.length ρ G → R .nx ρ G) → ∃ o ρ' G', forL f b items ρ G = some (o, ρ', G') ∧ R o ρ' G'
  | [], P, ρ, G, R, h0, _, hd => ⟨.nx, ρ, G, rfl, hd ρ G h0⟩
  | d :: ds, P, ρ, G, R, h0, hs, hd => by
    obtain ⟨ρ1, o, ρ2, G2, e1, e2, p⟩ := hs 0 d ρ G rfl h0
    rcases p with ⟨rfl, p⟩ | ⟨r, rfl, p⟩
    · obtain ⟨o, ρ', G', e3, p3⟩ := forL_runR (items := ds) (R := R) (fun i => P (i + 1)) p (fun i x ρ G hx hp => hs (i + 1) x ρ G (by simpa using hx) hp) (fun ρ G hp => hd ρ G (by simpa using hp))
      refine ⟨o, ρ', G', ?_, p3⟩
      show (f d ρ).bind _ = _
      rw [e1, Option.bind_some, e2, Option.bind_some]
      exact e3
    · refine ⟨.rt r, ρ2, G2, ?_, p⟩
      show (f d ρ).bind _ = _
      rw [e1, Option.bind_some, e2, Option.bind_some]
theorem while_run {c : M Bool} {b : MS} (P : Nat → Evn → Sto → Prop) {R : Evn → Sto → Prop}
    (hs : ∀ k ρ G, P k ρ G → (∃ G1, c ρ G = some (false, G1) ∧ R ρ G1) ∨ (∃ G1 k' ρ2 G2, c ρ G = some (true, G1) ∧ b ρ G1 = some (.nx, ρ2, G2) ∧ k' < k ∧ P k' ρ2 G2)) : ∀ k n ρ G, k < n → P k ρ G → ∃ ρ' G', whileN c b n ρ G = some (.nx, ρ', G') ∧ R ρ' G' := by
  intro k
  induction k using Nat.strongRecOn with
  | _ k ih =>
    intro n ρ G hn hP
    cases n with
    | zero => omega
    | succ n =>
      rcases hs k ρ G hP with ⟨G1, e1, r⟩ | ⟨G1, k', ρ2, G2, e1, e2, hk, p⟩
      · refine ⟨ρ, G1, ?_, r⟩
        show (c ρ G).bind _ = _
        rw [e1]; rfl
      · obtain ⟨ρ', G', e3, r⟩ := ih k' hk n ρ2 G2 (by omega) p
        refine ⟨ρ', G', ?_, r⟩
        show (c ρ G).bind _ = _
        rw [e1, Option.bind_some]
        show (b ρ G1).bind _ = _
        rw [e2]
        exact e3
theorem lcL_run {f : Tgt} {c : M Bool} {e : M D} {ρ : Evn} {G : Sto} : ∀ {items outs : List D}, items.length = outs.length → (∀ (i : Nat) (d o : D), items[i]? = some d → outs[i]? = some o → ∃ ρ1, f d ρ = some ρ1 ∧ c ρ1 G = some (true, G) ∧ e ρ1 G = some (o, G)) → lcL f c e ρ items G = some (outs, G)
  | [], [], _, _ => rfl
  | [], _ :: _, h, _ => by cases h
  | _ :: _, [], h, _ => by cases h
  | d :: ds, o :: os, h, hs => by
    obtain ⟨ρ1, e1, e2, e3⟩ := hs 0 d o rfl rfl
    have e4 := lcL_run (f := f) (c := c) (e := e) (ρ := ρ) (G := G) (items := ds) (outs := os) (by simpa using h) fun i x y hx hy => hs (i + 1) x y (by simpa using hx) (by simpa using hy)
    show (f d ρ).bind _ = _
    rw [e1, Option.bind_some, e2, Option.bind_some]
    show (e ρ1 G).bind _ = _
    rw [e3, Option.bind_some, e4]
    rfl
theorem mLc_run {it : M (List D)} {f : Tgt} {c : M Bool} {e : M D} {vs : List Nat} {ρ : Evn} {G G1 : Sto} {items outs : List D} (h1 : it ρ G = some (items, G1)) (h2 : lcL f c e (wipeD ρ vs) items G1 = some (outs, G1)) (h3 : outs.length ≤ 16777216) : mLc it f c e vs ρ G = some (.lst outs, G1) := by
  have h4 : szOk outs.length = true := decide_eq_true h3
  simp [mLc, mLcR, h1, h2, h4]
/-- over range(n) -/
theorem mLc_range {it : M (List D)} {i : Nat} {e : M D} {vs : List Nat} {ρ : Evn} {G G1 : Sto} {n : Nat} {lo : Int} {outs : List D} (h1 : it ρ G = some (rangeD lo n, G1)) (hl : outs.length = n) (h : ∀ k o, k < n → outs[k]? = some o → e ((wipeD ρ vs).set i (some (.int (lo + (k : Nat))))) G1 = some (o, G1)) (h3 : n ≤ 16777216) : mLc it (gtName i) mYes e vs ρ G = some (.lst outs, G1) := by
  refine mLc_run h1 (lcL_run (by rw [rangeD_length, hl]) fun k d o hd ho => ?_) (by omega)
  have hk : k < n := by
    have := (List.getElem?_eq_some_iff.mp hd).1
    rwa [rangeD_length] at this
  rw [rangeD_get hk] at hd
  cases hd
  exact ⟨_, rfl, rfl, h k o hk ho⟩
theorem rgOk_of {i : Int} (h : -1000000 ≤ i ∧ i ≤ 1000000) : rgOk i = true := by
  have e : (2 : Int) ^ 62 = 4611686018427387904 := by decide
  unfold rgOk
  rw [e, Bool.and_eq_true]
  exact ⟨decide_eq_true (by omega), decide_eq_true (by omega)⟩
theorem range1_run {ms : M (List D)} {ρ : Evn} {G G1 : Sto} {n : Nat} (h : ms ρ G = some ([.int (n : Int)], G1)) (hn : n ≤ 1000000) : mRange1 ms ρ G = some (rangeD 0 n, G1) := by
  have h2 : rgOk (n : Int) = true := rgOk_of (by omega)
  unfold mRange1
  rw [h, Option.bind_some]
  show (if rgOk (n : Int) = true then _ else _) = _
  rw [if_pos h2]
  rfl
theorem range2_run {ms : M (List D)} {ρ : Evn} {G G1 : Sto} {a b : Int} (h : ms ρ G = some ([.int a, .int b], G1)) (ha : -1000000 ≤ a ∧ a ≤ 1000000) (hb : -1000000 ≤ b ∧ b ≤ 1000000) : mRange2 ms ρ G = some (rangeD a (b - a).toNat, G1) := by
  have h2 : rgOk a = true := rgOk_of ha
  have h3 : rgOk b = true := rgOk_of hb
  unfold mRange2
  rw [h, Option.bind_some]
  show (if (rgOk a && rgOk b) = true then _ else _) = _
  rw [if_pos (by rw [h2, h3]; rfl)]
/-- a call of a def that is run on the empty store -/
theorem run_body {N np : Nat} {b : MS} {ds : List D} {d : D} {ρ' : Evn} {G' : Sto} (hl : ds.length = np) (h : b (ds.map some ++ List.replicate (N - np) none) Sto.none = some (.rt d, ρ', G')) (hb : belowD 0 d = true) : runF N np b ds Sto.none = some (d, Sto.none) := by
  unfold runF runBody
  rw [if_pos hl]
  show (b _ Sto.none).bind _ = _
  rw [h]
  exact fin0 hb
theorem seq_run {a b : MS} {ρ ρ1 : Evn} {G G1 : Sto} {r : Option (Out × Evn × Sto)} (h1 : a ρ G = some (.nx, ρ1, G1)) (h2 : b ρ1 G1 = r) : mSeq a b ρ G = r := by
  unfold mSeq
  rw [h1]
  exact h2
theorem seq_rt {a b : MS} {ρ ρ1 : Evn} {G G1 : Sto} {d : D} (h1 : a ρ G = some (.rt d, ρ1, G1)) : mSeq a b ρ G = some (.rt d, ρ1, G1) := by
  unfold mSeq
  rw [h1]
  rfl
theorem asg_run {i : Nat} {a : M D} {ρ : Evn} {G G1 : Sto} {d : D} (h : a ρ G = some (d, G1)) : mAsg i a ρ G = some (.nx, ρ.set i (some d), G1) := by
  unfold mAsg
  rw [h]
  rfl
theorem ret_run {a : M D} {ρ : Evn} {G G1 : Sto} {d : D} (h : a ρ G = some (d, G1)) : mRet a ρ G = some (.rt d, ρ, G1) := by
  unfold mRet
  rw [h]
  rfl
theorem for_run {it : M (List D)} {f : Tgt} {b : MS} {ρ : Evn} {G G1 : Sto} {items : List D} {r : Option (Out × Evn × Sto)} (h1 : it ρ G = some (items, G1)) (h2 : forL f b items ρ G1 = r) : mFor it f b ρ G = r := by
  unfold mFor
  rw [h1]
  exact h2
theorem Sz.neg {q : Rat} (h : Sz q) : Sz (-q) := ⟨by rw [Rat.neg_num, Int.natAbs_neg]; exact h.n, h.d⟩
theorem bLen_of {G : Sto} {d : D} {ds : List D} (h : seqOf G d = some ds) : bLen G [d] = some (.int (ds.length : Nat)) := by
  cases d with
  | tup es => exact congrArg (Option.map fun ds : List D => D.int (ds.length : Nat)) h
  | lst es => exact congrArg (Option.map fun ds : List D => D.int (ds.length : Nat)) h
  | frz es => exact congrArg (Option.map fun ds : List D => D.int (ds.length : Nat)) h
  | loc l => exact congrArg (Option.map fun ds : List D => D.int (ds.length : Nat)) h
  | _ => cases h
theorem map_at {α : Type} {f : α → D} {xs : List α} {k : Nat} {x : α} (h : xs[k]? = some x) : L2.atI (xs.map f) (k : Int) = some (f x) := atI_n (by rw [List.getElem?_map, h]; rfl)
theorem seqOf_at {G : Sto} {l : Nat} {ds : List D} (h : G.cs[l]? = some (.lst ds)) : seqOf G (.loc l) = some ds := by
  show (match G.cs[l]? with | some (.lst ds) => some ds | _ => none) = _
  rw [h]
theorem cellL_at {G : Sto} {l : Nat} {ds : List D} (h : G.cs[l]? = some (.lst ds)) : cellL G (.loc l) = some (l, ds) := by
  show (match G.cs[l]? with | some (.lst ds) => some (l, ds) | _ => none) = _
  rw [h]
/-! ### the rules, one by one -/
section
variable {ρ : Evn} {G G1 G2 : Sto}
theorem ifS_true {c : M Bool} {a b : MS} {r : Option (Out × Evn × Sto)} (h : c ρ G = some (true, G1)) (h2 : a ρ G1 = r) : mIfS c a b ρ G = r := by
  unfold mIfS; rw [h]; exact h2
theorem ifS_false {c : M Bool} {a b : MS} {r : Option (Out × Evn × Sto)} (h : c ρ G = some (false, G1)) (h2 : b ρ G1 = r) : mIfS c a b ρ G = r := by
  unfold mIfS; rw [h]; exact h2
theorem bool_run {a : M D} {b : Bool} (h : a ρ G = some (.bl b, G1)) : mBool a ρ G = some (b, G1) := by
  unfold mBool; rw [h]; rfl
theorem bin_run {f : D → D → Option D} {a b : M D} {x y z : D} (h1 : a ρ G = some (x, G1)) (h2 : b ρ G1 = some (y, G2)) (h3 : f x y = some z) : mBin f a b ρ G = some (z, G2) := by
  unfold mBin; rw [h1]; show ((b ρ G1).bind _) = _; rw [h2]; show ((f x y).bind _) = _; rw [h3]; rfl
theorem un_run {f : D → Option D} {a : M D} {x z : D} (h1 : a ρ G = some (x, G1)) (h3 : f x = some z) : mUn f a ρ G = some (z, G1) := by
  unfold mUn; rw [h1]; show ((f x).bind _) = _; rw [h3]; rfl
theorem cb_run {f : Sto → List D → Option D} {ms : M (List D)} {ds : List D} {z : D} (h1 : ms ρ G = some (ds, G1)) (h2 : f G1 ds = some z) : mCB f ms ρ G = some (z, G1) := by
  unfold mCB; rw [h1]; show ((f G1 ds).bind _) = _; rw [h2]; rfl
theorem cons_run {a : M D} {r : M (List D)} {x : D} {xs : List D} (h1 : a ρ G = some (x, G1)) (h2 : r ρ G1 = some (xs, G2)) : mCons a r ρ G = some (x :: xs, G2) := by
  unfold mCons; rw [h1]; show ((r ρ G1).bind _) = _; rw [h2]; rfl
theorem one_run {a : M D} {x : D} (h1 : a ρ G = some (x, G1)) : mCons a mNil ρ G = some ([x], G1) := cons_run h1 rfl
theorem two_run {a b : M D} {x y : D} (h1 : a ρ G = some (x, G1)) (h2 : b ρ G1 = some (y, G2)) : mCons a (mCons b mNil) ρ G = some ([x, y], G2) := cons_run h1 (one_run h2)
theorem idx_run {a b : M D} {x y z : D} (h1 : a ρ G = some (x, G1)) (h2 : b ρ G1 = some (y, G2)) (h3 : fIdx G2 x y = some z) : mIdx a b ρ G = some (z, G2) := by
  unfold mIdx; rw [h1]; show ((b ρ G1).bind _) = _; rw [h2]; show ((fIdx G2 x y).bind _) = _; rw [h3]; rfl
theorem tup_run {ms : M (List D)} {ds : List D} (h : ms ρ G = some (ds, G1)) (hl : ds.length ≤ 16777216) : mTup ms ρ G = some (.tup ds, G1) := by
  unfold mTup; rw [h]; show (if szOk ds.length = true then _ else _) = _; rw [if_pos (show szOk ds.length = true from decide_eq_true hl)]
theorem lst_run {ms : M (List D)} {ds : List D} (h : ms ρ G = some (ds, G1)) (hl : ds.length ≤ 16777216) : mLst ms ρ G = some (.lst ds, G1) := by
  unfold mLst; rw [h]; show (if szOk ds.length = true then _ else _) = _; rw [if_pos (show szOk ds.length = true from decide_eq_true hl)]
theorem new_run {ms : M (List D)} {ds : List D} (h : ms ρ G = some (ds, G1)) (hl : ds.length ≤ 16777216) : mNew ms ρ G = some (.loc G1.cs.length, G1.push (.lst ds)) := by
  unfold mNew; rw [h]; show (if szOk ds.length = true then _ else _) = _; rw [if_pos (show szOk ds.length = true from decide_eq_true hl)]
theorem and_true {a b : M Bool} {r : Option (Bool × Sto)} (h : a ρ G = some (true, G1)) (h2 : b ρ G1 = r) : mAnd a b ρ G = r := by
  unfold mAnd; rw [h]; exact h2
theorem and_false {a b : M Bool} (h : a ρ G = some (false, G1)) : mAnd a b ρ G = some (false, G1) := by
  unfold mAnd; rw [h]; rfl
theorem or_true {a b : M Bool} (h : a ρ G = some (true, G1)) : mOr a b ρ G = some (true, G1) := by
  unfold mOr; rw [h]; rfl
theorem or_false {a b : M Bool} {r : Option (Bool × Sto)} (h : a ρ G = some (false, G1)) (h2 : b ρ G1 = r) : mOr a b ρ G = r := by
  unfold mOr; rw [h]; exact h2
theorem not_run {a : M Bool} {b : Bool} (h : a ρ G = some (b, G1)) : mNot a ρ G = some (!b, G1) := by
  unfold mNot; rw [h]; rfl
theorem tru_run {a : M D} {x : D} {b : Bool} (h : a ρ G = some (x, G1)) (h2 : truD G1 x = some b) : mTru a ρ G = some (b, G1) := by
  unfold mTru; rw [h]; show ((truD G1 x).bind _) = _; rw [h2]; rfl
theorem if_true_run {c : M Bool} {a b : M D} {r : Option (D × Sto)} (h : c ρ G = some (true, G1)) (h2 : a ρ G1 = r) : mIf c a b ρ G = r := by
  unfold mIf; rw [h]; exact h2
theorem if_false_run {c : M Bool} {a b : M D} {r : Option (D × Sto)} (h : c ρ G = some (false, G1)) (h2 : b ρ G1 = r) : mIf c a b ρ G = r := by
  unfold mIf; rw [h]; exact h2
theorem drop_run {a : M D} {d : D} (h : a ρ G = some (d, G1)) : mDrop a ρ G = some (.nx, ρ, G1) := by
  unfold mDrop; rw [h]; rfl
theorem asgG_run {f : Tgt} {a : M D} {d : D} {ρ' : Evn} (h : a ρ G = some (d, G1)) (h2 : f d ρ = some ρ') : mAsgG f a ρ G = some (.nx, ρ', G1) := by
  unfold mAsgG; rw [h]; show ((f d ρ).bind _) = _; rw [h2]; rfl
theorem par2_run {i j : Nat} {ms : M (List D)} {x y : D} (h : ms ρ G = some ([x, y], G1)) : mPar2 i j ms ρ G = some (.nx, (ρ.set i (some x)).set j (some y), G1) := by
  unfold mPar2; rw [h]; rfl
theorem call_run {f : Fn} {ms : M (List D)} {ds : List D} {d : D} {k : Nat} {cs : List Cell} (h1 : ms ρ G = some (ds, G1)) (h2 : f ds ⟨G1.cs.length, G1.cs⟩ = some (d, ⟨k, cs⟩)) : mCall f ms ρ G = some (d, ⟨G1.n0, cs⟩) := by
  unfold mCall; rw [h1]; show ((f ds _).bind _) = _; rw [h2]; rfl
theorem app_run {o e : M D} {l : Nat} {ds ds' : List D} {y : D} (h1 : o ρ G = some (.loc l, G1)) (h2 : G1.cs[l]? = some (.lst ds)) (h3 : e ρ G1 = some (y, G2)) (h4 : G2.cs[l]? = some (.lst ds')) (h5 : ds'.length + 1 ≤ 16777216) : mApp o e ρ G = some (.non, G2.set l (.lst (ds' ++ [y]))) := by
  unfold mApp
  rw [h1]
  show ((cellL G1 (.loc l)).bind _) = _
  rw [cellL_at h2]
  show ((e ρ G1).bind _) = _
  rw [h3]
  show ((cellL G2 (.loc l)).bind _) = _
  rw [cellL_at h4]
  show (if szOk (ds'.length + 1) = true then _ else _) = _
  rw [if_pos (show szOk (ds'.length + 1) = true from decide_eq_true h5)]
theorem frz_run {i : Nat} {b : MS} {l : Nat} {ds : List D} {r : Option (Out × Evn × Sto)} (h1 : ρ[i]? = some (some (.loc l))) (h2 : G.n0 ≤ l) (h3 : G.cs[l]? = some (.lst ds)) (h4 : b (ρ.set i (some (.lst ds))) (G.set l .dead) = r) : mFrz i b ρ G = r := by
  unfold mFrz
  rw [h1]
  show (if G.n0 ≤ l then _ else _) = _
  rw [if_pos h2, h3]
  exact h4
end
mutual
theorem belowD_mono {n m : Nat} (h : n ≤ m) : ∀ {d : D}, belowD n d = true → belowD m d = true
  | .tup ds, e => by unfold belowD at e ⊢; exact belowDs_mono h e
  | .lst ds, e => by unfold belowD at e ⊢; exact belowDs_mono h e
  | .frz ds, e => by unfold belowD at e ⊢; exact belowDs_mono h e
  | .loc l, e => by
    have e : decide (l < n) = true := e
    have e := of_decide_eq_true e
    show decide (l < m) = true
    exact decide_eq_true (by omega)
  | .non, _ => rfl
  | .bl _, _ => rfl
  | .int _, _ => rfl
  | .str _, _ => rfl
theorem belowDs_mono {n m : Nat} (h : n ≤ m) : ∀ {ds : List D}, belowDs n ds = true → belowDs m ds = true
  | [], _ => rfl
  | d :: ds, e => by
    unfold belowDs at e ⊢
    rw [Bool.and_eq_true] at e ⊢
    exact ⟨belowD_mono h e.1, belowDs_mono h e.2⟩
end
theorem belowC_mono {n m : Nat} (h : n ≤ m) : ∀ {c : Cell}, belowC n c = true → belowC m c = true
  | .lst ds, e => belowDs_mono h e
  | .ins _ fs, e => belowDs_mono h e
  | .dead, _ => rfl
/-- a def that is run on cells, and makes none -/
theorem runF_run {N np k : Nat} {b : MS} {ds : List D} {d : D} {ρ' : Evn} {cs cs' : List Cell} (hl : ds.length = np) (h : b (ds.map some ++ List.replicate (N - np) none) ⟨cs.length, cs⟩ = some (.rt d, ρ', ⟨cs.length, cs'⟩)) (hc : cs'.length = cs.length) (hw : ∀ c ∈ cs', belowC cs'.length c = true) (hd : belowD cs.length d = true) : runF N np b ds ⟨k, cs⟩ = some (d, ⟨k, cs'⟩) := by
  unfold runF runBody
  rw [if_pos hl]
  show (b _ ⟨cs.length, cs⟩).bind _ = _
  rw [h]
  show fin ⟨k, cs⟩ d ⟨cs.length, cs'⟩ = _
  unfold fin
  have e : cs'.take cs.length = cs' := by rw [← hc]; exact List.take_length
  have ha : cs'.all (belowC cs.length) = true := List.all_eq_true.mpr fun c h => by rw [← hc]; exact hw c h
  show (if belowD cs.length d && (cs'.take cs.length).all (belowC cs.length) then some (d, (⟨k, cs'.take cs.length⟩ : Sto)) else none) = _
  rw [e, ha, hd]
  rfl
/-- a comprehension whose parts change the cells -/
theorem lcL_eff {f : Tgt} {c : M Bool} {e : M D} {ρ : Evn} : ∀ {items : List D} (P : Nat → Sto → Prop) (Q : D → Prop) {G : Sto}, P 0 G → (∀ (i : Nat) (d : D) G, items[i]? = some d → P i G → ∃ ρ1 o G', f d ρ = some ρ1 ∧ c ρ1 G = some (true, G) ∧ e ρ1 G = some (o, G') ∧ Q o ∧ P (i + 1) G') →
    ∃ outs G', lcL f c e ρ items G = some (outs, G') ∧ outs.length = items.length ∧ (∀ o ∈ outs, Q o) ∧ P items.length G'
  | [], P, Q, G, h0, _ => ⟨[], G, rfl, rfl, fun _ h => by simp at h, h0⟩
  | d :: ds, P, Q, G, h0, hs => by
    obtain ⟨ρ1, o, G1, e1, e2, e3, q, p⟩ := hs 0 d G rfl h0
    obtain ⟨outs, G', e4, hl, hq, p'⟩ := lcL_eff (items := ds) (fun i => P (i + 1)) Q p fun i x G hx hp => hs (i + 1) x G (by simpa using hx) hp
    refine ⟨o :: outs, G', ?_, by rw [List.length_cons, List.length_cons, hl], fun x hx => ?_, p'⟩
    · show (f d ρ).bind _ = _
      rw [e1, Option.bind_some, e2, Option.bind_some]
      show (e ρ1 G).bind _ = _
      rw [e3, Option.bind_some, e4]
      rfl
    · rcases List.mem_cons.mp hx with hx | hx
      · rw [hx]; exact q
      · exact hq x hx
theorem mLc_runS {it : M (List D)} {f : Tgt} {c : M Bool} {e : M D} {vs : List Nat} {ρ : Evn} {G G1 G2 : Sto} {items outs : List D} (h1 : it ρ G = some (items, G1)) (h2 : lcL f c e (wipeD ρ vs) items G1 = some (outs, G2)) (h3 : outs.length ≤ 16777216) : mLc it f c e vs ρ G = some (.lst outs, G2) := by
  have h4 : szOk outs.length = true := decide_eq_true h3
  simp [mLc, mLcR, h1, h2, h4]
end Lf

/-! Nw: forward differences and Newton's form, over the fractions. -/
namespace Lf
/-- the difference -/
def dl (g : Int → Rat) : Int → Rat := fun i => g (i + 1) - g i
def dls : Nat → (Int → Rat) → Int → Rat
  | 0, g => g
  | n + 1, g => dls n (dl g)
theorem dls_succ (n : Nat) (g : Int → Rat) : dls (n + 1) g = dl (dls n g) := by
  induction n generalizing g with
  | zero => rfl
  | succ n ih => show dls (n + 1) (dl g) = _; rw [ih]; rfl
/-- the share of a step: x over j -/
def bin (x : Rat) : Nat → Rat
  | 0 => 1
  | j + 1 => bin x j * (x - (j : Nat)) * (1 / ((j + 1 : Nat) : Rat))
def nw (g : Int → Rat) (x : Rat) : Nat → Rat
  | 0 => 0
  | j + 1 => nw g x j + dls j g 0 * bin x j
theorem cast_ne (j : Nat) : ((j + 1 : Nat) : Rat) ≠ 0 := by
  intro z
  have : ((j + 1 : Nat) : Rat) = ((0 : Nat) : Rat) := by simpa using z
  have := Rat.natCast_inj.mp this
  omega
theorem inv_mul (j : Nat) : (1 / ((j + 1 : Nat) : Rat)) * ((j + 1 : Nat) : Rat) = 1 := Rat.div_mul_cancel (cast_ne j)
theorem bin_mul (x : Rat) (j : Nat) : bin x (j + 1) * ((j + 1 : Nat) : Rat) = bin x j * (x - (j : Nat)) := by
  show bin x j * (x - (j : Nat)) * (1 / ((j + 1 : Nat) : Rat)) * _ = _
  rw [Rat.mul_assoc, inv_mul, Rat.mul_one]
theorem mul_cancel {a b : Rat} (j : Nat) (h : a * ((j + 1 : Nat) : Rat) = b * ((j + 1 : Nat) : Rat)) : a = b := by
  have h2 := congrArg (· * ((j + 1 : Nat) : Rat)⁻¹) h
  simp only [Rat.mul_assoc, Rat.mul_inv_cancel _ (cast_ne j), Rat.mul_one] at h2
  exact h2
theorem cast_succ (j : Nat) : ((j + 1 : Nat) : Rat) = (j : Rat) + 1 := by rw [Rat.natCast_add]; rfl
theorem bin_up (x : Rat) : ∀ j : Nat, bin (x + 1) (j + 1) * ((j + 1 : Nat) : Rat) = bin x j * (x + 1)
  | 0 => by
    rw [bin_mul]
    show 1 * (x + 1 - ((0 : Nat) : Rat)) = 1 * (x + 1)
    have : ((0 : Nat) : Rat) = 0 := rfl
    rw [this]
    grind
  | j + 1 => by
    rw [bin_mul]
    have h1 := bin_up x j
    have h2 := bin_mul x j
    refine mul_cancel j ?_
    have e := cast_succ j
    grind
theorem pascal (x : Rat) (j : Nat) : bin (x + 1) (j + 1) = bin x (j + 1) + bin x j := by
  refine mul_cancel j ?_
  have h1 := bin_up x j
  have h2 := bin_mul x j
  have e := cast_succ j
  grind
theorem nw_up (g : Int → Rat) (x : Rat) : ∀ n : Nat, nw g (x + 1) (n + 1) = nw g x (n + 1) + nw (dl g) x n
  | 0 => by
    show (0 : Rat) + dls 0 g 0 * 1 = 0 + dls 0 g 0 * 1 + 0
    grind
  | n + 1 => by
    have h := nw_up g x n
    show nw g (x + 1) (n + 1) + dls (n + 1) g 0 * bin (x + 1) (n + 1) = nw g x (n + 1) + dls (n + 1) g 0 * bin x (n + 1) + (nw (dl g) x n + dls n (dl g) 0 * bin x n)
    rw [h, pascal]
    show _ + dls n (dl g) 0 * _ = _ + dls n (dl g) 0 * _ + _
    grind
theorem bin_zero : ∀ j : Nat, bin 0 (j + 1) = 0
  | 0 => by
    show (1 : Rat) * (0 - ((0 : Nat) : Rat)) * _ = 0
    have : ((0 : Nat) : Rat) = 0 := rfl
    rw [this]
    grind
  | j + 1 => by
    show bin 0 (j + 1) * _ * _ = 0
    rw [bin_zero j]
    grind
theorem nw_zero (g : Int → Rat) : ∀ n : Nat, nw g 0 (n + 1) = g 0
  | 0 => by
    show (0 : Rat) + g 0 * 1 = g 0
    grind
  | n + 1 => by
    show nw g 0 (n + 1) + _ * bin 0 (n + 1) = _
    rw [nw_zero g n, bin_zero]
    grind
/-- Newton's form meets the values it is made of -/
theorem nw_at : ∀ (i : Nat) (g : Int → Rat) (n : Nat), i < n → nw g (i : Rat) n = g i
  | _, _, 0, h => by omega
  | 0, g, n + 1, _ => nw_zero g n
  | i + 1, g, n + 1, h => by
    rw [cast_succ, nw_up, nw_at i g (n + 1) (by omega), nw_at i (dl g) n (by omega)]
    show g i + (g (i + 1) - g i) = g ((i + 1 : Nat) : Int)
    rw [show ((i + 1 : Nat) : Int) = (i : Int) + 1 from rfl]
    grind
/-- no more than n steps -/
def Pn : Nat → (Int → Rat) → Prop
  | 0, g => ∀ i, g i = 0
  | n + 1, g => Pn n (dl g)
theorem Pn.congr {n : Nat} {g h : Int → Rat} (e : ∀ i, g i = h i) (p : Pn n g) : Pn n h := by
  have : g = h := funext e
  rwa [← this]
theorem Pn.zero (n : Nat) : Pn n (fun _ => 0) := by
  induction n with
  | zero => exact fun _ => rfl
  | succ n ih => exact Pn.congr (n := n) (g := fun _ => 0) (h := dl fun _ => 0) (fun i => by show (0 : Rat) = 0 - 0; grind) ih
theorem Pn.add : ∀ {n : Nat} {g h : Int → Rat}, Pn n g → Pn n h → Pn n (fun i => g i + h i)
  | 0, g, h, p, q => fun i => by show g i + h i = 0; rw [p i, q i]; grind
  | n + 1, g, h, p, q => by
    refine Pn.congr (n := n) (fun i => ?_) (Pn.add (n := n) p q)
    show (g (i + 1) - g i) + (h (i + 1) - h i) = (g (i + 1) + h (i + 1)) - (g i + h i)
    grind
theorem Pn.smul (c : Rat) : ∀ {n : Nat} {g : Int → Rat}, Pn n g → Pn n (fun i => c * g i)
  | 0, g, p => fun i => by show c * g i = 0; rw [p i]; grind
  | n + 1, g, p => by
    refine Pn.congr (n := n) (fun i => ?_) (Pn.smul c (n := n) p)
    show c * (g (i + 1) - g i) = c * g (i + 1) - c * g i
    grind
theorem Pn.up : ∀ {n : Nat} {g : Int → Rat}, Pn n g → Pn (n + 1) g
  | 0, g, p => fun i => by show g (i + 1) - g i = 0; rw [p, p]; grind
  | n + 1, g, p => Pn.up (n := n) (g := dl g) p
theorem Pn.mono {n m : Nat} {g : Int → Rat} (h : n ≤ m) (p : Pn n g) : Pn m g := by
  induction m with
  | zero => have : n = 0 := by omega
            subst this; exact p
  | succ m ih =>
    by_cases e : n = m + 1
    · subst e; exact p
    · exact (ih (by omega)).up
theorem cast_up (i : Int) : ((i + 1 : Int) : Rat) = (i : Rat) + 1 := by rw [Rat.intCast_add]; rfl
theorem Pn.lin (a b : Rat) : ∀ {n : Nat} {g : Int → Rat} (b : Rat), Pn n g → Pn (n + 1) (fun i => g i * (a * (i : Rat) + b))
  | 0, g, b, p => fun i => by show g (i + 1) * _ - g i * _ = 0; rw [p, p]; grind
  | n + 1, g, b, p => by
    have h1 := Pn.lin a b (n := n) (a + b) (show Pn n (dl g) from p)
    have h2 := Pn.smul a p
    refine Pn.congr (n := n + 1) (fun i => ?_) (h1.add h2)
    show (g (i + 1) - g i) * (a * (i : Rat) + (a + b)) + a * g i = g (i + 1) * (a * ((i + 1 : Int) : Rat) + b) - g i * (a * (i : Rat) + b)
    rw [cast_up]
    grind
theorem bin_Pn (c : Rat) : ∀ j : Nat, Pn (j + 1) (fun i : Int => bin ((i : Rat) * c) j)
  | 0 => fun i => by show (1 : Rat) - 1 = 0; grind
  | j + 1 => by
    refine Pn.congr (fun i => ?_) (Pn.lin (c * (1 / ((j + 1 : Nat) : Rat))) 0 (-((j : Rat) * (1 / ((j + 1 : Nat) : Rat)))) (bin_Pn c j))
    show bin ((i : Rat) * c) j * (c * (1 / ((j + 1 : Nat) : Rat)) * (i : Rat) + -((j : Rat) * (1 / ((j + 1 : Nat) : Rat)))) = bin ((i : Rat) * c) j * ((i : Rat) * c - (j : Nat)) * (1 / ((j + 1 : Nat) : Rat))
    generalize (1 / ((j + 1 : Nat) : Rat)) = v
    grind
theorem nw_Pn (g : Int → Rat) (c : Rat) : ∀ n : Nat, Pn n (fun i : Int => nw g ((i : Rat) * c) n)
  | 0 => fun _ => rfl
  | n + 1 => (nw_Pn g c n).up.add ((bin_Pn c n).smul (dls n g 0))
/-- what has no more than n steps is met everywhere -/
theorem nw_all : ∀ {n : Nat} {g : Int → Rat}, Pn n g → ∀ i : Int, nw g (i : Rat) n = g i
  | 0, g, p, i => (p i).symm
  | n + 1, g, p, i => by
    have ih := nw_all (n := n) (g := dl g) p
    have step : ∀ i : Int, nw g ((i + 1 : Int) : Rat) (n + 1) - g (i + 1) = nw g (i : Rat) (n + 1) - g i := fun i => by
      rw [cast_up, nw_up, ih]
      show _ + (g (i + 1) - g i) - _ = _
      grind
    have h0 : nw g ((0 : Int) : Rat) (n + 1) - g 0 = 0 := by
      have : ((0 : Int) : Rat) = 0 := rfl
      rw [this, nw_zero]
      grind
    have all : ∀ i : Int, nw g (i : Rat) (n + 1) - g i = 0 := fun i => by
      obtain ⟨k, rfl | rfl⟩ := Int.eq_nat_or_neg i
      · induction k with
        | zero => exact h0
        | succ k h => rw [show ((k + 1 : Nat) : Int) = (k : Int) + 1 from rfl, step]; exact h
      · induction k with
        | zero => exact h0
        | succ k h =>
          have := step (-((k + 1 : Nat) : Int))
          rw [show -((k + 1 : Nat) : Int) + 1 = -(k : Int) from by omega] at this
          rw [← this]; exact h
    have := all i
    grind
/-! ### sizes -/
theorem dls_int {B : Nat} : ∀ (j : Nat) (g : Int → Rat) (n : Nat) (B : Nat) (L : Nat), (∀ i : Nat, i < n → Bd L B (g i)) → ∀ i : Nat, i + j < n → Bd L (2 ^ j * B) (dls j g i)
  | 0, g, n, B, L, h, i, hi => (h i hi).mono (Nat.dvd_refl _) (by omega)
  | j + 1, g, n, B, L, h, i, hi => by
    have := dls_int (B := B) j (dl g) (n - 1) (B + B) L (fun i hi => by
      have h1 := h (i + 1) (by omega)
      have h2 := h i (by omega)
      exact h1.sub h2) i (by omega)
    refine this.mono (Nat.dvd_refl _) ?_
    rw [Nat.pow_succ, ← Nat.two_mul, Nat.mul_assoc]
    exact Nat.le_refl _
/-- the floor of a share of j steps of width 1/m -/
def flr (m : Nat) : Nat → Nat
  | 0 => 1
  | j + 1 => flr m j * m * (j + 1)
theorem flr_pos {m : Nat} (h : 0 < m) : ∀ j, 0 < flr m j
  | 0 => Nat.one_pos
  | j + 1 => Nat.mul_pos (Nat.mul_pos (flr_pos h j) h) (Nat.succ_pos j)
theorem flr_dvd (m : Nat) {i j : Nat} (h : i ≤ j) : flr m i ∣ flr m j := by
  induction j with
  | zero => have : i = 0 := by omega
            subst this; exact Nat.dvd_refl _
  | succ j ih =>
    by_cases e : i = j + 1
    · subst e; exact Nat.dvd_refl _
    · exact Nat.dvd_trans (ih (by omega)) (by show _ ∣ flr m j * m * (j + 1); rw [Nat.mul_assoc]; exact Nat.dvd_mul_right _ _)
theorem bin_bd {m C : Nat} {x : Rat} (hx : Bd m C x) : ∀ j, Bd (flr m j) ((C + j) ^ j) (bin x j)
  | 0 => ⟨1, Rat.one_mul _, by show 1 ≤ 1 * 1; omega⟩
  | j + 1 => by
    have h1 := bin_bd hx j
    have h2 : Bd m (C + j) (x - (j : Nat)) := hx.sub ((Bd.int (B := j) (n := (j : Int)) (by omega)).mono (Nat.one_dvd _) (Nat.le_refl _))
    have h3 := (h1.mul h2).mul (Bd.inv (k := j + 1) (by omega))
    refine h3.mono (Nat.dvd_refl _) ?_
    rw [Nat.mul_one, ← Nat.pow_succ]
    exact Nat.pow_le_pow_left (by omega) _
end Lf

/-! K89M: the mirror of the text. -/
namespace K89
open PySem PySem.Spec PyProof.Rows L2 Lf
def M_frac : MS :=
  (mSeq (mAsg 2 (mCB bGcd (mCons (mVar 0) (mCons (mVar 1) mNil))))
  (mSeq (mIfS (mBool (mBin fLt (mVar 1) (mC (.int 0))))
  (mAsg 2 (mUn fNeg (mVar 2)))
  mSkip)
  (mRet (mTup (mCons (mBin fDiv (mVar 0) (mVar 2)) (mCons (mBin fDiv (mVar 1) (mVar 2)) mNil))))))
def F_frac : Fn := runF 3 2 M_frac
def M_whole : MS :=
  (mRet (mTup (mCons (mVar 0) (mCons (mC (.int 1)) mNil))))
def F_whole : Fn := runF 1 1 M_whole
def M_plus : MS :=
  (mRet (mCallP F_frac (mCons (mBin fAdd (mBin fMul (mIdx (mVar 0) (mC (.int 0))) (mIdx (mVar 1) (mC (.int 1)))) (mBin fMul (mIdx (mVar 1) (mC (.int 0))) (mIdx (mVar 0) (mC (.int 1))))) (mCons (mBin fMul (mIdx (mVar 0) (mC (.int 1))) (mIdx (mVar 1) (mC (.int 1)))) mNil))))
def F_plus : Fn := runF 2 2 M_plus
def M_times : MS :=
  (mRet (mCallP F_frac (mCons (mBin fMul (mIdx (mVar 0) (mC (.int 0))) (mIdx (mVar 1) (mC (.int 0)))) (mCons (mBin fMul (mIdx (mVar 0) (mC (.int 1))) (mIdx (mVar 1) (mC (.int 1)))) mNil))))
def F_times : Fn := runF 2 2 M_times
def M_turned : MS :=
  (mRet (mTup (mCons (mUn fNeg (mIdx (mVar 0) (mC (.int 0)))) (mCons (mIdx (mVar 0) (mC (.int 1))) mNil))))
def F_turned : Fn := runF 1 1 M_turned
def M_total_of : MS :=
  (mSeq (mAsgG (gtTup 2 (gtCons (gtName 1) (gtCons (gtName 2) gtNil))) (mTup (mCons (mC (.int 0)) (mCons (mC (.int 1)) mNil))))
  (mSeq (mFor (mRow (mVar 0)) (gtName 3)
  (mSeq (mPar2 1 2 (mCons (mBin fAdd (mBin fMul (mVar 1) (mIdx (mVar 3) (mC (.int 1)))) (mBin fMul (mIdx (mVar 3) (mC (.int 0))) (mVar 2))) (mCons (mBin fMul (mVar 2) (mIdx (mVar 3) (mC (.int 1)))) mNil)))
  (mIfS (mBool (mBin fGt (mVar 2) (mBin fShl (mC (.int 1)) (mC (.int 400)))))
  (mAsgG (gtTup 2 (gtCons (gtName 1) (gtCons (gtName 2) gtNil))) (mCallP F_frac (mCons (mVar 1) (mCons (mVar 2) mNil))))
  mSkip)))
  (mRet (mCallP F_frac (mCons (mVar 1) (mCons (mVar 2) mNil))))))
def F_total_of : Fn := runF 4 1 M_total_of
def M_product_sum : MS :=
  (mRet (mCallP F_total_of (mCons (mLc (mRange1 (mCons (mCB bLen (mCons (mVar 0) mNil)) mNil)) (gtName 2) mYes (mCallP F_times (mCons (mIdx (mVar 0) (mVar 2)) (mCons (mIdx (mVar 1) (mVar 2)) mNil))) [2]) mNil)))
def F_product_sum : Fn := runF 3 2 M_product_sum
def M_choose : MS :=
  (mSeq (mAsg 2 (mC (.int 1)))
  (mSeq (mFor (mRange1 (mCons (mVar 1) mNil)) (gtName 3)
  (mAsg 2 (mBin fDiv (mBin fMul (mVar 2) (mBin fSub (mVar 0) (mVar 3))) (mBin fAdd (mVar 3) (mC (.int 1))))))
  (mRet (mVar 2))))
def F_choose : Fn := runF 4 2 M_choose
def M_choices_at : MS :=
  (mRet (mLc (mRange1 (mCons (mCB bLen (mCons (mIdx (mVar 0) (mC (.int 0))) mNil)) mNil)) (gtName 2) mYes (mCallP F_choose (mCons (mVar 1) (mCons (mVar 2) mNil))) [2]))
def F_choices_at : Fn := runF 3 2 M_choices_at
def M_slips_summed : MS :=
  (mRet (mCallP F_product_sum (mCons (mVar 0) (mCons (mLc (mRow (mVar 1)) (gtName 2) mYes (mCallP F_whole (mCons (mVar 2) mNil)) [2]) mNil))))
def F_slips_summed : Fn := runF 3 2 M_slips_summed
def M_line : MS :=
  (mSeq (mAsg 3 (mCallP F_choices_at (mCons (mVar 0) (mCons (mVar 2) mNil))))
  (mRet (mCallP F_plus (mCons (mCallP F_slips_summed (mCons (mIdx (mVar 0) (mC (.int 0))) (mCons (mVar 3) mNil))) (mCons (mCallP F_slips_summed (mCons (mVar 1) (mCons (mVar 3) mNil))) mNil)))))
def F_line : Fn := runF 4 3 M_line
def M_newton_at : MS :=
  (mSeq (mAsgG (gtTup 3 (gtCons (gtName 2) (gtCons (gtName 3) (gtCons (gtName 4) gtNil)))) (mTup (mCons (mCB bList (mCons (mVar 0) mNil)) (mCons (mNew mNil) (mCons (mTup (mCons (mC (.int 1)) (mCons (mC (.int 1)) mNil))) mNil)))))
  (mSeq (mFor (mRange1 (mCons (mCB bLen (mCons (mVar 0) mNil)) mNil)) (gtName 5)
  (mSeq (mDrop (mApp (mVar 3) (mCallP F_times (mCons (mVar 4) (mCons (mCallP F_whole (mCons (mIdx (mVar 2) (mC (.int 0))) mNil)) mNil)))))
  (mSeq (mAsg 2 (mLc (mRange1 (mCons (mBin fSub (mCB bLen (mCons (mVar 2) mNil)) (mC (.int 1))) mNil)) (gtName 6) mYes (mBin fSub (mIdx (mVar 2) (mBin fAdd (mVar 6) (mC (.int 1)))) (mIdx (mVar 2) (mVar 6))) [6]))
  (mAsg 4 (mCallP F_times (mCons (mVar 4) (mCons (mCallP F_times (mCons (mCallP F_plus (mCons (mVar 1) (mCons (mCallP F_whole (mCons (mUn fNeg (mVar 5)) mNil)) mNil))) (mCons (mCallP F_frac (mCons (mC (.int 1)) (mCons (mBin fAdd (mVar 5) (mC (.int 1))) mNil))) mNil))) mNil)))))))
  (mFrz 3 (mRet (mCallP F_total_of (mCons (mVar 3) mNil))))))
def F_newton_at : Fn := runF 7 2 M_newton_at
def M_fine_start : MS :=
  (mSeq (mAsg 2 (mLc (mRange1 (mCons (mCB bLen (mCons (mVar 0) mNil)) mNil)) (gtName 3) mYes (mCallP F_newton_at (mCons (mVar 0) (mCons (mCallP F_frac (mCons (mVar 3) (mCons (mVar 1) mNil))) mNil))) [3]))
  (mSeq (mAsg 4 (mNew mNil))
  (mSeq (mWhile (mTru (mVar 2))
  (mSeq (mDrop (mApp (mVar 4) (mIdx (mVar 2) (mC (.int 0)))))
  (mAsg 2 (mLc (mRange1 (mCons (mBin fSub (mCB bLen (mCons (mVar 2) mNil)) (mC (.int 1))) mNil)) (gtName 3) mYes (mCallP F_plus (mCons (mIdx (mVar 2) (mBin fAdd (mVar 3) (mC (.int 1)))) (mCons (mCallP F_turned (mCons (mIdx (mVar 2) (mVar 3)) mNil)) mNil))) [3]))))
  (mRet (mCB bTuple (mCons (mVar 4) mNil))))))
def F_fine_start : Fn := runF 5 2 M_fine_start
def M__law_bag : MS :=
  (mSeq (mAsg 1 (mBin fAdd (mLc (mRow (mVar 0)) (gtName 2) mYes (mCB bAbs (mCons (mCB bInt (mCons (mVar 2) mNil)) mNil)) [2]) (mLst (mCons (mC (.int 7)) mNil))))
  (mSeq (mAsg 3 (mNew mNil))
  (mSeq (mIfS (mBool (mBin fEq (mBin fMod (mCB bInt (mCons (mIdx (mVar 1) (mC (.int 0))) mNil)) (mC (.int 2))) (mC (.int 0))))
  (mSeq (mAsg 3 (mLcN (mRow (mVar 1)) (gtName 2) (mBool (mBin fGe (mVar 2) (mBin fPow (mC (.int 10)) (mC (.int 18))))) (mBin fDiv (mVar 2) (mC (.int 2))) [2]))
  (mDrop (mRev (mVar 3))))
  mSkip)
  (mRet (mNew (mCons (mC (.int 0)) (mCons (mC (.int 0)) (mCons (mVar 3) (mCons (mLc (mRow (mVar 1)) (gtName 2) mYes (mBin fMod (mCB bInt (mCons (mVar 2) mNil)) (mC (.int 2147483647))) [2]) mNil)))))))))
def F__law_bag : Fn := runK 4 1 M__law_bag
def M__law_draw : MS :=
  (mSeq (mSetI (mVar 0) (mC (.int 1)) (mBin fAdd (mIdx (mVar 0) (mC (.int 1))) (mC (.int 1))))
  (mSeq (mIfS (mAnd (mBool (mBin fEq (mIdx (mVar 0) (mC (.int 0))) (mC (.int 0)))) (mBool (mBin fGt (mCB bLen (mCons (mIdx (mVar 0) (mC (.int 2))) mNil)) (mC (.int 0)))))
  (mSetI (mVar 0) (mC (.int 0)) (mPop (mIdx (mVar 0) (mC (.int 2)))))
  mSkip)
  (mSeq (mIfS (mBool (mBin fGt (mIdx (mVar 0) (mC (.int 0))) (mC (.int 0))))
  (mSeq (mAsg 2 (mBin fMod (mCB bInt (mCons (mIdx (mVar 0) (mC (.int 0))) mNil)) (mVar 1)))
  (mSeq (mSetI (mVar 0) (mC (.int 0)) (mBin fDiv (mIdx (mVar 0) (mC (.int 0))) (mVar 1)))
  (mRet (mVar 2))))
  mSkip)
  (mSeq (mAsg 3 (mIdx (mIdx (mVar 0) (mC (.int 3))) (mBin fMod (mCB bInt (mCons (mIdx (mVar 0) (mC (.int 1))) mNil)) (mCB bLen (mCons (mIdx (mVar 0) (mC (.int 3))) mNil)))))
  (mSeq (mAsg 4 (mBin fMod (mCB bInt (mCons (mBin fAdd (mBin fAdd (mBin fMul (mVar 3) (mC (.int 48271))) (mBin fMul (mIdx (mVar 0) (mC (.int 1))) (mC (.int 69621)))) (mC (.int 1))) mNil)) (mC (.int 2147483647))))
  (mRet (mBin fMod (mBin fDiv (mBin fMod (mCB bInt (mCons (mBin fAdd (mBin fAdd (mBin fMul (mVar 4) (mVar 4)) (mBin fMul (mVar 4) (mC (.int 16807)))) (mBin fMul (mIdx (mVar 0) (mC (.int 1))) (mC (.int 40014)))) mNil)) (mC (.int 2147483629))) (mC (.int 32))) (mVar 1))))))))
def F__law_draw : Fn := runF 5 2 M__law_draw
def M__law_pick : MS :=
  (mRet (mIdx (mVar 1) (mCall F__law_draw (mCons (mVar 0) (mCons (mCB bLen (mCons (mVar 1) mNil)) mNil)))))
def F__law_pick : Fn := runF 2 2 M__law_pick
def M__law_same (rec : Fn) : MS :=
  (mSeq (mIfS (mBool (mBin fIsN (mVar 1) (mC .non)))
  (mRet (mBin fIsN (mVar 0) (mC .non)))
  mSkip)
  (mSeq (mIfS (mOr (mTru (mIsi isBoolD (mVar 1))) (mTru (mIsi isBoolD (mVar 0))))
  (mRet (mAndV (mIsi isBoolD (mVar 1)) (mAndV (mIsi isBoolD (mVar 0)) (mBin fEq (mVar 0) (mVar 1)))))
  mSkip)
  (mSeq (mIfS (mTru (mIsi isIntD (mVar 1)))
  (mRet (mAndV (mIsi isIntD (mVar 0)) (mBin fEq (mVar 0) (mVar 1))))
  mSkip)
  (mSeq (mIfS (mTru (mIsi isStrD (mVar 1)))
  (mRet (mAndV (mIsi isStrD (mVar 0)) (mBin fEq (mVar 0) (mVar 1))))
  mSkip)
  (mSeq (mIfS (mOr (mNot (mTru (mIsi isTupD (mVar 1)))) (mOr (mNot (mTru (mIsi isTupD (mVar 0)))) (mBool (mBin fNe (mCB bLen (mCons (mVar 0) mNil)) (mCB bLen (mCons (mVar 1) mNil))))))
  (mRet (mC (.bl false)))
  mSkip)
  (mSeq (mFor (mRange1 (mCons (mCB bLen (mCons (mVar 1) mNil)) mNil)) (gtName 2)
  (mIfS (mNot (mTru (mCallP rec (mCons (mIdx (mVar 0) (mVar 2)) (mCons (mIdx (mVar 1) (mVar 2)) mNil)))))
  (mRet (mC (.bl false)))
  mSkip))
  (mRet (mC (.bl true)))))))))
def F__law_same : Nat → Fn
  | 0 => fun _ _ => none
  | n + 1 => runF 3 2 (M__law_same (F__law_same n))
def M__law_gcd : MS :=
  (mSeq (mPar2 0 1 (mCons (mCB bAbs (mCons (mVar 0) mNil)) (mCons (mCB bAbs (mCons (mVar 1) mNil)) mNil)))
  (mSeq (mWhile (mBool (mBin fNe (mVar 1) (mC (.int 0))))
  (mPar2 0 1 (mCons (mVar 1) (mCons (mBin fMod (mCB bInt (mCons (mVar 0) mNil)) (mVar 1)) mNil))))
  (mRet (mVar 0))))
def F__law_gcd : Fn := runF 2 2 M__law_gcd
def M__law_fr : MS :=
  (mSeq (mAsg 2 (mCallP F__law_gcd (mCons (mVar 0) (mCons (mVar 1) mNil))))
  (mRet (mTup (mCons (mBin fDiv (mVar 0) (mVar 2)) (mCons (mBin fDiv (mVar 1) (mVar 2)) mNil)))))
def F__law_fr : Fn := runF 3 2 M__law_fr
def M__law_plus : MS :=
  (mRet (mCallP F__law_fr (mCons (mBin fAdd (mBin fMul (mIdx (mVar 0) (mC (.int 0))) (mIdx (mVar 1) (mC (.int 1)))) (mBin fMul (mIdx (mVar 1) (mC (.int 0))) (mIdx (mVar 0) (mC (.int 1))))) (mCons (mBin fMul (mIdx (mVar 0) (mC (.int 1))) (mIdx (mVar 1) (mC (.int 1)))) mNil))))
def F__law_plus : Fn := runF 2 2 M__law_plus
def M__law_times : MS :=
  (mRet (mCallP F__law_fr (mCons (mBin fMul (mIdx (mVar 0) (mC (.int 0))) (mIdx (mVar 1) (mC (.int 0)))) (mCons (mBin fMul (mIdx (mVar 0) (mC (.int 1))) (mIdx (mVar 1) (mC (.int 1)))) mNil))))
def F__law_times : Fn := runF 2 2 M__law_times
def M__law_minus : MS :=
  (mRet (mCallP F__law_plus (mCons (mVar 0) (mCons (mTup (mCons (mUn fNeg (mIdx (mVar 1) (mC (.int 0)))) (mCons (mIdx (mVar 1) (mC (.int 1))) mNil))) mNil))))
def F__law_minus : Fn := runF 2 2 M__law_minus
def M__law_ten : MS :=
  (mSeq (mAsg 1 (mC (.int 1)))
  (mSeq (mFor (mRange1 (mCons (mVar 0) mNil)) (gtName 2)
  (mAsg 1 (mBin fMul (mVar 1) (mC (.int 10)))))
  (mRet (mVar 1))))
def F__law_ten : Fn := runF 3 1 M__law_ten
def M__law_choose (rec : Fn) : MS :=
  (mSeq (mIfS (mBool (mBin fLt (mVar 0) (mC (.int 0))))
  (mRet (mBin fMul (mCallP rec (mCons (mBin fSub (mBin fSub (mVar 1) (mVar 0)) (mC (.int 1))) (mCons (mVar 1) mNil))) (mIf (mBool (mBin fEq (mBin fMod (mCB bInt (mCons (mVar 1) mNil)) (mC (.int 2))) (mC (.int 1)))) (mUn fNeg (mC (.int 1))) (mC (.int 1)))))
  mSkip)
  (mSeq (mAsg 2 (mC (.int 1)))
  (mSeq (mFor (mRange1 (mCons (mVar 1) mNil)) (gtName 3)
  (mAsg 2 (mBin fDiv (mBin fMul (mVar 2) (mBin fSub (mVar 0) (mVar 3))) (mBin fAdd (mVar 3) (mC (.int 1))))))
  (mRet (mVar 2)))))
def F__law_choose : Nat → Fn
  | 0 => fun _ _ => none
  | n + 1 => runF 4 2 (M__law_choose (F__law_choose n))
def M__law_line : MS :=
  (mSeq (mAsg 3 (mTup (mCons (mC (.int 0)) (mCons (mC (.int 1)) mNil))))
  (mSeq (mFor (mRange1 (mCons (mCB bLen (mCons (mIdx (mVar 0) (mC (.int 0))) mNil)) mNil)) (gtName 4)
  (mAsg 3 (mCallP F__law_plus (mCons (mVar 3) (mCons (mCallP F__law_times (mCons (mTup (mCons (mCallP (F__law_choose 2) (mCons (mVar 2) (mCons (mVar 4) mNil))) (mCons (mC (.int 1)) mNil))) (mCons (mCallP F__law_plus (mCons (mIdx (mIdx (mVar 0) (mC (.int 0))) (mVar 4)) (mCons (mIdx (mVar 1) (mVar 4)) mNil))) mNil))) mNil)))))
  (mRet (mVar 3))))
def F__law_line : Fn := runF 5 3 M__law_line
def M__law_differences : MS :=
  (mSeq (mAsgG (gtTup 2 (gtCons (gtName 1) (gtCons (gtName 2) gtNil))) (mTup (mCons (mNew mNil) (mCons (mCB bList (mCons (mVar 0) mNil)) mNil))))
  (mSeq (mWhile (mBool (mBin fNe (mVar 2) (mLst mNil)))
  (mSeq (mDrop (mApp (mVar 1) (mIdx (mVar 2) (mC (.int 0)))))
  (mAsg 2 (mLc (mRange1 (mCons (mBin fSub (mCB bLen (mCons (mVar 2) mNil)) (mC (.int 1))) mNil)) (gtName 3) mYes (mCallP F__law_minus (mCons (mIdx (mVar 2) (mBin fAdd (mVar 3) (mC (.int 1)))) (mCons (mIdx (mVar 2) (mVar 3)) mNil))) [3]))))
  (mRet (mCB bTuple (mCons (mVar 1) mNil)))))
def F__law_differences : Fn := runF 4 1 M__law_differences
def M__law_at : MS :=
  (mSeq (mAsgG (gtTup 2 (gtCons (gtName 2) (gtCons (gtName 3) gtNil))) (mTup (mCons (mTup (mCons (mC (.int 0)) (mCons (mC (.int 1)) mNil))) (mCons (mTup (mCons (mC (.int 1)) (mCons (mC (.int 1)) mNil))) mNil))))
  (mSeq (mAsg 4 (mCallP F__law_differences (mCons (mLc (mRow (mVar 0)) (gtName 5) mYes (mTup (mCons (mVar 5) (mCons (mC (.int 1)) mNil))) [5]) mNil)))
  (mSeq (mFor (mRange1 (mCons (mCB bLen (mCons (mVar 4) mNil)) mNil)) (gtName 6)
  (mSeq (mAsg 2 (mCallP F__law_plus (mCons (mVar 2) (mCons (mCallP F__law_times (mCons (mIdx (mVar 4) (mVar 6)) (mCons (mVar 3) mNil))) mNil))))
  (mAsg 3 (mCallP F__law_times (mCons (mCallP F__law_times (mCons (mVar 3) (mCons (mCallP F__law_minus (mCons (mVar 1) (mCons (mTup (mCons (mVar 6) (mCons (mC (.int 1)) mNil))) mNil))) mNil))) (mCons (mTup (mCons (mC (.int 1)) (mCons (mBin fAdd (mVar 6) (mC (.int 1))) mNil))) mNil))))))
  (mRet (mVar 2)))))
def F__law_at : Fn := runF 7 2 M__law_at
def M__law_fine : MS :=
  (mRet (mCallP F__law_differences (mCons (mLc (mRange1 (mCons (mCB bLen (mCons (mVar 0) mNil)) mNil)) (gtName 2) mYes (mCallP F__law_at (mCons (mVar 0) (mCons (mCallP F__law_fr (mCons (mVar 2) (mCons (mVar 1) mNil))) mNil))) [2]) mNil)))
def F__law_fine : Fn := runF 3 2 M__law_fine
def M_law : MS :=
  (mSeq (mAsg 1 (mCall F__law_bag (mCons (mVar 0) mNil)))
  (mSeq (mFor (mRange1 (mCons (mC (.int 3)) mNil)) (gtName 2)
  (mSeq (mAsg 3 (mCall F__law_pick (mCons (mVar 1) (mCons (mLst (mCons (mC (.int 3)) (mCons (mC (.int 3)) (mCons (mC (.int 10)) (mCons (mC (.int 1000)) (mCons (mC (.int 1)) (mCons (mC (.int 7)) (mCons (mC (.int 50)) (mCons (mCallP F__law_ten (mCons (mC (.int 30)) mNil)) mNil))))))))) mNil))))
  (mSeq (mAsg 4 (mCB bTuple (mCons (mLc (mRange1 (mCons (mBin fAdd (mC (.int 1)) (mCall F__law_draw (mCons (mVar 1) (mCons (mC (.int 7)) mNil)))) mNil)) (gtName 11) mYes (mBin fSub (mCall F__law_draw (mCons (mVar 1) (mCons (mBin fAdd (mBin fMul (mC (.int 2)) (mVar 3)) (mC (.int 1))) mNil))) (mVar 3)) [11]) mNil)))
  (mSeq (mAsg 5 (mBin fAdd (mC (.int 2)) (mCall F__law_draw (mCons (mVar 1) (mCons (mC (.int 9)) mNil)))))
  (mSeq (mAsg 6 (mCallP F__law_fine (mCons (mVar 4) (mCons (mVar 5) mNil))))
  (mSeq (mAsg 7 (mCallP F_fine_start (mCons (mVar 4) (mCons (mVar 5) mNil))))
  (mSeq (mIfS (mNot (mTru (mCallP (F__law_same 5) (mCons (mTup (mCons (mVar 7) (mCons (mCallP F_fine_start (mPick [1, 0] 2 (mCons (mVar 5) (mCons (mVar 4) mNil)))) mNil))) (mCons (mTup (mCons (mVar 6) (mCons (mVar 6) mNil))) mNil)))))
  (mRet (mC (.bl false)))
  mSkip)
  (mSeq (mPar2 9 10 (mCons (mTup (mCons (mVar 7) (mCons (mBin fMul (mTup (mCons (mTup (mCons (mC (.int 0)) (mCons (mC (.int 1)) mNil))) mNil)) (mCB bLen (mCons (mVar 7) mNil))) mNil))) (mCons (mBin fMul (mTup (mCons (mTup (mCons (mC (.int 0)) (mCons (mC (.int 1)) mNil))) mNil)) (mCB bLen (mCons (mVar 7) mNil))) mNil)))
  (mSeq (mFor (mRange1 (mCons (mCB bLen (mCons (mVar 4) mNil)) mNil)) (gtName 8)
  (mIfS (mBool (mBin fNe (mCallP F__law_line (mCons (mVar 9) (mCons (mVar 10) (mCons (mBin fMul (mVar 8) (mVar 5)) mNil)))) (mTup (mCons (mIdx (mVar 4) (mVar 8)) (mCons (mC (.int 1)) mNil)))))
  (mRet (mC (.bl false)))
  mSkip))
  (mSeq (mAsg 8 (mBin fSub (mCall F__law_draw (mCons (mVar 1) (mCons (mC (.int 90)) mNil))) (mC (.int 30))))
  (mIfS (mNot (mTru (mCallP (F__law_same 5) (mCons (mCallP F_line (mCons (mVar 9) (mCons (mVar 10) (mCons (mVar 8) mNil)))) (mCons (mCallP F__law_at (mCons (mVar 4) (mCons (mCallP F__law_fr (mCons (mVar 8) (mCons (mVar 5) mNil))) mNil))) mNil)))))
  (mRet (mC (.bl false)))
  mSkip)))))))))))
  (mRet (mC (.bl true)))))
def F_law : Fn := runF 12 1 M_law
end K89

/-! K89W: the walk. -/
namespace K89
open PySem PySem.Spec PyProof.Rows L2 Lf
def topS (i : Nat) : Stmt := PySem.Challenge.pw_lastfigure_k89_fine_starts.main.body.getD i (.Pass ⟨0, 0, 0, 0⟩)
abbrev s_frac : Stmt := topS 2
abbrev s_whole : Stmt := topS 3
abbrev s_plus : Stmt := topS 4
abbrev s_times : Stmt := topS 5
abbrev s_turned : Stmt := topS 6
abbrev s_total_of : Stmt := topS 7
abbrev s_product_sum : Stmt := topS 8
abbrev s_choose : Stmt := topS 9
abbrev s_choices_at : Stmt := topS 11
abbrev s_slips_summed : Stmt := topS 12
abbrev s_line : Stmt := topS 13
abbrev s_newton_at : Stmt := topS 15
abbrev s_fine_start : Stmt := topS 16
abbrev s__law_bag : Stmt := topS 18
abbrev s__law_draw : Stmt := topS 19
abbrev s__law_pick : Stmt := topS 20
abbrev s__law_same : Stmt := topS 21
abbrev s__law_gcd : Stmt := topS 22
abbrev s__law_fr : Stmt := topS 23
abbrev s__law_plus : Stmt := topS 24
abbrev s__law_times : Stmt := topS 25
abbrev s__law_minus : Stmt := topS 26
abbrev s__law_ten : Stmt := topS 27
abbrev s__law_choose : Stmt := topS 28
abbrev s__law_line : Stmt := topS 29
abbrev s__law_differences : Stmt := topS 30
abbrev s__law_at : Stmt := topS 31
abbrev s__law_fine : Stmt := topS 32
abbrev s_law : Stmt := topS 33
structure Txt (P : Program) (w : World) (K : PySem.W.Frag) (mg : Str → Option Value) (base : Heap) : Prop where
  d_frac : FunAt K mg "frac" s_frac
  d_whole : FunAt K mg "whole" s_whole
  d_plus : FunAt K mg "plus" s_plus
  d_times : FunAt K mg "times" s_times
  d_turned : FunAt K mg "turned" s_turned
  d_total_of : FunAt K mg "total_of" s_total_of
  d_product_sum : FunAt K mg "product_sum" s_product_sum
  d_choose : FunAt K mg "choose" s_choose
  d_choices_at : FunAt K mg "choices_at" s_choices_at
  d_slips_summed : FunAt K mg "slips_summed" s_slips_summed
  d_line : FunAt K mg "line" s_line
  d_newton_at : FunAt K mg "newton_at" s_newton_at
  d_fine_start : FunAt K mg "fine_start" s_fine_start
  d__law_bag : FunAt K mg "_law_bag" s__law_bag
  d__law_draw : FunAt K mg "_law_draw" s__law_draw
  d__law_pick : FunAt K mg "_law_pick" s__law_pick
  d__law_same : FunAt K mg "_law_same" s__law_same
  d__law_gcd : FunAt K mg "_law_gcd" s__law_gcd
  d__law_fr : FunAt K mg "_law_fr" s__law_fr
  d__law_plus : FunAt K mg "_law_plus" s__law_plus
  d__law_times : FunAt K mg "_law_times" s__law_times
  d__law_minus : FunAt K mg "_law_minus" s__law_minus
  d__law_ten : FunAt K mg "_law_ten" s__law_ten
  d__law_choose : FunAt K mg "_law_choose" s__law_choose
  d__law_line : FunAt K mg "_law_line" s__law_line
  d__law_differences : FunAt K mg "_law_differences" s__law_differences
  d__law_at : FunAt K mg "_law_at" s__law_at
  d__law_fine : FunAt K mg "_law_fine" s__law_fine
  d_law : FunAt K mg "law" s_law
  b_abs : mg "abs" = none
  b_bool : mg "bool" = none
  b_int : mg "int" = none
  b_isinstance : mg "isinstance" = none
  b_len : mg "len" = none
  b_list : mg "list" = none
  b_range : mg "range" = none
  b_str : mg "str" = none
  b_tuple : mg "tuple" = none
  i_gcd : mg "gcd" = some (.builtin "math.gcd")
section
variable {P : Program} {w : World} {K : PySem.W.Frag} {mg : Str → Option Value} {base : Heap}
abbrev N_frac : List Str := ["above", "below", "by"]
theorem sc_frac : FnScope N_frac ["above", "below"] (defScope s_frac) := ⟨rfl, rfl, rfl, by decide +kernel, rfl, by decide +kernel, by decide +kernel⟩
theorem ok_frac (T : Txt P w K mg base) : Has P w K mg base "frac" s_frac 1 ["above", "below"] F_frac := by
  exact has_of (N := N_frac) (b := M_frac) fin_ok T.d_frac sc_frac rfl rfl (fun _ _ _ _ _ _ us hl => match us, hl with | [_, _], _ => rfl) fun f cdv A outer s H E hr =>
  (qs_cons (q_set (i := 2) (pm_gcd (fun _ => rfl) T.i_gcd (pl_cons (pm_var 0) (pl_cons (pm_var 1) pl_nil))))
  (qs_cons (q_if (pb_cp cr_lt (pm_var 1) pm_int)
  (qs_one (q_set (i := 2) (pm_neg (pm_var 2))))
  qs_nil)
  (qs_one (q_ret (pm_tup (pl_cons (pm_div (pm_var 0) (pm_var 2)) (pl_cons (pm_div (pm_var 1) (pm_var 2)) pl_nil)))))))
abbrev N_whole : List Str := ["number"]
theorem sc_whole : FnScope N_whole ["number"] (defScope s_whole) := ⟨rfl, rfl, rfl, by decide +kernel, rfl, by decide +kernel, by decide +kernel⟩
theorem ok_whole (T : Txt P w K mg base) : Has P w K mg base "whole" s_whole 1 ["number"] F_whole := by
  exact has_of (N := N_whole) (b := M_whole) fin_ok T.d_whole sc_whole rfl rfl (fun _ _ _ _ _ _ us hl => match us, hl with | [_], _ => rfl) fun f cdv A outer s H E hr =>
  (qs_one (q_ret (pm_tup (pl_cons (pm_var 0) (pl_cons pm_int pl_nil)))))
abbrev N_plus : List Str := ["one", "other"]
theorem sc_plus : FnScope N_plus ["one", "other"] (defScope s_plus) := ⟨rfl, rfl, rfl, by decide +kernel, rfl, by decide +kernel, by decide +kernel⟩
theorem ok_plus (T : Txt P w K mg base) : Has P w K mg base "plus" s_plus 2 ["one", "other"] F_plus := by
  have H_frac := ok_frac T
  exact has_of (N := N_plus) (b := M_plus) fin_ok T.d_plus sc_plus rfl rfl (fun _ _ _ _ _ _ us hl => match us, hl with | [_, _], _ => rfl) fun f cdv A outer s H E hr =>
  (qs_one (q_ret (pm_callP H_frac (Nat.le_of_ble_eq_true rfl) (fun _ => rfl) (pl_cons (pm_add (pm_mul (pm_ix (pm_var 0) pm_int) (pm_ix (pm_var 1) pm_int)) (pm_mul (pm_ix (pm_var 1) pm_int) (pm_ix (pm_var 0) pm_int))) (pl_cons (pm_mul (pm_ix (pm_var 0) pm_int) (pm_ix (pm_var 1) pm_int)) pl_nil)))))
abbrev N_times : List Str := ["one", "other"]
theorem sc_times : FnScope N_times ["one", "other"] (defScope s_times) := ⟨rfl, rfl, rfl, by decide +kernel, rfl, by decide +kernel, by decide +kernel⟩
theorem ok_times (T : Txt P w K mg base) : Has P w K mg base "times" s_times 2 ["one", "other"] F_times := by
  have H_frac := ok_frac T
  exact has_of (N := N_times) (b := M_times) fin_ok T.d_times sc_times rfl rfl (fun _ _ _ _ _ _ us hl => match us, hl with | [_, _], _ => rfl) fun f cdv A outer s H E hr =>
  (qs_one (q_ret (pm_callP H_frac (Nat.le_of_ble_eq_true rfl) (fun _ => rfl) (pl_cons (pm_mul (pm_ix (pm_var 0) pm_int) (pm_ix (pm_var 1) pm_int)) (pl_cons (pm_mul (pm_ix (pm_var 0) pm_int) (pm_ix (pm_var 1) pm_int)) pl_nil)))))
abbrev N_turned : List Str := ["one"]
theorem sc_turned : FnScope N_turned ["one"] (defScope s_turned) := ⟨rfl, rfl, rfl, by decide +kernel, rfl, by decide +kernel, by decide +kernel⟩
theorem ok_turned (T : Txt P w K mg base) : Has P w K mg base "turned" s_turned 1 ["one"] F_turned := by
  exact has_of (N := N_turned) (b := M_turned) fin_ok T.d_turned sc_turned rfl rfl (fun _ _ _ _ _ _ us hl => match us, hl with | [_], _ => rfl) fun f cdv A outer s H E hr =>
  (qs_one (q_ret (pm_tup (pl_cons (pm_neg (pm_ix (pm_var 0) pm_int)) (pl_cons (pm_ix (pm_var 0) pm_int) pl_nil)))))
abbrev N_total_of : List Str := ["rows", "above", "below", "one"]
theorem sc_total_of : FnScope N_total_of ["rows"] (defScope s_total_of) := ⟨rfl, rfl, rfl, by decide +kernel, rfl, by decide +kernel, by decide +kernel⟩
theorem ok_total_of (T : Txt P w K mg base) : Has P w K mg base "total_of" s_total_of 2 ["rows"] F_total_of := by
  have H_frac := ok_frac T
  exact has_of (N := N_total_of) (b := M_total_of) fin_ok T.d_total_of sc_total_of rfl rfl (fun _ _ _ _ _ _ us hl => match us, hl with | [_], _ => rfl) fun f cdv A outer s H E hr =>
  (qs_cons (q_asg (pm_tup (pl_cons pm_int (pl_cons pm_int pl_nil))) (qg_tup (qgs_cons (qg_name (i := 1)) (qgs_cons (qg_name (i := 2)) qgs_nil))))
  (qs_cons (q_for (qi_row (pm_var 0)) (qg_name (i := 3))
  (qs_cons (q_par2 (i := 1) (j := 2) (fun _ => rfl) (fun _ => rfl) (by decide) (fun _ => rfl) (fun _ => rfl) (pl_cons (pm_add (pm_mul (pm_var 1) (pm_ix (pm_var 3) pm_int)) (pm_mul (pm_ix (pm_var 3) pm_int) (pm_var 2))) (pl_cons (pm_mul (pm_var 2) (pm_ix (pm_var 3) pm_int)) pl_nil)) (fun _ => rfl))
  (qs_one (q_if (pb_cp cr_gt (pm_var 2) (pm_shl pm_int pm_int))
  (qs_one (q_asg (pm_callP H_frac (Nat.le_of_ble_eq_true rfl) (fun _ => rfl) (pl_cons (pm_var 1) (pl_cons (pm_var 2) pl_nil))) (qg_tup (qgs_cons (qg_name (i := 1)) (qgs_cons (qg_name (i := 2)) qgs_nil)))))
  qs_nil))) (fun _ => PassesOwn.never))
  (qs_one (q_ret (pm_callP H_frac (Nat.le_of_ble_eq_true rfl) (fun _ => rfl) (pl_cons (pm_var 1) (pl_cons (pm_var 2) pl_nil)))))))
abbrev N_product_sum : List Str := ["rows", "others", "place"]
theorem sc_product_sum : FnScope N_product_sum ["rows", "others"] (defScope s_product_sum) := ⟨rfl, rfl, rfl, by decide +kernel, rfl, by decide +kernel, by decide +kernel⟩
theorem ok_product_sum (T : Txt P w K mg base) : Has P w K mg base "product_sum" s_product_sum 3 ["rows", "others"] F_product_sum := by
  have H_times := ok_times T
  have H_total_of := ok_total_of T
  exact has_of (N := N_product_sum) (b := M_product_sum) fin_ok T.d_product_sum sc_product_sum rfl rfl (fun _ _ _ _ _ _ us hl => match us, hl with | [_, _], _ => rfl) fun f cdv A outer s H E hr =>
  (qs_one (q_ret (pm_callP H_total_of (Nat.le_of_ble_eq_true rfl) (fun _ => rfl) (pl_cons (pm_lc (own := [("place", 2)]) (qi_range1 (fun _ => rfl) T.b_range (pl_cons (pm_len (fun _ => rfl) T.b_len (pl_cons (pm_var 0) pl_nil)) pl_nil)) (fun _ => blkOk_by (own := [("place", 2)]) (N := N_product_sum) (sc := defScope s_product_sum) (by decide +kernel)) (qg_name (i := 2)) qt_nil (pm_callP H_times (Nat.le_of_ble_eq_true rfl) (fun _ => rfl) (pl_cons (pm_ix (pm_var 0) (pm_var 2)) (pl_cons (pm_ix (pm_var 1) (pm_var 2)) pl_nil)))) pl_nil))))
abbrev N_choose : List Str := ["many", "some", "found", "place"]
theorem sc_choose : FnScope N_choose ["many", "some"] (defScope s_choose) := ⟨rfl, rfl, rfl, by decide +kernel, rfl, by decide +kernel, by decide +kernel⟩
theorem ok_choose (T : Txt P w K mg base) : Has P w K mg base "choose" s_choose 1 ["many", "some"] F_choose := by
  exact has_of (N := N_choose) (b := M_choose) fin_ok T.d_choose sc_choose rfl rfl (fun _ _ _ _ _ _ us hl => match us, hl with | [_, _], _ => rfl) fun f cdv A outer s H E hr =>
  (qs_cons (q_set (i := 2) pm_int)
  (qs_cons (q_for (qi_range1 (fun _ => rfl) T.b_range (pl_cons (pm_var 1) pl_nil)) (qg_name (i := 3))
  (qs_one (q_set (i := 2) (pm_div (pm_mul (pm_var 2) (pm_sub (pm_var 0) (pm_var 3))) (pm_add (pm_var 3) pm_int)))) (fun _ => PassesOwn.never))
  (qs_one (q_ret (pm_var 2)))))
abbrev N_choices_at : List Str := ["start", "n", "j"]
theorem sc_choices_at : FnScope N_choices_at ["start", "n"] (defScope s_choices_at) := ⟨rfl, rfl, rfl, by decide +kernel, rfl, by decide +kernel, by decide +kernel⟩
theorem ok_choices_at (T : Txt P w K mg base) : Has P w K mg base "choices_at" s_choices_at 2 ["start", "n"] F_choices_at := by
  have H_choose := ok_choose T
  exact has_of (N := N_choices_at) (b := M_choices_at) fin_ok T.d_choices_at sc_choices_at rfl rfl (fun _ _ _ _ _ _ us hl => match us, hl with | [_, _], _ => rfl) fun f cdv A outer s H E hr =>
  (qs_one (q_ret (pm_lc (own := [("j", 2)]) (qi_range1 (fun _ => rfl) T.b_range (pl_cons (pm_len (fun _ => rfl) T.b_len (pl_cons (pm_ix (pm_var 0) pm_int) pl_nil)) pl_nil)) (fun _ => blkOk_by (own := [("j", 2)]) (N := N_choices_at) (sc := defScope s_choices_at) (by decide +kernel)) (qg_name (i := 2)) qt_nil (pm_callP H_choose (Nat.le_of_ble_eq_true rfl) (fun _ => rfl) (pl_cons (pm_var 1) (pl_cons (pm_var 2) pl_nil))))))
abbrev N_slips_summed : List Str := ["slips", "choices", "number"]
theorem sc_slips_summed : FnScope N_slips_summed ["slips", "choices"] (defScope s_slips_summed) := ⟨rfl, rfl, rfl, by decide +kernel, rfl, by decide +kernel, by decide +kernel⟩
theorem ok_slips_summed (T : Txt P w K mg base) : Has P w K mg base "slips_summed" s_slips_summed 4 ["slips", "choices"] F_slips_summed := by
  have H_whole := ok_whole T
  have H_product_sum := ok_product_sum T
  exact has_of (N := N_slips_summed) (b := M_slips_summed) fin_ok T.d_slips_summed sc_slips_summed rfl rfl (fun _ _ _ _ _ _ us hl => match us, hl with | [_, _], _ => rfl) fun f cdv A outer s H E hr =>
  (qs_one (q_ret (pm_callP H_product_sum (Nat.le_of_ble_eq_true rfl) (fun _ => rfl) (pl_cons (pm_var 0) (pl_cons (pm_lc (own := [("number", 2)]) (qi_row (pm_var 1)) (fun _ => blkOk_by (own := [("number", 2)]) (N := N_slips_summed) (sc := defScope s_slips_summed) (by decide +kernel)) (qg_name (i := 2)) qt_nil (pm_callP H_whole (Nat.le_of_ble_eq_true rfl) (fun _ => rfl) (pl_cons (pm_var 2) pl_nil))) pl_nil)))))
abbrev N_line : List Str := ["start", "hand", "n", "choices"]
theorem sc_line : FnScope N_line ["start", "hand", "n"] (defScope s_line) := ⟨rfl, rfl, rfl, by decide +kernel, rfl, by decide +kernel, by decide +kernel⟩
theorem ok_line (T : Txt P w K mg base) : Has P w K mg base "line" s_line 5 ["start", "hand", "n"] F_line := by
  have H_plus := ok_plus T
  have H_choices_at := ok_choices_at T
  have H_slips_summed := ok_slips_summed T
  exact has_of (N := N_line) (b := M_line) fin_ok T.d_line sc_line rfl rfl (fun _ _ _ _ _ _ us hl => match us, hl with | [_, _, _], _ => rfl) fun f cdv A outer s H E hr =>
  (qs_cons (q_set (i := 3) (pm_callP H_choices_at (Nat.le_of_ble_eq_true rfl) (fun _ => rfl) (pl_cons (pm_var 0) (pl_cons (pm_var 2) pl_nil))))
  (qs_one (q_ret (pm_callP H_plus (Nat.le_of_ble_eq_true rfl) (fun _ => rfl) (pl_cons (pm_callP H_slips_summed (Nat.le_of_ble_eq_true rfl) (fun _ => rfl) (pl_cons (pm_ix (pm_var 0) pm_int) (pl_cons (pm_var 3) pl_nil))) (pl_cons (pm_callP H_slips_summed (Nat.le_of_ble_eq_true rfl) (fun _ => rfl) (pl_cons (pm_var 1) (pl_cons (pm_var 3) pl_nil))) pl_nil))))))
abbrev N_newton_at : List Str := ["prints", "x", "rows", "found", "factor", "order", "place"]
theorem sc_newton_at : FnScope N_newton_at ["prints", "x"] (defScope s_newton_at) := ⟨rfl, rfl, rfl, by decide +kernel, rfl, by decide +kernel, by decide +kernel⟩
theorem ok_newton_at (T : Txt P w K mg base) : Has P w K mg base "newton_at" s_newton_at 3 ["prints", "x"] F_newton_at := by
  have H_frac := ok_frac T
  have H_whole := ok_whole T
  have H_plus := ok_plus T
  have H_times := ok_times T
  have H_total_of := ok_total_of T
  exact has_of (N := N_newton_at) (b := M_newton_at) fin_ok T.d_newton_at sc_newton_at rfl rfl (fun _ _ _ _ _ _ us hl => match us, hl with | [_, _], _ => rfl) fun f cdv A outer s H E hr =>
  (qs_cons (q_asg (pm_tup (pl_cons (pm_list (fun _ => rfl) T.b_list (pl_cons (pm_var 0) pl_nil)) (pl_cons (pm_new pl_nil) (pl_cons (pm_tup (pl_cons pm_int (pl_cons pm_int pl_nil))) pl_nil)))) (qg_tup (qgs_cons (qg_name (i := 2)) (qgs_cons (qg_name (i := 3)) (qgs_cons (qg_name (i := 4)) qgs_nil)))))
  (qs_cons (q_for (qi_range1 (fun _ => rfl) T.b_range (pl_cons (pm_len (fun _ => rfl) T.b_len (pl_cons (pm_var 0) pl_nil)) pl_nil)) (qg_name (i := 5))
  (qs_cons (q_expr (pm_append (pm_var 3) (pm_callP H_times (Nat.le_of_ble_eq_true rfl) (fun _ => rfl) (pl_cons (pm_var 4) (pl_cons (pm_callP H_whole (Nat.le_of_ble_eq_true rfl) (fun _ => rfl) (pl_cons (pm_ix (pm_var 2) pm_int) pl_nil)) pl_nil)))))
  (qs_cons (q_set (i := 2) (pm_lc (own := [("place", 6)]) (qi_range1 (fun _ => rfl) T.b_range (pl_cons (pm_sub (pm_len (fun _ => rfl) T.b_len (pl_cons (pm_var 2) pl_nil)) pm_int) pl_nil)) (fun _ => blkOk_by (own := [("place", 6)]) (N := N_newton_at) (sc := defScope s_newton_at) (by decide +kernel)) (qg_name (i := 6)) qt_nil (pm_sub (pm_ix (pm_var 2) (pm_add (pm_var 6) pm_int)) (pm_ix (pm_var 2) (pm_var 6)))))
  (qs_one (q_set (i := 4) (pm_callP H_times (Nat.le_of_ble_eq_true rfl) (fun _ => rfl) (pl_cons (pm_var 4) (pl_cons (pm_callP H_times (Nat.le_of_ble_eq_true rfl) (fun _ => rfl) (pl_cons (pm_callP H_plus (Nat.le_of_ble_eq_true rfl) (fun _ => rfl) (pl_cons (pm_var 1) (pl_cons (pm_callP H_whole (Nat.le_of_ble_eq_true rfl) (fun _ => rfl) (pl_cons (pm_neg (pm_var 5)) pl_nil)) pl_nil))) (pl_cons (pm_callP H_frac (Nat.le_of_ble_eq_true rfl) (fun _ => rfl) (pl_cons pm_int (pl_cons (pm_add (pm_var 5) pm_int) pl_nil))) pl_nil))) pl_nil))))))) (fun _ => PassesOwn.never))
  (qs_frz 3 (qs_one (q_ret (pm_callP H_total_of (Nat.le_of_ble_eq_true rfl) (fun _ => rfl) (pl_cons (pm_var 3) pl_nil)))))))
abbrev N_fine_start : List Str := ["prints", "m", "rows", "place", "found"]
theorem sc_fine_start : FnScope N_fine_start ["prints", "m"] (defScope s_fine_start) := ⟨rfl, rfl, rfl, by decide +kernel, rfl, by decide +kernel, by decide +kernel⟩
theorem ok_fine_start (T : Txt P w K mg base) : Has P w K mg base "fine_start" s_fine_start 4 ["prints", "m"] F_fine_start := by
  have H_frac := ok_frac T
  have H_plus := ok_plus T
  have H_turned := ok_turned T
  have H_newton_at := ok_newton_at T
  exact has_of (N := N_fine_start) (b := M_fine_start) fin_ok T.d_fine_start sc_fine_start rfl rfl (fun _ _ _ _ _ _ us hl => match us, hl with | [_, _], _ => rfl) fun f cdv A outer s H E hr =>
  (qs_cons (q_set (i := 2) (pm_lc (own := [("place", 3)]) (qi_range1 (fun _ => rfl) T.b_range (pl_cons (pm_len (fun _ => rfl) T.b_len (pl_cons (pm_var 0) pl_nil)) pl_nil)) (fun _ => blkOk_by (own := [("place", 3)]) (N := N_fine_start) (sc := defScope s_fine_start) (by decide +kernel)) (qg_name (i := 3)) qt_nil (pm_callP H_newton_at (Nat.le_of_ble_eq_true rfl) (fun _ => rfl) (pl_cons (pm_var 0) (pl_cons (pm_callP H_frac (Nat.le_of_ble_eq_true rfl) (fun _ => rfl) (pl_cons (pm_var 3) (pl_cons (pm_var 1) pl_nil))) pl_nil)))))
  (qs_cons (q_set (i := 4) (pm_new pl_nil))
  (qs_cons (q_while (pb_tru (pm_var 2))
  (qs_cons (q_expr (pm_append (pm_var 4) (pm_ix (pm_var 2) pm_int)))
  (qs_one (q_set (i := 2) (pm_lc (own := [("place", 3)]) (qi_range1 (fun _ => rfl) T.b_range (pl_cons (pm_sub (pm_len (fun _ => rfl) T.b_len (pl_cons (pm_var 2) pl_nil)) pm_int) pl_nil)) (fun _ => blkOk_by (own := [("place", 3)]) (N := N_fine_start) (sc := defScope s_fine_start) (by decide +kernel)) (qg_name (i := 3)) qt_nil (pm_callP H_plus (Nat.le_of_ble_eq_true rfl) (fun _ => rfl) (pl_cons (pm_ix (pm_var 2) (pm_add (pm_var 3) pm_int)) (pl_cons (pm_callP H_turned (Nat.le_of_ble_eq_true rfl) (fun _ => rfl) (pl_cons (pm_ix (pm_var 2) (pm_var 3)) pl_nil)) pl_nil))))))) (fun _ => PassesOwn.never))
  (qs_one (q_ret (pm_tuple (fun _ => rfl) T.b_tuple (pl_cons (pm_var 4) pl_nil)))))))
abbrev N__law_bag : List Str := ["script", "cells", "cell", "great"]
theorem sc__law_bag : FnScope N__law_bag ["script"] (defScope s__law_bag) := ⟨rfl, rfl, rfl, by decide +kernel, rfl, by decide +kernel, by decide +kernel⟩
theorem ok__law_bag (T : Txt P w K mg base) : Has P w K mg base "_law_bag" s__law_bag 1 ["script"] F__law_bag := by
  exact has_of (N := N__law_bag) (b := M__law_bag) finK_ok T.d__law_bag sc__law_bag rfl rfl (fun _ _ _ _ _ _ us hl => match us, hl with | [_], _ => rfl) fun f cdv A outer s H E hr =>
  (qs_cons (q_set (i := 1) (pm_add (pm_lc (own := [("cell", 2)]) (qi_row (pm_var 0)) (fun _ => blkOk_by (own := [("cell", 2)]) (N := N__law_bag) (sc := defScope s__law_bag) (by decide +kernel)) (qg_name (i := 2)) qt_nil (pm_abs (fun _ => rfl) T.b_abs (pl_cons (pm_intc (fun _ => rfl) T.b_int (pl_cons (pm_var 2) pl_nil)) pl_nil))) (pm_lst (pl_cons pm_int pl_nil))))
  (qs_cons (q_set (i := 3) (pm_new pl_nil))
  (qs_cons (q_if (pb_cp cr_eq (pm_mod (pm_intc (fun _ => rfl) T.b_int (pl_cons (pm_ix (pm_var 1) pm_int) pl_nil)) pm_int) pm_int)
  (qs_cons (q_setLcn (i := 3) (fun _ => rfl) (fun _ => rfl) (fun _ => sw_true rfl rfl rfl (by decide +kernel)) (own := [("cell", 2)]) (qi_row (pm_var 1)) (fun _ => blkOk_by (own := [("cell", 2)]) (N := N__law_bag) (sc := defScope s__law_bag) (by decide +kernel)) (qg_name (i := 2)) (qt_one (pb_cp cr_ge (pm_var 2) (pm_pow pm_int pm_int))) (pm_div (pm_var 2) pm_int))
  (qs_one (q_expr (pm_reverse (pm_var 3)))))
  qs_nil)
  (qs_one (q_ret (pm_new (pl_cons pm_int (pl_cons pm_int (pl_cons (pm_var 3) (pl_cons (pm_lc (own := [("cell", 2)]) (qi_row (pm_var 1)) (fun _ => blkOk_by (own := [("cell", 2)]) (N := N__law_bag) (sc := defScope s__law_bag) (by decide +kernel)) (qg_name (i := 2)) qt_nil (pm_mod (pm_intc (fun _ => rfl) T.b_int (pl_cons (pm_var 2) pl_nil)) pm_int)) pl_nil))))))))))
abbrev N__law_draw : List Str := ["bag", "many", "digit", "cell", "mixed"]
theorem sc__law_draw : FnScope N__law_draw ["bag", "many"] (defScope s__law_draw) := ⟨rfl, rfl, rfl, by decide +kernel, rfl, by decide +kernel, by decide +kernel⟩
theorem ok__law_draw (T : Txt P w K mg base) : Has P w K mg base "_law_draw" s__law_draw 1 ["bag", "many"] F__law_draw := by
  exact has_of (N := N__law_draw) (b := M__law_draw) fin_ok T.d__law_draw sc__law_draw rfl rfl (fun _ _ _ _ _ _ us hl => match us, hl with | [_, _], _ => rfl) fun f cdv A outer s H E hr =>
  (qs_cons (q_setI (pm_var 0) pm_int (pm_add (pm_ix (pm_var 0) pm_int) pm_int))
  (qs_cons (q_if (pb_of (bw_and (pb_cp cr_eq (pm_ix (pm_var 0) pm_int) pm_int) (bw_and1 (pb_cp cr_gt (pm_len (fun _ => rfl) T.b_len (pl_cons (pm_ix (pm_var 0) pm_int) pl_nil)) pm_int))))
  (qs_one (q_setI (pm_var 0) pm_int (pm_pop (pm_ix (pm_var 0) pm_int))))
  qs_nil)
  (qs_cons (q_if (pb_cp cr_gt (pm_ix (pm_var 0) pm_int) pm_int)
  (qs_cons (q_set (i := 2) (pm_mod (pm_intc (fun _ => rfl) T.b_int (pl_cons (pm_ix (pm_var 0) pm_int) pl_nil)) (pm_var 1)))
  (qs_cons (q_setI (pm_var 0) pm_int (pm_div (pm_ix (pm_var 0) pm_int) (pm_var 1)))
  (qs_one (q_ret (pm_var 2)))))
  qs_nil)
  (qs_cons (q_set (i := 3) (pm_ix (pm_ix (pm_var 0) pm_int) (pm_mod (pm_intc (fun _ => rfl) T.b_int (pl_cons (pm_ix (pm_var 0) pm_int) pl_nil)) (pm_len (fun _ => rfl) T.b_len (pl_cons (pm_ix (pm_var 0) pm_int) pl_nil)))))
  (qs_cons (q_set (i := 4) (pm_mod (pm_intc (fun _ => rfl) T.b_int (pl_cons (pm_add (pm_add (pm_mul (pm_var 3) pm_int) (pm_mul (pm_ix (pm_var 0) pm_int) pm_int)) pm_int) pl_nil)) pm_int))
  (qs_one (q_ret (pm_mod (pm_div (pm_mod (pm_intc (fun _ => rfl) T.b_int (pl_cons (pm_add (pm_add (pm_mul (pm_var 4) (pm_var 4)) (pm_mul (pm_var 4) pm_int)) (pm_mul (pm_ix (pm_var 0) pm_int) pm_int)) pl_nil)) pm_int) pm_int) (pm_var 1)))))))))
abbrev N__law_pick : List Str := ["bag", "some"]
theorem sc__law_pick : FnScope N__law_pick ["bag", "some"] (defScope s__law_pick) := ⟨rfl, rfl, rfl, by decide +kernel, rfl, by decide +kernel, by decide +kernel⟩
theorem ok__law_pick (T : Txt P w K mg base) : Has P w K mg base "_law_pick" s__law_pick 2 ["bag", "some"] F__law_pick := by
  have H__law_draw := ok__law_draw T
  exact has_of (N := N__law_pick) (b := M__law_pick) fin_ok T.d__law_pick sc__law_pick rfl rfl (fun _ _ _ _ _ _ us hl => match us, hl with | [_, _], _ => rfl) fun f cdv A outer s H E hr =>
  (qs_one (q_ret (pm_ix (pm_var 1) (pm_call H__law_draw (Nat.le_of_ble_eq_true rfl) (fun _ => rfl) (pl_cons (pm_var 0) (pl_cons (pm_len (fun _ => rfl) T.b_len (pl_cons (pm_var 1) pl_nil)) pl_nil))))))
abbrev N__law_same : List Str := ["found", "due", "k"]
theorem sc__law_same : FnScope N__law_same ["found", "due"] (defScope s__law_same) := ⟨rfl, rfl, rfl, by decide +kernel, rfl, by decide +kernel, by decide +kernel⟩
theorem ok__law_same (T : Txt P w K mg base) : ∀ n, Has P w K mg base "_law_same" s__law_same (0 + n) ["found", "due"] (F__law_same n)
  | 0 => has_none T.d__law_same (fun _ _ _ _ _ _ us hl => match us, hl with | [_, _], _ => rfl)
  | n + 1 => by
    have ih := ok__law_same T n
    exact has_of (N := N__law_same) (b := M__law_same (F__law_same n)) fin_ok T.d__law_same sc__law_same rfl rfl (fun _ _ _ _ _ _ us hl => match us, hl with | [_, _], _ => rfl) fun f cdv A outer s H E hr =>
  (qs_cons (q_if (pb_cp cr_isN (pm_var 1) pm_non)
  (qs_one (q_ret (pm_cp cr_isN (pm_var 0) pm_non)))
  qs_nil)
  (qs_cons (q_if (pb_of (bw_or (pb_tru (pm_isi it_bool (fun _ => rfl) T.b_isinstance (fun _ => rfl) T.b_bool (by decide +kernel) (pm_var 1))) (bw_or1 (pb_tru (pm_isi it_bool (fun _ => rfl) T.b_isinstance (fun _ => rfl) T.b_bool (by decide +kernel) (pm_var 0))))))
  (qs_one (q_ret (pm_and (pm_isi it_bool (fun _ => rfl) T.b_isinstance (fun _ => rfl) T.b_bool (by decide +kernel) (pm_var 1)) (pm_and (pm_isi it_bool (fun _ => rfl) T.b_isinstance (fun _ => rfl) T.b_bool (by decide +kernel) (pm_var 0)) (pm_one (pm_cp cr_eq (pm_var 0) (pm_var 1)))))))
  qs_nil)
  (qs_cons (q_if (pb_tru (pm_isi it_int (fun _ => rfl) T.b_isinstance (fun _ => rfl) T.b_int (by decide +kernel) (pm_var 1)))
  (qs_one (q_ret (pm_and (pm_isi it_int (fun _ => rfl) T.b_isinstance (fun _ => rfl) T.b_int (by decide +kernel) (pm_var 0)) (pm_one (pm_cp cr_eq (pm_var 0) (pm_var 1))))))
  qs_nil)
  (qs_cons (q_if (pb_tru (pm_isi it_str (fun _ => rfl) T.b_isinstance (fun _ => rfl) T.b_str (by decide +kernel) (pm_var 1)))
  (qs_one (q_ret (pm_and (pm_isi it_str (fun _ => rfl) T.b_isinstance (fun _ => rfl) T.b_str (by decide +kernel) (pm_var 0)) (pm_one (pm_cp cr_eq (pm_var 0) (pm_var 1))))))
  qs_nil)
  (qs_cons (q_if (pb_of (bw_or (pb_not (pb_tru (pm_isi it_tup (fun _ => rfl) T.b_isinstance (fun _ => rfl) T.b_tuple (by decide +kernel) (pm_var 1)))) (bw_or (pb_not (pb_tru (pm_isi it_tup (fun _ => rfl) T.b_isinstance (fun _ => rfl) T.b_tuple (by decide +kernel) (pm_var 0)))) (bw_or1 (pb_cp cr_ne (pm_len (fun _ => rfl) T.b_len (pl_cons (pm_var 0) pl_nil)) (pm_len (fun _ => rfl) T.b_len (pl_cons (pm_var 1) pl_nil)))))))
  (qs_one (q_ret pm_bl))
  qs_nil)
  (qs_cons (q_for (qi_range1 (fun _ => rfl) T.b_range (pl_cons (pm_len (fun _ => rfl) T.b_len (pl_cons (pm_var 1) pl_nil)) pl_nil)) (qg_name (i := 2))
  (qs_one (q_if (pb_not (pb_tru (pm_callP ih (Nat.le_refl _) (fun _ => rfl) (pl_cons (pm_ix (pm_var 0) (pm_var 2)) (pl_cons (pm_ix (pm_var 1) (pm_var 2)) pl_nil)))))
  (qs_one (q_ret pm_bl))
  qs_nil)) (fun _ => PassesOwn.never))
  (qs_one (q_ret pm_bl))))))))
abbrev N__law_gcd : List Str := ["a", "b"]
theorem sc__law_gcd : FnScope N__law_gcd ["a", "b"] (defScope s__law_gcd) := ⟨rfl, rfl, rfl, by decide +kernel, rfl, by decide +kernel, by decide +kernel⟩
theorem ok__law_gcd (T : Txt P w K mg base) : Has P w K mg base "_law_gcd" s__law_gcd 1 ["a", "b"] F__law_gcd := by
  exact has_of (N := N__law_gcd) (b := M__law_gcd) fin_ok T.d__law_gcd sc__law_gcd rfl rfl (fun _ _ _ _ _ _ us hl => match us, hl with | [_, _], _ => rfl) fun f cdv A outer s H E hr =>
  (qs_cons (q_par2 (i := 0) (j := 1) (fun _ => rfl) (fun _ => rfl) (by decide) (fun _ => rfl) (fun _ => rfl) (pl_cons (pm_abs (fun _ => rfl) T.b_abs (pl_cons (pm_var 0) pl_nil)) (pl_cons (pm_abs (fun _ => rfl) T.b_abs (pl_cons (pm_var 1) pl_nil)) pl_nil)) (fun _ => rfl))
  (qs_cons (q_while (pb_cp cr_ne (pm_var 1) pm_int)
  (qs_one (q_par2 (i := 0) (j := 1) (fun _ => rfl) (fun _ => rfl) (by decide) (fun _ => rfl) (fun _ => rfl) (pl_cons (pm_var 1) (pl_cons (pm_mod (pm_intc (fun _ => rfl) T.b_int (pl_cons (pm_var 0) pl_nil)) (pm_var 1)) pl_nil)) (fun _ => rfl))) (fun _ => PassesOwn.never))
  (qs_one (q_ret (pm_var 0)))))
abbrev N__law_fr : List Str := ["a", "b", "by"]
theorem sc__law_fr : FnScope N__law_fr ["a", "b"] (defScope s__law_fr) := ⟨rfl, rfl, rfl, by decide +kernel, rfl, by decide +kernel, by decide +kernel⟩
theorem ok__law_fr (T : Txt P w K mg base) : Has P w K mg base "_law_fr" s__law_fr 2 ["a", "b"] F__law_fr := by
  have H__law_gcd := ok__law_gcd T
  exact has_of (N := N__law_fr) (b := M__law_fr) fin_ok T.d__law_fr sc__law_fr rfl rfl (fun _ _ _ _ _ _ us hl => match us, hl with | [_, _], _ => rfl) fun f cdv A outer s H E hr =>
  (qs_cons (q_set (i := 2) (pm_callP H__law_gcd (Nat.le_of_ble_eq_true rfl) (fun _ => rfl) (pl_cons (pm_var 0) (pl_cons (pm_var 1) pl_nil))))
  (qs_one (q_ret (pm_tup (pl_cons (pm_div (pm_var 0) (pm_var 2)) (pl_cons (pm_div (pm_var 1) (pm_var 2)) pl_nil))))))
abbrev N__law_plus : List Str := ["a", "b"]
theorem sc__law_plus : FnScope N__law_plus ["a", "b"] (defScope s__law_plus) := ⟨rfl, rfl, rfl, by decide +kernel, rfl, by decide +kernel, by decide +kernel⟩
theorem ok__law_plus (T : Txt P w K mg base) : Has P w K mg base "_law_plus" s__law_plus 3 ["a", "b"] F__law_plus := by
  have H__law_fr := ok__law_fr T
  exact has_of (N := N__law_plus) (b := M__law_plus) fin_ok T.d__law_plus sc__law_plus rfl rfl (fun _ _ _ _ _ _ us hl => match us, hl with | [_, _], _ => rfl) fun f cdv A outer s H E hr =>
  (qs_one (q_ret (pm_callP H__law_fr (Nat.le_of_ble_eq_true rfl) (fun _ => rfl) (pl_cons (pm_add (pm_mul (pm_ix (pm_var 0) pm_int) (pm_ix (pm_var 1) pm_int)) (pm_mul (pm_ix (pm_var 1) pm_int) (pm_ix (pm_var 0) pm_int))) (pl_cons (pm_mul (pm_ix (pm_var 0) pm_int) (pm_ix (pm_var 1) pm_int)) pl_nil)))))
abbrev N__law_times : List Str := ["a", "b"]
theorem sc__law_times : FnScope N__law_times ["a", "b"] (defScope s__law_times) := ⟨rfl, rfl, rfl, by decide +kernel, rfl, by decide +kernel, by decide +kernel⟩
theorem ok__law_times (T : Txt P w K mg base) : Has P w K mg base "_law_times" s__law_times 3 ["a", "b"] F__law_times := by
  have H__law_fr := ok__law_fr T
  exact has_of (N := N__law_times) (b := M__law_times) fin_ok T.d__law_times sc__law_times rfl rfl (fun _ _ _ _ _ _ us hl => match us, hl with | [_, _], _ => rfl) fun f cdv A outer s H E hr =>
  (qs_one (q_ret (pm_callP H__law_fr (Nat.le_of_ble_eq_true rfl) (fun _ => rfl) (pl_cons (pm_mul (pm_ix (pm_var 0) pm_int) (pm_ix (pm_var 1) pm_int)) (pl_cons (pm_mul (pm_ix (pm_var 0) pm_int) (pm_ix (pm_var 1) pm_int)) pl_nil)))))
abbrev N__law_minus : List Str := ["a", "b"]
theorem sc__law_minus : FnScope N__law_minus ["a", "b"] (defScope s__law_minus) := ⟨rfl, rfl, rfl, by decide +kernel, rfl, by decide +kernel, by decide +kernel⟩
theorem ok__law_minus (T : Txt P w K mg base) : Has P w K mg base "_law_minus" s__law_minus 4 ["a", "b"] F__law_minus := by
  have H__law_plus := ok__law_plus T
  exact has_of (N := N__law_minus) (b := M__law_minus) fin_ok T.d__law_minus sc__law_minus rfl rfl (fun _ _ _ _ _ _ us hl => match us, hl with | [_, _], _ => rfl) fun f cdv A outer s H E hr =>
  (qs_one (q_ret (pm_callP H__law_plus (Nat.le_of_ble_eq_true rfl) (fun _ => rfl) (pl_cons (pm_var 0) (pl_cons (pm_tup (pl_cons (pm_neg (pm_ix (pm_var 1) pm_int)) (pl_cons (pm_ix (pm_var 1) pm_int) pl_nil))) pl_nil)))))
abbrev N__law_ten : List Str := ["k", "found", "j"]
theorem sc__law_ten : FnScope N__law_ten ["k"] (defScope s__law_ten) := ⟨rfl, rfl, rfl, by decide +kernel, rfl, by decide +kernel, by decide +kernel⟩
theorem ok__law_ten (T : Txt P w K mg base) : Has P w K mg base "_law_ten" s__law_ten 1 ["k"] F__law_ten := by
  exact has_of (N := N__law_ten) (b := M__law_ten) fin_ok T.d__law_ten sc__law_ten rfl rfl (fun _ _ _ _ _ _ us hl => match us, hl with | [_], _ => rfl) fun f cdv A outer s H E hr =>
  (qs_cons (q_set (i := 1) pm_int)
  (qs_cons (q_for (qi_range1 (fun _ => rfl) T.b_range (pl_cons (pm_var 0) pl_nil)) (qg_name (i := 2))
  (qs_one (q_set (i := 1) (pm_mul (pm_var 1) pm_int))) (fun _ => PassesOwn.never))
  (qs_one (q_ret (pm_var 1)))))
abbrev N__law_choose : List Str := ["n", "j", "found", "k"]
theorem sc__law_choose : FnScope N__law_choose ["n", "j"] (defScope s__law_choose) := ⟨rfl, rfl, rfl, by decide +kernel, rfl, by decide +kernel, by decide +kernel⟩
theorem ok__law_choose (T : Txt P w K mg base) : ∀ n, Has P w K mg base "_law_choose" s__law_choose (0 + n) ["n", "j"] (F__law_choose n)
  | 0 => has_none T.d__law_choose (fun _ _ _ _ _ _ us hl => match us, hl with | [_, _], _ => rfl)
  | n + 1 => by
    have ih := ok__law_choose T n
    exact has_of (N := N__law_choose) (b := M__law_choose (F__law_choose n)) fin_ok T.d__law_choose sc__law_choose rfl rfl (fun _ _ _ _ _ _ us hl => match us, hl with | [_, _], _ => rfl) fun f cdv A outer s H E hr =>
  (qs_cons (q_if (pb_cp cr_lt (pm_var 0) pm_int)
  (qs_one (q_ret (pm_mul (pm_callP ih (Nat.le_refl _) (fun _ => rfl) (pl_cons (pm_sub (pm_sub (pm_var 1) (pm_var 0)) pm_int) (pl_cons (pm_var 1) pl_nil))) (pm_if (pb_cp cr_eq (pm_mod (pm_intc (fun _ => rfl) T.b_int (pl_cons (pm_var 1) pl_nil)) pm_int) pm_int) (pm_neg pm_int) pm_int))))
  qs_nil)
  (qs_cons (q_set (i := 2) pm_int)
  (qs_cons (q_for (qi_range1 (fun _ => rfl) T.b_range (pl_cons (pm_var 1) pl_nil)) (qg_name (i := 3))
  (qs_one (q_set (i := 2) (pm_div (pm_mul (pm_var 2) (pm_sub (pm_var 0) (pm_var 3))) (pm_add (pm_var 3) pm_int)))) (fun _ => PassesOwn.never))
  (qs_one (q_ret (pm_var 2))))))
abbrev N__law_line : List Str := ["start", "push", "n", "found", "j"]
theorem sc__law_line : FnScope N__law_line ["start", "push", "n"] (defScope s__law_line) := ⟨rfl, rfl, rfl, by decide +kernel, rfl, by decide +kernel, by decide +kernel⟩
theorem ok__law_line (T : Txt P w K mg base) : Has P w K mg base "_law_line" s__law_line 4 ["start", "push", "n"] F__law_line := by
  have H__law_plus := ok__law_plus T
  have H__law_times := ok__law_times T
  have H__law_choose := ok__law_choose T 2
  exact has_of (N := N__law_line) (b := M__law_line) fin_ok T.d__law_line sc__law_line rfl rfl (fun _ _ _ _ _ _ us hl => match us, hl with | [_, _, _], _ => rfl) fun f cdv A outer s H E hr =>
  (qs_cons (q_set (i := 3) (pm_tup (pl_cons pm_int (pl_cons pm_int pl_nil))))
  (qs_cons (q_for (qi_range1 (fun _ => rfl) T.b_range (pl_cons (pm_len (fun _ => rfl) T.b_len (pl_cons (pm_ix (pm_var 0) pm_int) pl_nil)) pl_nil)) (qg_name (i := 4))
  (qs_one (q_set (i := 3) (pm_callP H__law_plus (Nat.le_of_ble_eq_true rfl) (fun _ => rfl) (pl_cons (pm_var 3) (pl_cons (pm_callP H__law_times (Nat.le_of_ble_eq_true rfl) (fun _ => rfl) (pl_cons (pm_tup (pl_cons (pm_callP H__law_choose (Nat.le_of_ble_eq_true rfl) (fun _ => rfl) (pl_cons (pm_var 2) (pl_cons (pm_var 4) pl_nil))) (pl_cons pm_int pl_nil))) (pl_cons (pm_callP H__law_plus (Nat.le_of_ble_eq_true rfl) (fun _ => rfl) (pl_cons (pm_ix (pm_ix (pm_var 0) pm_int) (pm_var 4)) (pl_cons (pm_ix (pm_var 1) (pm_var 4)) pl_nil))) pl_nil))) pl_nil))))) (fun _ => PassesOwn.never))
  (qs_one (q_ret (pm_var 3)))))
abbrev N__law_differences : List Str := ["values", "found", "now", "k"]
theorem sc__law_differences : FnScope N__law_differences ["values"] (defScope s__law_differences) := ⟨rfl, rfl, rfl, by decide +kernel, rfl, by decide +kernel, by decide +kernel⟩
theorem ok__law_differences (T : Txt P w K mg base) : Has P w K mg base "_law_differences" s__law_differences 5 ["values"] F__law_differences := by
  have H__law_minus := ok__law_minus T
  exact has_of (N := N__law_differences) (b := M__law_differences) fin_ok T.d__law_differences sc__law_differences rfl rfl (fun _ _ _ _ _ _ us hl => match us, hl with | [_], _ => rfl) fun f cdv A outer s H E hr =>
  (qs_cons (q_asg (pm_tup (pl_cons (pm_new pl_nil) (pl_cons (pm_list (fun _ => rfl) T.b_list (pl_cons (pm_var 0) pl_nil)) pl_nil))) (qg_tup (qgs_cons (qg_name (i := 1)) (qgs_cons (qg_name (i := 2)) qgs_nil))))
  (qs_cons (q_while (pb_cp cr_ne (pm_var 2) (pm_lst pl_nil))
  (qs_cons (q_expr (pm_append (pm_var 1) (pm_ix (pm_var 2) pm_int)))
  (qs_one (q_set (i := 2) (pm_lc (own := [("k", 3)]) (qi_range1 (fun _ => rfl) T.b_range (pl_cons (pm_sub (pm_len (fun _ => rfl) T.b_len (pl_cons (pm_var 2) pl_nil)) pm_int) pl_nil)) (fun _ => blkOk_by (own := [("k", 3)]) (N := N__law_differences) (sc := defScope s__law_differences) (by decide +kernel)) (qg_name (i := 3)) qt_nil (pm_callP H__law_minus (Nat.le_of_ble_eq_true rfl) (fun _ => rfl) (pl_cons (pm_ix (pm_var 2) (pm_add (pm_var 3) pm_int)) (pl_cons (pm_ix (pm_var 2) (pm_var 3)) pl_nil))))))) (fun _ => PassesOwn.never))
  (qs_one (q_ret (pm_tuple (fun _ => rfl) T.b_tuple (pl_cons (pm_var 1) pl_nil))))))
abbrev N__law_at : List Str := ["prints", "x", "found", "part", "steps", "y", "j"]
theorem sc__law_at : FnScope N__law_at ["prints", "x"] (defScope s__law_at) := ⟨rfl, rfl, rfl, by decide +kernel, rfl, by decide +kernel, by decide +kernel⟩
theorem ok__law_at (T : Txt P w K mg base) : Has P w K mg base "_law_at" s__law_at 6 ["prints", "x"] F__law_at := by
  have H__law_plus := ok__law_plus T
  have H__law_times := ok__law_times T
  have H__law_minus := ok__law_minus T
  have H__law_differences := ok__law_differences T
  exact has_of (N := N__law_at) (b := M__law_at) fin_ok T.d__law_at sc__law_at rfl rfl (fun _ _ _ _ _ _ us hl => match us, hl with | [_, _], _ => rfl) fun f cdv A outer s H E hr =>
  (qs_cons (q_asg (pm_tup (pl_cons (pm_tup (pl_cons pm_int (pl_cons pm_int pl_nil))) (pl_cons (pm_tup (pl_cons pm_int (pl_cons pm_int pl_nil))) pl_nil))) (qg_tup (qgs_cons (qg_name (i := 2)) (qgs_cons (qg_name (i := 3)) qgs_nil))))
  (qs_cons (q_set (i := 4) (pm_callP H__law_differences (Nat.le_of_ble_eq_true rfl) (fun _ => rfl) (pl_cons (pm_lc (own := [("y", 5)]) (qi_row (pm_var 0)) (fun _ => blkOk_by (own := [("y", 5)]) (N := N__law_at) (sc := defScope s__law_at) (by decide +kernel)) (qg_name (i := 5)) qt_nil (pm_tup (pl_cons (pm_var 5) (pl_cons pm_int pl_nil)))) pl_nil)))
  (qs_cons (q_for (qi_range1 (fun _ => rfl) T.b_range (pl_cons (pm_len (fun _ => rfl) T.b_len (pl_cons (pm_var 4) pl_nil)) pl_nil)) (qg_name (i := 6))
  (qs_cons (q_set (i := 2) (pm_callP H__law_plus (Nat.le_of_ble_eq_true rfl) (fun _ => rfl) (pl_cons (pm_var 2) (pl_cons (pm_callP H__law_times (Nat.le_of_ble_eq_true rfl) (fun _ => rfl) (pl_cons (pm_ix (pm_var 4) (pm_var 6)) (pl_cons (pm_var 3) pl_nil))) pl_nil))))
  (qs_one (q_set (i := 3) (pm_callP H__law_times (Nat.le_of_ble_eq_true rfl) (fun _ => rfl) (pl_cons (pm_callP H__law_times (Nat.le_of_ble_eq_true rfl) (fun _ => rfl) (pl_cons (pm_var 3) (pl_cons (pm_callP H__law_minus (Nat.le_of_ble_eq_true rfl) (fun _ => rfl) (pl_cons (pm_var 1) (pl_cons (pm_tup (pl_cons (pm_var 6) (pl_cons pm_int pl_nil))) pl_nil))) pl_nil))) (pl_cons (pm_tup (pl_cons pm_int (pl_cons (pm_add (pm_var 6) pm_int) pl_nil))) pl_nil)))))) (fun _ => PassesOwn.never))
  (qs_one (q_ret (pm_var 2))))))
abbrev N__law_fine : List Str := ["prints", "m", "i"]
theorem sc__law_fine : FnScope N__law_fine ["prints", "m"] (defScope s__law_fine) := ⟨rfl, rfl, rfl, by decide +kernel, rfl, by decide +kernel, by decide +kernel⟩
theorem ok__law_fine (T : Txt P w K mg base) : Has P w K mg base "_law_fine" s__law_fine 7 ["prints", "m"] F__law_fine := by
  have H__law_fr := ok__law_fr T
  have H__law_differences := ok__law_differences T
  have H__law_at := ok__law_at T
  exact has_of (N := N__law_fine) (b := M__law_fine) fin_ok T.d__law_fine sc__law_fine rfl rfl (fun _ _ _ _ _ _ us hl => match us, hl with | [_, _], _ => rfl) fun f cdv A outer s H E hr =>
  (qs_one (q_ret (pm_callP H__law_differences (Nat.le_of_ble_eq_true rfl) (fun _ => rfl) (pl_cons (pm_lc (own := [("i", 2)]) (qi_range1 (fun _ => rfl) T.b_range (pl_cons (pm_len (fun _ => rfl) T.b_len (pl_cons (pm_var 0) pl_nil)) pl_nil)) (fun _ => blkOk_by (own := [("i", 2)]) (N := N__law_fine) (sc := defScope s__law_fine) (by decide +kernel)) (qg_name (i := 2)) qt_nil (pm_callP H__law_at (Nat.le_of_ble_eq_true rfl) (fun _ => rfl) (pl_cons (pm_var 0) (pl_cons (pm_callP H__law_fr (Nat.le_of_ble_eq_true rfl) (fun _ => rfl) (pl_cons (pm_var 2) (pl_cons (pm_var 1) pl_nil))) pl_nil)))) pl_nil))))
abbrev N_law : List Str := ["script", "bag", "turn", "size", "prints", "m", "due", "found", "i", "start", "none", "k"]
theorem sc_law : FnScope N_law ["script"] (defScope s_law) := ⟨rfl, rfl, rfl, by decide +kernel, rfl, by decide +kernel, by decide +kernel⟩
theorem ok_law (T : Txt P w K mg base) : Has P w K mg base "law" s_law 8 ["script"] F_law := by
  have H_line := ok_line T
  have H_fine_start := ok_fine_start T
  have H__law_bag := ok__law_bag T
  have H__law_draw := ok__law_draw T
  have H__law_pick := ok__law_pick T
  have H__law_same := ok__law_same T 5
  have H__law_fr := ok__law_fr T
  have H__law_ten := ok__law_ten T
  have H__law_line := ok__law_line T
  have H__law_at := ok__law_at T
  have H__law_fine := ok__law_fine T
  exact has_of (N := N_law) (b := M_law) fin_ok T.d_law sc_law rfl rfl (fun _ _ _ _ _ _ us hl => match us, hl with | [_], _ => rfl) fun f cdv A outer s H E hr =>
  (qs_cons (q_set (i := 1) (pm_call H__law_bag (Nat.le_of_ble_eq_true rfl) (fun _ => rfl) (pl_cons (pm_var 0) pl_nil)))
  (qs_cons (q_for (qi_range1 (fun _ => rfl) T.b_range (pl_cons pm_int pl_nil)) (qg_name (i := 2))
  (qs_cons (q_set (i := 3) (pm_call H__law_pick (Nat.le_of_ble_eq_true rfl) (fun _ => rfl) (pl_cons (pm_var 1) (pl_cons (pm_lst (pl_cons pm_int (pl_cons pm_int (pl_cons pm_int (pl_cons pm_int (pl_cons pm_int (pl_cons pm_int (pl_cons pm_int (pl_cons (pm_callP H__law_ten (Nat.le_of_ble_eq_true rfl) (fun _ => rfl) (pl_cons pm_int pl_nil)) pl_nil))))))))) pl_nil))))
  (qs_cons (q_set (i := 4) (pm_tuple (fun _ => rfl) T.b_tuple (pl_cons (pm_lc (own := [("k", 11)]) (qi_range1 (fun _ => rfl) T.b_range (pl_cons (pm_add pm_int (pm_call H__law_draw (Nat.le_of_ble_eq_true rfl) (fun _ => rfl) (pl_cons (pm_var 1) (pl_cons pm_int pl_nil)))) pl_nil)) (fun _ => blkOk_by (own := [("k", 11)]) (N := N_law) (sc := defScope s_law) (by decide +kernel)) (qg_name (i := 11)) qt_nil (pm_sub (pm_call H__law_draw (Nat.le_of_ble_eq_true rfl) (fun _ => rfl) (pl_cons (pm_var 1) (pl_cons (pm_add (pm_mul pm_int (pm_var 3)) pm_int) pl_nil))) (pm_var 3))) pl_nil)))
  (qs_cons (q_set (i := 5) (pm_add pm_int (pm_call H__law_draw (Nat.le_of_ble_eq_true rfl) (fun _ => rfl) (pl_cons (pm_var 1) (pl_cons pm_int pl_nil)))))
  (qs_cons (q_set (i := 6) (pm_callP H__law_fine (Nat.le_of_ble_eq_true rfl) (fun _ => rfl) (pl_cons (pm_var 4) (pl_cons (pm_var 5) pl_nil))))
  (qs_cons (q_set (i := 7) (pm_callP H_fine_start (Nat.le_of_ble_eq_true rfl) (fun _ => rfl) (pl_cons (pm_var 4) (pl_cons (pm_var 5) pl_nil))))
  (qs_cons (q_if (pb_not (pb_tru (pm_callP H__law_same (Nat.le_of_ble_eq_true rfl) (fun _ => rfl) (pl_cons (pm_tup (pl_cons (pm_var 7) (pl_cons (pm_callPK (ks := ["m", "prints"]) (is := [1, 0]) H_fine_start (Nat.le_of_ble_eq_true rfl) (fun _ => rfl) (pk1 (pm_var 5) (pk1 (pm_var 4) pk0)) (fun _ _ _ _ _ _ ws hl => match ws, hl with | [_, _], _ => rfl)) pl_nil))) (pl_cons (pm_tup (pl_cons (pm_var 6) (pl_cons (pm_var 6) pl_nil))) pl_nil)))))
  (qs_one (q_ret pm_bl))
  qs_nil)
  (qs_cons (q_par2 (i := 9) (j := 10) (fun _ => rfl) (fun _ => rfl) (by decide) (fun _ => rfl) (fun _ => rfl) (pl_cons (pm_tup (pl_cons (pm_var 7) (pl_cons (pm_mul (pm_tup (pl_cons (pm_tup (pl_cons pm_int (pl_cons pm_int pl_nil))) pl_nil)) (pm_len (fun _ => rfl) T.b_len (pl_cons (pm_var 7) pl_nil))) pl_nil))) (pl_cons (pm_mul (pm_tup (pl_cons (pm_tup (pl_cons pm_int (pl_cons pm_int pl_nil))) pl_nil)) (pm_len (fun _ => rfl) T.b_len (pl_cons (pm_var 7) pl_nil))) pl_nil)) (fun _ => rfl))
  (qs_cons (q_for (qi_range1 (fun _ => rfl) T.b_range (pl_cons (pm_len (fun _ => rfl) T.b_len (pl_cons (pm_var 4) pl_nil)) pl_nil)) (qg_name (i := 8))
  (qs_one (q_if (pb_cp cr_ne (pm_callP H__law_line (Nat.le_of_ble_eq_true rfl) (fun _ => rfl) (pl_cons (pm_var 9) (pl_cons (pm_var 10) (pl_cons (pm_mul (pm_var 8) (pm_var 5)) pl_nil)))) (pm_tup (pl_cons (pm_ix (pm_var 4) (pm_var 8)) (pl_cons pm_int pl_nil))))
  (qs_one (q_ret pm_bl))
  qs_nil)) (fun _ => PassesOwn.never))
  (qs_cons (q_set (i := 8) (pm_sub (pm_call H__law_draw (Nat.le_of_ble_eq_true rfl) (fun _ => rfl) (pl_cons (pm_var 1) (pl_cons pm_int pl_nil))) pm_int))
  (qs_one (q_if (pb_not (pb_tru (pm_callP H__law_same (Nat.le_of_ble_eq_true rfl) (fun _ => rfl) (pl_cons (pm_callP H_line (Nat.le_of_ble_eq_true rfl) (fun _ => rfl) (pl_cons (pm_var 9) (pl_cons (pm_var 10) (pl_cons (pm_var 8) pl_nil)))) (pl_cons (pm_callP H__law_at (Nat.le_of_ble_eq_true rfl) (fun _ => rfl) (pl_cons (pm_var 4) (pl_cons (pm_callP H__law_fr (Nat.le_of_ble_eq_true rfl) (fun _ => rfl) (pl_cons (pm_var 8) (pl_cons (pm_var 5) pl_nil))) pl_nil))) pl_nil)))))
  (qs_one (q_ret pm_bl))
  qs_nil))))))))))) (fun _ => PassesOwn.never))
  (qs_one (q_ret pm_bl))))
end
/-- what the top has left gives the text's facts, then the law's promise -/
theorem law_at {P : Program} {w : World} {K : PySem.W.Frag} {mg : Str → Option Value} {fa : Addr} (base0 : Heap) (T : ∀ base, Txt P w K mg base) (hfa : mg "law" = some (.ref fa)) :
    ∃ fd : FuncData, (∀ (s : Shared) (u : Value), BindsTo s fd ⟨[u], []⟩ [("script", u)]) ∧ ∀ base : Heap, K.In base → base.Ns mainGlobals mg → FnOk P w K mg base CX0 8 fa fd ["script"] (spM K F_law) := by
  have key : ∀ base, Has P w K mg base "law" s_law 8 ["script"] F_law := fun base => ok_law (T base)
  obtain ⟨a0, fd0, g0, f0⟩ := (T base0).d_law
  have e0 : a0 = fa := by
    have := g0.symm.trans hfa
    cases this; rfl
  subst e0
  refine ⟨fd0, fun s u => ?_, fun base _ _ => ?_⟩
  · obtain ⟨oc, od, kV, doc, pm, an, cdv, ct, osl, rfl, lk, hcd⟩ := f0.ex
    exact .of_eq rfl
  · obtain ⟨a, fd, g, f, b, h⟩ := key base
    have e1 : a = a0 := by
      have := g.symm.trans g0
      cases this; rfl
    subst e1
    obtain ⟨oc, od, kV, doc, pm, an, cdv, ct, osl, rfl, lk, hcd⟩ := f.ex
    obtain ⟨oc', od', kV', doc', pm', an', cdv', ct', osl', rfl, lk', hcd'⟩ := f0.ex
    rw [lk] at lk'
    cases lk'
    exact h
end K89

namespace K89
open PySem PySem.Spec PyProof.Rows L2 Lf
local macro_rules | `(tactic| walk_at "EV") => `(tactic| simp [runBody, runF, mSeq, mRet, mAsg, mCallP, mCons, mNil, mBin, mIdx, mVar, mC, mTup, mCB, mUn, mIfS, mBool, mPar2, mPar3, mSkip, mTru, truD, mNot, mAnd, mOr, mAndV, mAsgG, gtTup, gtCons, gtNil, gtName, mAug, mDrop, fIdx_tup, fIdx_lst, fIdx_frz, atI0, atI1, fMul_ii, fAdd_ii, fSub_ii, fDiv_ii, fMod_ii, fLt_ii, fLe_ii, fGt_ii, fGe_ii, fEq_ii, fNe_ii, fNeg_i, belowDs, belowD, fin0, fin00, szOk, *])
theorem frac_ev (a : Int) {b : Int} (hb : 0 < b) (h : divOk b = true) : F_frac [.int a, .int b] Sto.none = some (q2 (mkRat a b.toNat), Sto.none) := by
  have hg : 0 < (Nat.gcd a.natAbs b.natAbs : Nat) := Nat.gcd_pos_of_pos_right _ (by omega)
  have hle : ((Nat.gcd a.natAbs b.natAbs : Nat) : Int) ≤ b := by
    have := Nat.gcd_le_right (m := a.natAbs) (n := b.natAbs) (by omega)
    omega
  have hd := divOk_le (by omega) hle h
  have hn : ¬ b < 0 := by omega
  have e1 : a / ((Nat.gcd a.natAbs b.natAbs : Nat) : Int) = (mkRat a b.toNat).num := by
    rw [Rat.num_mkRat, if_neg (by omega), Nat.gcd_comm]
    have : b.natAbs = b.toNat := by omega
    rw [this]
  have e2 : b / ((Nat.gcd a.natAbs b.natAbs : Nat) : Int) = ((mkRat a b.toNat).den : Int) := by
    rw [Rat.den_mkRat, if_neg (by omega), Nat.gcd_comm]
    have : b.natAbs = b.toNat := by omega
    rw [this]
    have e3 : b = ((b.toNat : Nat) : Int) := by omega
    generalize b.toNat = c at *
    subst e3
    rfl
  unfold F_frac M_frac
  simp [runBody, mSeq, mAsg, mCB, mCons, mNil, mVar, mIfS, mBool, mBin, fLt_ii, mC, hn, mSkip, mRet, mTup, bGcd, fDiv_ii, hd, szOk, q2, e1, e2, fin00, belowD, belowDs]
theorem plus_ev {p q : Rat} (hp : Sz p) (hq : Sz q) : F_plus [q2 p, q2 q] Sto.none = some (q2 (p + q), Sto.none) := by
  have h1 := hp.mul2 hq
  have h2 := hq.mul2 hp
  have h3 := hp.mul3 hq
  have h4 := frac_ev (p.num * q.den + q.num * p.den) (by have h1 := p.den_pos; have h2 := q.den_pos; have : 0 < p.den * q.den := Nat.mul_pos h1 h2; omega) (hp.div hq)
  rw [show ((p.den : Int) * (q.den : Int)).toNat = p.den * q.den from rfl, ← Rat.add_def'] at h4
  unfold F_plus M_plus
  have hb := below_q2 0 (p + q)
  unfold q2 at h4 hb ⊢
  walk_at "EV"
theorem times_ev {p q : Rat} (hp : Sz p) (hq : Sz q) : F_times [q2 p, q2 q] Sto.none = some (q2 (p * q), Sto.none) := by
  have h1 := hp.mul1 hq
  have h3 := hp.mul3 hq
  have h4 := frac_ev (p.num * q.num) (by have h1 := p.den_pos; have h2 := q.den_pos; have : 0 < p.den * q.den := Nat.mul_pos h1 h2; omega) (hp.div hq)
  rw [show ((p.den : Int) * (q.den : Int)).toNat = p.den * q.den from rfl, ← Rat.mul_def'] at h4
  unfold F_times M_times
  have hb := below_q2 0 (p * q)
  unfold q2 at h4 hb ⊢
  walk_at "EV"
theorem whole_ev (a : Int) : F_whole [.int a] Sto.none = some (q2 (a : Rat), Sto.none) := rfl
theorem turned_ev (q : Rat) : F_turned [q2 q] Sto.none = some (q2 (-q), Sto.none) := rfl
theorem mkRat_add (a : Int) {b : Nat} (hb : 0 < b) (q : Rat) : mkRat (a * q.den + q.num * b) (b * q.den) = mkRat a b + q := by
  conv => rhs; rw [← Rat.mkRat_self q]
  rw [Rat.mkRat_add_mkRat _ _ (by omega) q.den_nz]
theorem above_lt {a : Int} {b : Nat} {S : Rat} (hb : 0 < b) (h : mkRat a b = S) (hS : Sz S) (hb2 : b < 2 ^ 2000) : a.natAbs < 2 ^ 4000 := by
  have h2 : mkRat a b = mkRat S.num S.den := by rw [h, Rat.mkRat_self]
  have h3 := (Rat.mkRat_eq_iff (by omega) S.den_nz).mp h2
  have h4 : a.natAbs * S.den = S.num.natAbs * b := by
    have := congrArg Int.natAbs h3
    rwa [Int.natAbs_mul, Int.natAbs_mul, Int.natAbs_natCast, Int.natAbs_natCast] at this
  have h5 : a.natAbs ≤ a.natAbs * S.den := Nat.le_mul_of_pos_right _ S.den_pos
  have h6 : S.num.natAbs * b < 2 ^ 2000 * 2 ^ 2000 := Nat.mul_lt_mul'' hS.n hb2
  rw [← Nat.pow_add] at h6
  exact Nat.lt_of_le_of_lt (h4 ▸ h5) h6
theorem total_of_ev (qs : List Rat) (h1 : ∀ q ∈ qs, Sz q) (h2 : ∀ i, i ≤ qs.length → Sz (qs.take i).sum) (rows : D) (hr : rowOf rows = some (qs.map q2)) : F_total_of [rows] Sto.none = some (q2 qs.sum, Sto.none) := by
  have hloop : ∃ ρ' G', forL (gtName 3)
      (mSeq (mPar2 1 2 (mCons (mBin fAdd (mBin fMul (mVar 1) (mIdx (mVar 3) (mC (.int 1)))) (mBin fMul (mIdx (mVar 3) (mC (.int 0))) (mVar 2))) (mCons (mBin fMul (mVar 2) (mIdx (mVar 3) (mC (.int 1)))) mNil)))
      (mIfS (mBool (mBin fGt (mVar 2) (mBin fShl (mC (.int 1)) (mC (.int 400)))))
      (mAsgG (gtTup 2 (gtCons (gtName 1) (gtCons (gtName 2) gtNil))) (mCallP F_frac (mCons (mVar 1) (mCons (mVar 2) mNil))))
      mSkip)) (qs.map q2) [some rows, some (.int 0), some (.int 1), none] Sto.none = some (.nx, ρ', G') ∧
      (G' = Sto.none ∧ ∃ (a : Int) (b : Nat) (x : Option D), ρ' = [some rows, some (.int a), some (.int b), x] ∧ 0 < b ∧ b < 2 ^ 2000 ∧ mkRat a b = (qs.take (qs.map q2).length).sum) := by
    refine forL_run (fun i ρ G => G = Sto.none ∧ ∃ (a : Int) (b : Nat) (x : Option D), ρ = [some rows, some (.int a), some (.int b), x] ∧ 0 < b ∧ b < 2 ^ 2000 ∧ mkRat a b = (qs.take i).sum) ⟨rfl, 0, 1, none, rfl, by omega, by decide +kernel, by simp⟩ ?_
    rintro i d ρ G hd ⟨rfl, a, b, x, rfl, hb, hb2, hs⟩
    rw [List.getElem?_map] at hd
    obtain ⟨q, hq, rfl⟩ := Option.map_eq_some_iff.mp hd
    have hi : i < qs.length := (List.getElem?_eq_some_iff.mp hq).1
    have hqm := h1 q (List.mem_of_getElem? hq)
    have hS := h2 i (by omega)
    have hS' := h2 (i + 1) (by omega)
    have ha := above_lt hb hs hS hb2
    have m1 : mulOk a q.den = true := mulOk_of ha (by rw [Int.natAbs_natCast]; exact hqm.d) (by omega)
    have m2 : mulOk q.num b = true := mulOk_of hqm.n (by rw [Int.natAbs_natCast]; exact hb2) (by omega)
    have m3 : mulOk b q.den = true := mulOk_of (by rw [Int.natAbs_natCast]; exact hb2) (by rw [Int.natAbs_natCast]; exact hqm.d) (by omega)
    have es : mkRat (a * q.den + q.num * b) (b * q.den) = (qs.take (i + 1)).sum := by
      rw [mkRat_add a hb q, hs, List.take_add_one, hq]
      simp [Rat.add_zero]
    have hpos : 0 < b * q.den := Nat.mul_pos hb q.den_pos
    have hlt : b * q.den < 2 ^ 4000 := by
      rw [show (4000 : Nat) = 2000 + 2000 from rfl, Nat.pow_add]
      exact Nat.mul_lt_mul'' hb2 hqm.d
    have hdv : divOk ((b * q.den : Nat) : Int) = true := divOk_of (n := 4000) (by omega) (by rw [Int.natAbs_natCast]; exact hlt) (by omega)
    have hfr := frac_ev (a * q.den + q.num * b) (b := ((b * q.den : Nat) : Int)) (by omega) hdv
    rw [Int.toNat_natCast, es] at hfr
    have hsh : fShl (.int 1) (.int 400) = some (.int ((2 ^ 400 : Nat) : Int)) := rfl
    have hbm : (b : Int) * (q.den : Int) = ((b * q.den : Nat) : Int) := by rw [Int.natCast_mul]
    by_cases hbig : ((2 ^ 400 : Nat) : Int) < ((b * q.den : Nat) : Int)
    · refine ⟨_, [some rows, some (.int (qs.take (i + 1)).sum.num), some (.int (qs.take (i + 1)).sum.den), some (q2 q)], Sto.none, rfl, ?_, rfl, _, _, _, rfl, (qs.take (i + 1)).sum.den_pos, hS'.d, Rat.mkRat_self _⟩
      unfold q2 at hfr ⊢
      simp only [hsh, mSeq, mPar2, mCons, mNil, mBin, mVar, mIdx, mC, List.set_cons_zero, List.set_cons_succ, List.getElem?_cons_zero, List.getElem?_cons_succ, Option.bind_some, fIdx_tup, atI0, atI1, fMul_ii m1, fMul_ii m2, fMul_ii m3, fAdd_ii, mIfS, mBool, fGt_ii, hbm, decide_eq_true hbig, if_true, mAsgG, mCallP, belowDs, belowD, Bool.and_true, hfr, gtTup, gtCons, gtNil, gtName]
      simp
    · refine ⟨_, [some rows, some (.int (a * q.den + q.num * b)), some (.int ((b * q.den : Nat) : Int)), some (q2 q)], Sto.none, rfl, ?_, rfl, _, _, _, rfl, hpos, ?_, es⟩
      · unfold q2
        simp only [hsh, mSeq, mPar2, mCons, mNil, mBin, mVar, mIdx, mC, List.set_cons_zero, List.set_cons_succ, List.getElem?_cons_zero, List.getElem?_cons_succ, Option.bind_some, fIdx_tup, atI0, atI1, fMul_ii m1, fMul_ii m2, fMul_ii m3, fAdd_ii, mIfS, mBool, fGt_ii, hbm, decide_eq_false hbig, mSkip]
        simp
      · have : b * q.den ≤ 2 ^ 400 := by omega
        exact Nat.lt_of_le_of_lt this (Nat.pow_lt_pow_right (by omega) (by omega))
  obtain ⟨ρ', G', e, rfl, a, b, x, rfl, hb, hb2, hs⟩ := hloop
  rw [List.length_map, List.take_length] at hs
  have hdv : divOk (b : Int) = true := divOk_of (n := 2000) (by omega) (by rw [Int.natAbs_natCast]; exact hb2) (by omega)
  have hfr := frac_ev a (b := (b : Int)) (by omega) hdv
  rw [Int.toNat_natCast, hs] at hfr
  unfold F_total_of
  refine run_body (G' := Sto.none) (ρ' := [some rows, some (.int a), some (.int b), x]) rfl ?_ (below_q2 0 _)
  unfold M_total_of
  refine seq_run (ρ1 := [some rows, some (.int 0), some (.int 1), none]) (G1 := Sto.none) rfl ?_
  refine seq_run (for_run (items := qs.map q2) (G1 := Sto.none) ?_ e) ?_
  · unfold mRow
    show (rowOf rows).bind _ = _
    rw [hr]
    rfl
  · refine ret_run (callP (ds := [.int a, .int b]) rfl rfl hfr (below_q2 0 _))
theorem take_zip_sum {ps qs : List Rat} (hl : ps.length = qs.length) : (List.zipWith (· * ·) ps qs).length = ps.length := by rw [List.length_zipWith, hl, Nat.min_self]
theorem product_sum_ev (ps qs : List Rat) (hl : ps.length = qs.length) (hn : ps.length ≤ 1000) (h1 : ∀ q ∈ ps, Sz q) (h2 : ∀ q ∈ qs, Sz q) (h3 : ∀ q ∈ List.zipWith (· * ·) ps qs, Sz q) (h4 : ∀ i, i ≤ ps.length → Sz ((List.zipWith (· * ·) ps qs).take i).sum)
    (a b : D) (ha : ∀ G, seqOf G a = some (ps.map q2)) (hb : ∀ G, seqOf G b = some (qs.map q2)) (ba : belowD 0 a = true) (bb : belowD 0 b = true) (ia : ∀ G i, fIdx G a (.int i) = L2.atI (ps.map q2) i) (ib : ∀ G i, fIdx G b (.int i) = L2.atI (qs.map q2) i) :
    F_product_sum [a, b] Sto.none = some (q2 (List.zipWith (· * ·) ps qs).sum, Sto.none) := by
  have hlz := take_zip_sum hl
  have hbl : bLen Sto.none [a] = some (.int (ps.length : Nat)) := by
    have e := bLen_of (ha Sto.none)
    rwa [List.length_map] at e
  have hlc : mLc (mRange1 (mCons (mCB bLen (mCons (mVar 0) mNil)) mNil)) (gtName 2) mYes (mCallP F_times (mCons (mIdx (mVar 0) (mVar 2)) (mCons (mIdx (mVar 1) (mVar 2)) mNil))) [2] [some a, some b, none] Sto.none = some (.lst ((List.zipWith (· * ·) ps qs).map q2), Sto.none) := by
    refine mLc_range (n := ps.length) (lo := 0) (range1_run ?_ (by omega)) (by rw [List.length_map, hlz]) (fun k o hk ho => ?_) (by omega)
    · simp [mCons, mCB, mVar, mNil, hbl]
    · rw [List.getElem?_map] at ho
      obtain ⟨z, hz, rfl⟩ := Option.map_eq_some_iff.mp ho
      rw [List.getElem?_zipWith] at hz
      have hk2 : k < qs.length := by omega
      rw [List.getElem?_eq_getElem hk, List.getElem?_eq_getElem hk2] at hz
      cases hz
      have i1 : L2.atI (ps.map q2) (k : Int) = some (q2 ps[k]) := map_at (List.getElem?_eq_getElem hk)
      have i2 : L2.atI (qs.map q2) (k : Int) = some (q2 qs[k]) := map_at (List.getElem?_eq_getElem hk2)
      refine callP (ds := [q2 ps[k], q2 qs[k]]) ?_ rfl (times_ev (h1 _ (List.getElem_mem hk)) (h2 _ (List.getElem_mem hk2))) (below_q2 0 _)
      simp [mCons, mNil, mIdx, mVar, wipeD, ia, ib, i1, i2]
  unfold F_product_sum
  refine run_body (ρ' := [some a, some b, none]) (G' := Sto.none) rfl ?_ (below_q2 0 _)
  unfold M_product_sum
  refine ret_run (callP (ds := [.lst ((List.zipWith (· * ·) ps qs).map q2)]) ?_ ?_ (total_of_ev _ h3 (fun i hi => h4 i (by rw [hlz] at hi; exact hi)) _ rfl) (below_q2 0 _))
  · simp only [mCons, mNil]
    rw [show ([a, b].map some ++ List.replicate (3 - 2) none : Evn) = [some a, some b, none] from rfl, hlc]
    rfl
  · show (belowDs 0 _ && true) = true
    rw [belowDs_q2]
    rfl
/-- Euclid's turns -/
theorem euclid : ∀ (k n : Nat) (a b : Nat), b < 2 ^ k → 2 * k + 1 < n →
    ∃ ρ' , whileN (mBool (mBin fNe (mVar 1) (mC (.int 0)))) (mPar2 0 1 (mCons (mVar 1) (mCons (mBin fMod (mCB bInt (mCons (mVar 0) mNil)) (mVar 1)) mNil))) n [some (.int (a : Int)), some (.int (b : Int))] Sto.none = some (.nx, ρ', Sto.none) ∧ ∃ y, ρ' = [some (.int ((Nat.gcd a b : Nat) : Int)), y] := by
  have turn : ∀ (n a b : Nat), 0 < b → whileN (mBool (mBin fNe (mVar 1) (mC (.int 0)))) (mPar2 0 1 (mCons (mVar 1) (mCons (mBin fMod (mCB bInt (mCons (mVar 0) mNil)) (mVar 1)) mNil))) (n + 1) [some (.int (a : Int)), some (.int (b : Int))] Sto.none =
      whileN (mBool (mBin fNe (mVar 1) (mC (.int 0)))) (mPar2 0 1 (mCons (mVar 1) (mCons (mBin fMod (mCB bInt (mCons (mVar 0) mNil)) (mVar 1)) mNil))) n [some (.int (b : Int)), some (.int ((a % b : Nat) : Int))] Sto.none := by
    intro n a b hb
    have h1 : ((b : Int) == 0) = false := by rw [beq_eq_false_iff_ne]; omega
    have h2 : (0 : Int) < (b : Int) := by omega
    conv => lhs; unfold whileN
    simp only [mBool, mBin, mVar, mC, List.getElem?_cons_zero, List.getElem?_cons_succ, Option.bind_some, fNe_ii, h1, Bool.not_false, if_true, mPar2, mCons, mNil, mCB, bInt, fMod_ii h2, List.set_cons_zero, List.set_cons_succ]
    rw [Int.natCast_emod]
  have stop : ∀ (n a : Nat), whileN (mBool (mBin fNe (mVar 1) (mC (.int 0)))) (mPar2 0 1 (mCons (mVar 1) (mCons (mBin fMod (mCB bInt (mCons (mVar 0) mNil)) (mVar 1)) mNil))) (n + 1) [some (.int (a : Int)), some (.int ((0 : Nat) : Int))] Sto.none = some (.nx, [some (.int (a : Int)), some (.int ((0 : Nat) : Int))], Sto.none) := by
    intro n a
    rfl
  intro k
  induction k with
  | zero =>
    intro n a b hb hn
    have : b = 0 := by simpa using hb
    subst this
    obtain ⟨m, rfl⟩ : ∃ m, n = m + 1 := ⟨n - 1, by omega⟩
    exact ⟨_, stop m a, _, by rw [Nat.gcd_zero_right]⟩
  | succ k ih =>
    intro n a b hb hn
    obtain ⟨m, rfl⟩ : ∃ m, n = m + 1 + 1 := ⟨n - 2, by omega⟩
    by_cases h0 : b = 0
    · subst h0
      exact ⟨_, stop _ a, _, by rw [Nat.gcd_zero_right]⟩
    · rw [turn (m + 1) a b (by omega)]
      by_cases h1 : a % b = 0
      · rw [h1]
        refine ⟨_, stop m b, some (.int ((0 : Nat) : Int)), ?_⟩
        rw [Nat.gcd_comm, Nat.gcd_rec, h1, Nat.gcd_zero_left]
      · rw [turn m b (a % b) (by omega)]
        have hlt : b % (a % b) < 2 ^ k := by
          have h2 : a % b < b := Nat.mod_lt _ (by omega)
          have h3 : b % (a % b) < a % b := Nat.mod_lt _ (by omega)
          have h4 : b % (a % b) ≤ b - a % b := by
            have h5 := Nat.mod_add_div b (a % b)
            have h6 : 1 ≤ b / (a % b) := (Nat.one_le_div_iff (by omega)).mpr (by omega)
            have h7 : (a % b) * 1 ≤ (a % b) * (b / (a % b)) := Nat.mul_le_mul_left _ h6
            omega
          have h8 : 2 ^ (k + 1) = 2 * 2 ^ k := by rw [Nat.pow_succ]; omega
          omega
        obtain ⟨ρ', e, y, ey⟩ := ih m (a % b) (b % (a % b)) hlt (by omega)
        refine ⟨ρ', e, y, ?_⟩
        rw [ey]
        have : Nat.gcd (a % b) (b % (a % b)) = Nat.gcd a b := by
          rw [Nat.gcd_comm (a % b) (b % (a % b)), ← Nat.gcd_rec, Nat.gcd_comm a b, Nat.gcd_rec b a]
        rw [this]
theorem lgcd_ev (a b : Int) (hb : b.natAbs < 2 ^ 100000) : F__law_gcd [.int a, .int b] Sto.none = some (.int ((Nat.gcd a.natAbs b.natAbs : Nat) : Int), Sto.none) := by
  have abs : ∀ i : Int, (if i < 0 then -i else i) = ((i.natAbs : Nat) : Int) := fun i => by split <;> omega
  obtain ⟨ρ', e, y, rfl⟩ := euclid 100000 fuel a.natAbs b.natAbs hb (by unfold fuel; omega)
  unfold F__law_gcd
  refine run_body (ρ' := [some (.int ((Nat.gcd a.natAbs b.natAbs : Nat) : Int)), y]) (G' := Sto.none) rfl ?_ rfl
  unfold M__law_gcd
  refine seq_run (ρ1 := [some (.int ((a.natAbs : Nat) : Int)), some (.int ((b.natAbs : Nat) : Int))]) (G1 := Sto.none) ?_ (seq_run e rfl)
  simp [mPar2, mCons, mNil, mCB, mVar, bAbs, abs]
theorem lfr_ev (a : Int) {b : Int} (hb : 0 < b) (h : divOk b = true) : F__law_fr [.int a, .int b] Sto.none = some (q2 (mkRat a b.toNat), Sto.none) := by
  have hg : 0 < (Nat.gcd a.natAbs b.natAbs : Nat) := Nat.gcd_pos_of_pos_right _ (by omega)
  have hle : ((Nat.gcd a.natAbs b.natAbs : Nat) : Int) ≤ b := by
    have := Nat.gcd_le_right (m := a.natAbs) (n := b.natAbs) (by omega)
    omega
  have hd := divOk_le (by omega) hle h
  have hbl : b.natAbs < 2 ^ 100000 := by
    unfold divOk at h
    rw [Bool.and_eq_true] at h
    have h1 : b.natAbs.log2 < 9000 := of_decide_eq_true h.2
    have h2 := (Nat.log2_lt (show b.natAbs ≠ 0 by omega)).mp h1
    exact Nat.lt_of_lt_of_le h2 (Nat.pow_le_pow_right (by omega) (by omega))
  have e1 : a / ((Nat.gcd a.natAbs b.natAbs : Nat) : Int) = (mkRat a b.toNat).num := by
    rw [Rat.num_mkRat, if_neg (by omega), Nat.gcd_comm]
    have : b.natAbs = b.toNat := by omega
    rw [this]
  have e2 : b / ((Nat.gcd a.natAbs b.natAbs : Nat) : Int) = ((mkRat a b.toNat).den : Int) := by
    rw [Rat.den_mkRat, if_neg (by omega), Nat.gcd_comm]
    have : b.natAbs = b.toNat := by omega
    rw [this]
    have e3 : b = ((b.toNat : Nat) : Int) := by omega
    generalize b.toNat = c at *
    subst e3
    rfl
  have hc := lgcd_ev a b hbl
  unfold F__law_fr M__law_fr
  simp [runBody, mSeq, mAsg, mCallP, hc, mCons, mNil, mVar, mBin, mRet, mTup, fDiv_ii, hd, szOk, q2, e1, e2, fin00, belowD, belowDs]
theorem lplus_ev {p q : Rat} (hp : Sz p) (hq : Sz q) : F__law_plus [q2 p, q2 q] Sto.none = some (q2 (p + q), Sto.none) := by
  have h1 := hp.mul2 hq
  have h2 := hq.mul2 hp
  have h3 := hp.mul3 hq
  have h4 := lfr_ev (p.num * q.den + q.num * p.den) (by have h1 := p.den_pos; have h2 := q.den_pos; have : 0 < p.den * q.den := Nat.mul_pos h1 h2; omega) (hp.div hq)
  rw [show ((p.den : Int) * (q.den : Int)).toNat = p.den * q.den from rfl, ← Rat.add_def'] at h4
  unfold F__law_plus M__law_plus
  have hb := below_q2 0 (p + q)
  unfold q2 at h4 hb ⊢
  walk_at "EV"
theorem ltimes_ev {p q : Rat} (hp : Sz p) (hq : Sz q) : F__law_times [q2 p, q2 q] Sto.none = some (q2 (p * q), Sto.none) := by
  have h1 := hp.mul1 hq
  have h3 := hp.mul3 hq
  have h4 := lfr_ev (p.num * q.num) (by have h1 := p.den_pos; have h2 := q.den_pos; have : 0 < p.den * q.den := Nat.mul_pos h1 h2; omega) (hp.div hq)
  rw [show ((p.den : Int) * (q.den : Int)).toNat = p.den * q.den from rfl, ← Rat.mul_def'] at h4
  unfold F__law_times M__law_times
  have hb := below_q2 0 (p * q)
  unfold q2 at h4 hb ⊢
  walk_at "EV"
theorem lminus_ev {p q : Rat} (hp : Sz p) (hq : Sz q) : F__law_minus [q2 p, q2 q] Sto.none = some (q2 (p - q), Sto.none) := by
  have h := lplus_ev hp hq.neg
  rw [← Rat.sub_eq_add_neg] at h
  unfold F__law_minus
  refine run_body (ρ' := [some (q2 p), some (q2 q)]) (G' := Sto.none) rfl ?_ (below_q2 0 _)
  unfold M__law_minus
  exact ret_run (callP (ds := [q2 p, q2 (-q)]) rfl rfl h (below_q2 0 _))
end K89

namespace K89
open PySem PySem.Spec PyProof.Rows L2 Lf
/-! ### the bag of draws: at b; its great cells at g; n draws may come -/
structure Bag (cs : List Cell) (b g n : Nat) : Prop where
  ex : ∃ (x0 x1 : Int) (cells : List Int), cs[b]? = some (.lst [.int x0, .int x1, .loc g, .lst (cells.map .int)]) ∧ 0 ≤ x0 ∧ 0 ≤ x1 ∧ x1 + n < 2 ^ 64 ∧ cells ≠ [] ∧ cells.length ≤ 1000 ∧ ∀ c ∈ cells, 0 ≤ c ∧ c < 2147483647
  gr : ∃ great : List Int, cs[g]? = some (.lst (great.map .int)) ∧ (∀ z ∈ great, 0 ≤ z) ∧ great.length ≤ 1000
  ne : g ≠ b
  wf : ∀ c ∈ cs, belowC cs.length c = true
theorem Bag.mono {cs : List Cell} {b g n m : Nat} (h : Bag cs b g n) (hm : m ≤ n) : Bag cs b g m := by
  obtain ⟨⟨x0, x1, cells, h1, h2, h3, h4, h5⟩, h6, h7, h8⟩ := h
  exact ⟨⟨x0, x1, cells, h1, h2, h3, by omega, h5⟩, h6, h7, h8⟩
theorem get_at {ρ : Evn} {G : Sto} {b : Nat} {ds : List D} {k : Int} {d : D} (h0 : ρ[0]? = some (some (.loc b))) (h : G.cs[b]? = some (.lst ds)) (hk : L2.atI ds k = some d) : mIdx (mVar 0) (mC (.int k)) ρ G = some (d, G) := by
  unfold mIdx mVar mC
  rw [h0]
  show ((seqOf G (.loc b)).bind fun ds => L2.atI ds k).bind _ = _
  rw [seqOf_at h]
  show (L2.atI ds k).bind _ = _
  rw [hk]
  rfl
theorem set_at {ρ : Evn} {G G1 : Sto} {b j : Nat} {ds : List D} {k : Int} {d : D} {e : M D} (h0 : ρ[0]? = some (some (.loc b))) (he : e ρ G = some (d, G1)) (h : G1.cs[b]? = some (.lst ds)) (hk : L2.ixN ds.length k = some j) : mSetI (mVar 0) (mC (.int k)) e ρ G = some (.nx, ρ, G1.set b (.lst (ds.set j d))) := by
  unfold mSetI mVar mC
  rw [he]
  show ((match ρ[0]? with | some (some d) => some (d, G1) | _ => none).bind _) = _
  rw [h0]
  show ((cellL G1 (.loc b)).bind _) = _
  rw [cellL_at h]
  show ((L2.ixN ds.length k).bind _) = _
  rw [hk]
  rfl
theorem belowC_ints (n : Nat) (xs : List Int) : belowC n (.lst (xs.map .int)) = true := belowDs_ints n xs
theorem mem_set_wf {cs : List Cell} {b : Nat} {c0 : Cell} (h : ∀ c ∈ cs, belowC cs.length c = true) (h0 : belowC cs.length c0 = true) : ∀ c ∈ cs.set b c0, belowC (cs.set b c0).length c = true := fun c hc => by
  rw [List.length_set]
  rcases List.mem_or_eq_of_mem_set hc with hc | hc
  · exact h c hc
  · rw [hc]; exact h0
/-- a draw: what comes back, and what becomes of the cells -/
theorem draw_ev {cs : List Cell} {b g n k : Nat} {many : Int} (B : Bag cs b g (n + 1)) (h0 : 0 < many) (hm : divOk many = true) :
    ∃ (r : Int) (cs' : List Cell), F__law_draw [.loc b, .int many] ⟨k, cs⟩ = some (.int r, ⟨k, cs'⟩) ∧ 0 ≤ r ∧ r < many ∧ Bag cs' b g n ∧ cs'.length = cs.length ∧ ∀ j, j ≠ b → j ≠ g → cs'[j]? = cs[j]? := by
  obtain ⟨⟨x0, x1, cells, hb, hx0, hx1, hn, hc0, hcl, hcs⟩, ⟨great, hg, hgr, hgl⟩, hne, hwf⟩ := B
  have hbl : b < cs.length := (List.getElem?_eq_some_iff.mp hb).1
  have hgl2 : g < cs.length := (List.getElem?_eq_some_iff.mp hg).1
  have cl : ∀ (y0 y1 : Int), belowC cs.length (.lst [.int y0, .int y1, .loc g, .lst (cells.map .int)]) = true := fun y0 y1 => by
    show (true && (true && (decide (g < cs.length) && (belowDs cs.length (cells.map .int) && true)))) = true
    rw [belowDs_ints, decide_eq_true hgl2]; rfl
  -- the count
  have e1 : mSetI (mVar 0) (mC (.int 1)) (mBin fAdd (mIdx (mVar 0) (mC (.int 1))) (mC (.int 1))) [some (.loc b), some (.int many), none, none, none] ⟨cs.length, cs⟩ = some (.nx, [some (.loc b), some (.int many), none, none, none], ⟨cs.length, cs.set b (.lst [.int x0, .int (x1 + 1), .loc g, .lst (cells.map .int)])⟩) := by
    refine set_at (j := 1) (ds := [.int x0, .int x1, .loc g, .lst (cells.map .int)]) (G1 := ⟨cs.length, cs⟩) rfl ?_ hb rfl
    unfold mBin
    rw [get_at rfl hb rfl]
    rfl
  -- the first figure of a great one
  obtain ⟨y0, cs2, e2, hy0, hb2, hg2, hl2, hj2, hw2⟩ : ∃ (y0 : Int) (cs2 : List Cell), mIfS (mAnd (mBool (mBin fEq (mIdx (mVar 0) (mC (.int 0))) (mC (.int 0)))) (mBool (mBin fGt (mCB bLen (mCons (mIdx (mVar 0) (mC (.int 2))) mNil)) (mC (.int 0)))))
      (mSetI (mVar 0) (mC (.int 0)) (mPop (mIdx (mVar 0) (mC (.int 2))))) mSkip [some (.loc b), some (.int many), none, none, none] ⟨cs.length, cs.set b (.lst [.int x0, .int (x1 + 1), .loc g, .lst (cells.map .int)])⟩ = some (.nx, [some (.loc b), some (.int many), none, none, none], ⟨cs.length, cs2⟩) ∧ 0 ≤ y0 ∧
      cs2[b]? = some (.lst [.int y0, .int (x1 + 1), .loc g, .lst (cells.map .int)]) ∧ (∃ gr : List Int, cs2[g]? = some (.lst (gr.map .int)) ∧ (∀ z ∈ gr, 0 ≤ z) ∧ gr.length ≤ 1000) ∧ cs2.length = cs.length ∧ (∀ j, j ≠ b → j ≠ g → cs2[j]? = cs[j]?) ∧ ∀ c ∈ cs2, belowC cs2.length c = true := by
    generalize hcs1 : cs.set b (.lst [.int x0, .int (x1 + 1), .loc g, .lst (cells.map .int)]) = cs1
    have l1 : cs1.length = cs.length := by rw [← hcs1, List.length_set]
    have hb1 : cs1[b]? = some (.lst [.int x0, .int (x1 + 1), .loc g, .lst (cells.map .int)]) := by rw [← hcs1, List.getElem?_set_self hbl]
    have hg1 : cs1[g]? = some (.lst (great.map .int)) := by rw [← hcs1, List.getElem?_set_ne (Ne.symm hne)]; exact hg
    have hj1 : ∀ j, j ≠ b → j ≠ g → cs1[j]? = cs[j]? := fun j hj _ => by rw [← hcs1, List.getElem?_set_ne (Ne.symm hj)]
    have hw1 : ∀ c ∈ cs1, belowC cs1.length c = true := by rw [← hcs1]; exact mem_set_wf hwf (cl _ _)
    have t1 : mBool (mBin fEq (mIdx (mVar 0) (mC (.int 0))) (mC (.int 0))) [some (.loc b), some (.int many), none, none, none] ⟨cs.length, cs1⟩ = some (x0 == 0, ⟨cs.length, cs1⟩) := by
      unfold mBool mBin
      rw [get_at rfl hb1 rfl]
      rfl
    have t2 : mBool (mBin fGt (mCB bLen (mCons (mIdx (mVar 0) (mC (.int 2))) mNil)) (mC (.int 0))) [some (.loc b), some (.int many), none, none, none] ⟨cs.length, cs1⟩ = some (decide ((0 : Int) < (great.length : Nat)), ⟨cs.length, cs1⟩) := by
      have hlen : bLen ⟨cs.length, cs1⟩ [.loc g] = some (.int (great.length : Nat)) := by
        have := bLen_of (G := ⟨cs.length, cs1⟩) (d := .loc g) (ds := great.map .int) (seqOf_at hg1)
        rwa [List.length_map] at this
      unfold mBool mBin mCB mCons
      rw [get_at rfl hb1 rfl]
      simp [mNil, hlen, mC, fGt_ii]
    by_cases hc : x0 = 0 ∧ 0 < great.length
    · obtain ⟨rfl, hgp⟩ := hc
      have hlast : great[great.length - 1]? = some (great[great.length - 1]'(by omega)) := List.getElem?_eq_getElem _
      generalize hz : great[great.length - 1]'(by omega) = z at hlast
      have hz0 : 0 ≤ z := hgr z (List.mem_of_getElem? hlast)
      refine ⟨z, (cs1.set g (.lst ((great.dropLast).map .int))).set b (.lst [.int z, .int (x1 + 1), .loc g, .lst (cells.map .int)]), ?_, hz0, ?_, ⟨great.dropLast, ?_, fun w hw => hgr w (List.dropLast_subset _ hw), by rw [List.length_dropLast]; omega⟩, by rw [List.length_set, List.length_set, l1], fun j h1 h2 => by rw [List.getElem?_set_ne (Ne.symm h1), List.getElem?_set_ne (Ne.symm h2)]; exact hj1 j h1 h2, ?_⟩
      · have hpop : mPop (mIdx (mVar 0) (mC (.int 2))) [some (.loc b), some (.int many), none, none, none] ⟨cs.length, cs1⟩ = some (.int z, ⟨cs.length, cs1.set g (.lst ((great.dropLast).map .int))⟩) := by
          unfold mPop
          rw [get_at rfl hb1 rfl]
          show ((cellL ⟨cs.length, cs1⟩ (.loc g)).bind _) = _
          rw [cellL_at (G := ⟨cs.length, cs1⟩) hg1]
          show (((great.map D.int)[(great.map D.int).length - 1]?).bind _) = _
          rw [List.length_map, List.getElem?_map, hlast, List.map_dropLast]
          rfl
        unfold mIfS mAnd
        rw [t1]
        simp only [beq_self_eq_true, Option.bind_some, if_true]
        rw [t2]
        have : decide ((0 : Int) < (great.length : Nat)) = true := decide_eq_true (by omega)
        rw [this]
        simp only [Option.bind_some, if_true]
        refine set_at (j := 0) (ds := [.int 0, .int (x1 + 1), .loc g, .lst (cells.map .int)]) (G1 := ⟨cs.length, cs1.set g (.lst ((great.dropLast).map .int))⟩) rfl hpop ?_ rfl
        show (cs1.set g _)[b]? = _
        rw [List.getElem?_set_ne hne]; exact hb1
      · rw [List.getElem?_set_self (by rw [List.length_set, l1]; exact hbl)]
      · rw [List.getElem?_set_ne (Ne.symm hne), List.getElem?_set_self (by rw [l1]; exact hgl2)]
      · refine mem_set_wf (mem_set_wf hw1 (belowC_ints _ _)) ?_
        rw [List.length_set, l1]; exact cl _ _
    · refine ⟨x0, cs1, ?_, hx0, hb1, ⟨great, hg1, hgr, hgl⟩, l1, hj1, hw1⟩
      unfold mIfS mAnd
      rw [t1]
      by_cases hx : x0 = 0
      · subst hx
        simp only [beq_self_eq_true, Option.bind_some, if_true]
        rw [t2]
        have : decide ((0 : Int) < (great.length : Nat)) = false := decide_eq_false (by omega)
        rw [this]
        rfl
      · have : (x0 == 0) = false := beq_eq_false_iff_ne.mpr hx
        rw [this]
        rfl
  have cl2 : ∀ (y : Int), belowC cs2.length (.lst [.int y, .int (x1 + 1), .loc g, .lst (cells.map .int)]) = true := fun y => by rw [hl2]; exact cl _ _
  have hbl2 : b < cs2.length := by rw [hl2]; exact hbl
  have hp : (0 : Int) < 2147483647 := by decide
  have hB2 : ∀ (cs3 : List Cell) (y : Int), cs3 = cs2.set b (.lst [.int y, .int (x1 + 1), .loc g, .lst (cells.map .int)]) → 0 ≤ y → Bag cs3 b g n := fun cs3 y e hy => by
    subst e
    obtain ⟨gr, h1, h2, h3⟩ := hg2
    exact ⟨⟨y, x1 + 1, cells, by rw [List.getElem?_set_self hbl2], hy, by omega, by omega, hc0, hcl, hcs⟩, ⟨gr, by rw [List.getElem?_set_ne (Ne.symm hne)]; exact h1, h2, h3⟩, hne, mem_set_wf hw2 (cl2 y)⟩
  have finish : ∀ (cs3 : List Cell) (r : Int), cs3.length = cs.length → (∀ c ∈ cs3, belowC cs3.length c = true) → Lf.fin ⟨k, cs⟩ (D.int r) ⟨cs.length, cs3⟩ = some (D.int r, ⟨k, cs3⟩) := fun cs3 r hl hw => by
    unfold Lf.fin
    have e : cs3.take cs.length = cs3 := by rw [← hl]; exact List.take_length
    have ha : cs3.all (belowC cs.length) = true := List.all_eq_true.mpr fun c hc => by rw [← hl]; exact hw c hc
    show (if belowD cs.length (D.int r) && (cs3.take cs.length).all (belowC cs.length) then some (D.int r, (⟨k, cs3.take cs.length⟩ : Sto)) else none) = _
    rw [e, ha]
    rfl
  have body : ∀ (r : Int) (ρ' : Evn) (cs3 : List Cell), M__law_draw [some (.loc b), some (.int many), none, none, none] ⟨cs.length, cs⟩ = some (.rt (.int r), ρ', ⟨cs.length, cs3⟩) → cs3.length = cs.length → (∀ c ∈ cs3, belowC cs3.length c = true) → F__law_draw [.loc b, .int many] ⟨k, cs⟩ = some (.int r, ⟨k, cs3⟩) := fun r ρ' cs3 e hl hw => by
    unfold F__law_draw runF runBody
    rw [if_pos (show [D.loc b, D.int many].length = 2 from rfl)]
    show (M__law_draw [some (.loc b), some (.int many), none, none, none] ⟨cs.length, cs⟩).bind _ = _
    rw [e]
    exact finish cs3 r hl hw
  by_cases hpos : 0 < y0
  · refine ⟨y0 % many, cs2.set b (.lst [.int (y0 / many), .int (x1 + 1), .loc g, .lst (cells.map .int)]), body _ [some (.loc b), some (.int many), some (.int (y0 % many)), none, none] _ ?_ (by rw [List.length_set, hl2]) (mem_set_wf hw2 (cl2 _)), Int.emod_nonneg _ (by omega), Int.emod_lt_of_pos _ h0, hB2 _ _ rfl (Int.ediv_nonneg (by omega) (by omega)), by rw [List.length_set, hl2], fun j h1 h2 => by rw [List.getElem?_set_ne (Ne.symm h1)]; exact hj2 j h1 h2⟩
    unfold M__law_draw
    have g0 := get_at (ρ := [some (.loc b), some (.int many), none, none, none]) (G := ⟨cs.length, cs2⟩) (k := 0) rfl hb2 rfl
    have g0' := get_at (ρ := [some (.loc b), some (.int many), some (.int (y0 % many)), none, none]) (G := ⟨cs.length, cs2⟩) (k := 0) rfl hb2 rfl
    refine seq_run e1 (seq_run e2 (seq_rt (ifS_true (bool_run (bin_run g0 rfl (by rw [fGt_ii, decide_eq_true hpos]))) ?_)))
    exact seq_run (asg_run (bin_run (cb_run (one_run g0) rfl) rfl (fMod_ii h0))) (seq_run (set_at (j := 0) (ds := [.int y0, .int (x1 + 1), .loc g, .lst (cells.map .int)]) (G1 := ⟨cs.length, cs2⟩) rfl (bin_run g0' rfl (fDiv_ii hm)) hb2 rfl) (ret_run rfl))
  · have hy : y0 = 0 := by omega
    have hlen : (0 : Int) < (cells.length : Nat) := by
      cases cells with
      | nil => exact absurd rfl hc0
      | cons c r => simp
    obtain ⟨ci, hci⟩ : ∃ ci, cells[((x1 + 1) % (cells.length : Nat)).toNat]? = some ci := by
      have h1 := Int.emod_lt_of_pos (x1 + 1) hlen
      have h2 := Int.emod_nonneg (x1 + 1) (show ((cells.length : Nat) : Int) ≠ 0 by omega)
      exact ⟨_, List.getElem?_eq_getElem (by omega)⟩
    have hcr := hcs ci (List.mem_of_getElem? hci)
    have hgb : (0 : Int) < 2147483629 := by decide
    have bits : ∀ {z : Int} {m : Nat}, 0 ≤ z → z < 2 ^ m → z.natAbs < 2 ^ m := fun {z m} h1 h2 => by
      have : (z.natAbs : Int) < ((2 ^ m : Nat) : Int) := by rw [Int.natAbs_of_nonneg h1]; push_cast; exact h2
      omega
    have m1 : mulOk ci 48271 = true := mulOk_of (m := 64) (n := 64) (by omega) (by decide) (by omega)
    have m2 : mulOk (x1 + 1) 69621 = true := mulOk_of (m := 65) (n := 64) (by omega) (by decide) (by omega)
    have m3 : ∀ z : Int, mulOk (z % 2147483647) (z % 2147483647) = true := fun z => by
      have := Int.emod_nonneg z (show (2147483647 : Int) ≠ 0 by decide)
      have := Int.emod_lt_of_pos z hp
      exact mulOk_of (m := 64) (n := 64) (by omega) (by omega) (by omega)
    have m4 : ∀ z : Int, mulOk (z % 2147483647) 16807 = true := fun z => by
      have := Int.emod_nonneg z (show (2147483647 : Int) ≠ 0 by decide)
      have := Int.emod_lt_of_pos z hp
      exact mulOk_of (m := 64) (n := 64) (by omega) (by decide) (by omega)
    have m5 : mulOk (x1 + 1) 40014 = true := mulOk_of (m := 65) (n := 64) (by omega) (by decide) (by omega)
    have d32 : divOk 32 = true := by decide
    generalize hmx : (ci * 48271 + (x1 + 1) * 69621 + 1) = mx
    refine ⟨(mx % 2147483647 * (mx % 2147483647) + mx % 2147483647 * 16807 + (x1 + 1) * 40014) % 2147483629 / 32 % many, cs2, body _ [some (.loc b), some (.int many), none, some (.int ci), some (.int (mx % 2147483647))] _ ?_ hl2 hw2, Int.emod_nonneg _ (by omega), Int.emod_lt_of_pos _ h0, ?_, hl2, hj2⟩
    · unfold M__law_draw
      have g1 := get_at (ρ := [some (.loc b), some (.int many), none, none, none]) (G := ⟨cs.length, cs2⟩) (k := 1) rfl hb2 rfl
      have g3 := get_at (ρ := [some (.loc b), some (.int many), none, none, none]) (G := ⟨cs.length, cs2⟩) (k := 3) rfl hb2 rfl
      have g1' := get_at (ρ := [some (.loc b), some (.int many), none, some (.int ci), none]) (G := ⟨cs.length, cs2⟩) (k := 1) rfl hb2 rfl
      have g1'' := get_at (ρ := [some (.loc b), some (.int many), none, some (.int ci), some (.int (mx % 2147483647))]) (G := ⟨cs.length, cs2⟩) (k := 1) rfl hb2 rfl
      refine seq_run e1 (seq_run e2 (seq_run (ρ1 := [some (.loc b), some (.int many), none, none, none]) (G1 := ⟨cs.length, cs2⟩) ?_ (seq_run (asg_run (d := .int ci) (G1 := ⟨cs.length, cs2⟩) ?_) (seq_run (asg_run (d := .int (mx % 2147483647)) (G1 := ⟨cs.length, cs2⟩) ?_) (ret_run ?_)))))
      · exact ifS_false (bool_run (bin_run (get_at rfl hb2 rfl) rfl (by rw [fGt_ii, decide_eq_false hpos]))) rfl
      · have ha : L2.atI (cells.map D.int) ((x1 + 1) % (cells.length : Nat)) = some (.int ci) := atI_nn (Int.emod_nonneg _ (by omega)) (by rw [List.getElem?_map, hci]; rfl)
        have hlen2 : bLen ⟨cs.length, cs2⟩ [.lst (cells.map .int)] = some (.int (cells.length : Nat)) := by
          have := bLen_of (G := ⟨cs.length, cs2⟩) (d := .lst (cells.map .int)) rfl
          rwa [List.length_map] at this
        exact idx_run g3 (bin_run (cb_run (one_run g1) rfl) (cb_run (one_run g3) hlen2) (fMod_ii hlen)) ha
      · refine bin_run (cb_run (one_run (bin_run (bin_run (bin_run rfl rfl (fMul_ii m1)) (bin_run g1' rfl (fMul_ii m2)) rfl) rfl rfl)) rfl) rfl ?_
        rw [hmx]
        exact fMod_ii hp
      · exact bin_run (bin_run (bin_run (cb_run (one_run (bin_run (bin_run (bin_run rfl rfl (fMul_ii (m3 mx))) (bin_run rfl rfl (fMul_ii (m4 mx))) rfl) (bin_run g1'' rfl (fMul_ii m5)) rfl)) rfl) rfl (fMod_ii hgb)) rfl (fDiv_ii d32)) rfl (fMod_ii h0)
    · have : cs2 = cs2.set b (.lst [.int 0, .int (x1 + 1), .loc g, .lst (cells.map .int)]) := by
        refine (List.ext_getElem? fun i => ?_)
        by_cases hi : b = i
        · subst hi
          rw [List.getElem?_set_self hbl2, hb2, hy]
        · rw [List.getElem?_set_ne hi]
      exact hB2 cs2 0 this (by omega)
theorem lcL_filter {f : Tgt} {c : M Bool} {e : M D} {ρ : Evn} {G : Sto} (P : D → Prop) : ∀ {items : List D}, (∀ d ∈ items, ∃ ρ1 b, f d ρ = some ρ1 ∧ c ρ1 G = some (b, G) ∧ (b = true → ∃ o, e ρ1 G = some (o, G) ∧ P o)) → ∃ outs, lcL f c e ρ items G = some (outs, G) ∧ (∀ o ∈ outs, P o) ∧ outs.length ≤ items.length
  | [], _ => ⟨[], rfl, fun _ h => by simp at h, Nat.le_refl _⟩
  | d :: ds, h => by
    obtain ⟨ρ1, b, e1, e2, e3⟩ := h d List.mem_cons_self
    obtain ⟨outs, e4, p, hl⟩ := lcL_filter P (items := ds) fun x hx => h x (List.mem_cons_of_mem _ hx)
    cases b with
    | false =>
      refine ⟨outs, ?_, p, by rw [List.length_cons]; omega⟩
      show (f d ρ).bind _ = _
      rw [e1, Option.bind_some, e2]
      exact e4
    | true =>
      obtain ⟨o, e5, po⟩ := e3 rfl
      refine ⟨o :: outs, ?_, fun x hx => ?_, by rw [List.length_cons, List.length_cons]; omega⟩
      · show (f d ρ).bind _ = _
        rw [e1, Option.bind_some, e2, Option.bind_some]
        show (e ρ1 G).bind _ = _
        rw [e5, Option.bind_some, e4]
        rfl
      · rcases List.mem_cons.mp hx with hx | hx
        · rw [hx]; exact po
        · exact p x hx
theorem ints_of {outs : List D} {P : Int → Prop} (h : ∀ o ∈ outs, ∃ z : Int, o = .int z ∧ P z) : ∃ zs : List Int, outs = zs.map .int ∧ (∀ z ∈ zs, P z) ∧ zs.length = outs.length := by
  induction outs with
  | nil => exact ⟨[], rfl, fun _ h => by simp at h, rfl⟩
  | cons o os ih =>
    obtain ⟨z, rfl, pz⟩ := h o List.mem_cons_self
    obtain ⟨zs, rfl, pzs, hl⟩ := ih fun x hx => h x (List.mem_cons_of_mem _ hx)
    refine ⟨z :: zs, rfl, fun w hw => ?_, by rw [List.length_cons, List.length_cons, hl]⟩
    rcases List.mem_cons.mp hw with hw | hw
    · rw [hw]; exact pz
    · exact pzs w hw
theorem bag_ev (ns : List Int) (hn : ns.length ≤ 63) : ∃ (b g : Nat) (cs : List Cell), F__law_bag [.frz (ns.map .int)] Sto.none = some (.loc b, ⟨0, cs⟩) ∧ Bag cs b g 1000000000 := by
  generalize hcl : ns.map (fun z => ((z.natAbs : Nat) : Int)) ++ [7] = cl
  have hcl0 : ∀ z ∈ cl, (0 : Int) ≤ z := fun z hz => by
    rw [← hcl] at hz
    rcases List.mem_append.mp hz with hz | hz
    · obtain ⟨w, _, rfl⟩ := List.mem_map.mp hz; omega
    · have : z = 7 := by simpa using hz
      omega
  have hclen : cl.length ≤ 64 := by rw [← hcl, List.length_append, List.length_map]; simp; omega
  have hcne : cl ≠ [] := by rw [← hcl]; simp
  have habs : ∀ i : Int, (if i < 0 then -i else i) = ((i.natAbs : Nat) : Int) := fun i => by split <;> omega
  -- the cells
  have e1 : mBin fAdd (mLc (mRow (mVar 0)) (gtName 2) mYes (mCB bAbs (mCons (mCB bInt (mCons (mVar 2) mNil)) mNil)) [2]) (mLst (mCons (mC (.int 7)) mNil)) [some (.frz (ns.map .int)), none, none, none] Sto.none = some (.lst (cl.map .int), Sto.none) := by
    refine bin_run (x := .lst ((ns.map (fun z => ((z.natAbs : Nat) : Int))).map .int)) (y := .lst [.int 7]) (G1 := Sto.none) ?_ rfl ?_
    · refine mLc_run (items := ns.map .int) (G1 := Sto.none) rfl (lcL_run (by simp) fun i d o hd ho => ?_) (by simp; omega)
      rw [List.getElem?_map] at hd
      obtain ⟨z, hz, rfl⟩ := Option.map_eq_some_iff.mp hd
      rw [List.getElem?_map, List.getElem?_map, hz] at ho
      cases ho
      refine ⟨_, rfl, rfl, cb_run (one_run (cb_run (one_run rfl) rfl)) ?_⟩
      show some (D.int (if z < 0 then -z else z)) = _
      rw [habs]
    · have : szOk ((ns.map (fun z => ((z.natAbs : Nat) : Int))).map D.int).length = true := decide_eq_true (by simp; omega)
      show (if szOk (((ns.map (fun z => ((z.natAbs : Nat) : Int))).map D.int).length + [D.int 7].length) = true then some (D.lst (((ns.map (fun z => ((z.natAbs : Nat) : Int))).map D.int) ++ [D.int 7])) else none) = _
      rw [if_pos (show szOk _ = true from decide_eq_true (by simp; omega)), ← hcl, List.map_append]
      rfl
  have hp : (0 : Int) < 2147483647 := by decide
  have e4 : ∀ (ρ : Evn) (G : Sto), ρ[1]? = some (some (.lst (cl.map .int))) → ρ.length = 4 → mLc (mRow (mVar 1)) (gtName 2) mYes (mBin fMod (mCB bInt (mCons (mVar 2) mNil)) (mC (.int 2147483647))) [2] ρ G = some (.lst ((cl.map (· % 2147483647)).map .int), G) := by
    intro ρ G hρ hlen
    refine mLc_run (items := cl.map .int) (G1 := G) ?_ (lcL_run (by simp) fun i d o hd ho => ?_) (by simp; omega)
    · unfold mRow mVar
      rw [hρ]
      rfl
    · rw [List.getElem?_map] at hd
      obtain ⟨z, hz, rfl⟩ := Option.map_eq_some_iff.mp hd
      rw [List.getElem?_map, List.getElem?_map, hz] at ho
      cases ho
      refine ⟨_, rfl, rfl, bin_run (x := .int z) (cb_run (one_run (x := .int z) ?_) rfl) rfl (fMod_ii hp)⟩
      unfold mVar
      rw [List.getElem?_set_self (by show 2 < (ρ.set 2 none).length; rw [List.length_set]; omega)]
  have fin' : ∀ (cs : List Cell) (g : Nat) (great : List Int), g < cs.length → (∀ c ∈ cs, belowC cs.length c = true) → cs[g]? = some (.lst (great.map .int)) → (∀ z ∈ great, 0 ≤ z) → great.length ≤ 1000 → Bag (cs ++ [.lst [.int 0, .int 0, .loc g, .lst ((cl.map (· % 2147483647)).map .int)]]) cs.length g 1000000000 := by
    intro cs g great hg hw he hgr hgl
    have hmod : ∀ c ∈ cl.map (· % 2147483647), (0 : Int) ≤ c ∧ c < 2147483647 := fun c hc => by
      obtain ⟨z, _, rfl⟩ := List.mem_map.mp hc
      exact ⟨Int.emod_nonneg _ (by decide), Int.emod_lt_of_pos _ hp⟩
    refine ⟨⟨0, 0, cl.map (· % 2147483647), by rw [List.getElem?_append_right (Nat.le_refl _), Nat.sub_self]; rfl, by decide, by decide, by decide, by simpa using hcne, by rw [List.length_map]; omega, hmod⟩, ⟨great, by rw [List.getElem?_append_left hg]; exact he, hgr, hgl⟩, by omega, fun c hc => ?_⟩
    rw [List.length_append]
    rcases List.mem_append.mp hc with hc | hc
    · exact belowC_mono (by omega) (hw c hc)
    · have : c = .lst [.int 0, .int 0, .loc g, .lst ((cl.map (· % 2147483647)).map .int)] := by simpa using hc
      subst this
      show (true && (true && (decide (g < _) && (belowDs _ ((cl.map (· % 2147483647)).map .int) && true)))) = true
      rw [belowDs_ints, decide_eq_true (by simp; omega)]
      rfl
  generalize hcm : (cl.map (· % 2147483647)).map D.int = cm at e4 fin'
  have bodyF : ∀ (r : D) (ρ' : Evn) (cs' : List Cell), M__law_bag [some (.frz (ns.map .int)), none, none, none] ⟨0, []⟩ = some (.rt r, ρ', ⟨0, cs'⟩) → F__law_bag [.frz (ns.map .int)] Sto.none = some (r, ⟨0, cs'⟩) := fun r ρ' cs' e => by
    unfold F__law_bag runK runBody
    rw [if_pos (show [D.frz (ns.map .int)].length = 1 from rfl)]
    show (M__law_bag [some (.frz (ns.map .int)), none, none, none] ⟨0, []⟩).bind _ = _
    rw [e]
    rfl
  have last : ∀ (g : Nat) (cs : List Cell) (x : Option D), mRet (mNew (mCons (mC (.int 0)) (mCons (mC (.int 0)) (mCons (mVar 3) (mCons (mLc (mRow (mVar 1)) (gtName 2) mYes (mBin fMod (mCB bInt (mCons (mVar 2) mNil)) (mC (.int 2147483647))) [2]) mNil))))) [some (.frz (ns.map .int)), some (.lst (cl.map .int)), x, some (.loc g)] ⟨0, cs⟩ = some (.rt (.loc cs.length), [some (.frz (ns.map .int)), some (.lst (cl.map .int)), x, some (.loc g)], ⟨0, cs ++ [.lst [.int 0, .int 0, .loc g, .lst cm]]⟩) := fun g cs x =>
    ret_run (new_run (G1 := ⟨0, cs⟩) (ds := [.int 0, .int 0, .loc g, .lst cm]) (cons_run rfl (cons_run rfl (cons_run rfl (one_run (e4 _ _ rfl rfl))))) (by show 4 ≤ 16777216; omega))
  obtain ⟨c0, cr, hc⟩ : ∃ c0 cr, cl = c0 :: cr := by
    cases cl with
    | nil => exact absurd rfl hcne
    | cons c r => exact ⟨c, r, rfl⟩
  have t0 : ∀ (G : Sto) (x : Option D), mBool (mBin fEq (mBin fMod (mCB bInt (mCons (mIdx (mVar 1) (mC (.int 0))) mNil)) (mC (.int 2))) (mC (.int 0))) [some (.frz (ns.map .int)), some (.lst (cl.map .int)), x, some (.loc 0)] G = some (c0 % 2 == 0, G) := fun G x => by
    refine bool_run (bin_run (bin_run (cb_run (one_run (idx_run rfl rfl (z := .int c0) ?_)) rfl) rfl (fMod_ii (by decide))) rfl rfl)
    rw [hc]
    exact atI0 _ _
  cases hev : (c0 % 2 == 0) with
  | false =>
    refine ⟨1, 0, [.lst []] ++ [.lst [.int 0, .int 0, .loc 0, .lst cm]], bodyF _ [some (.frz (ns.map .int)), some (.lst (cl.map .int)), none, some (.loc 0)] _ ?_, fin' [.lst []] 0 [] (by decide) (fun c hc => by simp at hc; subst hc; rfl) rfl (fun z hz => by simp at hz) (by decide)⟩
    unfold M__law_bag
    refine seq_run (asg_run e1) (seq_run (asg_run (new_run (ds := []) rfl (by simp))) (seq_run (ρ1 := [some (.frz (ns.map .int)), some (.lst (cl.map .int)), none, some (.loc 0)]) (G1 := ⟨0, [.lst []]⟩) (ifS_false ?_ rfl) (last 0 [.lst []] none)))
    rw [← hev]
    exact t0 _ _
  | true =>
    obtain ⟨outs, e5, e6, e7⟩ := lcL_filter (f := gtName 2) (c := mBool (mBin fGe (mVar 2) (mBin fPow (mC (.int 10)) (mC (.int 18))))) (e := mBin fDiv (mVar 2) (mC (.int 2))) (ρ := [some (.frz (ns.map .int)), some (.lst (cl.map .int)), none, some (.loc 0)]) (G := ⟨0, [.lst []]⟩) (fun o => ∃ z : Int, o = .int z ∧ 0 ≤ z) (items := cl.map .int) fun d hd => by
      obtain ⟨z, hz, rfl⟩ := List.mem_map.mp hd
      have hz0 := hcl0 z hz
      refine ⟨_, decide ((10 : Int) ^ 18 ≤ z), rfl, bool_run (bin_run rfl (bin_run (z := .int (10 ^ 18)) rfl rfl rfl) rfl), fun _ => ⟨.int (z / 2), bin_run rfl rfl (fDiv_ii rfl), z / 2, rfl, by omega⟩⟩
    obtain ⟨zs, rfl, hzs, hzl⟩ := ints_of (P := fun z => 0 ≤ z) e6
    rw [List.length_map, List.length_map] at e7
    refine ⟨2, 1, [.lst [], .lst (zs.reverse.map .int)] ++ [.lst [.int 0, .int 0, .loc 1, .lst cm]], bodyF _ [some (.frz (ns.map .int)), some (.lst (cl.map .int)), none, some (.loc 1)] _ ?_, fin' [.lst [], .lst (zs.reverse.map .int)] 1 zs.reverse (by show 1 < 2; omega) (fun c hc => ?_) rfl (fun z hz => hzs z (List.mem_reverse.mp hz)) (by rw [List.length_reverse]; omega)⟩
    · unfold M__law_bag
      refine seq_run (asg_run e1) (seq_run (asg_run (new_run (ds := []) rfl (by simp))) (seq_run (ρ1 := [some (.frz (ns.map .int)), some (.lst (cl.map .int)), none, some (.loc 1)]) (G1 := ⟨0, [.lst [], .lst (zs.reverse.map .int)]⟩) (ifS_true (by rw [← hev]; exact t0 _ _) ?_) (last 1 [.lst [], .lst (zs.reverse.map .int)] none)))
      refine seq_run (ρ1 := [some (.frz (ns.map .int)), some (.lst (cl.map .int)), none, some (.loc 1)]) (G1 := ⟨0, [.lst [], .lst (zs.map .int)]⟩) (asg_run (d := .loc 1) (ρ := [some (.frz (ns.map .int)), some (.lst (cl.map .int)), none, some (.loc 0)]) ?_) (drop_run (d := .non) ?_)
      · unfold mLcN mLcR
        show ((((lcL _ _ _ _ (cl.map .int) _)).bind _).bind _) = _
        rw [show wipeD [some (.frz (ns.map .int)), some (.lst (cl.map .int)), none, some (.loc 0)] [2] = [some (.frz (ns.map .int)), some (.lst (cl.map .int)), none, some (.loc 0)] from rfl]
        erw [e5]
        have : szOk (zs.map D.int).length = true := decide_eq_true (by omega)
        simp only [Option.bind_some, this, if_true]
        rfl
      · unfold mRev
        show some (D.non, (⟨0, [.lst [], .lst ((zs.map D.int).reverse)]⟩ : Sto)) = _
        rw [List.map_reverse]
    · rcases List.mem_cons.mp hc with hc | hc
      · subst hc; rfl
      · have : c = .lst (zs.reverse.map .int) := by simpa using hc
        subst this
        exact belowC_ints _ _
/-- one of a row is picked -/
theorem pick_ev {cs : List Cell} {b g n k : Nat} {xs : List D} (B : Bag cs b g (n + 1)) (h0 : xs ≠ []) (h1 : xs.length ≤ 1000) (hx : ∀ x ∈ xs, belowD cs.length x = true) :
    ∃ (x : D) (cs' : List Cell), F__law_pick [.loc b, .lst xs] ⟨k, cs⟩ = some (x, ⟨k, cs'⟩) ∧ x ∈ xs ∧ Bag cs' b g n ∧ cs'.length = cs.length ∧ ∀ j, j ≠ b → j ≠ g → cs'[j]? = cs[j]? := by
  obtain ⟨r, cs', e, h2, h3, B', hl, hj⟩ := draw_ev (k := cs.length) (many := (xs.length : Nat)) B (by have := List.length_pos_iff.mpr h0; omega) (divOk_of (n := 64) (by have := List.length_pos_iff.mpr h0; omega) (by omega) (by omega))
  have hr : xs[r.toNat]? = some (xs[r.toNat]'(by omega)) := List.getElem?_eq_getElem _
  refine ⟨_, cs', ?_, List.getElem_mem (n := r.toNat) (by omega), B', hl, hj⟩
  unfold F__law_pick
  exact runF_run (b := M__law_pick) (ρ' := [some (.loc b), some (.lst xs)]) rfl (ret_run (idx_run (x := .lst xs) (y := .int r) (G1 := ⟨cs.length, cs⟩) rfl (call_run (G1 := ⟨cs.length, cs⟩) (two_run (G1 := ⟨cs.length, cs⟩) rfl (cb_run (one_run rfl) (bLen_of (ds := xs) rfl))) e) (show L2.atI xs r = _ from atI_nn h2 hr))) hl B'.wf (hx _ (List.getElem_mem _))
end K89

namespace K89
open PySem PySem.Spec PyProof.Rows L2 Lf

theorem lten_ev (n : Nat) (hn : n ≤ 1000) : F__law_ten [.int (n : Int)] Sto.none = some (.int (10 ^ n), Sto.none) := by
  have pw : ∀ k : Nat, (10 : Int) ^ k = ((10 ^ k : Nat) : Int) := fun k => by rw [Int.natCast_pow]; rfl
  obtain ⟨ρ', G', e, x, rfl, rfl⟩ := forL_run (f := gtName 2) (b := mAsg 1 (mBin fMul (mVar 1) (mC (.int 10)))) (items := rangeD 0 n) (fun i ρ G => ∃ x : Option D, ρ = [some (.int (n : Int)), some (.int (10 ^ i)), x] ∧ G = Sto.none) (ρ := [some (.int (n : Int)), some (.int 1), none]) (G := Sto.none) ⟨none, rfl, rfl⟩ (by
    rintro i d ρ G hd ⟨x, rfl, rfl⟩
    have hi : i < n := by
      have := (List.getElem?_eq_some_iff.mp hd).1
      rwa [rangeD_length] at this
    refine ⟨_, [some (.int (n : Int)), some (.int (10 ^ (i + 1))), some d], Sto.none, rfl, asg_run (d := .int (10 ^ (i + 1))) (bin_run (x := .int (10 ^ i)) (y := .int 10) rfl rfl ?_), _, rfl, rfl⟩
    rw [fMul_ii, Int.pow_succ]
    refine mulOk_of (m := 4 * i + 1) (n := 4) ?_ (by decide) (by omega)
    rw [pw, Int.natAbs_natCast, Nat.pow_succ, Nat.pow_mul]
    have h1 : 10 ^ i ≤ (2 ^ 4) ^ i := Nat.pow_le_pow_left (by decide) i
    have h2 : 0 < (2 ^ 4) ^ i := Nat.pow_pos (by decide)
    omega)
  rw [rangeD_length] at e
  refine run_body (ρ' := [some (.int (n : Int)), some (.int (10 ^ n)), x]) (G' := Sto.none) rfl ?_ rfl
  show M__law_ten [some (.int (n : Int)), none, none] Sto.none = _
  unfold M__law_ten
  refine seq_run (asg_run (d := .int 1) rfl) (seq_run (for_run (range1_run (one_run rfl) (by omega)) e) (ret_run ?_))
  rfl
theorem same_int (k : Nat) (i : Int) : F__law_same (k + 1) [.int i, .int i] Sto.none = some (.bl true, Sto.none) := by
  have h : ∀ r : Fn, M__law_same r [some (.int i), some (.int i), none] Sto.none = some (.rt (.bl true), [some (.int i), some (.int i), none], Sto.none) := fun r => by
    have e : fEq (.int i) (.int i) = some (.bl true) := by rw [fEq_ii]; simp
    have e1 : mBin fEq (mVar 0) (mVar 1) [some (.int i), some (.int i), none] Sto.none = some (.bl true, Sto.none) := bin_run rfl rfl e
    unfold M__law_same
    refine seq_run (ifS_false rfl rfl) (seq_run (ifS_false rfl rfl) (seq_rt (ifS_true rfl (ret_run ?_))))
    unfold mAndV
    exact e1
  show runF 3 2 (M__law_same (F__law_same k)) _ _ = _
  exact run_body (ρ' := [some (.int i), some (.int i), none]) (G' := Sto.none) rfl (h _) rfl
theorem same_tup {k : Nat} {ds : List D} (h : ∀ d ∈ ds, F__law_same k [d, d] Sto.none = some (.bl true, Sto.none)) (hb : belowDs 0 ds = true) (hl : ds.length ≤ 1000000) : F__law_same (k + 1) [.tup ds, .tup ds] Sto.none = some (.bl true, Sto.none) := by
  have hmem : ∀ {ds : List D} {d : D}, d ∈ ds → belowDs 0 ds = true → belowD 0 d = true := by
    intro ds d hd hb
    induction ds with
    | nil => cases hd
    | cons x xs ih =>
      unfold belowDs at hb
      rw [Bool.and_eq_true] at hb
      rcases List.mem_cons.mp hd with hd | hd
      · rw [hd]; exact hb.1
      · exact ih hd hb.2
  have hlen : bLen Sto.none [.tup ds] = some (.int (ds.length : Nat)) := bLen_of rfl
  obtain ⟨ρ', G', e, x, rfl, rfl⟩ := forL_run (f := gtName 2) (b := mIfS (mNot (mTru (mCallP (F__law_same k) (mCons (mIdx (mVar 0) (mVar 2)) (mCons (mIdx (mVar 1) (mVar 2)) mNil))))) (mRet (mC (.bl false))) mSkip) (items := rangeD 0 ds.length) (fun _ ρ G => ∃ x : Option D, ρ = [some (.tup ds), some (.tup ds), x] ∧ G = Sto.none) (ρ := [some (.tup ds), some (.tup ds), none]) (G := Sto.none) ⟨none, rfl, rfl⟩ (by
    rintro i d ρ G hd ⟨x, rfl, rfl⟩
    have hi : i < ds.length := by
      have := (List.getElem?_eq_some_iff.mp hd).1
      rwa [rangeD_length] at this
    rw [rangeD_get hi] at hd
    cases hd
    have hx : ds[i]? = some ds[i] := List.getElem?_eq_getElem hi
    have hix : L2.atI ds (0 + (i : Int)) = some ds[i] := by rw [Int.zero_add]; exact atI_n hx
    have hm : ds[i] ∈ ds := List.getElem_mem hi
    have h2 := hmem hm hb
    refine ⟨_, [some (.tup ds), some (.tup ds), some (.int (0 + (i : Int)))], Sto.none, rfl, ifS_false (b := mSkip) (not_run (b := true) (tru_run (callP (ds := [ds[i], ds[i]]) (two_run (idx_run rfl rfl hix) (idx_run rfl rfl hix)) ?_ (h _ hm) rfl) rfl)) rfl, _, rfl, rfl⟩
    unfold belowDs belowDs belowDs
    rw [h2]; rfl)
  show runF 3 2 (M__law_same (F__law_same k)) _ _ = _
  refine run_body (ρ' := [some (.tup ds), some (.tup ds), x]) (G' := Sto.none) rfl ?_ rfl
  show M__law_same (F__law_same k) [some (.tup ds), some (.tup ds), none] Sto.none = _
  unfold M__law_same
  refine seq_run (ifS_false rfl rfl) (seq_run (ifS_false rfl rfl) (seq_run (ifS_false rfl rfl) (seq_run (ifS_false rfl rfl) (seq_run (ifS_false ?_ rfl) (seq_run (for_run (range1_run (one_run (cb_run (one_run rfl) hlen)) hl) e) (ret_run rfl))))))
  refine or_false (not_run (b := true) rfl) (or_false (not_run (b := true) rfl) (bool_run (bin_run (cb_run (one_run rfl) hlen) (cb_run (one_run rfl) hlen) ?_)))
  rw [fNe_ii]
  simp
theorem same_q2 (k : Nat) (q : Rat) : F__law_same (k + 2) [q2 q, q2 q] Sto.none = some (.bl true, Sto.none) := same_tup (fun d hd => by
  rcases List.mem_cons.mp hd with hd | hd
  · subst hd; exact same_int _ _
  · have : d = .int q.den := by simpa using hd
    subst this; exact same_int _ _) rfl (by show 2 ≤ 1000000; omega)
theorem same_q2s (k : Nat) (qs : List Rat) (hl : qs.length ≤ 1000000) : F__law_same (k + 3) [.tup (qs.map q2), .tup (qs.map q2)] Sto.none = some (.bl true, Sto.none) := same_tup (fun d hd => by
  obtain ⟨q, _, rfl⟩ := List.mem_map.mp hd
  exact same_q2 k q) (belowDs_q2 0 qs) (by rw [List.length_map]; exact hl)
end K89

namespace K89
open PySem PySem.Spec PyProof.Rows L2 Lf
/-! ### rows of fractions, as functions -/
def tab (L : Nat) (g : Int → Rat) : List Rat := (List.range L).map fun i => g (i : Nat)
def steps (L : Nat) (g : Int → Rat) : List Rat := (List.range L).map fun j => dls j g 0
theorem tab_len (L : Nat) (g : Int → Rat) : (tab L g).length = L := by unfold tab; rw [List.length_map, List.length_range]
theorem steps_len (L : Nat) (g : Int → Rat) : (steps L g).length = L := by unfold steps; rw [List.length_map, List.length_range]
theorem tab_get {L : Nat} {g : Int → Rat} {k : Nat} (h : k < L) : (tab L g)[k]? = some (g (k : Nat)) := by
  unfold tab; rw [List.getElem?_map, List.getElem?_range h]; rfl
theorem steps_get {L : Nat} {g : Int → Rat} {k : Nat} (h : k < L) : (steps L g)[k]? = some (dls k g 0) := by
  unfold steps; rw [List.getElem?_map, List.getElem?_range h]; rfl
theorem tab_at {L : Nat} {g : Int → Rat} {k : Nat} (h : k < L) : L2.atI ((tab L g).map q2) (k : Int) = some (q2 (g (k : Nat))) := map_at (tab_get h)
theorem steps_at {L : Nat} {g : Int → Rat} {k : Nat} (h : k < L) : L2.atI ((steps L g).map q2) (k : Int) = some (q2 (dls k g 0)) := map_at (steps_get h)
theorem tab_mem {L : Nat} {g : Int → Rat} {k : Nat} {o : D} (h : k < L) (ho : ((tab L g).map q2)[k]? = some o) : o = q2 (g (k : Nat)) := by
  rw [List.getElem?_map, tab_get h] at ho
  cases ho
  rfl
theorem steps_succ (j : Nat) (g : Int → Rat) : (steps j g).map q2 ++ [q2 (dls j g 0)] = (steps (j + 1) g).map q2 := by
  unfold steps
  rw [List.range_succ, List.map_append, List.map_append]
  rfl
theorem toPys_q2 : ∀ qs : List Rat, ∃ ps, toPys (qs.map q2) = some ps ∧ PyData.canLayAll0 ps = true ∧ PyData.depthAll ps ≤ 2 ∧ ps.length = qs.length
  | [] => ⟨[], rfl, rfl, by decide, rfl⟩
  | q :: qs => by
    obtain ⟨ps, h1, h2, h3, h4⟩ := toPys_q2 qs
    refine ⟨.tuple [.int q.num, .int q.den] :: ps, ?_, ?_, ?_, by rw [List.length_cons, List.length_cons, h4]⟩
    · rw [List.map_cons]
      unfold toPys
      rw [h1]
      rfl
    · unfold PyData.canLayAll0
      rw [h2]; rfl
    · unfold PyData.depthAll
      have : PyData.depth (.tuple [.int q.num, .int q.den]) = 1 := rfl
      omega
theorem ne_empty (qs : List Rat) : fNe (.lst (qs.map q2)) (.lst []) = some (.bl (!qs.isEmpty)) := by
  obtain ⟨ps, h1, h2, h3, h4⟩ := toPys_q2 qs
  have e : eqD (.lst (qs.map q2)) (.lst []) = some qs.isEmpty := by
    show ((toPys (qs.map q2)).map PyData.list).bind _ = _
    rw [h1]
    show (if SeqAt.shaped (.list ps) && true then some (PyData.eqv (.list ps) (.list [])) else none) = _
    have : SeqAt.shaped (.list ps) = true := by
      unfold SeqAt.shaped
      rw [Bool.and_eq_true]
      refine ⟨h2, decide_eq_true ?_⟩
      show PyData.depthAll ps + 1 ≤ 64
      omega
    rw [this]
    cases qs with
    | nil => cases ps with
      | nil => rfl
      | cons p ps => cases h4
    | cons q qs => cases ps with
      | nil => cases h4
      | cons p ps => rfl
  unfold fNe
  rw [e]
  rfl
theorem eq_q2 (p q : Rat) : eqD (q2 p) (q2 q) = some (p == q) := by
  have e : eqD (q2 p) (q2 q) = some ((p.num == q.num) && (((p.den : Int) == (q.den : Int)) && true)) := rfl
  rw [e]
  congr 1
  rw [Bool.eq_iff_iff]
  simp only [Bool.and_eq_true, beq_iff_eq, Bool.and_true]
  constructor
  · rintro ⟨h1, h2⟩; exact Rat.ext h1 (by omega)
  · rintro rfl; exact ⟨rfl, rfl⟩
theorem q2_int (i : Int) : q2 (i : Rat) = .tup [.int i, .int 1] := rfl
theorem q2_inv (k : Nat) : q2 (mkRat 1 (k + 1)) = .tup [.int 1, .int ((k : Int) + 1)] := by
  unfold q2
  rw [Rat.num_mkRat, Rat.den_mkRat, if_neg (by omega), if_neg (by omega)]
  simp
theorem mk_inv (k : Nat) : mkRat 1 (k + 1) = 1 / ((k + 1 : Nat) : Rat) := by rw [Rat.mkRat_eq_div]; rfl
/-- how big a row is, and its differences -/
structure Tb (L : Nat) (g : Int → Rat) : Prop where
  sz : ∀ j i : Nat, i + j < L → Sz (dls j g (i : Nat))
  le : L ≤ 1000
theorem ldiff_ev {L : Nat} {g : Int → Rat} (T : Tb L g) : F__law_differences [.lst ((tab L g).map q2)] Sto.none = some (.tup ((steps L g).map q2), Sto.none) := by
  generalize hv : D.lst ((tab L g).map q2) = v
  obtain ⟨ρ', G', e, hR, rfl⟩ := while_run (c := mBool (mBin fNe (mVar 2) (mLst mNil))) (b := (mSeq (mDrop (mApp (mVar 1) (mIdx (mVar 2) (mC (.int 0)))))
  (mAsg 2 (mLc (mRange1 (mCons (mBin fSub (mCB bLen (mCons (mVar 2) mNil)) (mC (.int 1))) mNil)) (gtName 3) mYes (mCallP F__law_minus (mCons (mIdx (mVar 2) (mBin fAdd (mVar 3) (mC (.int 1)))) (mCons (mIdx (mVar 2) (mVar 3)) mNil))) [3]))))
    (fun r ρ G => r ≤ L ∧ ρ = [some v, some (.loc 0), some (.lst ((tab r (dls (L - r) g)).map q2)), none] ∧ G = ⟨0, [.lst ((steps (L - r) g).map q2)]⟩)
    (R := fun ρ G => (∃ x, ρ = [some v, some (.loc 0), x, none]) ∧ G = ⟨0, [.lst ((steps L g).map q2)]⟩) (by
    rintro r ρ G ⟨hr, rfl, rfl⟩
    cases r with
    | zero => exact .inl ⟨_, bool_run (bin_run rfl rfl rfl), ⟨_, rfl⟩, rfl⟩
    | succ r =>
      have hne : (tab (r + 1) (dls (L - (r + 1)) g)).isEmpty = false := by
        cases h : tab (r + 1) (dls (L - (r + 1)) g) with
        | nil => have := tab_len (r + 1) (dls (L - (r + 1)) g); rw [h] at this; cases this
        | cons _ _ => rfl
      have e0 := tab_at (L := r + 1) (g := dls (L - (r + 1)) g) (k := 0) (by omega)
      refine .inr ⟨_, r, [some v, some (.loc 0), some (.lst ((tab r (dls (L - r) g)).map q2)), none], ⟨0, [.lst ((steps (L - r) g).map q2)]⟩, bool_run (bin_run (y := .lst []) rfl rfl (by rw [ne_empty, hne]; rfl)), ?_, by omega, by omega, rfl, rfl⟩
      have hs : L - r = L - (r + 1) + 1 := by omega
      have hL := T.le
      refine seq_run (ρ1 := [some v, some (.loc 0), some (.lst ((tab (r + 1) (dls (L - (r + 1)) g)).map q2)), none]) (G1 := ⟨0, [.lst ((steps (L - r) g).map q2)]⟩) (drop_run (d := .non) ?_) (asg_run ?_)
      · have e1 := app_run (ρ := [some v, some (.loc 0), some (.lst ((tab (r + 1) (dls (L - (r + 1)) g)).map q2)), none]) (G := ⟨0, [.lst ((steps (L - (r + 1)) g).map q2)]⟩) (G1 := ⟨0, [.lst ((steps (L - (r + 1)) g).map q2)]⟩) (G2 := ⟨0, [.lst ((steps (L - (r + 1)) g).map q2)]⟩) (o := mVar 1) (e := mIdx (mVar 2) (mC (.int 0))) (l := 0) rfl rfl (idx_run (z := q2 (dls (L - (r + 1)) g 0)) rfl rfl e0) rfl (by rw [List.length_map, steps_len]; omega)
        rw [e1, steps_succ, ← hs]
        rfl
      · refine mLc_range (n := r) (lo := 0) (range1_run (one_run (bin_run (cb_run (one_run rfl) (bLen_of rfl)) rfl ?_)) (by omega)) (by rw [List.length_map, tab_len]) (fun k o hk ho => ?_) (by omega)
        · rw [fSub_ii, List.length_map, tab_len, show ((r + 1 : Nat) : Int) - 1 = (r : Int) from by omega]
        · have e1 := tab_at (L := r + 1) (g := dls (L - (r + 1)) g) (k := k + 1) (by omega)
          have e2 := tab_at (L := r + 1) (g := dls (L - (r + 1)) g) (k := k) (by omega)
          rw [tab_mem hk ho]
          have s1 := T.sz (L - (r + 1)) (k + 1) (by omega)
          have s2 := T.sz (L - (r + 1)) k (by omega)
          have e3 := lminus_ev s1 s2
          rw [show dls (L - (r + 1)) g ((k + 1 : Nat) : Int) - dls (L - (r + 1)) g (k : Nat) = dls (L - r) g (k : Nat) from by rw [hs, dls_succ]; rfl] at e3
          rw [Int.zero_add]
          exact callP (two_run (idx_run rfl (bin_run (x := .int k) (y := .int 1) rfl rfl rfl) e1) (idx_run rfl rfl e2)) rfl e3 (below_q2 0 _)) L fuel [some v, some (.loc 0), some v, none] ⟨0, [.lst []]⟩ (by have := T.le; unfold fuel; omega) ⟨by omega, by rw [Nat.sub_self, ← hv]; rfl, by rw [Nat.sub_self]; rfl⟩
  obtain ⟨x, rfl⟩ := hR
  unfold F__law_differences
  refine run_body (ρ' := [some v, some (.loc 0), x, none]) (G' := ⟨0, [.lst ((steps L g).map q2)]⟩) rfl ?_ (belowDs_q2 0 _)
  show M__law_differences [some v, none, none, none] Sto.none = _
  unfold M__law_differences
  refine seq_run (ρ1 := [some v, some (.loc 0), some v, none]) (G1 := ⟨0, [.lst []]⟩) (by subst hv; rfl) (seq_run (show mWhile _ _ _ _ = _ from e) (ret_run (cb_run (one_run rfl) rfl)))
end K89

namespace K89
open PySem PySem.Spec PyProof.Rows L2 Lf
/-! ### a row of figures -/
def gz (ps : List Int) (i : Int) : Int := ps[i.toNat]?.getD 0
def gq (ps : List Int) (i : Int) : Rat := ((gz ps i : Int) : Rat)
def dlz (g : Int → Int) : Int → Int := fun i => g (i + 1) - g i
def dlzs : Nat → (Int → Int) → Int → Int
  | 0, g => g
  | n + 1, g => dlzs n (dlz g)
theorem dlzs_succ (n : Nat) (g : Int → Int) : dlzs (n + 1) g = dlz (dlzs n g) := by
  induction n generalizing g with
  | zero => rfl
  | succ n ih => show dlzs (n + 1) (dlz g) = _; rw [ih]; rfl
theorem dls_cast (n : Nat) (g : Int → Int) (i : Int) : dls n (fun i => ((g i : Int) : Rat)) i = ((dlzs n g i : Int) : Rat) := by
  induction n generalizing g i with
  | zero => rfl
  | succ n ih =>
    show dls n (dl fun i => ((g i : Int) : Rat)) i = ((dlzs n (dlz g) i : Int) : Rat)
    rw [← ih]
    congr 1
    funext i
    show ((g (i + 1) : Int) : Rat) - ((g i : Int) : Rat) = ((g (i + 1) - g i : Int) : Rat)
    rw [Rat.intCast_sub]
theorem gz_get {ps : List Int} {k : Nat} (h : k < ps.length) : ps[k]? = some (gz ps (k : Nat)) := by
  unfold gz
  rw [Int.toNat_natCast, List.getElem?_eq_getElem h]
  rfl
theorem ints_tab (ps : List Int) : ps.map (fun z : Int => q2 (z : Rat)) = (tab ps.length (gq ps)).map q2 := by
  refine List.ext_getElem? fun k => ?_
  by_cases h : k < ps.length
  · rw [List.getElem?_map, gz_get h, List.getElem?_map, tab_get h]; rfl
  · rw [List.getElem?_eq_none (by rw [List.length_map]; omega), List.getElem?_eq_none (by rw [List.length_map, tab_len]; omega)]
structure Nz (L : Nat) (g : Int → Rat) (x : Rat) : Prop where
  x0 : Sz x
  c : ∀ j, j ≤ L → Sz (j : Rat)
  c2 : ∀ j, j ≤ L → Sz (-(j : Rat))
  b : ∀ j, j ≤ L → Sz (bin x j)
  t : ∀ j, j < L → Sz (dls j g 0 * bin x j)
  n : ∀ j, j ≤ L → Sz (nw g x j)
  d : ∀ j, j < L → Sz (x - (j : Nat))
  u : ∀ j, j < L → Sz (bin x j * (x - (j : Nat)))
  w : ∀ j, j < L → Sz ((x - (j : Nat)) * (1 / ((j + 1 : Nat) : Rat)))
  v : ∀ j, j < L → Sz (1 / ((j + 1 : Nat) : Rat))
theorem lat_ev {ps : List Int} {x : Rat} (T : Tb ps.length (gq ps)) (N : Nz ps.length (gq ps) x) : F__law_at [.tup (ps.map .int), q2 x] Sto.none = some (q2 (nw (gq ps) x ps.length), Sto.none) := by
  generalize hL : ps.length = L at *
  generalize hg : gq ps = g at *
  have hL2 := T.le
  generalize hv : D.tup (ps.map .int) = v
  obtain ⟨ρ', G', e, y, rfl, rfl⟩ := forL_run (f := gtName 6) (b := (mSeq (mAsg 2 (mCallP F__law_plus (mCons (mVar 2) (mCons (mCallP F__law_times (mCons (mIdx (mVar 4) (mVar 6)) (mCons (mVar 3) mNil))) mNil))))
  (mAsg 3 (mCallP F__law_times (mCons (mCallP F__law_times (mCons (mVar 3) (mCons (mCallP F__law_minus (mCons (mVar 1) (mCons (mTup (mCons (mVar 6) (mCons (mC (.int 1)) mNil))) mNil))) mNil))) (mCons (mTup (mCons (mC (.int 1)) (mCons (mBin fAdd (mVar 6) (mC (.int 1))) mNil))) mNil))))))
    (items := rangeD 0 L) (fun i ρ G => ∃ y : Option D, ρ = [some v, some (q2 x), some (q2 (nw g x i)), some (q2 (bin x i)), some (.tup ((steps L g).map q2)), none, y] ∧ G = Sto.none)
    (ρ := [some v, some (q2 x), some (q2 0), some (q2 1), some (.tup ((steps L g).map q2)), none, none]) (G := Sto.none) ⟨none, rfl, rfl⟩ (by
    rintro i d ρ G hd ⟨y, rfl, rfl⟩
    have hi : i < L := by
      have := (List.getElem?_eq_some_iff.mp hd).1
      rwa [rangeD_length] at this
    rw [rangeD_get hi, Int.zero_add] at hd
    cases hd
    have e0 := steps_at (g := g) hi
    have s0 := T.sz i 0 (by omega)
    have e1 := ltimes_ev s0 (N.b i (by omega))
    have e2 := lplus_ev (N.n i (by omega)) (N.t i hi)
    have e3 := lminus_ev N.x0 (N.c i (by omega))
    have e4 := ltimes_ev (N.b i (by omega)) (N.d i hi)
    have e5 := ltimes_ev (N.u i hi) (N.v i hi)
    refine ⟨_, [some v, some (q2 x), some (q2 (nw g x (i + 1))), some (q2 (bin x (i + 1))), some (.tup ((steps L g).map q2)), none, some (.int (i : Nat))], Sto.none, rfl, ?_, _, rfl, rfl⟩
    refine seq_run (ρ1 := [some v, some (q2 x), some (q2 (nw g x (i + 1))), some (q2 (bin x i)), some (.tup ((steps L g).map q2)), none, some (.int (i : Nat))]) (G1 := Sto.none) (asg_run (callP (two_run rfl (callP (two_run (idx_run rfl rfl e0) rfl) rfl e1 (below_q2 0 _))) rfl e2 (below_q2 0 _))) (asg_run (callP (ds := [q2 (bin x i * (x - (i : Nat))), q2 (1 / ((i + 1 : Nat) : Rat))]) (two_run (callP (two_run rfl (callP (ds := [q2 x, q2 ((i : Nat) : Rat)]) rfl rfl e3 (below_q2 0 _))) rfl e4 (below_q2 0 _)) ?_) rfl e5 (below_q2 0 _)))
    rw [← mk_inv, q2_inv]
    rfl)
  rw [rangeD_length] at e
  have hlc : mLc (mRow (mVar 0)) (gtName 5) mYes (mTup (mCons (mVar 5) (mCons (mC (.int 1)) mNil))) [5] [some v, some (q2 x), some (q2 0), some (q2 1), none, none, none] Sto.none = some (.lst ((tab L g).map q2), Sto.none) := by
    refine mLc_run (items := ps.map .int) (G1 := Sto.none) (by subst hv; rfl) (lcL_run (by rw [List.length_map, List.length_map, tab_len, hL]) fun k d o hd ho => ?_) (by rw [List.length_map, tab_len]; omega)
    rw [List.getElem?_map] at hd
    obtain ⟨z, hz, rfl⟩ := Option.map_eq_some_iff.mp hd
    rw [← hg, ← hL, ← ints_tab, List.getElem?_map, hz] at ho
    cases ho
    exact ⟨_, rfl, rfl, rfl⟩
  unfold F__law_at
  refine run_body (ρ' := [some v, some (q2 x), some (q2 (nw g x L)), some (q2 (bin x L)), some (.tup ((steps L g).map q2)), none, y]) (G' := Sto.none) rfl ?_ (below_q2 0 _)
  show M__law_at [some v, some (q2 x), none, none, none, none, none] Sto.none = _
  unfold M__law_at
  refine seq_run (ρ1 := [some v, some (q2 x), some (q2 0), some (q2 1), none, none, none]) (G1 := Sto.none) rfl (seq_run (asg_run (callP (one_run hlc) ?_ (ldiff_ev T) (belowDs_q2 0 _))) (seq_run (for_run (range1_run (n := L) (one_run (cb_run (one_run rfl) ?_)) (by omega)) e) (ret_run rfl)))
  · show (belowDs 0 ((tab L g).map q2) && true) = true
    rw [belowDs_q2]; rfl
  · rw [show L = ((steps L g).map q2).length from by rw [List.length_map, steps_len]]
    rw [show ((steps ((steps L g).map q2).length g)) = steps L g from by rw [List.length_map, steps_len]]
    exact bLen_of rfl
end K89

namespace K89
open PySem PySem.Spec PyProof.Rows L2 Lf
/-- the terms -/
def tms (L : Nat) (g : Int → Rat) (x : Rat) : List Rat := (List.range L).map fun j => dls j g 0 * bin x j
theorem tms_len (L : Nat) (g : Int → Rat) (x : Rat) : (tms L g x).length = L := by unfold tms; rw [List.length_map, List.length_range]
theorem tms_take (L : Nat) (g : Int → Rat) (x : Rat) {i : Nat} (h : i ≤ L) : (tms L g x).take i = tms i g x := by
  unfold tms
  rw [← List.map_take, List.take_range, Nat.min_eq_left h]
theorem tms_sum (g : Int → Rat) (x : Rat) : ∀ L : Nat, (tms L g x).sum = nw g x L
  | 0 => rfl
  | L + 1 => by
    have h := tms_sum g x L
    unfold tms at h ⊢
    rw [List.range_succ, List.map_append, List.sum_append]
    show _ = nw g x L + _
    rw [h]
    simp [Rat.add_zero]
theorem tms_succ (L : Nat) (g : Int → Rat) (x : Rat) : (tms L g x).map q2 ++ [q2 (dls L g 0 * bin x L)] = (tms (L + 1) g x).map q2 := by
  unfold tms
  rw [List.range_succ, List.map_append, List.map_append]
  rfl
def rowZ (L : Nat) (g : Int → Int) : List D := (List.range L).map fun i => .int (g (i : Nat))
theorem rowZ_len (L : Nat) (g : Int → Int) : (rowZ L g).length = L := by unfold rowZ; rw [List.length_map, List.length_range]
theorem rowZ_get {L : Nat} {g : Int → Int} {k : Nat} (h : k < L) : (rowZ L g)[k]? = some (.int (g (k : Nat))) := by
  unfold rowZ; rw [List.getElem?_map, List.getElem?_range h]; rfl
theorem rowZ_at {L : Nat} {g : Int → Int} {k : Nat} (h : k < L) : L2.atI (rowZ L g) (k : Int) = some (.int (g (k : Nat))) := atI_n (rowZ_get h)
theorem ints_rowZ (ps : List Int) : ps.map D.int = rowZ ps.length (gz ps) := by
  refine List.ext_getElem? fun k => ?_
  by_cases h : k < ps.length
  · rw [List.getElem?_map, gz_get h, rowZ_get h]; rfl
  · rw [List.getElem?_eq_none (by rw [List.length_map]; omega), List.getElem?_eq_none (by rw [rowZ_len]; omega)]
theorem newton_ev {ps : List Int} {x : Rat} (T : Tb ps.length (gq ps)) (N : Nz ps.length (gq ps) x) : F_newton_at [.tup (ps.map .int), q2 x] Sto.none = some (q2 (nw (gq ps) x ps.length), Sto.none) := by
  have hcast : ∀ j i, dls j (gq ps) i = ((dlzs j (gz ps) i : Int) : Rat) := fun j i => dls_cast j (gz ps) i
  have hrow := ints_rowZ ps
  generalize hL : ps.length = L at *
  generalize hg : gq ps = g at *
  generalize hgz : gz ps = z at *
  have hL2 := T.le
  generalize hv : D.tup (ps.map .int) = v
  obtain ⟨ρ', G', e, x1, x2, x3, rfl, -, rfl⟩ := forL_run (f := gtName 5) (b := (mSeq (mDrop (mApp (mVar 3) (mCallP F_times (mCons (mVar 4) (mCons (mCallP F_whole (mCons (mIdx (mVar 2) (mC (.int 0))) mNil)) mNil)))))
  (mSeq (mAsg 2 (mLc (mRange1 (mCons (mBin fSub (mCB bLen (mCons (mVar 2) mNil)) (mC (.int 1))) mNil)) (gtName 6) mYes (mBin fSub (mIdx (mVar 2) (mBin fAdd (mVar 6) (mC (.int 1)))) (mIdx (mVar 2) (mVar 6))) [6]))
  (mAsg 4 (mCallP F_times (mCons (mVar 4) (mCons (mCallP F_times (mCons (mCallP F_plus (mCons (mVar 1) (mCons (mCallP F_whole (mCons (mUn fNeg (mVar 5)) mNil)) mNil))) (mCons (mCallP F_frac (mCons (mC (.int 1)) (mCons (mBin fAdd (mVar 5) (mC (.int 1))) mNil))) mNil))) mNil)))))))
    (items := rangeD 0 L) (fun j ρ G => ∃ x1 x2 x3 : Option D, ρ = [some v, some (q2 x), x1, some (.loc 0), x2, x3, none] ∧ (j < L + 1 → x1 = some (.lst (rowZ (L - j) (dlzs j z))) ∧ x2 = some (q2 (bin x j))) ∧ G = ⟨0, [.lst ((tms j g x).map q2)]⟩)
    (ρ := [some v, some (q2 x), some (.lst (ps.map .int)), some (.loc 0), some (q2 1), none, none]) (G := ⟨0, [.lst []]⟩) ⟨_, _, none, rfl, fun _ => ⟨by rw [hrow]; rfl, rfl⟩, rfl⟩ (by
    rintro j d ρ G hd ⟨x1, x2, x3, rfl, h12, rfl⟩
    have hj : j < L := by
      have := (List.getElem?_eq_some_iff.mp hd).1
      rwa [rangeD_length] at this
    obtain ⟨rfl, rfl⟩ := h12 (by omega)
    rw [rangeD_get hj, Int.zero_add] at hd
    cases hd
    obtain ⟨r, hr⟩ : ∃ r, L - j = r + 1 := ⟨L - j - 1, by omega⟩
    rw [hr]
    have e0 := rowZ_at (L := r + 1) (g := dlzs j z) (k := 0) (by omega)
    have hs : L - (j + 1) = r := by omega
    refine ⟨_, [some v, some (q2 x), some (.lst (rowZ (L - (j + 1)) (dlzs (j + 1) z))), some (.loc 0), some (q2 (bin x (j + 1))), some (.int (j : Nat)), none], ⟨0, [.lst ((tms (j + 1) g x).map q2)]⟩, rfl, ?_, _, _, _, rfl, fun _ => ⟨rfl, rfl⟩, rfl⟩
    have s0 := T.sz j 0 (by omega)
    have e1 : F_times [q2 (bin x j), q2 (dls j g 0)] Sto.none = some (q2 (dls j g 0 * bin x j), Sto.none) := by
      rw [Rat.mul_comm (dls j g 0)]; exact times_ev (N.b j (by omega)) s0
    refine seq_run (ρ1 := [some v, some (q2 x), some (.lst (rowZ (r + 1) (dlzs j z))), some (.loc 0), some (q2 (bin x j)), some (.int (j : Nat)), none]) (G1 := ⟨0, [.lst ((tms (j + 1) g x).map q2)]⟩) (drop_run (d := .non) ?_) (seq_run (asg_run (d := .lst (rowZ r (dlzs (j + 1) z))) (G1 := ⟨0, [.lst ((tms (j + 1) g x).map q2)]⟩) ?_) ?_)
    · have e2 := app_run (ρ := [some v, some (q2 x), some (.lst (rowZ (r + 1) (dlzs j z))), some (.loc 0), some (q2 (bin x j)), some (.int (j : Nat)), none]) (G := ⟨0, [.lst ((tms j g x).map q2)]⟩) (G1 := ⟨0, [.lst ((tms j g x).map q2)]⟩) (G2 := ⟨0, [.lst ((tms j g x).map q2)]⟩) (o := mVar 3) (e := mCallP F_times (mCons (mVar 4) (mCons (mCallP F_whole (mCons (mIdx (mVar 2) (mC (.int 0))) mNil)) mNil))) (l := 0) (y := q2 (dls j g 0 * bin x j)) rfl rfl (callP (ds := [q2 (bin x j), q2 (dls j g 0)]) (two_run rfl (callP (ds := [.int (dlzs j z 0)]) (one_run (idx_run rfl rfl e0)) rfl (by rw [whole_ev, hcast]) (below_q2 0 _))) rfl e1 (below_q2 0 _)) rfl (by rw [List.length_map, tms_len]; omega)
      refine e2.trans ?_
      rw [tms_succ]
      rfl
    · refine mLc_range (n := r) (lo := 0) (range1_run (one_run (bin_run (cb_run (one_run rfl) (bLen_of rfl)) rfl ?_)) (by omega)) (by rw [rowZ_len]) (fun k o hk ho => ?_) (by omega)
      · rw [fSub_ii, rowZ_len, show ((r + 1 : Nat) : Int) - 1 = (r : Int) from by omega]
      · rw [rowZ_get hk] at ho
        cases ho
        have e1 := rowZ_at (L := r + 1) (g := dlzs j z) (k := k + 1) (by omega)
        have e2 := rowZ_at (L := r + 1) (g := dlzs j z) (k := k) (by omega)
        rw [Int.zero_add]
        refine bin_run (idx_run rfl (bin_run (x := .int k) (y := .int 1) rfl rfl rfl) e1) (idx_run rfl rfl e2) ?_
        rw [fSub_ii, dlzs_succ]
        rfl
    · rw [hs]
      have e3 : F_plus [q2 x, q2 ((-(j : Int) : Int) : Rat)] Sto.none = some (q2 (x - (j : Nat)), Sto.none) := by
        have e := plus_ev N.x0 (N.c2 j (by omega))
        rw [Rat.sub_eq_add_neg, ← e, Rat.intCast_neg]
        rfl
      have e4 := frac_ev 1 (b := (j : Int) + 1) (by omega) (divOk_of (n := 64) (by omega) (by omega) (by omega))
      rw [show ((j : Int) + 1).toNat = j + 1 from by omega, mk_inv] at e4
      have e5 := times_ev (N.d j hj) (N.v j hj)
      have e6 := times_ev (N.b j (by omega)) (N.w j hj)
      rw [← Rat.mul_assoc] at e6
      exact asg_run (d := q2 (bin x (j + 1))) (callP (two_run rfl (callP (two_run (callP (two_run rfl (callP (ds := [.int (-(j : Int))]) rfl rfl (whole_ev _) (below_q2 0 _))) rfl e3 (below_q2 0 _)) (callP (ds := [.int 1, .int ((j : Int) + 1)]) rfl rfl e4 (below_q2 0 _))) rfl e5 (below_q2 0 _))) rfl e6 (below_q2 0 _)))
  rw [rangeD_length] at e
  have htot := total_of_ev (tms L g x) (fun q hq => by
    unfold tms at hq
    obtain ⟨j, hj, rfl⟩ := List.mem_map.mp hq
    exact N.t j (List.mem_range.mp hj)) (fun i hi => by
    rw [tms_len] at hi
    rw [tms_take _ _ _ hi, tms_sum]
    exact N.n i hi) (.lst ((tms L g x).map q2)) rfl
  rw [tms_sum] at htot
  unfold F_newton_at
  refine run_body (ρ' := [some v, some (q2 x), x1, some (.lst ((tms L g x).map q2)), x2, x3, none]) (G' := ⟨0, [.dead]⟩) rfl ?_ (below_q2 0 _)
  show M_newton_at [some v, some (q2 x), none, none, none, none, none] Sto.none = _
  unfold M_newton_at
  refine seq_run (ρ1 := [some v, some (q2 x), some (.lst (ps.map .int)), some (.loc 0), some (q2 1), none, none]) (G1 := ⟨0, [.lst []]⟩) (by subst hv; rfl) (seq_run (for_run (range1_run (n := L) (one_run (cb_run (one_run rfl) ?_)) (by omega)) e) (frz_run (l := 0) rfl (Nat.le_refl _) rfl (ret_run (callP (ds := [.lst ((tms L g x).map q2)]) rfl ?_ htot (below_q2 0 _)))))
  · subst hv
    have := bLen_of (G := ⟨0, [.lst []]⟩) (d := .tup (ps.map .int)) rfl
    rwa [List.length_map, hL] at this
  · show (belowDs 0 ((tms L g x).map q2) && true) = true
    rw [belowDs_q2]; rfl
end K89

namespace K89
open PySem PySem.Spec PyProof.Rows L2 Lf
/-- the values at the fine places -/
def fineG (ps : List Int) (m : Nat) (i : Int) : Rat := nw (gq ps) (mkRat i m) ps.length
theorem lfine_ev {ps : List Int} {m : Nat} (hm : 0 < m) (hm2 : m ≤ 1000) (T : Tb ps.length (gq ps)) (N : ∀ i : Nat, i < ps.length → Nz ps.length (gq ps) (mkRat i m)) (T2 : Tb ps.length (fineG ps m)) :
    F__law_fine [.tup (ps.map .int), .int (m : Int)] Sto.none = some (.tup ((steps ps.length (fineG ps m)).map q2), Sto.none) := by
  have hlen : bLen Sto.none [.tup (ps.map .int)] = some (.int (ps.length : Nat)) := by
    have := bLen_of (G := Sto.none) (d := .tup (ps.map .int)) rfl
    rwa [List.length_map] at this
  have hL2 := T.le
  have hlc : mLc (mRange1 (mCons (mCB bLen (mCons (mVar 0) mNil)) mNil)) (gtName 2) mYes (mCallP F__law_at (mCons (mVar 0) (mCons (mCallP F__law_fr (mCons (mVar 2) (mCons (mVar 1) mNil))) mNil))) [2] [some (.tup (ps.map .int)), some (.int (m : Int)), none] Sto.none = some (.lst ((tab ps.length (fineG ps m)).map q2), Sto.none) := by
    refine mLc_range (n := ps.length) (lo := 0) (range1_run (one_run (cb_run (one_run rfl) hlen)) (by omega)) (by rw [List.length_map, tab_len]) (fun k o hk ho => ?_) (by omega)
    rw [tab_mem hk ho, Int.zero_add]
    have e1 := lfr_ev (k : Nat) (b := (m : Int)) (by omega) (divOk_of (n := 64) (by omega) (by omega) (by omega))
    rw [Int.toNat_natCast] at e1
    refine callP (ds := [.tup (ps.map .int), q2 (mkRat (k : Nat) m)]) (two_run rfl (callP (ds := [.int (k : Nat), .int (m : Int)]) rfl rfl e1 (below_q2 0 _))) ?_ (lat_ev T (N k hk)) (below_q2 0 _)
    show (belowDs 0 (ps.map .int) && true) = true
    rw [belowDs_ints]; rfl
  unfold F__law_fine
  refine run_body (ρ' := [some (.tup (ps.map .int)), some (.int (m : Int)), none]) (G' := Sto.none) rfl ?_ (belowDs_q2 0 _)
  show M__law_fine [some (.tup (ps.map .int)), some (.int (m : Int)), none] Sto.none = _
  unfold M__law_fine
  refine ret_run (callP (one_run hlc) ?_ (ldiff_ev T2) (belowDs_q2 0 _))
  show (belowDs 0 ((tab ps.length (fineG ps m)).map q2) && true) = true
  rw [belowDs_q2]; rfl
theorem fine_start_ev {ps : List Int} {m : Nat} (hm : 0 < m) (hm2 : m ≤ 1000) (T0 : Tb ps.length (gq ps)) (N : ∀ i : Nat, i < ps.length → Nz ps.length (gq ps) (mkRat i m)) (T : Tb ps.length (fineG ps m)) :
    F_fine_start [.tup (ps.map .int), .int (m : Int)] Sto.none = some (.tup ((steps ps.length (fineG ps m)).map q2), Sto.none) := by
  have hlen : bLen Sto.none [.tup (ps.map .int)] = some (.int (ps.length : Nat)) := by
    have := bLen_of (G := Sto.none) (d := .tup (ps.map .int)) rfl
    rwa [List.length_map] at this
  have hL := T0.le
  have hlc : mLc (mRange1 (mCons (mCB bLen (mCons (mVar 0) mNil)) mNil)) (gtName 3) mYes (mCallP F_newton_at (mCons (mVar 0) (mCons (mCallP F_frac (mCons (mVar 3) (mCons (mVar 1) mNil))) mNil))) [3] [some (.tup (ps.map .int)), some (.int (m : Int)), none, none, none] Sto.none = some (.lst ((tab ps.length (fineG ps m)).map q2), Sto.none) := by
    refine mLc_range (n := ps.length) (lo := 0) (range1_run (one_run (cb_run (one_run rfl) hlen)) (by omega)) (by rw [List.length_map, tab_len]) (fun k o hk ho => ?_) (by omega)
    rw [tab_mem hk ho, Int.zero_add]
    have e1 := frac_ev (k : Nat) (b := (m : Int)) (by omega) (divOk_of (n := 64) (by omega) (by omega) (by omega))
    rw [Int.toNat_natCast] at e1
    refine callP (ds := [.tup (ps.map .int), q2 (mkRat (k : Nat) m)]) (two_run rfl (callP (ds := [.int (k : Nat), .int (m : Int)]) rfl rfl e1 (below_q2 0 _))) ?_ (newton_ev T0 (N k hk)) (below_q2 0 _)
    show (belowDs 0 (ps.map .int) && true) = true
    rw [belowDs_ints]; rfl
  generalize hv : D.tup (ps.map .int) = v at *
  generalize hg : fineG ps m = g at *
  generalize hLL : ps.length = L at *
  obtain ⟨ρ', G', e, hR, rfl⟩ := while_run (c := mTru (mVar 2)) (b := (mSeq (mDrop (mApp (mVar 4) (mIdx (mVar 2) (mC (.int 0)))))
  (mAsg 2 (mLc (mRange1 (mCons (mBin fSub (mCB bLen (mCons (mVar 2) mNil)) (mC (.int 1))) mNil)) (gtName 3) mYes (mCallP F_plus (mCons (mIdx (mVar 2) (mBin fAdd (mVar 3) (mC (.int 1)))) (mCons (mCallP F_turned (mCons (mIdx (mVar 2) (mVar 3)) mNil)) mNil))) [3]))))
    (fun r ρ G => r ≤ L ∧ ρ = [some v, some (.int (m : Int)), some (.lst ((tab r (dls (L - r) g)).map q2)), none, some (.loc 0)] ∧ G = ⟨0, [.lst ((steps (L - r) g).map q2)]⟩)
    (R := fun ρ G => (∃ x, ρ = [some v, some (.int (m : Int)), x, none, some (.loc 0)]) ∧ G = ⟨0, [.lst ((steps L g).map q2)]⟩) (by
    rintro r ρ G ⟨hr, rfl, rfl⟩
    cases r with
    | zero => exact .inl ⟨_, tru_run (x := .lst []) rfl rfl, ⟨_, rfl⟩, rfl⟩
    | succ r =>
      have hne : ((tab (r + 1) (dls (L - (r + 1)) g)).map q2).isEmpty = false := by
        cases h : tab (r + 1) (dls (L - (r + 1)) g) with
        | nil => have := tab_len (r + 1) (dls (L - (r + 1)) g); rw [h] at this; cases this
        | cons _ _ => rfl
      have e0 := tab_at (L := r + 1) (g := dls (L - (r + 1)) g) (k := 0) (by omega)
      refine .inr ⟨_, r, [some v, some (.int (m : Int)), some (.lst ((tab r (dls (L - r) g)).map q2)), none, some (.loc 0)], ⟨0, [.lst ((steps (L - r) g).map q2)]⟩, tru_run (x := .lst ((tab (r + 1) (dls (L - (r + 1)) g)).map q2)) rfl ?_, ?_, by omega, by omega, rfl, rfl⟩
      · show some (!((tab (r + 1) (dls (L - (r + 1)) g)).map q2).isEmpty) = _
        rw [hne]; rfl
      have hs : L - r = L - (r + 1) + 1 := by omega
      have hL := T.le
      refine seq_run (ρ1 := [some v, some (.int (m : Int)), some (.lst ((tab (r + 1) (dls (L - (r + 1)) g)).map q2)), none, some (.loc 0)]) (G1 := ⟨0, [.lst ((steps (L - r) g).map q2)]⟩) (drop_run (d := .non) ?_) (asg_run ?_)
      · have e1 := app_run (ρ := [some v, some (.int (m : Int)), some (.lst ((tab (r + 1) (dls (L - (r + 1)) g)).map q2)), none, some (.loc 0)]) (G := ⟨0, [.lst ((steps (L - (r + 1)) g).map q2)]⟩) (G1 := ⟨0, [.lst ((steps (L - (r + 1)) g).map q2)]⟩) (G2 := ⟨0, [.lst ((steps (L - (r + 1)) g).map q2)]⟩) (o := mVar 4) (e := mIdx (mVar 2) (mC (.int 0))) (l := 0) rfl rfl (idx_run (z := q2 (dls (L - (r + 1)) g 0)) rfl rfl e0) rfl (by rw [List.length_map, steps_len]; omega)
        rw [e1, steps_succ, ← hs]
        rfl
      · refine mLc_range (n := r) (lo := 0) (range1_run (one_run (bin_run (cb_run (one_run rfl) (bLen_of rfl)) rfl ?_)) (by omega)) (by rw [List.length_map, tab_len]) (fun k o hk ho => ?_) (by omega)
        · rw [fSub_ii, List.length_map, tab_len, show ((r + 1 : Nat) : Int) - 1 = (r : Int) from by omega]
        · have e1 := tab_at (L := r + 1) (g := dls (L - (r + 1)) g) (k := k + 1) (by omega)
          have e2 := tab_at (L := r + 1) (g := dls (L - (r + 1)) g) (k := k) (by omega)
          rw [tab_mem hk ho]
          have s1 := T.sz (L - (r + 1)) (k + 1) (by omega)
          have s2 := T.sz (L - (r + 1)) k (by omega)
          have e3 := plus_ev s1 s2.neg
          rw [← Rat.sub_eq_add_neg, show dls (L - (r + 1)) g ((k + 1 : Nat) : Int) - dls (L - (r + 1)) g (k : Nat) = dls (L - r) g (k : Nat) from by rw [hs, dls_succ]; rfl] at e3
          rw [Int.zero_add]
          exact callP (two_run (idx_run rfl (bin_run (x := .int k) (y := .int 1) rfl rfl rfl) e1) (callP (one_run (idx_run rfl rfl e2)) rfl (turned_ev _) (below_q2 0 _))) rfl e3 (below_q2 0 _)) L fuel [some v, some (.int (m : Int)), some (.lst ((tab L g).map q2)), none, some (.loc 0)] ⟨0, [.lst []]⟩ (by have := T.le; unfold fuel; omega) ⟨by omega, by rw [Nat.sub_self]; rfl, by rw [Nat.sub_self]; rfl⟩
  obtain ⟨x, rfl⟩ := hR
  unfold F_fine_start
  refine run_body (ρ' := [some v, some (.int (m : Int)), x, none, some (.loc 0)]) (G' := ⟨0, [.lst ((steps L g).map q2)]⟩) rfl ?_ (belowDs_q2 0 _)
  show M_fine_start [some v, some (.int (m : Int)), none, none, none] Sto.none = _
  unfold M_fine_start
  exact seq_run (asg_run hlc) (seq_run (asg_run (new_run (ds := []) rfl (by show 0 ≤ 16777216; omega))) (seq_run (show mWhile _ _ _ _ = _ from e) (ret_run (cb_run (one_run rfl) rfl))))
end K89

namespace K89
open PySem PySem.Spec PyProof.Rows L2 Lf
/-- the program's choices -/
def chz (n : Int) : Nat → Int
  | 0 => 1
  | j + 1 => chz n j * (n - (j : Nat)) / ((j : Nat) + 1)
theorem chz_all : ∀ i : Fin 91, ∀ j : Fin 7, (chz ((i.val : Int) - 30) j.val * ((i.val : Int) - 30 - (j.val : Int))) % ((j.val : Int) + 1) = 0 ∧ (chz ((i.val : Int) - 30) j.val).natAbs ≤ 2 ^ 40 := by decide +kernel
theorem chz_ok {n : Int} (h1 : -30 ≤ n) (h2 : n ≤ 60) {j : Nat} (hj : j ≤ 6) : (chz n j * (n - (j : Int))) % ((j : Int) + 1) = 0 ∧ (chz n j).natAbs ≤ 2 ^ 40 := by
  have := chz_all ⟨(n + 30).toNat, by omega⟩ ⟨j, by omega⟩
  dsimp only at this
  rwa [show (((n + 30).toNat : Nat) : Int) - 30 = n from by omega] at this
theorem chz_bin {n : Int} (h1 : -30 ≤ n) (h2 : n ≤ 60) : ∀ {j : Nat}, j ≤ 7 → ((chz n j : Int) : Rat) = bin (n : Rat) j
  | 0, _ => rfl
  | j + 1, hj => by
    have ih := chz_bin h1 h2 (j := j) (by omega)
    have h := (chz_ok h1 h2 (j := j) (by omega)).1
    have e : chz n (j + 1) * ((j : Int) + 1) = chz n j * (n - (j : Int)) := Int.ediv_mul_cancel (Int.dvd_of_emod_eq_zero h)
    refine mul_cancel j ?_
    rw [bin_mul, ← ih]
    have e2 := congrArg (fun z : Int => (z : Rat)) e
    simp only [Rat.intCast_mul, Rat.intCast_sub, Rat.intCast_add] at e2
    rw [cast_succ]
    exact e2
theorem chz_small {n : Int} (h1 : -30 ≤ n) (h2 : n ≤ 60) {j : Nat} (hj : j ≤ 6) : (chz n j).natAbs < 2 ^ 41 := by
  have := (chz_ok h1 h2 hj).2
  omega
theorem choose_step {n : Int} (h1 : -30 ≤ n) (h2 : n ≤ 60) {j : Nat} (hj : j ≤ 5) (ρ : Evn) (G : Sto) (e2 : ρ[2]? = some (some (.int (chz n j)))) (e0 : ρ[0]? = some (some (.int n))) (e3 : ρ[3]? = some (some (.int (j : Nat)))) :
    mAsg 2 (mBin fDiv (mBin fMul (mVar 2) (mBin fSub (mVar 0) (mVar 3))) (mBin fAdd (mVar 3) (mC (.int 1)))) ρ G = some (.nx, ρ.set 2 (some (.int (chz n (j + 1)))), G) := by
  have v0 : mVar 0 ρ G = some (.int n, G) := by unfold mVar; rw [e0]
  have v2 : mVar 2 ρ G = some (.int (chz n j), G) := by unfold mVar; rw [e2]
  have v3 : mVar 3 ρ G = some (.int (j : Nat), G) := by unfold mVar; rw [e3]
  have hs := chz_small h1 h2 (j := j) (by omega)
  exact asg_run (bin_run (bin_run v2 (bin_run v0 v3 rfl) (fMul_ii (mulOk_of (m := 41) (n := 64) hs (by omega) (by omega)))) (bin_run v3 rfl rfl) (fDiv_ii (divOk_of (n := 64) (by omega) (by omega) (by omega))))
theorem choose_ev {n : Int} (h1 : -30 ≤ n) (h2 : n ≤ 60) {j : Nat} (hj : j ≤ 6) : F_choose [.int n, .int (j : Nat)] Sto.none = some (.int (chz n j), Sto.none) := by
  obtain ⟨ρ', G', e, x, rfl, rfl⟩ := forL_run (f := gtName 3) (b := mAsg 2 (mBin fDiv (mBin fMul (mVar 2) (mBin fSub (mVar 0) (mVar 3))) (mBin fAdd (mVar 3) (mC (.int 1))))) (items := rangeD 0 j) (fun i ρ G => ∃ x : Option D, ρ = [some (.int n), some (.int (j : Nat)), some (.int (chz n i)), x] ∧ G = Sto.none) (ρ := [some (.int n), some (.int (j : Nat)), some (.int 1), none]) (G := Sto.none) ⟨none, rfl, rfl⟩ (by
    rintro i d ρ G hd ⟨x, rfl, rfl⟩
    have hi : i < j := by
      have := (List.getElem?_eq_some_iff.mp hd).1
      rwa [rangeD_length] at this
    rw [rangeD_get hi, Int.zero_add] at hd
    cases hd
    exact ⟨_, _, Sto.none, rfl, choose_step h1 h2 (j := i) (by omega) _ _ rfl rfl rfl, _, rfl, rfl⟩)
  rw [rangeD_length] at e
  refine run_body (ρ' := [some (.int n), some (.int (j : Nat)), some (.int (chz n j)), x]) (G' := Sto.none) rfl ?_ rfl
  show M_choose [some (.int n), some (.int (j : Nat)), none, none] Sto.none = _
  unfold M_choose
  exact seq_run (asg_run (d := .int 1) rfl) (seq_run (for_run (range1_run (one_run rfl) (by omega)) e) (ret_run rfl))
theorem lchoose_ev (k : Nat) {n : Int} (h1 : 0 ≤ n) (h2 : n ≤ 60) {j : Nat} (hj : j ≤ 6) : F__law_choose (k + 1) [.int n, .int (j : Nat)] Sto.none = some (.int (chz n j), Sto.none) := by
  obtain ⟨ρ', G', e, x, rfl, rfl⟩ := forL_run (f := gtName 3) (b := mAsg 2 (mBin fDiv (mBin fMul (mVar 2) (mBin fSub (mVar 0) (mVar 3))) (mBin fAdd (mVar 3) (mC (.int 1))))) (items := rangeD 0 j) (fun i ρ G => ∃ x : Option D, ρ = [some (.int n), some (.int (j : Nat)), some (.int (chz n i)), x] ∧ G = Sto.none) (ρ := [some (.int n), some (.int (j : Nat)), some (.int 1), none]) (G := Sto.none) ⟨none, rfl, rfl⟩ (by
    rintro i d ρ G hd ⟨x, rfl, rfl⟩
    have hi : i < j := by
      have := (List.getElem?_eq_some_iff.mp hd).1
      rwa [rangeD_length] at this
    rw [rangeD_get hi, Int.zero_add] at hd
    cases hd
    exact ⟨_, _, Sto.none, rfl, choose_step (by omega) h2 (j := i) (by omega) _ _ rfl rfl rfl, _, rfl, rfl⟩)
  rw [rangeD_length] at e
  show runF 4 2 (M__law_choose (F__law_choose k)) _ _ = _
  refine run_body (ρ' := [some (.int n), some (.int (j : Nat)), some (.int (chz n j)), x]) (G' := Sto.none) rfl ?_ rfl
  show M__law_choose (F__law_choose k) [some (.int n), some (.int (j : Nat)), none, none] Sto.none = _
  unfold M__law_choose
  exact seq_run (ifS_false (bool_run (bin_run (x := .int n) (y := .int 0) rfl rfl (by rw [fLt_ii, decide_eq_false (by omega)]))) rfl) (seq_run (asg_run (d := .int 1) rfl) (seq_run (for_run (range1_run (one_run rfl) (by omega)) e) (ret_run rfl)))
end K89

namespace K89
open PySem PySem.Spec PyProof.Rows L2 Lf
/-! ### the line of a start -/
theorem fIdx0 (G : Sto) (x : D) (xs : List D) : fIdx G (.tup (x :: xs)) (.int 0) = some x := atI0 x xs
def z0 : Int → Rat := fun _ => 0
theorem dls_z0 : ∀ j : Nat, dls j z0 = z0
  | 0 => rfl
  | j + 1 => by
    show dls j (dl z0) = z0
    have : dl z0 = z0 := by funext i; show (0 : Rat) - 0 = 0; grind
    rw [this, dls_z0 j]
theorem nw_z0 (x : Rat) : ∀ L : Nat, nw z0 x L = 0
  | 0 => rfl
  | L + 1 => by
    show nw z0 x L + dls L z0 0 * _ = 0
    rw [nw_z0 x L, dls_z0]
    show (0 : Rat) + 0 * _ = 0
    grind
theorem sz0 : Sz 0 := ⟨by show 0 < _; exact Nat.pow_pos (by decide), by show 1 < 2 ^ 2000; exact Nat.one_lt_two_pow (by decide)⟩
theorem zeros_eq (L : Nat) : (steps L z0).map q2 = List.replicate L (D.tup [.int 0, .int 1]) := by
  refine List.ext_getElem? fun k => ?_
  by_cases h : k < L
  · rw [List.getElem?_map, steps_get h, dls_z0, List.getElem?_replicate, if_pos h]; rfl
  · rw [List.getElem?_eq_none (by rw [List.length_map, steps_len]; omega), List.getElem?_eq_none (by rw [List.length_replicate]; omega)]
structure Lz (L : Nat) (g : Int → Rat) (n : Int) : Prop where
  lo : -30 ≤ n
  hi : n ≤ 60
  le : L ≤ 7
  s : ∀ j, j < L → Sz (dls j g 0)
  c : ∀ j, j < L → Sz (bin n j)
  t : ∀ j, j < L → Sz (dls j g 0 * bin n j)
  n : ∀ j, j ≤ L → Sz (nw g n j)
theorem Lz.zero {L : Nat} {g : Int → Rat} {n : Int} (h : Lz L g n) : Lz L z0 n := ⟨h.lo, h.hi, h.le, fun j _ => by rw [dls_z0]; exact sz0, h.c, fun j _ => by rw [dls_z0]; show Sz (0 * _); rw [Rat.zero_mul]; exact sz0, fun j _ => by rw [nw_z0]; exact sz0⟩
def chs (L : Nat) (n : Int) : List Rat := (List.range L).map fun j => bin (n : Rat) j
theorem chs_len (L : Nat) (n : Int) : (chs L n).length = L := by unfold chs; rw [List.length_map, List.length_range]
theorem zip_tms (L : Nat) (g : Int → Rat) (n : Int) : List.zipWith (· * ·) (steps L g) (chs L n) = tms L g n := by
  unfold steps chs tms
  rw [List.zipWith_map, List.zipWith_self]
def chD (L : Nat) (n : Int) : List D := (List.range L).map fun j => .int (chz n j)
theorem chD_len (L : Nat) (n : Int) : (chD L n).length = L := by unfold chD; rw [List.length_map, List.length_range]
theorem chD_get {L : Nat} {n : Int} {k : Nat} (h : k < L) : (chD L n)[k]? = some (.int (chz n k)) := by
  unfold chD; rw [List.getElem?_map, List.getElem?_range h]; rfl
theorem belowDs_ch (n L : Nat) (z : Int) : belowDs n (chD L z) = true := by
  have : chD L z = ((List.range L).map fun j => chz z j).map D.int := by unfold chD; rw [List.map_map]; rfl
  rw [this]; exact belowDs_ints _ _
theorem slips_summed_ev {L : Nat} {g : Int → Rat} {n : Int} (h : Lz L g n) : F_slips_summed [.tup ((steps L g).map q2), .lst (chD L n)] Sto.none = some (q2 (nw g n L), Sto.none) := by
  have hL := h.le
  have hp := product_sum_ev (steps L g) (chs L n) (by rw [steps_len, chs_len]) (by rw [steps_len]; omega) (fun q hq => by
    obtain ⟨j, hj, rfl⟩ := List.mem_map.mp hq
    exact h.s j (List.mem_range.mp hj)) (fun q hq => by
    obtain ⟨j, hj, rfl⟩ := List.mem_map.mp hq
    exact h.c j (List.mem_range.mp hj)) (fun q hq => by
    rw [zip_tms] at hq
    obtain ⟨j, hj, rfl⟩ := List.mem_map.mp hq
    exact h.t j (List.mem_range.mp hj)) (fun i hi => by
    rw [steps_len] at hi
    rw [zip_tms, tms_take _ _ _ hi, tms_sum]
    exact h.n i hi) (.tup ((steps L g).map q2)) (.lst ((chs L n).map q2)) (fun _ => rfl) (fun _ => rfl) (belowDs_q2 0 _) (belowDs_q2 0 _) (fun _ _ => rfl) (fun _ _ => rfl)
  rw [zip_tms, tms_sum] at hp
  unfold F_slips_summed
  generalize hv : D.tup ((steps L g).map q2) = v at *
  refine run_body (ρ' := [some v, some (.lst (chD L n)), none]) (G' := Sto.none) rfl ?_ (below_q2 0 _)
  show M_slips_summed [some v, some (.lst (chD L n)), none] Sto.none = _
  unfold M_slips_summed
  refine ret_run (callP (two_run rfl (mLc_run (items := chD L n) (outs := (chs L n).map q2) (G1 := Sto.none) rfl (lcL_run (by rw [chD_len, List.length_map, chs_len]) fun k d o hd ho => ?_) (by rw [List.length_map, chs_len]; omega))) ?_ hp (below_q2 0 _))
  · have hk : k < L := by
      have := (List.getElem?_eq_some_iff.mp hd).1
      rwa [chD_len] at this
    rw [chD_get hk] at hd
    cases hd
    unfold chs at ho
    rw [List.getElem?_map, List.getElem?_map, List.getElem?_range hk] at ho
    cases ho
    refine ⟨_, rfl, rfl, callP (ds := [.int (chz n k)]) rfl rfl ?_ (below_q2 0 _)⟩
    rw [whole_ev, chz_bin h.lo h.hi (by omega)]
  · subst hv
    show (belowDs 0 ((steps L g).map q2) && (belowDs 0 ((chs L n).map q2) && true)) = true
    rw [belowDs_q2, belowDs_q2]; rfl
theorem choices_ev {L : Nat} {g : Int → Rat} {n : Int} (h : Lz L g n) (z : D) : F_choices_at [.tup [.tup ((steps L g).map q2), z], .int n] Sto.none = some (.lst (chD L n), Sto.none) := by
  have hL := h.le
  have hlen : bLen Sto.none [.tup ((steps L g).map q2)] = some (.int (L : Nat)) := by
    have := bLen_of (G := Sto.none) (d := .tup ((steps L g).map q2)) rfl
    rwa [List.length_map, steps_len] at this
  unfold F_choices_at
  refine run_body (ρ' := [some (.tup [.tup ((steps L g).map q2), z]), some (.int n), none]) (G' := Sto.none) rfl ?_ (belowDs_ch 0 L n)
  show M_choices_at [some (.tup [.tup ((steps L g).map q2), z]), some (.int n), none] Sto.none = _
  unfold M_choices_at
  refine ret_run (mLc_range (n := L) (lo := 0) (range1_run (one_run (cb_run (one_run (idx_run (y := .int 0) rfl rfl (fIdx0 _ _ _))) hlen)) (by omega)) (chD_len L n) (fun k o hk ho => ?_) (by omega))
  rw [chD_get hk] at ho
  cases ho
  rw [Int.zero_add]
  exact callP (ds := [.int n, .int (k : Nat)]) rfl rfl (choose_ev h.lo h.hi (by omega)) rfl
theorem line_ev {L : Nat} {g : Int → Rat} {n : Int} (h : Lz L g n) : F_line [.tup [.tup ((steps L g).map q2), .tup ((steps L z0).map q2)], .tup ((steps L z0).map q2), .int n] Sto.none = some (q2 (nw g n L), Sto.none) := by
  have e1 := slips_summed_ev h
  have e2 := slips_summed_ev h.zero
  rw [nw_z0] at e2
  have e3 := plus_ev (h.n L (Nat.le_refl _)) sz0
  rw [Rat.add_zero] at e3
  have e4 := choices_ev h (.tup ((steps L z0).map q2))
  have b1 := belowDs_q2 0 (steps L g)
  have b2 := belowDs_q2 0 (steps L z0)
  generalize (steps L z0).map q2 = zs at *
  generalize (steps L g).map q2 = ss at *
  unfold F_line
  refine run_body (ρ' := [some (.tup [.tup ss, .tup zs]), some (.tup zs), some (.int n), some (.lst (chD L n))]) (G' := Sto.none) rfl ?_ (below_q2 0 _)
  show M_line [some (.tup [.tup ss, .tup zs]), some (.tup zs), some (.int n), none] Sto.none = _
  unfold M_line
  refine seq_run (asg_run (callP (ds := [.tup [.tup ss, .tup zs], .int n]) rfl ?_ e4 (belowDs_ch 0 L n))) (ret_run (callP (two_run (callP (two_run (idx_run (y := .int 0) rfl rfl (fIdx0 _ _ _)) rfl) ?_ e1 (below_q2 0 _)) (callP (two_run rfl rfl) ?_ e2 (below_q2 0 _))) rfl e3 (below_q2 0 _)))
  · show (((belowDs 0 ss && (belowDs 0 zs && true))) && true) = true
    rw [b1, b2]; rfl
  · show (belowDs 0 ss && (belowDs 0 (chD L n) && true)) = true
    rw [b1, belowDs_ch]; rfl
  · show (belowDs 0 zs && (belowDs 0 (chD L n) && true)) = true
    rw [b2, belowDs_ch]; rfl
theorem lline_ev {L : Nat} {g : Int → Rat} {n : Int} (h : Lz L g n) (h0 : 0 ≤ n) : F__law_line [.tup [.tup ((steps L g).map q2), .tup ((steps L z0).map q2)], .tup ((steps L z0).map q2), .int n] Sto.none = some (q2 (nw g n L), Sto.none) := by
  have hL := h.le
  have hlen : bLen Sto.none [.tup ((steps L g).map q2)] = some (.int (L : Nat)) := by
    have := bLen_of (G := Sto.none) (d := .tup ((steps L g).map q2)) rfl
    rwa [List.length_map, steps_len] at this
  have hs : ∀ k, k < L → L2.atI ((steps L g).map q2) (k : Int) = some (q2 (dls k g 0)) := fun k hk => steps_at hk
  have hz : ∀ k, k < L → L2.atI ((steps L z0).map q2) (k : Int) = some (q2 0) := fun k hk => by
    have := steps_at (g := z0) hk
    rwa [dls_z0] at this
  generalize (steps L z0).map q2 = zs at *
  generalize (steps L g).map q2 = ss at *
  obtain ⟨ρ', G', e, x, rfl, rfl⟩ := forL_run (f := gtName 4) (b := (mAsg 3 (mCallP F__law_plus (mCons (mVar 3) (mCons (mCallP F__law_times (mCons (mTup (mCons (mCallP (F__law_choose 2) (mCons (mVar 2) (mCons (mVar 4) mNil))) (mCons (mC (.int 1)) mNil))) (mCons (mCallP F__law_plus (mCons (mIdx (mIdx (mVar 0) (mC (.int 0))) (mVar 4)) (mCons (mIdx (mVar 1) (mVar 4)) mNil))) mNil))) mNil)))))
    (items := rangeD 0 L) (fun i ρ G => ∃ x : Option D, ρ = [some (.tup [.tup ss, .tup zs]), some (.tup zs), some (.int n), some (q2 (nw g n i)), x] ∧ G = Sto.none)
    (ρ := [some (.tup [.tup ss, .tup zs]), some (.tup zs), some (.int n), some (q2 0), none]) (G := Sto.none) ⟨none, rfl, rfl⟩ (by
    rintro i d ρ G hd ⟨x, rfl, rfl⟩
    have hi : i < L := by
      have := (List.getElem?_eq_some_iff.mp hd).1
      rwa [rangeD_length] at this
    rw [rangeD_get hi, Int.zero_add] at hd
    cases hd
    have e1 := lplus_ev (h.s i hi) sz0
    rw [Rat.add_zero] at e1
    have e2 := ltimes_ev (h.c i hi) (h.s i hi)
    rw [Rat.mul_comm] at e2
    have e3 := lplus_ev (h.n i (by omega)) (h.t i hi)
    refine ⟨_, [some (.tup [.tup ss, .tup zs]), some (.tup zs), some (.int n), some (q2 (nw g n (i + 1))), some (.int (i : Nat))], Sto.none, rfl, asg_run (callP (two_run rfl (callP (ds := [q2 (bin n i), q2 (dls i g 0)]) (two_run ?_ (callP (two_run (idx_run (idx_run (y := .int 0) rfl rfl (fIdx0 _ _ _)) rfl (hs i hi)) (idx_run rfl rfl (hz i hi))) rfl e1 (below_q2 0 _))) rfl e2 (below_q2 0 _))) rfl e3 (below_q2 0 _)), _, rfl, rfl⟩
    rw [← chz_bin h.lo h.hi (by omega), q2_int]
    exact tup_run (two_run (callP (ds := [.int n, .int (i : Nat)]) rfl rfl (lchoose_ev 1 h0 h.hi (by omega)) rfl) rfl) (by show 2 ≤ 16777216; omega))
  rw [rangeD_length] at e
  unfold F__law_line
  refine run_body (ρ' := [some (.tup [.tup ss, .tup zs]), some (.tup zs), some (.int n), some (q2 (nw g n L)), x]) (G' := Sto.none) rfl ?_ (below_q2 0 _)
  show M__law_line [some (.tup [.tup ss, .tup zs]), some (.tup zs), some (.int n), none, none] Sto.none = _
  unfold M__law_line
  exact seq_run (asg_run (d := q2 0) rfl) (seq_run (for_run (range1_run (one_run (cb_run (one_run (idx_run (y := .int 0) rfl rfl (fIdx0 _ _ _))) hlen)) (by omega)) e) (ret_run rfl))
end K89

namespace K89
open PySem PySem.Spec PyProof.Rows L2 Lf
/-! ### sizes -/
theorem szB {L B : Nat} {q : Rat} (h : Bd L B q) (h0 : 0 < L) (h1 : L ≤ 2 ^ 100) (h2 : B ≤ 2 ^ 900) : Sz q := by
  refine h.sz h0 (Nat.lt_of_le_of_lt h1 (Nat.pow_lt_pow_right (by omega) (by omega))) ?_
  have := Nat.mul_le_mul h2 h1
  rw [← Nat.pow_add] at this
  exact Nat.lt_of_le_of_lt this (Nat.pow_lt_pow_right (by omega) (by omega))
theorem nw_bd {L T : Nat} {g : Int → Rat} {x : Rat} : ∀ {j : Nat}, (∀ i, i < j → Bd L T (dls i g 0 * bin x i)) → Bd L (j * T) (nw g x j)
  | 0, _ => ⟨0, by show (0 : Rat) * _ = _; rw [Rat.zero_mul]; rfl, by show 0 ≤ _; omega⟩
  | j + 1, h => by
    have := (nw_bd (j := j) fun i hi => h i (by omega)).add (h j (by omega))
    refine this.mono (Nat.dvd_refl _) ?_
    rw [Nat.succ_mul]
    exact Nat.le_refl _
theorem flr_small {m : Nat} (h : m ≤ 10) : flr m 7 ≤ 2 ^ 40 := by
  have : ∀ m : Fin 11, flr m.val 7 ≤ 2 ^ 40 := by decide +kernel
  exact this ⟨m, by omega⟩
section
variable {ps : List Int} (hL : ps.length ≤ 7) (hp : ∀ z ∈ ps, z.natAbs ≤ 2 ^ 100)
include hL hp
theorem dls_bd {j i : Nat} (h : i + j < ps.length) : Bd 1 (2 ^ 107) (dls j (gq ps) (i : Nat)) := by
  have := dls_int (B := 0) j (gq ps) ps.length (2 ^ 100) 1 (fun i hi => Bd.int (hp _ (List.mem_of_getElem? (gz_get hi)))) i h
  refine this.mono (Nat.dvd_refl _) ?_
  rw [← Nat.pow_add]
  exact Nat.pow_le_pow_right (by omega) (by omega)
theorem tb_gq : Tb ps.length (gq ps) := ⟨fun j i h => szB (dls_bd hL hp h) (by omega) (by decide) (Nat.pow_le_pow_right (by omega) (by omega)), by omega⟩
omit hL hp in
theorem x_bd {m : Nat} {i : Int} (hm : 0 < m) (hi : i.natAbs ≤ 64) : Bd m 64 (mkRat i m) := by
  refine ⟨i, ?_, ?_⟩
  · have := cast_ne (m - 1)
    rw [show m - 1 + 1 = m from by omega] at this
    rw [Rat.mkRat_eq_div, Rat.div_mul_cancel]
    exact this
  · have := Nat.mul_le_mul hi hm
    omega
omit hL hp in
theorem bin_bd7 {m : Nat} {i : Int} (hm : 0 < m) (hi : i.natAbs ≤ 64) {j : Nat} (hj : j ≤ 7) : Bd (flr m 7) (2 ^ 49) (bin (mkRat i m) j) := by
  refine (bin_bd (x_bd hm hi) j).mono (flr_dvd m hj) ?_
  have h1 : (64 + j) ^ j ≤ 128 ^ j := Nat.pow_le_pow_left (by omega) _
  have h2 : 128 ^ j ≤ 128 ^ 7 := Nat.pow_le_pow_right (by omega) hj
  exact Nat.le_trans h1 (Nat.le_trans h2 (by decide))
theorem t_bd {m : Nat} {i : Int} (hm : 0 < m) (hi : i.natAbs ≤ 64) {j : Nat} (hj : j < ps.length) : Bd (flr m 7) (2 ^ 156) (dls j (gq ps) 0 * bin (mkRat i m) j) := by
  have h1 := dls_bd hL hp (j := j) (i := 0) (by omega)
  have h2 := bin_bd7 hm hi (j := j) (by omega)
  refine (h1.mul h2).mono (by rw [Nat.one_mul]; exact Nat.dvd_refl _) ?_
  rw [← Nat.pow_add]
  exact Nat.le_refl _
theorem nw_bd7 {m : Nat} {i : Int} (hm : 0 < m) (hi : i.natAbs ≤ 64) {j : Nat} (hj : j ≤ ps.length) : Bd (flr m 7) (2 ^ 159) (nw (gq ps) (mkRat i m) j) := by
  refine (nw_bd (T := 2 ^ 156) fun k hk => t_bd hL hp hm hi (by omega)).mono (Nat.dvd_refl _) ?_
  have : j * 2 ^ 156 ≤ 2 ^ 3 * 2 ^ 156 := Nat.mul_le_mul_right _ (by omega)
  rwa [← Nat.pow_add] at this
theorem nz_ok {m : Nat} {i : Int} (hm : 0 < m) (hm2 : m ≤ 10) (hi : i.natAbs ≤ 64) : Nz ps.length (gq ps) (mkRat i m) := by
  have f1 := flr_pos hm 7
  have f2 := flr_small hm2
  have f3 : flr m 7 ≤ 2 ^ 100 := Nat.le_trans f2 (Nat.pow_le_pow_right (by omega) (by omega))
  have f4 : flr m 7 * m ≤ 2 ^ 100 := by
    have := Nat.mul_le_mul f2 hm2
    exact Nat.le_trans this (by decide)
  have pw : ∀ {k : Nat}, k ≤ 900 → 2 ^ k ≤ 2 ^ 900 := fun h => Nat.pow_le_pow_right (by omega) h
  have big : (10000000000 : Nat) ≤ 2 ^ 900 := Nat.le_trans (show _ ≤ 2 ^ 40 by decide) (pw (by omega))
  have hd : ∀ j : Nat, Bd m (64 + j) (mkRat i m - (j : Nat)) := fun j => (x_bd hm hi).sub ((Bd.int (B := j) (n := (j : Int)) (by omega)).mono (Nat.one_dvd _) (Nat.le_refl _))
  have hj2 : ∀ j : Nat, Bd 1 j (j : Rat) := fun j => Bd.int (B := j) (n := (j : Int)) (by omega)
  have le100 : ∀ {a : Nat}, a ≤ 1000 → a ≤ 2 ^ 100 := fun h => Nat.le_trans h (Nat.le_trans (show _ ≤ 2 ^ 10 by decide) (Nat.pow_le_pow_right (by omega) (by omega)))
  refine ⟨szB (x_bd hm hi) hm (le100 (by omega)) (by omega), fun j hj => szB (hj2 j) (by omega) (le100 (by omega)) (by omega), fun j hj => szB (hj2 j).neg (by omega) (le100 (by omega)) (by omega),
    fun j hj => szB (bin_bd7 hm hi (by omega)) f1 f3 (pw (by omega)), fun j hj => szB (t_bd hL hp hm hi hj) f1 f3 (pw (by omega)), fun j hj => szB (nw_bd7 hL hp hm hi hj) f1 f3 (pw (by omega)),
    fun j hj => szB (hd j) hm (le100 (by omega)) (by omega), fun j hj => szB ((bin_bd7 hm hi (j := j) (by omega)).mul (hd j)) (Nat.mul_pos f1 hm) f4 ?_, fun j hj => szB ((hd j).mul (Bd.inv (k := j + 1) (by omega))) (Nat.mul_pos hm (by omega)) (le100 ?_) (by omega), fun j hj => szB (Bd.inv (k := j + 1) (by omega)) (by omega) (le100 (by omega)) (by omega)⟩
  · have : 2 ^ 49 * (64 + j) ≤ 2 ^ 49 * 2 ^ 7 := Nat.mul_le_mul_left _ (by omega)
    rw [← Nat.pow_add] at this
    exact Nat.le_trans this (pw (by omega))
  · have : m * (j + 1) ≤ 10 * 8 := Nat.mul_le_mul hm2 (by omega)
    omega
theorem fine_bd {m : Nat} (hm : 0 < m) {j i : Nat} (h : i + j < ps.length) : Bd (flr m 7) (2 ^ 166) (dls j (fineG ps m) (i : Nat)) := by
  have := dls_int (B := 0) j (fineG ps m) ps.length (2 ^ 159) (flr m 7) (fun i hi => nw_bd7 hL hp hm (by omega) (Nat.le_refl _)) i h
  refine this.mono (Nat.dvd_refl _) ?_
  rw [← Nat.pow_add]
  exact Nat.pow_le_pow_right (by omega) (by omega)
theorem tb_fine {m : Nat} (hm : 0 < m) (hm2 : m ≤ 10) : Tb ps.length (fineG ps m) := by
  have f1 := flr_pos hm 7
  have f3 : flr m 7 ≤ 2 ^ 100 := Nat.le_trans (flr_small hm2) (Nat.pow_le_pow_right (by omega) (by omega))
  exact ⟨fun j i h => szB (fine_bd hL hp hm h) f1 f3 (Nat.pow_le_pow_right (by omega) (by omega)), by omega⟩
theorem lz_ok {m : Nat} (hm : 0 < m) (hm2 : m ≤ 10) {n : Int} (h1 : -30 ≤ n) (h2 : n ≤ 60) : Lz ps.length (fineG ps m) n := by
  have f1 := flr_pos hm 7
  have f3 : flr m 7 ≤ 2 ^ 100 := Nat.le_trans (flr_small hm2) (Nat.pow_le_pow_right (by omega) (by omega))
  have pw : ∀ {k : Nat}, k ≤ 900 → 2 ^ k ≤ 2 ^ 900 := fun h => Nat.pow_le_pow_right (by omega) h
  have hs : ∀ j, j < ps.length → Bd (flr m 7) (2 ^ 166) (dls j (fineG ps m) 0) := fun j hj => fine_bd hL hp hm (j := j) (i := 0) (by omega)
  have hc : ∀ j, j < ps.length → Bd 1 (2 ^ 40) (bin (n : Rat) j) := fun j hj => by
    rw [← chz_bin h1 h2 (by omega)]
    exact Bd.int (chz_ok h1 h2 (by omega)).2
  have ht : ∀ j, j < ps.length → Bd (flr m 7) (2 ^ 206) (dls j (fineG ps m) 0 * bin (n : Rat) j) := fun j hj => by
    refine ((hs j hj).mul (hc j hj)).mono (by rw [Nat.mul_one]; exact Nat.dvd_refl _) ?_
    rw [← Nat.pow_add]
    exact Nat.le_refl _
  refine ⟨h1, h2, hL, fun j hj => szB (hs j hj) f1 f3 (pw (by omega)), fun j hj => szB (hc j hj) (by omega) (Nat.pow_pos (by omega)) (pw (by omega)), fun j hj => szB (ht j hj) f1 f3 (pw (by omega)), fun j hj => szB ((nw_bd (T := 2 ^ 206) fun k hk => ht k (by omega)).mono (C := 2 ^ 209) (Nat.dvd_refl _) ?_) f1 f3 (pw (by omega))⟩
  have : j * 2 ^ 206 ≤ 2 ^ 3 * 2 ^ 206 := Nat.mul_le_mul_right _ (by omega)
  rwa [← Nat.pow_add] at this
end
theorem fine_all (ps : List Int) {m : Nat} (n : Int) : nw (fineG ps m) (n : Rat) ps.length = fineG ps m n := by
  refine nw_all (Pn.congr (fun i => ?_) (nw_Pn (gq ps) (1 / (m : Rat)) ps.length)) n
  show nw (gq ps) _ _ = nw (gq ps) (mkRat i m) _
  rw [Rat.mkRat_eq_div, Rat.div_def, Rat.div_def, Rat.one_mul]
theorem fine_old (ps : List Int) {m : Nat} (hm : 0 < m) {i : Nat} (hi : i < ps.length) : fineG ps m ((i : Int) * (m : Int)) = gq ps (i : Nat) := by
  show nw (gq ps) (mkRat ((i : Int) * (m : Int)) m) ps.length = _
  rw [show mkRat ((i : Int) * (m : Int)) m = ((i : Nat) : Rat) from ?_, nw_at i _ _ hi]
  have := cast_ne (m - 1)
  rw [show m - 1 + 1 = m from by omega] at this
  rw [Rat.mkRat_eq_div, Rat.intCast_mul]
  exact Rat.mul_div_cancel this
end K89

namespace K89
open PySem PySem.Spec PyProof.Rows L2 Lf
/-- no frame cell is seen: the whole store of the law -/
def envL (script bag : D) (xs : List (Option D)) : Evn := some script :: some bag :: xs
theorem one_turn {script : D} {b g : Nat} {cs : List Cell} {n : Nat} (B : Bag cs b g (n + 100)) (x2 x3 x4 x5 x6 x7 x8 x9 x10 x11 : Option D) :
    ∃ cs' y3 y4 y5 y6 y7 y8 y9 y10 y11, (mSeq (mAsg 3 (mCall F__law_pick (mCons (mVar 1) (mCons (mLst (mCons (mC (.int 3)) (mCons (mC (.int 3)) (mCons (mC (.int 10)) (mCons (mC (.int 1000)) (mCons (mC (.int 1)) (mCons (mC (.int 7)) (mCons (mC (.int 50)) (mCons (mCallP F__law_ten (mCons (mC (.int 30)) mNil)) mNil))))))))) mNil))))
  (mSeq (mAsg 4 (mCB bTuple (mCons (mLc (mRange1 (mCons (mBin fAdd (mC (.int 1)) (mCall F__law_draw (mCons (mVar 1) (mCons (mC (.int 7)) mNil)))) mNil)) (gtName 11) mYes (mBin fSub (mCall F__law_draw (mCons (mVar 1) (mCons (mBin fAdd (mBin fMul (mC (.int 2)) (mVar 3)) (mC (.int 1))) mNil))) (mVar 3)) [11]) mNil)))
  (mSeq (mAsg 5 (mBin fAdd (mC (.int 2)) (mCall F__law_draw (mCons (mVar 1) (mCons (mC (.int 9)) mNil)))))
  (mSeq (mAsg 6 (mCallP F__law_fine (mCons (mVar 4) (mCons (mVar 5) mNil))))
  (mSeq (mAsg 7 (mCallP F_fine_start (mCons (mVar 4) (mCons (mVar 5) mNil))))
  (mSeq (mIfS (mNot (mTru (mCallP (F__law_same 5) (mCons (mTup (mCons (mVar 7) (mCons (mCallP F_fine_start (mPick [1, 0] 2 (mCons (mVar 5) (mCons (mVar 4) mNil)))) mNil))) (mCons (mTup (mCons (mVar 6) (mCons (mVar 6) mNil))) mNil)))))
  (mRet (mC (.bl false)))
  mSkip)
  (mSeq (mPar2 9 10 (mCons (mTup (mCons (mVar 7) (mCons (mBin fMul (mTup (mCons (mTup (mCons (mC (.int 0)) (mCons (mC (.int 1)) mNil))) mNil)) (mCB bLen (mCons (mVar 7) mNil))) mNil))) (mCons (mBin fMul (mTup (mCons (mTup (mCons (mC (.int 0)) (mCons (mC (.int 1)) mNil))) mNil)) (mCB bLen (mCons (mVar 7) mNil))) mNil)))
  (mSeq (mFor (mRange1 (mCons (mCB bLen (mCons (mVar 4) mNil)) mNil)) (gtName 8)
  (mIfS (mBool (mBin fNe (mCallP F__law_line (mCons (mVar 9) (mCons (mVar 10) (mCons (mBin fMul (mVar 8) (mVar 5)) mNil)))) (mTup (mCons (mIdx (mVar 4) (mVar 8)) (mCons (mC (.int 1)) mNil)))))
  (mRet (mC (.bl false)))
  mSkip))
  (mSeq (mAsg 8 (mBin fSub (mCall F__law_draw (mCons (mVar 1) (mCons (mC (.int 90)) mNil))) (mC (.int 30))))
  (mIfS (mNot (mTru (mCallP (F__law_same 5) (mCons (mCallP F_line (mCons (mVar 9) (mCons (mVar 10) (mCons (mVar 8) mNil)))) (mCons (mCallP F__law_at (mCons (mVar 4) (mCons (mCallP F__law_fr (mCons (mVar 8) (mCons (mVar 5) mNil))) mNil))) mNil)))))
  (mRet (mC (.bl false)))
  mSkip)))))))))) [some script, some (.loc b), x2, x3, x4, x5, x6, x7, x8, x9, x10, x11] ⟨0, cs⟩ = some (.nx, [some script, some (.loc b), x2, y3, y4, y5, y6, y7, y8, y9, y10, y11], ⟨0, cs'⟩) ∧ Bag cs' b g n := by
  -- the size
  obtain ⟨xs, cs1, e1, hm, B1, -, -⟩ := pick_ev (k := cs.length) (xs := [.int 3, .int 3, .int 10, .int 1000, .int 1, .int 7, .int 50, .int (10 ^ 30)]) (B.mono (show n + 99 + 1 ≤ n + 100 by omega)) (by simp) (by show 8 ≤ 1000; omega) (fun x hx => by
    simp at hx
    rcases hx with rfl | rfl | rfl | rfl | rfl | rfl | rfl <;> rfl)
  obtain ⟨s, rfl, hs1, hs2⟩ : ∃ s : Int, xs = .int s ∧ 1 ≤ s ∧ s ≤ 10 ^ 30 := by
    simp at hm
    rcases hm with rfl | rfl | rfl | rfl | rfl | rfl | rfl
    · exact ⟨3, rfl, by decide, by decide⟩
    · exact ⟨10, rfl, by decide, by decide⟩
    · exact ⟨1000, rfl, by decide, by decide⟩
    · exact ⟨1, rfl, by decide, by decide⟩
    · exact ⟨7, rfl, by decide, by decide⟩
    · exact ⟨50, rfl, by decide, by decide⟩
    · exact ⟨10 ^ 30, rfl, by decide, by decide⟩
  have hsb : s.natAbs < 2 ^ 100 := by
    have : (10 : Int) ^ 30 < 2 ^ 100 := by decide
    omega
  -- how many
  obtain ⟨r, cs2, e2, hr0, hr7, B2, -, -⟩ := draw_ev (k := cs1.length) (many := 7) (B1.mono (show n + 98 + 1 ≤ n + 99 by omega)) (by decide) (by decide)
  obtain ⟨L, hL⟩ : ∃ L : Nat, 1 + r = (L : Int) := ⟨(1 + r).toNat, by omega⟩
  have hL1 : 1 ≤ L := by omega
  have hL7 : L ≤ 7 := by omega
  -- the figures
  have hdv : divOk (2 * s + 1) = true := divOk_of (n := 200) (by omega) (by omega) (by omega)
  obtain ⟨outs, G', e3, hl3, hq3, cs3, rfl, B3⟩ := lcL_eff (f := gtName 11) (c := mYes) (e := mBin fSub (mCall F__law_draw (mCons (mVar 1) (mCons (mBin fAdd (mBin fMul (mC (.int 2)) (mVar 3)) (mC (.int 1))) mNil))) (mVar 3)) (ρ := [some script, some (.loc b), x2, some (.int s), x4, x5, x6, x7, x8, x9, x10, none]) (items := rangeD 0 L) (fun i G => ∃ cs', G = ⟨0, cs'⟩ ∧ Bag cs' b g (n + 98 - i)) (fun o => ∃ z : Int, o = .int z ∧ z.natAbs ≤ 2 ^ 100) (G := ⟨0, cs2⟩) ⟨cs2, rfl, B2⟩ (by
    rintro i d G hd ⟨cs', rfl, B'⟩
    have hi : i < L := by
      have := (List.getElem?_eq_some_iff.mp hd).1
      rwa [rangeD_length] at this
    obtain ⟨z, cs'', e, hz0, hz1, B'', -, -⟩ := draw_ev (k := cs'.length) (many := 2 * s + 1) (B'.mono (show n + 98 - (i + 1) + 1 ≤ n + 98 - i by omega)) (by omega) hdv
    refine ⟨_, .int (z - s), ⟨0, cs''⟩, rfl, rfl, bin_run (x := .int z) (y := .int s) (call_run (G1 := ⟨0, cs'⟩) (ds := [.loc b, .int (2 * s + 1)]) (two_run rfl (bin_run (bin_run rfl rfl (fMul_ii (mulOk_of (m := 2) (n := 100) (by decide) hsb (by omega)))) rfl rfl)) e) rfl rfl, ⟨z - s, rfl, by omega⟩, cs'', rfl, B''⟩)
  rw [rangeD_length] at hl3 B3
  obtain ⟨ps, rfl, hps, hlp⟩ := ints_of hq3
  rw [hl3] at hlp
  subst hlp
  have hp : ∀ z ∈ ps, z.natAbs ≤ 2 ^ 100 := hps
  -- the step
  obtain ⟨r2, cs4, e4, hr2, hr9, B4, -, -⟩ := draw_ev (k := cs3.length) (many := 9) (B3.mono (show n + 90 + 1 ≤ n + 98 - ps.length by omega)) (by decide) (by decide)
  obtain ⟨m, hm⟩ : ∃ m : Nat, 2 + r2 = (m : Int) := ⟨(2 + r2).toNat, by omega⟩
  have hm2 : 0 < m := by omega
  have hm10 : m ≤ 10 := by omega
  -- the place
  obtain ⟨r3, cs5, e5, hr30, hr90, B5, -, -⟩ := draw_ev (k := cs4.length) (many := 90) (B4.mono (show n + 89 + 1 ≤ n + 90 by omega)) (by decide) (by decide)
  have T0 := tb_gq hL7 hp
  have N : ∀ i : Int, i.natAbs ≤ 64 → Nz ps.length (gq ps) (mkRat i m) := fun i hi => nz_ok hL7 hp hm2 hm10 hi
  have T := tb_fine hL7 hp hm2 hm10
  have f1 := lfine_ev hm2 (by omega) T0 (fun i hi => N i (by omega)) T
  have f2 := fine_start_ev hm2 (by omega) T0 (fun i hi => N i (by omega)) T
  have hss : (steps ps.length (fineG ps m)).length = ps.length := steps_len _ _
  have hsame : F__law_same 5 [.tup [.tup ((steps ps.length (fineG ps m)).map q2), .tup ((steps ps.length (fineG ps m)).map q2)], .tup [.tup ((steps ps.length (fineG ps m)).map q2), .tup ((steps ps.length (fineG ps m)).map q2)]] Sto.none = some (.bl true, Sto.none) := by
    refine same_tup (fun d hd => ?_) ?_ (by show 2 ≤ 1000000; omega)
    · have : d = .tup ((steps ps.length (fineG ps m)).map q2) := by simpa using hd
      subst this
      exact same_q2s 1 _ (by omega)
    · show (belowDs 0 _ && (belowDs 0 _ && true)) = true
      rw [belowDs_q2]; rfl
  have hlines : ∀ i : Nat, i < ps.length → F__law_line [.tup [.tup ((steps ps.length (fineG ps m)).map q2), .tup ((steps ps.length z0).map q2)], .tup ((steps ps.length z0).map q2), .int ((i : Int) * (m : Int))] Sto.none = some (q2 ((gz ps (i : Nat) : Int) : Rat), Sto.none) := fun i hi => by
    have h0 : (0 : Int) ≤ (i : Int) * (m : Int) := Int.mul_nonneg (by omega) (by omega)
    have h60 : (i : Int) * (m : Int) ≤ 60 := by
      have : i * m ≤ 6 * 10 := Nat.mul_le_mul (by omega) hm10
      have : ((i * m : Nat) : Int) ≤ ((60 : Nat) : Int) := by omega
      rwa [Int.natCast_mul] at this
    have e := lline_ev (lz_ok hL7 hp hm2 hm10 (n := (i : Int) * (m : Int)) (by omega) h60) h0
    rwa [fine_all, fine_old ps hm2 hi] at e
  have hline := line_ev (lz_ok hL7 hp hm2 hm10 (n := r3 - 30) (by omega) (by omega))
  rw [fine_all] at hline
  have hat := lat_ev T0 (N (r3 - 30) (by omega))
  have hfr := lfr_ev (r3 - 30) (b := (m : Int)) (by omega) (divOk_of (n := 64) (by omega) (by omega) (by omega))
  rw [Int.toNat_natCast] at hfr
  have bss := belowDs_q2 0 (steps ps.length (fineG ps m))
  have bzz := belowDs_q2 0 (steps ps.length z0)
  have hlenp : ∀ G, bLen G [.tup (ps.map .int)] = some (.int (ps.length : Nat)) := fun G => by
    have := bLen_of (G := G) (d := .tup (ps.map .int)) rfl
    rwa [List.length_map] at this
  have hlens : ∀ G, bLen G [.tup ((steps ps.length (fineG ps m)).map q2)] = some (.int (ps.length : Nat)) := fun G => by
    have := bLen_of (G := G) (d := .tup ((steps ps.length (fineG ps m)).map q2)) rfl
    rwa [List.length_map, steps_len] at this
  have hmul : fMul (.tup [.tup [.int 0, .int 1]]) (.int (ps.length : Nat)) = some (.tup ((steps ps.length z0).map q2)) := by
    have h1 : decide ((1 : Int) ≤ (ps.length : Nat)) = true := decide_eq_true (by omega)
    have h2 : decide (((ps.length : Nat) : Int) ≤ 1000) = true := decide_eq_true (by omega)
    show (if (true && decide ((1 : Int) ≤ (ps.length : Nat)) && decide (((ps.length : Nat) : Int) ≤ 1000) && true) then some (D.tup (List.replicate ((ps.length : Nat) : Int).toNat [D.tup [.int 0, .int 1]]).flatten) else none) = _
    rw [h1, h2, zeros_eq, Int.toNat_natCast]
    simp
  have bps : belowDs 0 (ps.map .int) = true := belowDs_ints 0 _
  have hpsat : ∀ i : Nat, i < ps.length → L2.atI (ps.map D.int) (i : Int) = some (.int (gz ps (i : Nat))) := fun i hi => atI_n (by rw [List.getElem?_map, gz_get hi]; rfl)
  generalize (steps ps.length (fineG ps m)).map q2 = ss at *
  generalize (steps ps.length z0).map q2 = zz at *
  generalize hpd : ps.map D.int = pd at *
  obtain ⟨ρ', G', e6, x8', rfl, rfl⟩ := forL_run (f := gtName 8) (b := (mIfS (mBool (mBin fNe (mCallP F__law_line (mCons (mVar 9) (mCons (mVar 10) (mCons (mBin fMul (mVar 8) (mVar 5)) mNil)))) (mTup (mCons (mIdx (mVar 4) (mVar 8)) (mCons (mC (.int 1)) mNil)))))
  (mRet (mC (.bl false)))
  mSkip)) (items := rangeD 0 ps.length) (fun _ ρ G => ∃ x8 : Option D, ρ = [some script, some (.loc b), x2, some (.int s), some (.tup pd), some (.int (m : Int)), some (.tup ss), some (.tup ss), x8, some (.tup [.tup ss, .tup zz]), some (.tup zz), x11] ∧ G = ⟨0, cs4⟩) (ρ := [some script, some (.loc b), x2, some (.int s), some (.tup pd), some (.int (m : Int)), some (.tup ss), some (.tup ss), x8, some (.tup [.tup ss, .tup zz]), some (.tup zz), x11]) (G := ⟨0, cs4⟩) ⟨x8, rfl, rfl⟩ (by
    rintro i d ρ G hd ⟨x8, rfl, rfl⟩
    have hi : i < ps.length := by
      have := (List.getElem?_eq_some_iff.mp hd).1
      rwa [rangeD_length] at this
    rw [rangeD_get hi, Int.zero_add] at hd
    cases hd
    refine ⟨_, _, ⟨0, cs4⟩, rfl, ifS_false (bool_run (bin_run (y := q2 ((gz ps (i : Nat) : Int) : Rat)) (callP (cons_run rfl (two_run rfl (bin_run (x := .int (i : Nat)) (y := .int (m : Int)) rfl rfl (fMul_ii (mulOk_of (m := 64) (n := 64) (by omega) (by omega) (by omega)))))) ?_ (hlines i hi) (below_q2 0 _)) (tup_run (two_run (idx_run rfl rfl (hpsat i hi)) rfl) (by show 2 ≤ 16777216; omega)) ?_)) rfl, _, rfl, rfl⟩
    · show ((belowDs 0 ss && (belowDs 0 zz && true)) && (belowDs 0 zz && (true && true))) = true
      rw [bss, bzz]; rfl
    · unfold fNe
      rw [eq_q2]
      simp)
  refine ⟨cs5, some (.int s), some (.tup pd), some (.int (m : Int)), some (.tup ss), some (.tup ss), some (.int (r3 - 30)), some (.tup [.tup ss, .tup zz]), some (.tup zz), x11, ?_, B5.mono (by omega)⟩
  refine seq_run (ρ1 := [some script, some (.loc b), x2, some (.int s), x4, x5, x6, x7, x8, x9, x10, x11]) (G1 := ⟨0, cs1⟩) (asg_run (call_run (G1 := ⟨0, cs⟩) (two_run rfl (lst_run (cons_run rfl (cons_run rfl (cons_run rfl (cons_run rfl (cons_run rfl (cons_run rfl (cons_run rfl (one_run (callP (ds := [.int 30]) rfl rfl (lten_ev 30 (by omega)) rfl))))))))) (by show 8 ≤ 16777216; omega))) e1)) ?_
  refine seq_run (ρ1 := [some script, some (.loc b), x2, some (.int s), some (.tup pd), x5, x6, x7, x8, x9, x10, x11]) (G1 := ⟨0, cs3⟩) (asg_run (cb_run (one_run (mLc_runS (G1 := ⟨0, cs2⟩) (range1_run (n := ps.length) (one_run (bin_run (x := .int 1) (y := .int r) rfl (call_run (G1 := ⟨0, cs1⟩) (ds := [.loc b, .int 7]) rfl e2) (by rw [fAdd_ii, hL]))) (by omega)) e3 (by rw [hl3]; omega))) rfl)) ?_
  refine seq_run (ρ1 := [some script, some (.loc b), x2, some (.int s), some (.tup pd), some (.int (m : Int)), x6, x7, x8, x9, x10, x11]) (G1 := ⟨0, cs4⟩) (asg_run (bin_run (x := .int 2) (y := .int r2) rfl (call_run (G1 := ⟨0, cs3⟩) (ds := [.loc b, .int 9]) rfl e4) (by rw [fAdd_ii, hm]))) ?_
  have bp2 : belowDs 0 [.tup pd, .int (m : Int)] = true := by
    show (belowDs 0 pd && true) = true
    rw [bps]; rfl
  refine seq_run (ρ1 := [some script, some (.loc b), x2, some (.int s), some (.tup pd), some (.int (m : Int)), some (.tup ss), x7, x8, x9, x10, x11]) (G1 := ⟨0, cs4⟩) (asg_run (callP (ds := [.tup pd, .int (m : Int)]) rfl bp2 f1 bss)) ?_
  refine seq_run (ρ1 := [some script, some (.loc b), x2, some (.int s), some (.tup pd), some (.int (m : Int)), some (.tup ss), some (.tup ss), x8, x9, x10, x11]) (G1 := ⟨0, cs4⟩) (asg_run (callP (ds := [.tup pd, .int (m : Int)]) rfl bp2 f2 bss)) ?_
  refine seq_run (ρ1 := [some script, some (.loc b), x2, some (.int s), some (.tup pd), some (.int (m : Int)), some (.tup ss), some (.tup ss), x8, x9, x10, x11]) (G1 := ⟨0, cs4⟩) (ifS_false (not_run (b := true) (tru_run (callP (two_run (tup_run (two_run rfl (callP (ds := [.tup pd, .int (m : Int)]) rfl bp2 f2 bss)) (by show 2 ≤ 16777216; omega)) rfl) ?_ hsame rfl) rfl)) rfl) ?_
  · show ((belowDs 0 ss && (belowDs 0 ss && true)) && ((belowDs 0 ss && (belowDs 0 ss && true)) && true)) = true
    rw [bss]; rfl
  have hz : ∀ ρ : Evn, ρ[7]? = some (some (.tup ss)) → mBin fMul (mTup (mCons (mTup (mCons (mC (.int 0)) (mCons (mC (.int 1)) mNil))) mNil)) (mCB bLen (mCons (mVar 7) mNil)) ρ ⟨0, cs4⟩ = some (.tup zz, ⟨0, cs4⟩) := fun ρ h => bin_run rfl (cb_run (one_run (by unfold mVar; rw [h])) (hlens _)) hmul
  refine seq_run (ρ1 := [some script, some (.loc b), x2, some (.int s), some (.tup pd), some (.int (m : Int)), some (.tup ss), some (.tup ss), x8, some (.tup [.tup ss, .tup zz]), some (.tup zz), x11]) (G1 := ⟨0, cs4⟩) (par2_run (two_run (tup_run (two_run rfl (hz _ rfl)) (by show 2 ≤ 16777216; omega)) (hz _ rfl))) ?_
  refine seq_run (for_run (range1_run (one_run (cb_run (one_run rfl) (hlenp _))) (by omega)) e6) ?_
  refine seq_run (ρ1 := [some script, some (.loc b), x2, some (.int s), some (.tup pd), some (.int (m : Int)), some (.tup ss), some (.tup ss), some (.int (r3 - 30)), some (.tup [.tup ss, .tup zz]), some (.tup zz), x11]) (G1 := ⟨0, cs5⟩) (asg_run (bin_run (x := .int r3) (y := .int 30) (call_run (G1 := ⟨0, cs4⟩) (ds := [.loc b, .int 90]) rfl e5) rfl rfl)) ?_
  refine ifS_false (not_run (b := true) (tru_run (callP (two_run (callP (ds := [.tup [.tup ss, .tup zz], .tup zz, .int (r3 - 30)]) rfl ?_ hline (below_q2 0 _)) (callP (ds := [.tup pd, q2 (mkRat (r3 - 30) m)]) (two_run rfl (callP (ds := [.int (r3 - 30), .int (m : Int)]) rfl rfl hfr (below_q2 0 _))) ?_ hat (below_q2 0 _))) rfl (same_q2 3 _) rfl) rfl)) rfl
  · show ((belowDs 0 ss && (belowDs 0 zz && true)) && (belowDs 0 zz && (true && true))) = true
    rw [bss, bzz]; rfl
  · show (belowDs 0 pd && true) = true
    rw [bps]; rfl
theorem plain (ns : List Int) (h : ns.length ≤ 63) : ∃ G', F_law [.frz (ns.map .int)] Sto.none = some (.bl true, G') := by
  obtain ⟨b, g, cs, e0, B⟩ := bag_ev ns h
  generalize D.frz (ns.map .int) = script at *
  refine ⟨Sto.none, ?_⟩
  unfold F_law
  have key := fun (b' : MS) (hb : ∀ (n : Nat) (cs : List Cell) (x2 x3 x4 x5 x6 x7 x8 x9 x10 x11 : Option D), Bag cs b g (n + 100) → ∃ cs' y3 y4 y5 y6 y7 y8 y9 y10 y11, b' [some script, some (.loc b), x2, x3, x4, x5, x6, x7, x8, x9, x10, x11] ⟨0, cs⟩ = some (.nx, [some script, some (.loc b), x2, y3, y4, y5, y6, y7, y8, y9, y10, y11], ⟨0, cs'⟩) ∧ Bag cs' b g n) =>
    forL_run (f := gtName 2) (b := b') (items := rangeD 0 3) (fun i ρ G => ∃ cs x2 x3 x4 x5 x6 x7 x8 x9 x10 x11, ρ = [some script, some (.loc b), x2, x3, x4, x5, x6, x7, x8, x9, x10, x11] ∧ G = ⟨0, cs⟩ ∧ Bag cs b g (1000 - 100 * i)) (ρ := [some script, some (.loc b), none, none, none, none, none, none, none, none, none, none]) (G := ⟨0, cs⟩) ⟨cs, _, _, _, _, _, _, _, _, _, _, rfl, rfl, B.mono (by omega)⟩ (by
      rintro i d ρ G hd ⟨cs, x2, x3, x4, x5, x6, x7, x8, x9, x10, x11, rfl, rfl, B⟩
      have hi : i < 3 := (List.getElem?_eq_some_iff.mp hd).1
      obtain ⟨cs', y3, y4, y5, y6, y7, y8, y9, y10, y11, e, B'⟩ := hb (1000 - 100 * (i + 1)) cs (some d) x3 x4 x5 x6 x7 x8 x9 x10 x11 (B.mono (by omega))
      exact ⟨[some script, some (.loc b), some d, x3, x4, x5, x6, x7, x8, x9, x10, x11], _, _, rfl, e, cs', some d, y3, y4, y5, y6, y7, y8, y9, y10, y11, rfl, rfl, B'⟩)
  obtain ⟨ρ', G', e, -⟩ := key _ (fun n cs x2 x3 x4 x5 x6 x7 x8 x9 x10 x11 B => one_turn B x2 x3 x4 x5 x6 x7 x8 x9 x10 x11)
  refine run_body (ρ' := ρ') (G' := G') rfl ?_ rfl
  show M_law [some script, none, none, none, none, none, none, none, none, none, none, none] Sto.none = _
  unfold M_law
  exact seq_run (asg_run (call_run (G1 := Sto.none) (ds := [script]) rfl e0)) (seq_run (for_run (range1_run (n := 3) (one_run rfl) (by omega)) e) (ret_run rfl))
end K89

open PySem PySem.W PyProof.Rows
set_option maxHeartbeats 0 in
theorem PySem.Challenge.cw_lastfigure_k89_fine_starts_holds : PySem.Challenge.rw_lastfigure_k89_fine_starts.Holds := by
  w_on; o_law; k_head; (case hw => w_witness2)
  k_fill
  refine L2.walk_of (l := PySem.Challenge.rw_lastfigure_k89_fine_starts) (n := 63) (k := 8) (x := "script") (CX := fun _ => L2.CX0) (sp := fun w => Lf.spM _ K89.F_law) rfl (by decide) rfl ⟨rfl, by decide, by decide⟩ (fun w h Y => PySem.W.kIn_of Y) ?F (fun _ _ a ns hl _ hS => Lf.law_sp hS (K89.plain ns hl)) (fun _ _ _ _ _ h => h)
  case F =>
    intro w mg fa h KX G hmg
    refine' K89.law_at h (fun base => ⟨Lf.mk_fun KX G ?a_frac ?l_frac ?c_frac ?k_frac, Lf.mk_fun KX G ?a_whole ?l_whole ?c_whole ?k_whole, Lf.mk_fun KX G ?a_plus ?l_plus ?c_plus ?k_plus, Lf.mk_fun KX G ?a_times ?l_times ?c_times ?k_times, Lf.mk_fun KX G ?a_turned ?l_turned ?c_turned ?k_turned, Lf.mk_fun KX G ?a_total_of ?l_total_of ?c_total_of ?k_total_of, Lf.mk_fun KX G ?a_product_sum ?l_product_sum ?c_product_sum ?k_product_sum, Lf.mk_fun KX G ?a_choose ?l_choose ?c_choose ?k_choose, Lf.mk_fun KX G ?a_choices_at ?l_choices_at ?c_choices_at ?k_choices_at, Lf.mk_fun KX G ?a_slips_summed ?l_slips_summed ?c_slips_summed ?k_slips_summed, Lf.mk_fun KX G ?a_line ?l_line ?c_line ?k_line, Lf.mk_fun KX G ?a_newton_at ?l_newton_at ?c_newton_at ?k_newton_at, Lf.mk_fun KX G ?a_fine_start ?l_fine_start ?c_fine_start ?k_fine_start, Lf.mk_fun KX G ?a__law_bag ?l__law_bag ?c__law_bag ?k__law_bag, Lf.mk_fun KX G ?a__law_draw ?l__law_draw ?c__law_draw ?k__law_draw, Lf.mk_fun KX G ?a__law_pick ?l__law_pick ?c__law_pick ?k__law_pick, Lf.mk_fun KX G ?a__law_same ?l__law_same ?c__law_same ?k__law_same, Lf.mk_fun KX G ?a__law_gcd ?l__law_gcd ?c__law_gcd ?k__law_gcd, Lf.mk_fun KX G ?a__law_fr ?l__law_fr ?c__law_fr ?k__law_fr, Lf.mk_fun KX G ?a__law_plus ?l__law_plus ?c__law_plus ?k__law_plus, Lf.mk_fun KX G ?a__law_times ?l__law_times ?c__law_times ?k__law_times, Lf.mk_fun KX G ?a__law_minus ?l__law_minus ?c__law_minus ?k__law_minus, Lf.mk_fun KX G ?a__law_ten ?l__law_ten ?c__law_ten ?k__law_ten, Lf.mk_fun KX G ?a__law_choose ?l__law_choose ?c__law_choose ?k__law_choose, Lf.mk_fun KX G ?a__law_line ?l__law_line ?c__law_line ?k__law_line, Lf.mk_fun KX G ?a__law_differences ?l__law_differences ?c__law_differences ?k__law_differences, Lf.mk_fun KX G ?a__law_at ?l__law_at ?c__law_at ?k__law_at, Lf.mk_fun KX G ?a__law_fine ?l__law_fine ?c__law_fine ?k__law_fine, Lf.mk_fun KX G ?a_law ?l_law ?c_law ?k_law, PySem.W.mg_none_of KX G ?b_abs, PySem.W.mg_none_of KX G ?b_bool, PySem.W.mg_none_of KX G ?b_int, PySem.W.mg_none_of KX G ?b_isinstance, PySem.W.mg_none_of KX G ?b_len, PySem.W.mg_none_of KX G ?b_list, PySem.W.mg_none_of KX G ?b_range, PySem.W.mg_none_of KX G ?b_str, PySem.W.mg_none_of KX G ?b_tuple, PySem.W.mg_of KX G ?i_gcd⟩) hmg
    (case a_frac => k_is)
    (case l_frac => k_is)
    (case c_frac => k_is)
    (case k_frac => k_is)
    (case a_whole => k_is)
    (case l_whole => k_is)
    (case c_whole => k_is)
    (case k_whole => k_is)
    (case a_plus => k_is)
    (case l_plus => k_is)
    (case c_plus => k_is)
    (case k_plus => k_is)
    (case a_times => k_is)
    (case l_times => k_is)
    (case c_times => k_is)
    (case k_times => k_is)
    (case a_turned => k_is)
    (case l_turned => k_is)
    (case c_turned => k_is)
    (case k_turned => k_is)
    (case a_total_of => k_is)
    (case l_total_of => k_is)
    (case c_total_of => k_is)
    (case k_total_of => k_is)
    (case a_product_sum => k_is)
    (case l_product_sum => k_is)
    (case c_product_sum => k_is)
    (case k_product_sum => k_is)
    (case a_choose => k_is)
    (case l_choose => k_is)
    (case c_choose => k_is)
    (case k_choose => k_is)
    (case a_choices_at => k_is)
    (case l_choices_at => k_is)
    (case c_choices_at => k_is)
    (case k_choices_at => k_is)
    (case a_slips_summed => k_is)
    (case l_slips_summed => k_is)
    (case c_slips_summed => k_is)
    (case k_slips_summed => k_is)
    (case a_line => k_is)
    (case l_line => k_is)
    (case c_line => k_is)
    (case k_line => k_is)
    (case a_newton_at => k_is)
    (case l_newton_at => k_is)
    (case c_newton_at => k_is)
    (case k_newton_at => k_is)
    (case a_fine_start => k_is)
    (case l_fine_start => k_is)
    (case c_fine_start => k_is)
    (case k_fine_start => k_is)
    (case a__law_bag => k_is)
    (case l__law_bag => k_is)
    (case c__law_bag => k_is)
    (case k__law_bag => k_is)
    (case a__law_draw => k_is)
    (case l__law_draw => k_is)
    (case c__law_draw => k_is)
    (case k__law_draw => k_is)
    (case a__law_pick => k_is)
    (case l__law_pick => k_is)
    (case c__law_pick => k_is)
    (case k__law_pick => k_is)
    (case a__law_same => k_is)
    (case l__law_same => k_is)
    (case c__law_same => k_is)
    (case k__law_same => k_is)
    (case a__law_gcd => k_is)
    (case l__law_gcd => k_is)
    (case c__law_gcd => k_is)
    (case k__law_gcd => k_is)
    (case a__law_fr => k_is)
    (case l__law_fr => k_is)
    (case c__law_fr => k_is)
    (case k__law_fr => k_is)
    (case a__law_plus => k_is)
    (case l__law_plus => k_is)
    (case c__law_plus => k_is)
    (case k__law_plus => k_is)
    (case a__law_times => k_is)
    (case l__law_times => k_is)
    (case c__law_times => k_is)
    (case k__law_times => k_is)
    (case a__law_minus => k_is)
    (case l__law_minus => k_is)
    (case c__law_minus => k_is)
    (case k__law_minus => k_is)
    (case a__law_ten => k_is)
    (case l__law_ten => k_is)
    (case c__law_ten => k_is)
    (case k__law_ten => k_is)
    (case a__law_choose => k_is)
    (case l__law_choose => k_is)
    (case c__law_choose => k_is)
    (case k__law_choose => k_is)
    (case a__law_line => k_is)
    (case l__law_line => k_is)
    (case c__law_line => k_is)
    (case k__law_line => k_is)
    (case a__law_differences => k_is)
    (case l__law_differences => k_is)
    (case c__law_differences => k_is)
    (case k__law_differences => k_is)
    (case a__law_at => k_is)
    (case l__law_at => k_is)
    (case c__law_at => k_is)
    (case k__law_at => k_is)
    (case a__law_fine => k_is)
    (case l__law_fine => k_is)
    (case c__law_fine => k_is)
    (case k__law_fine => k_is)
    (case a_law => k_is)
    (case l_law => k_is)
    (case c_law => k_is)
    (case k_law => k_is)
    (case b_abs => k_is)
    (case b_bool => k_is)
    (case b_int => k_is)
    (case b_isinstance => k_is)
    (case b_len => k_is)
    (case b_list => k_is)
    (case b_range => k_is)
    (case b_str => k_is)
    (case b_tuple => k_is)
    (case i_gcd => k_is)
