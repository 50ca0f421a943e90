import PyProof.Rows.All
import Wide.All
import OpenK.AllK
import Wide.FinOn
import HandS.ForMost
import HandS.Wide
import HandS.Gcd
import HandS.Style
import HandS.TupMul
import HandS.IsInst
import HandS.Flow
import HandS.Conv
import HandS.Defaults
import HandS.AnyAll
import HandS.Walk
import HandS.TupAny
import PyProof.SumWalkG
import PyProof.ConsumeS
import PyProof.GenCompT
import KE.GoesMore
import HandS.HeadNt
import HandS.HeadHook4
import HandS.HeadWalk
import HandS.EndTab
import HandS.Head2
import HandS.Head3
import HandS.NestedK
import PySem.Challenge.RW_lastfigure_k88_drawn_cases
set_option Elab.async false
set_option linter.all false
set_option maxRecDepth 100000
set_option maxHeartbeats 4000000
set_option exponentiation.threshold 10000
/-! Lf1: plain data, the store, how they stand in the heap. -/
namespace Lf
open PySem PySem.Spec PyProof.Rows L2
/-- the tables of code objects that the walk may let grow -/
class Tabs where
  T : List Addr
  C : Nat → Addr
variable [Tabs]

inductive D where
  | non | bl (b : Bool) | int (i : Int) | str (s : Str) | tup (ds : List D) | lst (ds : List D) | frz (ds : List D) | loc (l : Nat)

inductive Cell where
  | lst (ds : List D) | ins (c : Nat) (fs : List (Str × D)) | dead

/-- the cells; n0: how many were there at the entry -/
structure Sto where
  n0 : Nat
  cs : List Cell
abbrev Sto.push (G : Sto) (c : Cell) : Sto := ⟨G.n0, G.cs ++ [c]⟩
abbrev Sto.set (G : Sto) (l : Nat) (c : Cell) : Sto := ⟨G.n0, G.cs.set l c⟩
abbrev Sto.none : Sto := ⟨0, []⟩
abbrev Evn := List (Option D)

mutual
inductive Rep (K : PySem.W.Frag) (H : Hp) (μ : List Addr) : V → D → Prop where
  | non : Rep K H μ .non .non
  | bl (b : Bool) : Rep K H μ (.bl b) (.bl b)
  | int (i : Int) : Rep K H μ (.int i) (.int i)
  | str (s : Str) : Rep K H μ (.str s) (.str s)
  | tup {a : Addr} {xs : List V} {ds : List D} : SqT K H a xs → Reps K H μ xs ds → Rep K H μ (.ref a) (.tup ds)
  | lst {a : Addr} {xs : List V} {ds : List D} : H a = some (.lst xs) → Reps K H μ xs ds → Rep K H μ (.ref a) (.lst ds)
  | frz {a : Addr} {xs : List V} {ds : List D} : SqL K H a xs → Reps K H μ xs ds → Rep K H μ (.ref a) (.frz ds)
  | loc {a : Addr} {l : Nat} : μ[l]? = some a → Rep K H μ (.ref a) (.loc l)
inductive Reps (K : PySem.W.Frag) (H : Hp) (μ : List Addr) : List V → List D → Prop where
  | nil : Reps K H μ [] []
  | cons {v : V} {d : D} {vs : List V} {ds : List D} : Rep K H μ v d → Reps K H μ vs ds → Reps K H μ (v :: vs) (d :: ds)
end

theorem same_rd {H H' : Hp} {a : Addr} {u : HO} (e : Same H H') (h : Rd H a u) : Rd H' a u := by
  rcases h with h | ⟨o, h⟩
  · exact Or.inl (e a _ h)
  · exact Or.inr ⟨o, e a _ h⟩
theorem same_sqT {K : PySem.W.Frag} {H H' : Hp} {a : Addr} {xs : List V} (e : Same H H') (h : SqT K H a xs) : SqT K H' a xs := by
  rcases h with h | h
  · exact Or.inl (same_rd e h)
  · exact Or.inr h
theorem same_sqL {K : PySem.W.Frag} {H H' : Hp} {a : Addr} {xs : List V} (e : Same H H') (h : SqL K H a xs) : SqL K H' a xs := by
  rcases h with h | h
  · exact Or.inl (same_rd e h)
  · exact Or.inr h
theorem same_new {H : Hp} {p : Addr} {o : HO} (h : H p = none) : Same H (upd H p o) := fun a u e => by
  rw [upd_ne (ne_of_none e h)]
  exact e
theorem pre_get {μ μ' : List Addr} (h : μ <+: μ') {l : Nat} {a : Addr} (e : μ[l]? = some a) : μ'[l]? = some a := by
  obtain ⟨t, rfl⟩ := h
  have hl : l < μ.length := (List.getElem?_eq_some_iff.mp e).1
  rw [List.getElem?_append_left hl]
  exact e

mutual
theorem Rep.mono {K : PySem.W.Frag} {H H' : Hp} {μ μ' : List Addr} (hs : Same H H') (hm : μ <+: μ') : ∀ {v : V} {d : D}, Rep K H μ v d → Rep K H' μ' v d
  | _, _, .non => .non
  | _, _, .bl b => .bl b
  | _, _, .int i => .int i
  | _, _, .str s => .str s
  | _, _, .tup h r => .tup (same_sqT hs h) (Reps.mono hs hm r)
  | _, _, .lst h r => .lst (hs _ _ h) (Reps.mono hs hm r)
  | _, _, .frz h r => .frz (same_sqL hs h) (Reps.mono hs hm r)
  | _, _, .loc e => .loc (pre_get hm e)
theorem Reps.mono {K : PySem.W.Frag} {H H' : Hp} {μ μ' : List Addr} (hs : Same H H') (hm : μ <+: μ') : ∀ {vs : List V} {ds : List D}, Reps K H μ vs ds → Reps K H' μ' vs ds
  | _, _, .nil => .nil
  | _, _, .cons h r => .cons (Rep.mono hs hm h) (Reps.mono hs hm r)
end

section
variable {K : PySem.W.Frag} {H : Hp} {μ : List Addr}
theorem Reps.length : ∀ {vs : List V} {ds : List D}, Reps K H μ vs ds → vs.length = ds.length
  | _, _, .nil => rfl
  | _, _, .cons _ r => by rw [List.length_cons, List.length_cons, Reps.length r]
theorem Reps.get : ∀ {vs : List V} {ds : List D} {i : Nat} {d : D}, Reps K H μ vs ds → ds[i]? = some d → ∃ v, vs[i]? = some v ∧ Rep K H μ v d
  | _, _, _, _, .nil, e => by simp at e
  | _, _, 0, d, .cons h _, e => by simp at e; subst e; exact ⟨_, rfl, h⟩
  | _, _, i + 1, d, .cons _ r, e => by
    obtain ⟨v, e1, e2⟩ := Reps.get (i := i) r (by simpa using e)
    exact ⟨v, by simpa using e1, e2⟩
theorem Reps.get' {vs : List V} {ds : List D} {i : Nat} {v : V} (r : Reps K H μ vs ds) (e : vs[i]? = some v) : ∃ d, ds[i]? = some d ∧ Rep K H μ v d := by
  have h1 : i < vs.length := (List.getElem?_eq_some_iff.mp e).1
  rw [r.length] at h1
  obtain ⟨v', e1, e2⟩ := r.get (List.getElem?_eq_getElem h1)
  rw [e] at e1
  cases e1
  exact ⟨_, List.getElem?_eq_getElem h1, e2⟩
theorem Reps.append : ∀ {vs ws : List V} {ds es : List D}, Reps K H μ vs ds → Reps K H μ ws es → Reps K H μ (vs ++ ws) (ds ++ es)
  | _, _, _, _, .nil, q => q
  | _, _, _, _, .cons h r, q => .cons h (Reps.append r q)
theorem Reps.one {v : V} {d : D} (h : Rep K H μ v d) : Reps K H μ [v] [d] := .cons h .nil
theorem Reps.set {v : V} {d : D} (h : Rep K H μ v d) : ∀ {vs : List V} {ds : List D} (i : Nat), Reps K H μ vs ds → Reps K H μ (vs.set i v) (ds.set i d)
  | _, _, _, .nil => .nil
  | _, _, 0, .cons _ r => .cons h r
  | _, _, i + 1, .cons q r => .cons q (Reps.set h i r)
theorem Reps.take : ∀ {vs : List V} {ds : List D} (n : Nat), Reps K H μ vs ds → Reps K H μ (vs.take n) (ds.take n)
  | _, _, 0, _ => .nil
  | _, _, _ + 1, .nil => .nil
  | _, _, n + 1, .cons h r => .cons h (Reps.take n r)
theorem Reps.drop : ∀ {vs : List V} {ds : List D} (n : Nat), Reps K H μ vs ds → Reps K H μ (vs.drop n) (ds.drop n)
  | _, _, 0, r => r
  | _, _, _ + 1, .nil => .nil
  | _, _, n + 1, .cons _ r => Reps.drop n r
theorem Reps.reverse {vs : List V} {ds : List D} (r : Reps K H μ vs ds) : Reps K H μ vs.reverse ds.reverse := by
  induction vs generalizing ds with
  | nil => cases r; exact .nil
  | cons v vs ih =>
    cases r with
    | cons h r =>
      rw [List.reverse_cons, List.reverse_cons]
      exact (ih r).append (.one h)
theorem Reps.dropLast {vs : List V} {ds : List D} (r : Reps K H μ vs ds) : Reps K H μ vs.dropLast ds.dropLast := by
  rw [List.dropLast_eq_take, List.dropLast_eq_take, r.length]
  exact r.take _
theorem Reps.eraseIdx : ∀ {vs : List V} {ds : List D} (i : Nat), Reps K H μ vs ds → Reps K H μ (vs.eraseIdx i) (ds.eraseIdx i)
  | _, _, _, .nil => .nil
  | _, _, 0, .cons _ r => r
  | _, _, i + 1, .cons h r => .cons h (Reps.eraseIdx i r)
theorem Reps.rep {vs : List V} {ds : List D} (r : Reps K H μ vs ds) : ∀ n : Nat, Reps K H μ (List.replicate n vs).flatten (List.replicate n ds).flatten
  | 0 => .nil
  | n + 1 => by
    rw [List.replicate_succ, List.replicate_succ, List.flatten_cons, List.flatten_cons]
    exact r.append (Reps.rep r n)
theorem Reps.ints : ∀ (ns : List Int), Reps K H μ (ns.map V.int) (ns.map D.int)
  | [] => .nil
  | n :: ns => .cons (.int n) (Reps.ints ns)
end

/-! ### cells -/
inductive RepF (K : PySem.W.Frag) (H : Hp) (μ : List Addr) : List (Str × V) → List (Str × D) → Prop where
  | nil : RepF K H μ [] []
  | cons {x : Str} {v : V} {d : D} {vs : List (Str × V)} {ds : List (Str × D)} : Rep K H μ v d → RepF K H μ vs ds → RepF K H μ ((x, v) :: vs) ((x, d) :: ds)
theorem RepF.mono {K : PySem.W.Frag} {H H' : Hp} {μ μ' : List Addr} (hs : Same H H') (hm : μ <+: μ') : ∀ {vs : List (Str × V)} {ds : List (Str × D)}, RepF K H μ vs ds → RepF K H' μ' vs ds
  | _, _, .nil => .nil
  | _, _, .cons h r => .cons (h.mono hs hm) (RepF.mono hs hm r)

def CellAt (K : PySem.W.Frag) (Hf : Hp) (μ : List Addr) (H : Hp) (a : Addr) : Cell → Prop
  | .lst ds => Hf a = none ∧ ∃ vs, H a = some (.lst vs) ∧ Reps K Hf μ vs ds
  | .ins c fs => Hf a = none ∧ ∃ dx fv, H a = some (.ins (Tabs.C c) dx fv) ∧ RepF K Hf μ fv fs
  | .dead => ∃ o, H a = some o
theorem CellAt.there {K : PySem.W.Frag} {Hf H : Hp} {μ : List Addr} {a : Addr} {c : Cell} (h : CellAt K Hf μ H a c) : H a ≠ none := by
  cases c with
  | lst ds => obtain ⟨_, vs, e, _⟩ := h; rw [e]; exact fun z => by cases z
  | ins C fs => obtain ⟨_, dx, fv, e, _⟩ := h; rw [e]; exact fun z => by cases z
  | dead => obtain ⟨o, e⟩ := h; rw [e]; exact fun z => by cases z
theorem CellAt.mono {K : PySem.W.Frag} {Hf Hf' H H' : Hp} {μ μ' : List Addr} {a : Addr} {c : Cell} (h : CellAt K Hf μ H a c) (hs : Same Hf Hf') (hm : μ <+: μ') (hn : H a ≠ none → Hf' a = Hf a) (hk : ∀ o, H a = some o → H' a = some o) : CellAt K Hf' μ' H' a c := by
  have t := hn h.there
  cases c with
  | lst ds => obtain ⟨n, vs, e, r⟩ := h; exact ⟨t.trans n, vs, hk _ e, r.mono hs hm⟩
  | ins C fs => obtain ⟨n, dx, fv, e, r⟩ := h; exact ⟨t.trans n, dx, fv, hk _ e, r.mono hs hm⟩
  | dead => obtain ⟨o, e⟩ := h; exact ⟨o, hk _ e⟩

def EnvOk (K : PySem.W.Frag) (Hf : Hp) (μ : List Addr) (ρ : Evn) (σ : L2.St) : Prop :=
  ρ.length = σ.length ∧ ∀ (i : Nat) (d : D), ρ[i]? = some (some d) → ∃ v, σ[i]? = some (some v) ∧ Rep K Hf μ v d
theorem EnvOk.mono {K : PySem.W.Frag} {Hf Hf' : Hp} {μ μ' : List Addr} {ρ : Evn} {σ : L2.St} (h : EnvOk K Hf μ ρ σ) (hs : Same Hf Hf') (hm : μ <+: μ') : EnvOk K Hf' μ' ρ σ :=
  ⟨h.1, fun i d e => let ⟨v, e1, r⟩ := h.2 i d e; ⟨v, e1, r.mono hs hm⟩⟩
theorem EnvOk.set {K : PySem.W.Frag} {Hf : Hp} {μ : List Addr} {ρ : Evn} {σ : L2.St} {v : V} {d : D} (h : EnvOk K Hf μ ρ σ) (r : Rep K Hf μ v d) (i : Nat) : EnvOk K Hf μ (ρ.set i (some d)) (σ.set i (some v)) := by
  refine ⟨by rw [List.length_set, List.length_set, h.1], fun j e q => ?_⟩
  by_cases hj : i = j
  · subst hj
    by_cases hl : i < ρ.length
    · rw [List.getElem?_set_self hl] at q
      cases q
      exact ⟨v, by rw [List.getElem?_set_self (by rw [← h.1]; exact hl)], r⟩
    · rw [List.getElem?_eq_none (by rw [List.length_set]; omega)] at q
      cases q
  · rw [List.getElem?_set_ne hj] at q
    rw [List.getElem?_set_ne hj]
    exact h.2 j e q
theorem EnvOk.unset {K : PySem.W.Frag} {Hf : Hp} {μ : List Addr} {ρ : Evn} {σ : L2.St} (h : EnvOk K Hf μ ρ σ) (i : Nat) : EnvOk K Hf μ (ρ.set i none) (σ.set i none) := by
  refine ⟨by rw [List.length_set, List.length_set, h.1], fun j e q => ?_⟩
  by_cases hj : i = j
  · subst hj
    by_cases hl : i < ρ.length
    · rw [List.getElem?_set_self hl] at q
      cases q
    · rw [List.getElem?_eq_none (by rw [List.length_set]; omega)] at q
      cases q
  · rw [List.getElem?_set_ne hj] at q
    rw [List.getElem?_set_ne hj]
    exact h.2 j e q
def wipeD (ρ : Evn) : List Nat → Evn
  | [] => ρ
  | v :: vs => (wipeD ρ vs).set v none
theorem EnvOk.wipe {K : PySem.W.Frag} {Hf : Hp} {μ : List Addr} {ρ : Evn} {σ : L2.St} (h : EnvOk K Hf μ ρ σ) : ∀ vs : List Nat, EnvOk K Hf μ (wipeD ρ vs) (wipe σ vs)
  | [] => h
  | v :: vs => (EnvOk.wipe h vs).unset v

/-- the entry of an activation: what stood, what must stay, what was known, the cells handed in -/
structure Act where
  dom : Addr → Prop
  P : Hp
  Hf0 : Hp
  μ0 : List Addr
  pd : ∀ a o, P a = some o → dom a
  pm : ∀ a ∈ μ0, P a = none
  pt : ∀ a ∈ Tabs.T, P a = none

structure Rel (K : PySem.W.Frag) (Z : Act) (Hf : Hp) (μ : List Addr) (ρ : Evn) (G : Sto) (σ : L2.St) (H : Hp) : Prop where
  sub : Same Hf H
  base : Same Z.Hf0 Hf
  old : ∀ a, Z.dom a → Hf a = Z.Hf0 a
  keep : ∀ a o, Z.P a = some o → H a = some o
  live : ∀ a, Z.dom a → H a ≠ none
  pre : Z.μ0 <+: μ
  new : ∀ l a, μ[l]? = some a → Z.μ0.length ≤ l → ¬ Z.dom a
  nd : μ.Nodup
  len : μ.length = G.cs.length
  n0 : G.n0 = Z.μ0.length
  cells : ∀ (l : Nat) (c : Cell) (a : Addr), G.cs[l]? = some c → μ[l]? = some a → CellAt K Hf μ H a c
  env : EnvOk K Hf μ ρ σ
  tab : ∀ P ∈ Tabs.T, GxR.TabG H P ∧ Hf P = none ∧ P ∉ μ

structure Grow (Hf H Hf' H' : Hp) : Prop where
  same : Same Hf Hf'
  sub : Same Hf' H'
  keep : ∀ a o, a ∉ Tabs.T → H a = some o → H' a = some o
  old : ∀ a, H a ≠ none → Hf' a = Hf a
  live : ∀ a, H a ≠ none → H' a ≠ none
  tab : ∀ P ∈ Tabs.T, GxR.TabG H P → GxR.TabG H' P
theorem Grow.refl {Hf H : Hp} (s : Same Hf H) : Grow Hf H Hf H := ⟨Same.refl _, s, fun _ _ _ e => e, fun _ _ => rfl, fun _ h => h, fun _ _ h => h⟩
theorem tabG_there {H : Hp} {P : Addr} (h : GxR.TabG H P) : H P ≠ none := by
  obtain ⟨ps, e, _⟩ := h
  rw [e]; exact fun z => by cases z
theorem tabG_upd {H : Hp} {P p : Addr} {o : HO} (h : GxR.TabG H P) (n : P ≠ p) : GxR.TabG (upd H p o) P := by
  obtain ⟨ps, e, t⟩ := h
  exact ⟨ps, by rw [upd_ne n]; exact e, t⟩
theorem Grow.trans {A B A' B' A2 B2 : Hp} (x : Grow A B A' B') (y : Grow A' B' A2 B2) : Grow A B A2 B2 :=
  ⟨x.same.trans y.same, y.sub, fun a o n e => y.keep a o n (x.keep a o n e), fun a h => by rw [y.old a (x.live a h), x.old a h], fun a h => y.live a (x.live a h), fun P h t => y.tab P h (x.tab P h t)⟩
theorem Grow.new {Hf H : Hp} (s : Same Hf H) {p : Addr} {o : HO} (h : H p = none) : Grow Hf H (upd Hf p o) (upd H p o) := by
  have hf : Hf p = none := s.free h
  have ne : ∀ a, H a ≠ none → a ≠ p := fun a ha z => ha (by rw [z]; exact h)
  refine ⟨same_new hf, fun a u e => ?_, fun a u _ e => same_new h a u e, fun a ha => upd_ne (ne a ha), fun a ha => by rw [upd_ne (ne a ha)]; exact ha, fun P _ t => tabG_upd t (ne P (tabG_there t))⟩
  by_cases hp : a = p
  · subst hp
    rw [upd_same] at e ⊢
    exact e
  · rw [upd_ne hp] at e ⊢
    exact s a u e

section
variable {K : PySem.W.Frag} {Z : Act} {Hf Hf' : Hp} {μ : List Addr} {ρ : Evn} {G : Sto} {σ : L2.St} {H H' : Hp}
theorem Rel.cell (R : Rel K Z Hf μ ρ G σ H) {l : Nat} {c : Cell} (e : G.cs[l]? = some c) : ∃ a, μ[l]? = some a ∧ CellAt K Hf μ H a c := by
  have hl : l < μ.length := by rw [R.len]; exact (List.getElem?_eq_some_iff.mp e).1
  exact ⟨_, List.getElem?_eq_getElem hl, R.cells l c _ e (List.getElem?_eq_getElem hl)⟩
theorem Rel.at_ (R : Rel K Z Hf μ ρ G σ H) {l : Nat} {a : Addr} (e : μ[l]? = some a) : H a ≠ none := by
  have hl : l < G.cs.length := by rw [← R.len]; exact (List.getElem?_eq_some_iff.mp e).1
  exact (R.cells l _ a (List.getElem?_eq_getElem hl) e).there
theorem Rel.fresh (R : Rel K Z Hf μ ρ G σ H) {a : Addr} (h : H a = none) : ¬ Z.dom a ∧ a ∉ μ := by
  refine ⟨fun z => R.live a z h, fun hm => ?_⟩
  obtain ⟨l, e⟩ := List.getElem?_of_mem hm
  exact R.at_ e h
theorem Rel.notab (R : Rel K Z Hf μ ρ G σ H) {a : Addr} {o : HO} (h : Hf a = some o) : a ∉ Tabs.T := fun z => by
  rw [(R.tab a z).2.1] at h; cases h
theorem Rel.grow (R : Rel K Z Hf μ ρ G σ H) (g : Grow Hf H Hf' H') : Rel K Z Hf' μ ρ G σ H' where
  sub := g.sub
  base := R.base.trans g.same
  old := fun a h => (g.old a (R.live a h)).trans (R.old a h)
  keep := fun a o h => g.keep a o (fun z => by rw [Z.pt a z] at h; cases h) (R.keep a o h)
  live := fun a h => g.live a (R.live a h)
  pre := R.pre
  new := R.new
  nd := R.nd
  len := R.len
  n0 := R.n0
  cells := fun l c a e1 e2 => (R.cells l c a e1 e2).mono g.same (List.prefix_refl _) (g.old a) fun o q => g.keep a o (fun z => (R.tab a z).2.2 (List.mem_of_getElem? e2)) q
  env := R.env.mono g.same (List.prefix_refl _)
  tab := fun P h => ⟨g.tab P h (R.tab P h).1, (g.old P (tabG_there (R.tab P h).1)).trans (R.tab P h).2.1, (R.tab P h).2.2⟩
theorem Rel.envs (R : Rel K Z Hf μ ρ G σ H) {ρ' : Evn} {σ' : L2.St} (e : EnvOk K Hf μ ρ' σ') : Rel K Z Hf μ ρ' G σ' H :=
  ⟨R.sub, R.base, R.old, R.keep, R.live, R.pre, R.new, R.nd, R.len, R.n0, R.cells, e, R.tab⟩
theorem Rel.set (R : Rel K Z Hf μ ρ G σ H) {v : V} {d : D} (r : Rep K Hf μ v d) (i : Nat) : Rel K Z Hf μ (ρ.set i (some d)) G (σ.set i (some v)) H := R.envs (R.env.set r i)
theorem nodup_app {μ : List Addr} {p : Addr} (h : μ.Nodup) (hp : p ∉ μ) : (μ ++ [p]).Nodup := by
  rw [List.nodup_append]
  refine ⟨h, by simp, fun a ha b hb => ?_⟩
  have : b = p := by simpa using hb
  subst this
  exact fun e => hp (e ▸ ha)
theorem pre_app {μ : List Addr} {p : Addr} : μ <+: μ ++ [p] := ⟨[p], rfl⟩
theorem app_get {α : Type} {xs : List α} {x y : α} {l : Nat} (e : (xs ++ [x])[l]? = some y) : (l < xs.length ∧ xs[l]? = some y) ∨ (l = xs.length ∧ y = x) := by
  by_cases hl : l < xs.length
  · rw [List.getElem?_append_left hl] at e
    exact .inl ⟨hl, e⟩
  · rw [List.getElem?_append_right (by omega)] at e
    have hlt : l - xs.length < [x].length := (List.getElem?_eq_some_iff.mp e).1
    have e0 : l - xs.length = 0 := by simp at hlt; omega
    rw [e0] at e
    exact .inr ⟨by omega, by simpa using e.symm⟩
/-- an object apart from all that is known -/
structure Apart (Z : Act) (Hf : Hp) (μ : List Addr) (p : Addr) : Prop where
  hf : Hf p = none
  mu : p ∉ μ
  h0 : ¬ Z.dom p
  tb : p ∉ Tabs.T
theorem Rel.apart (R : Rel K Z Hf μ ρ G σ H) {p : Addr} (h : H p = none) : Apart Z Hf μ p := ⟨R.sub.free h, (R.fresh h).2, (R.fresh h).1, fun z => tabG_there (R.tab p z).1 h⟩
theorem Rel.adoptCell (R : Rel K Z Hf μ ρ G σ H) {p : Addr} (a : Apart Z Hf μ p) {c : Cell} (hc : CellAt K Hf (μ ++ [p]) H p c) : Rel K Z Hf (μ ++ [p]) ρ (G.push c) σ H := by
  refine ⟨R.sub, R.base, R.old, R.keep, R.live, R.pre.trans pre_app, fun l b e hl => ?_, nodup_app R.nd a.mu, ?_, R.n0, fun l c' b e1 e2 => ?_, R.env.mono (Same.refl _) pre_app, fun P hP => ⟨(R.tab P hP).1, (R.tab P hP).2.1, fun hm => (List.mem_append.mp hm).elim (R.tab P hP).2.2 fun hm => a.tb (by rw [← List.mem_singleton.mp hm]; exact hP)⟩⟩
  · rcases app_get e with ⟨_, e⟩ | ⟨_, e⟩
    · exact R.new l b e hl
    · rw [e]; exact a.h0
  · show (μ ++ [p]).length = (G.cs ++ [c]).length
    rw [List.length_append, List.length_append, R.len]; rfl
  · rcases app_get (show (G.cs ++ [c])[l]? = some c' from e1) with ⟨h1, e1⟩ | ⟨h1, e1⟩
    · rcases app_get e2 with ⟨_, e2⟩ | ⟨h2, _⟩
      · exact (R.cells l c' b e1 e2).mono (Same.refl _) pre_app (fun _ => rfl) (fun u q => q)
      · have := R.len; omega
    · rcases app_get e2 with ⟨h2, _⟩ | ⟨_, e2⟩
      · have := R.len; omega
      · subst e1 e2; exact hc
theorem Rel.extra (R : Rel K Z Hf μ ρ G σ H) {p : Addr} (a : Apart Z Hf μ p) (o : HO) : Rel K Z Hf μ ρ G σ (upd H p o) where
  sub := fun b u e => by
    have : b ≠ p := fun z => by rw [z, a.hf] at e; cases e
    rw [upd_ne this]; exact R.sub b u e
  base := R.base
  old := R.old
  keep := fun b u e => by
    have : b ≠ p := fun z => a.h0 (by rw [← z]; exact Z.pd b u e)
    rw [upd_ne this]; exact R.keep b u e
  live := fun b h => by
    have : b ≠ p := fun z => a.h0 (by rw [← z]; exact h)
    rw [upd_ne this]; exact R.live b h
  pre := R.pre
  new := R.new
  nd := R.nd
  len := R.len
  n0 := R.n0
  cells := fun l c b e1 e2 => by
    have : b ≠ p := fun z => a.mu (by rw [← z]; exact List.mem_of_getElem? e2)
    exact (R.cells l c b e1 e2).mono (Same.refl _) (List.prefix_refl _) (fun _ => rfl) (fun u q => by rw [upd_ne this]; exact q)
  env := R.env
  tab := fun P hP => ⟨tabG_upd (R.tab P hP).1 (fun z => a.tb (by rw [← z]; exact hP)), (R.tab P hP).2⟩
theorem Rel.newCell (R : Rel K Z Hf μ ρ G σ H) {p : Addr} {o : HO} {c : Cell} (h : H p = none) (hc : CellAt K Hf (μ ++ [p]) (upd H p o) p c) : Rel K Z Hf (μ ++ [p]) ρ (G.push c) σ (upd H p o) :=
  (R.extra (R.apart h) o).adoptCell (R.apart h) hc
theorem Rel.adopt (R : Rel K Z Hf μ ρ G σ H) {p : Addr} (a : Apart Z Hf μ p) {o : HO} (h : H p = some o) : Rel K Z (upd Hf p o) μ ρ G σ H ∧ Same Hf (upd Hf p o) := by
  have sm : Same Hf (upd Hf p o) := same_new a.hf
  refine ⟨⟨fun b u e => ?_, R.base.trans sm, fun b hb => ?_, R.keep, R.live, R.pre, R.new, R.nd, R.len, R.n0, fun l c b e1 e2 => ?_, R.env.mono sm (List.prefix_refl _), fun P hP => ⟨(R.tab P hP).1, by rw [upd_ne (fun z => a.tb (by rw [← z]; exact hP))]; exact (R.tab P hP).2.1, (R.tab P hP).2.2⟩⟩, sm⟩
  · by_cases hb : b = p
    · subst hb; rw [upd_same] at e; rw [h]; exact e
    · rw [upd_ne hb] at e; exact R.sub b u e
  · have : b ≠ p := fun z => a.h0 (by rw [← z]; exact hb)
    rw [upd_ne this]; exact R.old b hb
  · have : b ≠ p := fun z => a.mu (by rw [← z]; exact List.mem_of_getElem? e2)
    exact (R.cells l c b e1 e2).mono sm (List.prefix_refl _) (fun _ => upd_ne this) (fun u q => q)
theorem nd_get {μ : List Addr} (h : μ.Nodup) {i j : Nat} {a : Addr} (x : μ[i]? = some a) (y : μ[j]? = some a) : i = j := by
  obtain ⟨h1, e1⟩ := List.getElem?_eq_some_iff.mp x
  obtain ⟨h2, e2⟩ := List.getElem?_eq_some_iff.mp y
  exact (List.getElem_inj h).mp (e1.trans e2.symm)
/-- a cell is written -/
theorem Rel.setCell (R : Rel K Z Hf μ ρ G σ H) {l : Nat} {a : Addr} {o : HO} {c : Cell} (hl : l < G.cs.length) (ha : μ[l]? = some a) (hf : Hf a = none) (hc : CellAt K Hf μ (upd H a o) a c) : Rel K Z Hf μ ρ (G.set l c) σ (upd H a o) := by
  have np : ∀ b u, Z.P b = some u → b ≠ a := fun b u e z => by
    subst z
    by_cases hlt : l < Z.μ0.length
    · have hm : b ∈ Z.μ0 := by
        obtain ⟨t, ht⟩ := R.pre
        rw [← ht, List.getElem?_append_left hlt] at ha
        exact List.mem_of_getElem? ha
      rw [Z.pm b hm] at e; cases e
    · exact R.new l b ha (by omega) (Z.pd b u e)
  refine ⟨fun b u e => ?_, R.base, R.old, fun b u e => ?_, fun b h => ?_, R.pre, R.new, R.nd, by show _ = (G.cs.set l c).length; rw [List.length_set]; exact R.len, R.n0, fun l' c' b e1 e2 => ?_, R.env, fun P hP => ⟨tabG_upd (R.tab P hP).1 (fun z => (R.tab P hP).2.2 (by rw [z]; exact List.mem_of_getElem? ha)), (R.tab P hP).2⟩⟩
  · have : b ≠ a := fun z => by rw [z, hf] at e; cases e
    rw [upd_ne this]; exact R.sub b u e
  · rw [upd_ne (np b u e)]; exact R.keep b u e
  · by_cases hb : b = a
    · rw [hb, upd_same]; exact fun z => by cases z
    · rw [upd_ne hb]; exact R.live b h
  · have e1 : (G.cs.set l c)[l']? = some c' := e1
    by_cases hll : l = l'
    · subst hll
      rw [List.getElem?_set_self hl] at e1
      cases e1
      rw [ha] at e2
      cases e2
      exact hc
    · rw [List.getElem?_set_ne hll] at e1
      have : b ≠ a := fun z => by subst z; exact hll (nd_get R.nd ha e2)
      exact (R.cells l' c' b e1 e2).mono (Same.refl _) (List.prefix_refl _) (fun _ => rfl) (fun u q => by rw [upd_ne this]; exact q)
/-- a cell's list becomes a value, the cell is dead -/
theorem Rel.freeze (R : Rel K Z Hf μ ρ G σ H) {l : Nat} {a : Addr} {ds : List D} (e : G.cs[l]? = some (.lst ds)) (ha : μ[l]? = some a) (hz : G.n0 ≤ l) :
    ∃ Hf', Same Hf Hf' ∧ Rel K Z Hf' μ ρ (G.set l .dead) σ H ∧ Rep K Hf' μ (.ref a) (.lst ds) := by
  rw [R.n0] at hz
  obtain ⟨hn, vs, hv, r⟩ := R.cells l _ a e ha
  have sm : Same Hf (upd Hf a (.lst vs)) := same_new hn
  have hl : l < G.cs.length := (List.getElem?_eq_some_iff.mp e).1
  refine ⟨upd Hf a (.lst vs), sm, ⟨fun b u q => ?_, R.base.trans sm, fun b hb => ?_, R.keep, R.live, R.pre, R.new, R.nd, by show _ = (G.cs.set l .dead).length; rw [List.length_set]; exact R.len, R.n0, fun l' c' b e1 e2 => ?_, R.env.mono sm (List.prefix_refl _), fun P hP => ⟨(R.tab P hP).1, by rw [upd_ne (fun z => (R.tab P hP).2.2 (by rw [z]; exact List.mem_of_getElem? ha))]; exact (R.tab P hP).2.1, (R.tab P hP).2.2⟩⟩, .lst upd_same (r.mono sm (List.prefix_refl _))⟩
  · by_cases hb : b = a
    · subst hb; rw [upd_same] at q; rw [hv]; exact q
    · rw [upd_ne hb] at q; exact R.sub b u q
  · have : b ≠ a := fun z => R.new l b (by rw [z]; exact ha) hz hb
    rw [upd_ne this]; exact R.old b hb
  · have e1 : (G.cs.set l .dead)[l']? = some c' := e1
    by_cases hll : l = l'
    · subst hll
      rw [List.getElem?_set_self hl] at e1
      cases e1
      rw [ha] at e2
      cases e2
      exact ⟨_, hv⟩
    · rw [List.getElem?_set_ne hll] at e1
      have : b ≠ a := fun z => by subst z; exact hll (nd_get R.nd ha e2)
      exact (R.cells l' c' b e1 e2).mono sm (List.prefix_refl _) (fun _ => upd_ne this) (fun u q => q)
/-- an object apart is set under protection, and let go -/
def Act.with_ (Z : Act) (p : Addr) (o : HO) (hf : Z.Hf0 p = none) (hm : p ∉ Z.μ0) (ht : p ∉ Tabs.T) : Act :=
  { dom := fun a => Z.dom a ∨ a = p, P := upd Z.P p o, Hf0 := Z.Hf0, μ0 := Z.μ0,
    pd := fun a u e => by
      by_cases h : a = p
      · exact .inr h
      · rw [upd_ne h] at e; exact .inl (Z.pd a u e)
    pm := fun a h => by rw [upd_ne (fun z => hm (by rw [← z]; exact h))]; exact Z.pm a h,
    pt := fun a h => by rw [upd_ne (fun z => ht (by rw [← z]; exact h))]; exact Z.pt a h }
theorem Rel.guard (R : Rel K Z Hf μ ρ G σ H) {p : Addr} {o : HO} (a : Apart Z Hf μ p) (h : H p = some o) : ∃ hf hm, Rel K (Z.with_ p o hf hm a.tb) Hf μ ρ G σ H := by
  have hf : Z.Hf0 p = none := by
    cases q : Z.Hf0 p with
    | none => rfl
    | some u => have := R.base p u q; rw [a.hf] at this; cases this
  have hm : p ∉ Z.μ0 := fun z => a.mu (R.pre.subset z)
  refine ⟨hf, hm, R.sub, R.base, fun b hb => ?_, fun b u e => ?_, fun b hb => ?_, R.pre, fun l b e hl hb => ?_, R.nd, R.len, R.n0, R.cells, R.env, R.tab⟩
  · rcases hb with hb | hb
    · exact R.old b hb
    · rw [hb, a.hf]; exact hf.symm
  · by_cases hb : b = p
    · have e : upd Z.P p o b = some u := e
      rw [hb, upd_same] at e; rw [hb, h]; exact e
    · have e : upd Z.P p o b = some u := e
      rw [upd_ne hb] at e; exact R.keep b u e
  · rcases hb with hb | hb
    · exact R.live b hb
    · rw [hb, h]; exact fun z => by cases z
  · rcases hb with hb | hb
    · exact R.new l b e hl hb
    · exact a.mu (by rw [← hb]; exact List.mem_of_getElem? e)
theorem Rel.unguard {p : Addr} {o : HO} {hf : Z.Hf0 p = none} {hm : p ∉ Z.μ0} {ht : p ∉ Tabs.T} (R : Rel K (Z.with_ p o hf hm ht) Hf μ ρ G σ H) (h0 : ¬ Z.dom p) : Rel K Z Hf μ ρ G σ H ∧ Apart Z Hf μ p ∧ H p = some o := by
  refine ⟨⟨R.sub, R.base, fun b hb => R.old b (.inl hb), fun b u e => R.keep b u ?_, fun b hb => R.live b (.inl hb), R.pre, fun l b e hl hb => R.new l b e hl (.inl hb), R.nd, R.len, R.n0, R.cells, R.env, R.tab⟩, ⟨(R.old p (.inr rfl)).trans hf, fun hmu => ?_, h0, ht⟩, R.keep p o upd_same⟩
  · have : b ≠ p := fun z => h0 (by rw [← z]; exact Z.pd b u e)
    show upd Z.P p o b = some u
    rw [upd_ne this]; exact e
  · obtain ⟨l, hl⟩ := List.getElem?_of_mem hmu
    by_cases hlt : l < Z.μ0.length
    · obtain ⟨t, ht⟩ := R.pre
      have ht : Z.μ0 ++ t = μ := ht
      rw [← ht, List.getElem?_append_left hlt] at hl
      exact hm (List.mem_of_getElem? hl)
    · exact R.new l p hl (by show Z.μ0.length ≤ l; omega) (.inr rfl)
/-- the entry of a called def that is handed the cells at μ -/
def Act.entry (H Hf : Hp) (μ : List Addr) : Act :=
  { dom := fun a => H a ≠ none, P := fun a => if a ∈ μ ∨ a ∈ Tabs.T then none else H a, Hf0 := Hf, μ0 := μ,
    pd := fun a o e => by
      split at e
      · cases e
      · rw [e]; exact fun z => by cases z
    pm := fun a h => by rw [if_pos (.inl h)]
    pt := fun a h => by rw [if_pos (.inr h)] }
theorem Rel.enter (R : Rel K Z Hf μ ρ G σ H) : Rel K (Act.entry H Hf μ) Hf μ [] ⟨G.cs.length, G.cs⟩ [] H :=
  ⟨R.sub, Same.refl _, fun _ _ => rfl, fun a o e => (by
    have e : (if a ∈ μ ∨ a ∈ Tabs.T then none else H a) = some o := e
    split at e
    · cases e
    · exact e), fun _ h => h, List.prefix_refl _, fun l a e hl => (by rw [List.getElem?_eq_none (show μ.length ≤ l from hl)] at e; cases e), R.nd, R.len, R.len.symm, R.cells, ⟨rfl, fun i d e => by simp at e⟩, R.tab⟩
theorem Rel.leave {μ' : List Addr} {ρ' : Evn} {G' : Sto} {σ' : L2.St} (R : Rel K Z Hf μ ρ G σ H) (R' : Rel K (Act.entry H Hf μ) Hf' μ' ρ' G' σ' H') : Rel K Z Hf' μ' ρ ⟨G.n0, G'.cs⟩ σ H' where
  sub := R'.sub
  base := R.base.trans R'.base
  old := fun a h => (R'.old a (R.live a h)).trans (R.old a h)
  keep := fun a o e => by
    refine R'.keep a o ?_
    show (if a ∈ μ ∨ a ∈ Tabs.T then none else H a) = some o
    rw [if_neg, R.keep a o e]
    rintro (hmu | ht)
    · obtain ⟨l, hl⟩ := List.getElem?_of_mem hmu
      by_cases hlt : l < Z.μ0.length
      · obtain ⟨t, ht⟩ := R.pre
        rw [← ht, List.getElem?_append_left hlt] at hl
        rw [Z.pm a (List.mem_of_getElem? hl)] at e
        cases e
      · exact R.new l a hl (by omega) (Z.pd a o e)
    · rw [Z.pt a ht] at e
      cases e
  live := fun a h => R'.live a (R.live a h)
  pre := R.pre.trans R'.pre
  new := fun l a e hl => by
    by_cases hlt : l < μ.length
    · obtain ⟨t, ht⟩ := R'.pre
      have ht : μ ++ t = μ' := ht
      rw [← ht, List.getElem?_append_left hlt] at e
      exact R.new l a e hl
    · have := R'.new l a e (by show μ.length ≤ l; omega)
      exact fun z => this (R.live a z)
  nd := R'.nd
  len := R'.len
  n0 := R.n0
  cells := R'.cells
  env := R.env.mono R'.base R'.pre
  tab := R'.tab
/-- .. that is handed none -/
theorem Rel.enter0 (R : Rel K Z Hf μ ρ G σ H) : Rel K (Act.entry H Hf []) Hf [] [] Sto.none [] H :=
  ⟨R.sub, Same.refl _, fun _ _ => rfl, fun a o e => (by
    have e : (if a ∈ ([] : List Addr) ∨ a ∈ Tabs.T then none else H a) = some o := e
    split at e
    · cases e
    · exact e), fun _ h => h, List.prefix_refl _, fun l a e _ => (by simp at e), List.nodup_nil, rfl, rfl, fun l c a e _ => (by simp at e), ⟨rfl, fun i d e => by simp at e⟩, fun P hP => ⟨(R.tab P hP).1, (R.tab P hP).2.1, by simp⟩⟩
theorem Rel.leave0 {μ' : List Addr} {ρ' : Evn} {G' : Sto} {σ' : L2.St} (R' : Rel K (Act.entry H Hf []) Hf' μ' ρ' G' σ' H') : Grow Hf H Hf' H' :=
  ⟨R'.base, R'.sub, fun a o n e => R'.keep a o (by
    show (if a ∈ ([] : List Addr) ∨ a ∈ Tabs.T then none else H a) = some o
    rw [if_neg (by rintro (h | h); · simp at h
                   · exact n h)]
    exact e), R'.old, R'.live, fun P hP _ => (R'.tab P hP).1⟩
end
end Lf

/-! Lf2: expressions as functions of plain data. -/
namespace Lf
open PySem PySem.Spec PyProof.Rows L2
variable [Tabs]

abbrev M (α : Type) := Evn → Sto → Option (α × Sto)

/-- a family of contexts (one body; or a comprehension's blocks) -/
structure Fam where
  ι : Type
  X : ι → Cx
  P : Program
  w : World
  K : PySem.W.Frag
  mg : Str → Option Value
  base : Heap
  k : Nat
  hP : ∀ i, (X i).prog = P
  hw : ∀ i, (X i).w = w
  hK : ∀ i, (X i).K = K
  hm : ∀ i, (X i).mg = mg
  hb : ∀ i, (X i).base = base
  calm : ∀ i, (X i).calm = true
  nd : ∀ i, (X i).N.Nodup
  room : ∀ i, Room k (X i).A

def EvE (K : PySem.W.Frag) (t : TE) (m : M D) : Prop :=
  ∀ Z Hf μ ρ G σ H, Rel K Z Hf μ ρ G σ H → ∀ d G', m ρ G = some (d, G') → ∀ Q : VK,
    (∀ Hf' μ' v H', Rel K Z Hf' μ' ρ G' σ H' → Same Hf Hf' → μ <+: μ' → Rep K Hf' μ' v d → Q v H') → t σ H Q
def EvB (K : PySem.W.Frag) (t : TT) (m : M Bool) : Prop :=
  ∀ Z Hf μ ρ G σ H, Rel K Z Hf μ ρ G σ H → ∀ d G', m ρ G = some (d, G') → ∀ Q : Bool → Hp → Prop,
    (∀ Hf' μ' H', Rel K Z Hf' μ' ρ G' σ H' → Same Hf Hf' → μ <+: μ' → Q d H') → t σ H Q
def EvA (K : PySem.W.Frag) (t : TA) (m : M (List D)) : Prop :=
  ∀ Z Hf μ ρ G σ H, Rel K Z Hf μ ρ G σ H → ∀ ds G', m ρ G = some (ds, G') → ∀ Q : List V → Hp → Prop,
    (∀ Hf' μ' vs H', Rel K Z Hf' μ' ρ G' σ H' → Same Hf Hf' → μ <+: μ' → Reps K Hf' μ' vs ds → Q vs H') → t σ H Q
def EvO (K : PySem.W.Frag) (t : TO) (m : M (Option Int)) : Prop :=
  ∀ Z Hf μ ρ G σ H, Rel K Z Hf μ ρ G σ H → ∀ d G', m ρ G = some (d, G') → ∀ Q : Option Int → Hp → Prop,
    (∀ Hf' μ' H', Rel K Z Hf' μ' ρ G' σ H' → Same Hf Hf' → μ <+: μ' → Q d H') → t σ H Q

def PM (F : Fam) (e : Expr) (m : M D) : Prop := ∃ t, (∀ i, PE (F.X i) e t) ∧ EvE F.K t m
def PB (F : Fam) (e : Expr) (m : M Bool) : Prop := ∃ t, (∀ i, PT (F.X i) e t) ∧ EvB F.K t m
def PBw (F : Fam) (e : Expr) (m : M Bool) : Prop := ∃ t, (∀ i, PW (F.X i) e t) ∧ EvB F.K t m
def PL (F : Fam) (es : List Expr) (m : M (List D)) : Prop := ∃ t, (∀ i, PA (F.X i) es t) ∧ EvA F.K t m
def PP (F : Fam) (e : Option Expr) (m : M (Option Int)) : Prop := ∃ t, (∀ i, PO (F.X i) e t) ∧ EvO F.K t m

/-! ### names and constants -/
def mVar (i : Nat) : M D := fun ρ G => match ρ[i]? with | some (some d) => some (d, G) | _ => none
def mC (d : D) : M D := fun _ G => some (d, G)
theorem ev_var {K : PySem.W.Frag} {i : Nat} : EvE K (tVar i) (mVar i) := by
  intro Z Hf μ ρ G σ H R d G' e Q q
  unfold mVar at e
  split at e
  · rename_i d' he
    cases e
    obtain ⟨v, hv, r⟩ := R.env.2 i _ he
    exact ⟨v, hv, q Hf μ v H R (Same.refl _) (List.prefix_refl _) r⟩
  · cases e
theorem ev_c {K : PySem.W.Frag} {v : V} {d : D} (h : ∀ H μ, Rep K H μ v d) : EvE K (tC v) (mC d) := by
  intro Z Hf μ ρ G σ H R d' G' e Q q
  cases e
  exact q Hf μ v H R (Same.refl _) (List.prefix_refl _) (h _ _)
theorem pm_var {F : Fam} (i : Nat) {x : Str} {pos : Pos} (hN : ∀ j, (F.X j).N[i]? = some x := by intro _; rfl) (hv : ∀ j, Vis (F.X j).env.scope x := by first | exact fun _ => Or.inl rfl | exact fun _ => Or.inr (Or.inl rfl) | exact fun _ => Or.inr (Or.inr rfl)) (hd : (x == ("__debug__" : Str)) = false := by decide)
    (hcd : (x == ("__classdict__" : Str)) = false := by decide) : PM F (.Name x pos) (mVar i) := ⟨_, fun j => pe_var (hN j) (hv j) hd hcd, ev_var⟩
theorem pm_int {F : Fam} {n : Int} {j pos} : PM F (.Constant (.int n) j pos) (mC (.int n)) := ⟨_, fun _ => pe_int, ev_c fun _ _ => .int n⟩
theorem pm_bl {F : Fam} {b j pos} : PM F (.Constant (.bool b) j pos) (mC (.bl b)) := ⟨_, fun _ => pe_bl, ev_c fun _ _ => .bl b⟩
theorem pm_non {F : Fam} {j pos} : PM F (.Constant .none j pos) (mC .non) := ⟨_, fun _ => pe_non, ev_c fun _ _ => .non⟩
theorem pm_str {F : Fam} {x j pos} : PM F (.Constant (.str x) j pos) (mC (.str x)) := ⟨_, fun _ => pe_str, ev_c fun _ _ => .str x⟩
/-- a module's constant that is a number or a text -/
theorem pm_glob {F : Fam} {x : Str} {v : V} {d : D} {u : Value} {pos : Pos} (hg : ∀ j, Gl (F.X j) x) (hm : F.mg x = some u) (r : RelV v u) (h : ∀ H μ, Rep F.K H μ v d) (hd : (x == ("__debug__" : Str)) = false := by decide) : PM F (.Name x pos) (mC d) :=
  ⟨_, fun j => pe_glob (hg j) (by rw [F.hm j]; exact hm) r hd, ev_c h⟩

/-! ### lists of arguments, displays -/
def mNil : M (List D) := fun _ G => some ([], G)
def mCons (a : M D) (r : M (List D)) : M (List D) := fun ρ G => (a ρ G).bind fun p => (r ρ p.2).bind fun q => some (p.1 :: q.1, q.2)
theorem pl_nil {F : Fam} : PL F [] mNil := by
  refine ⟨_, fun _ => pa_nil, ?_⟩
  intro Z Hf μ ρ G σ H R ds G' e Q q
  cases e
  exact q Hf μ [] H R (Same.refl _) (List.prefix_refl _) .nil
theorem pl_cons {F : Fam} {e : Expr} {es : List Expr} {a : M D} {r : M (List D)} (ha : PM F e a) (hr : PL F es r) (hs : ∀ i, starEach (e :: es) (F.X i).env = (false, eval e (F.X i).env) :: starEach es (F.X i).env := by intro _; rfl) : PL F (e :: es) (mCons a r) := by
  obtain ⟨ta, pa, ea⟩ := ha
  obtain ⟨tr, pr, er⟩ := hr
  refine ⟨_, fun i => pa_cons (pa i) (pr i) (hs i), ?_⟩
  intro Z Hf μ ρ G σ H R ds G' e Q q
  unfold mCons at e
  obtain ⟨⟨x, G1⟩, e1, e⟩ := Option.bind_eq_some_iff.mp e
  obtain ⟨⟨xs, G2⟩, e2, e⟩ := Option.bind_eq_some_iff.mp e
  cases e
  refine ea Z Hf μ ρ G σ H R x G1 e1 _ fun Hf1 μ1 v H1 R1 s1 m1 r1 => ?_
  refine er Z Hf1 μ1 ρ G1 σ H1 R1 xs G2 e2 _ fun Hf2 μ2 vs H2 R2 s2 m2 r2 => ?_
  exact q Hf2 μ2 (v :: vs) H2 R2 (s1.trans s2) (m1.trans m2) (.cons (r1.mono s2 m2) r2)
def szOk (n : Nat) : Bool := decide (n ≤ 16777216)
theorem szOk_le {n : Nat} (h : szOk n = true) : n ≤ sizeLine := by rw [sizeLine_eq]; exact of_decide_eq_true h
def mTup (m : M (List D)) : M D := fun ρ G => (m ρ G).bind fun p => if szOk p.1.length then some (.tup p.1, p.2) else none
def mLst (m : M (List D)) : M D := fun ρ G => (m ρ G).bind fun p => if szOk p.1.length then some (.lst p.1, p.2) else none
/-- a list as a cell -/
def mNew (m : M (List D)) : M D := fun ρ G => (m ρ G).bind fun p => if szOk p.1.length then some (.loc p.2.cs.length, p.2.push (.lst p.1)) else none
section
variable {K : PySem.W.Frag} {Z : Act} {Hf Hf' : Hp} {μ : List Addr} {ρ : Evn} {G : Sto} {σ : L2.St} {H H' : Hp}
theorem Rel.tupNew (R : Rel K Z Hf μ ρ G σ H) {p : Addr} (hp : H p = none) {vs : List V} {ds : List D} (r : Reps K Hf μ vs ds) : Rel K Z (upd Hf p (.tup vs)) μ ρ G σ (upd H p (.tup vs)) ∧ Same Hf (upd Hf p (.tup vs)) ∧ Rep K (upd Hf p (.tup vs)) μ (.ref p) (.tup ds) := by
  have g : Grow Hf H (upd Hf p (.tup vs)) (upd H p (.tup vs)) := Grow.new R.sub hp
  exact ⟨R.grow g, g.same, .tup (SqT.of upd_same) (r.mono g.same (List.prefix_refl _))⟩
theorem Rel.lstNew (R : Rel K Z Hf μ ρ G σ H) {p : Addr} (hp : H p = none) {vs : List V} {ds : List D} (r : Reps K Hf μ vs ds) : Rel K Z (upd Hf p (.lst vs)) μ ρ G σ (upd H p (.lst vs)) ∧ Same Hf (upd Hf p (.lst vs)) ∧ Rep K (upd Hf p (.lst vs)) μ (.ref p) (.lst ds) := by
  have g : Grow Hf H (upd Hf p (.lst vs)) (upd H p (.lst vs)) := Grow.new R.sub hp
  exact ⟨R.grow g, g.same, .lst upd_same (r.mono g.same (List.prefix_refl _))⟩
theorem Rel.cellNew (R : Rel K Z Hf μ ρ G σ H) {p : Addr} (hp : H p = none) {vs : List V} {ds : List D} (r : Reps K Hf μ vs ds) : Rel K Z Hf (μ ++ [p]) ρ (G.push (.lst ds)) σ (upd H p (.lst vs)) ∧ Rep K Hf (μ ++ [p]) (.ref p) (.loc G.cs.length) := by
  refine ⟨R.newCell hp ⟨R.sub.free hp, vs, upd_same, r.mono (Same.refl _) pre_app⟩, .loc ?_⟩
  rw [← R.len, List.getElem?_append_right (Nat.le_refl _), Nat.sub_self]
  rfl
end
theorem pm_tup {F : Fam} {es : List Expr} {m : M (List D)} {x1 pos} (h : PL F es m) : PM F (.Tuple es x1 pos) (mTup m) := by
  obtain ⟨t, p, ev⟩ := h
  refine ⟨_, fun i => pe_tup (p i), ?_⟩
  intro Z Hf μ ρ G σ H R d G' e Q q
  unfold mTup at e
  obtain ⟨⟨xs, G1⟩, e1, e⟩ := Option.bind_eq_some_iff.mp e
  split at e
  · rename_i hz
    cases e
    refine ev Z Hf μ ρ G σ H R xs G1 e1 _ fun Hf1 μ1 vs H1 R1 s1 m1 r1 => ⟨by rw [r1.length]; exact szOk_le hz, fun p hp => ?_⟩
    obtain ⟨R2, s2, r2⟩ := R1.tupNew hp r1
    exact q _ μ1 _ _ R2 (s1.trans s2) m1 r2
  · cases e
theorem pm_lst {F : Fam} {es : List Expr} {m : M (List D)} {pos} (h : PL F es m) : PM F (.List es pos) (mLst m) := by
  obtain ⟨t, p, ev⟩ := h
  refine ⟨_, fun i => pe_lst (p i), ?_⟩
  intro Z Hf μ ρ G σ H R d G' e Q q
  unfold mLst at e
  obtain ⟨⟨xs, G1⟩, e1, e⟩ := Option.bind_eq_some_iff.mp e
  split at e
  · rename_i hz
    cases e
    refine ev Z Hf μ ρ G σ H R xs G1 e1 _ fun Hf1 μ1 vs H1 R1 s1 m1 r1 => ⟨by rw [r1.length]; exact szOk_le hz, fun p hp => ?_⟩
    obtain ⟨R2, s2, r2⟩ := R1.lstNew hp r1
    exact q _ μ1 _ _ R2 (s1.trans s2) m1 r2
  · cases e
theorem pm_new {F : Fam} {es : List Expr} {m : M (List D)} {pos} (h : PL F es m) : PM F (.List es pos) (mNew m) := by
  obtain ⟨t, p, ev⟩ := h
  refine ⟨_, fun i => pe_lst (p i), ?_⟩
  intro Z Hf μ ρ G σ H R d G' e Q q
  unfold mNew at e
  obtain ⟨⟨xs, G1⟩, e1, e⟩ := Option.bind_eq_some_iff.mp e
  split at e
  · rename_i hz
    cases e
    refine ev Z Hf μ ρ G σ H R xs G1 e1 _ fun Hf1 μ1 vs H1 R1 s1 m1 r1 => ⟨by rw [r1.length]; exact szOk_le hz, fun p hp => ?_⟩
    obtain ⟨R2, r2⟩ := R1.cellNew hp r1
    exact q _ _ _ _ R2 s1 (m1.trans pre_app) r2
  · cases e

/-! ### two-place operations -/
def mBin (f : D → D → Option D) (a b : M D) : M D := fun ρ G => (a ρ G).bind fun p => (b ρ p.2).bind fun q => (f p.1 q.1).bind fun z => some (z, q.2)
def BinOk (K : PySem.W.Frag) (r : R2) (f : D → D → Option D) : Prop := ∀ x y z, f x y = some z → ∀ Hf μ v u H, Same Hf H → Rep K Hf μ v x → Rep K Hf μ u y → ∀ Q : VK,
  (∀ Hf' H' t, Grow Hf H Hf' H' → Rep K Hf' μ t z → Q t H') → r v u H Q
theorem ev_bin {K : PySem.W.Frag} {r : R2} {f : D → D → Option D} {ta tb : TE} {a b : M D} (hf : BinOk K r f) (ha : EvE K ta a) (hb : EvE K tb b) : EvE K (tOp r ta tb) (mBin f a b) := by
  intro Z Hf μ ρ G σ H R d G' e Q q
  unfold mBin at e
  obtain ⟨⟨x, G1⟩, e1, e⟩ := Option.bind_eq_some_iff.mp e
  obtain ⟨⟨y, G2⟩, e2, e⟩ := Option.bind_eq_some_iff.mp e
  obtain ⟨z, e3, e⟩ := Option.bind_eq_some_iff.mp e
  cases e
  refine ha Z Hf μ ρ G σ H R x G1 e1 _ fun Hf1 μ1 v H1 R1 s1 m1 r1 => ?_
  refine hb Z Hf1 μ1 ρ G1 σ H1 R1 y G2 e2 _ fun Hf2 μ2 u H2 R2 s2 m2 r2 => ?_
  refine hf x y _ e3 Hf2 μ2 v u H2 R2.sub (r1.mono s2 m2) r2 Q fun Hf3 H3 t g r3 => ?_
  exact q Hf3 μ2 t H3 (R2.grow g) ((s1.trans s2).trans g.same) (m1.trans m2) r3
theorem pm_op {F : Fam} {op : Operator} {r : R2} {f : D → D → Option D} {a b : Expr} {ma mb : M D} {pos : Pos} (ho : ∀ i, OpR (F.X i) (binaryOp op) r) (hf : BinOk F.K r f) (ha : PM F a ma) (hb : PM F b mb) : PM F (.BinOp a op b pos) (mBin f ma mb) := by
  obtain ⟨ta, pa, ea⟩ := ha
  obtain ⟨tb, pb, eb⟩ := hb
  exact ⟨_, fun i => pe_op (ho i) (pa i) (pb i), ev_bin hf ea eb⟩
/-- a comparison as a value -/
theorem pm_cmp {F : Fam} {op : CmpOp} {r : R2} {f : D → D → Option D} {a b : Expr} {ma mb : M D} {pos : Pos} (ho : ∀ i, OpR (F.X i) (compareOp op) r) (hf : BinOk F.K r f) (ha : PM F a ma) (hb : PM F b mb) (hm : behindInMarks op b = false) : PM F (.Compare a [op] [b] pos) (mBin f ma mb) := by
  obtain ⟨ta, pa, ea⟩ := ha
  obtain ⟨tb, pb, eb⟩ := hb
  exact ⟨_, fun i => pe_cmpR (ho i) (pa i) (pb i) hm, ev_bin hf ea eb⟩
def mBool (a : M D) : M Bool := fun ρ G => (a ρ G).bind fun p => match p.1 with | .bl b => some (b, p.2) | _ => none
theorem ev_test {K : PySem.W.Frag} {t : TE} {a : M D} (ha : EvE K t a) : EvB K (tTest t) (mBool a) := by
  intro Z Hf μ ρ G σ H R d G' e Q q
  unfold mBool at e
  obtain ⟨⟨x, G1⟩, e1, e⟩ := Option.bind_eq_some_iff.mp e
  refine ha Z Hf μ ρ G σ H R x G1 e1 _ fun Hf1 μ1 v H1 R1 s1 m1 r1 => ?_
  cases x <;> simp only [reduceCtorEq] at e
  cases e
  cases r1
  exact ⟨_, rfl, q Hf1 μ1 H1 R1 s1 m1⟩
theorem pb_cmp {F : Fam} {op : CmpOp} {r : R2} {f : D → D → Option D} {a b : Expr} {ma mb : M D} {pos : Pos} (ho : ∀ i, OpR (F.X i) (compareOp op) r) (hf : BinOk F.K r f) (ha : PM F a ma) (hb : PM F b mb) (hm : behindInMarks op b = false) : PB F (.Compare a [op] [b] pos) (mBool (mBin f ma mb)) := by
  obtain ⟨ta, pa, ea⟩ := ha
  obtain ⟨tb, pb, eb⟩ := hb
  exact ⟨_, fun i => pt_cmpR (ho i) (pa i) (pb i) hm, ev_test (ev_bin hf ea eb)⟩

/-! the operations themselves -/
theorem bin_int0 {K : PySem.W.Frag} {g : Int → Int → V} {f : D → D → Option D} {h : Int → Int → D} (hr : ∀ i j H μ, Rep K H μ (g i j) (h i j)) (hf : ∀ x y z, f x y = some z → ∃ i j, x = .int i ∧ y = .int j ∧ z = h i j) : BinOk K (rI0 g) f := by
  intro x y z e Hf μ v u H s r1 r2 Q q
  obtain ⟨i, j, rfl, rfl, rfl⟩ := hf x y z e
  cases r1
  cases r2
  exact ⟨i, j, rfl, rfl, q Hf H _ (Grow.refl s) (hr i j _ _)⟩
theorem bin_intC {K : PySem.W.Frag} {C : Int → Int → Prop} {g : Int → Int → V} {f : D → D → Option D} {h : Int → Int → D} (hr : ∀ i j H μ, Rep K H μ (g i j) (h i j)) (hf : ∀ x y z, f x y = some z → ∃ i j, x = .int i ∧ y = .int j ∧ C i j ∧ z = h i j) : BinOk K (rI C g) f := by
  intro x y z e Hf μ v u H s r1 r2 Q q
  obtain ⟨i, j, rfl, rfl, hc, rfl⟩ := hf x y z e
  cases r1
  cases r2
  exact ⟨i, j, rfl, rfl, hc, q Hf H _ (Grow.refl s) (hr i j _ _)⟩
/-- two rules for one operation -/
theorem bin_or {K : PySem.W.Frag} {r r' : R2} {f g h : D → D → Option D} (a : BinOk K r f) (b : BinOk K r' g) (hh : ∀ x y z, h x y = some z → f x y = some z ∨ g x y = some z) : BinOk K (fun x y H Q => r x y H Q ∨ r' x y H Q) h := by
  intro x y z e Hf μ v u H s r1 r2 Q q
  rcases hh x y z e with e | e
  · exact .inl (a x y z e Hf μ v u H s r1 r2 Q q)
  · exact .inr (b x y z e Hf μ v u H s r1 r2 Q q)
end Lf

/-! Lf3: the operators, tests, places, slices, built-in functions. -/
namespace Lf
open PySem PySem.Spec PyProof.Rows L2
variable [Tabs]

/-! ### arithmetic -/
def mulOk (i j : Int) : Bool := decide (i.natAbs.log2 + j.natAbs.log2 < 1000000)
def divOk (j : Int) : Bool := decide (0 < j) && decide (j.natAbs.log2 < 9000)
def divOkN (j : Int) : Bool := decide (j < 0) && decide (j.natAbs < 1073741824)
def powOk (i j : Int) : Bool := decide (0 ≤ j) && decide (j ≤ 1000000) && decide (i.natAbs < 2 ^ 64)
def fAdd : D → D → Option D
  | .int i, .int j => some (.int (i + j))
  | .str a, .str b => if szOk (a.length + b.length) then some (.str (a ++ b)) else none
  | .tup a, .tup b => if szOk (a.length + b.length) then some (.tup (a ++ b)) else none
  | .lst a, .lst b => if szOk (a.length + b.length) then some (.lst (a ++ b)) else none
  | _, _ => none
def fSub : D → D → Option D
  | .int i, .int j => some (.int (i - j))
  | _, _ => none
def fMul : D → D → Option D
  | .int i, .int j => if mulOk i j then some (.int (i * j)) else none
  | .tup a, .int k => if !a.isEmpty && decide (1 ≤ k) && decide (k ≤ 1000) && decide (a.length ≤ 1000) then some (.tup (List.replicate k.toNat a).flatten) else none
  | _, _ => none
def fDiv : D → D → Option D
  | .int i, .int j => if divOk j then some (.int (i / j)) else if divOkN j then some (.int (i.fdiv j)) else none
  | _, _ => none
def fMod : D → D → Option D
  | .int i, .int j => if 0 < j then some (.int (i % j)) else if j < 0 then some (.int (i.fmod j)) else none
  | _, _ => none
def fPow : D → D → Option D
  | .int i, .int j => if powOk i j then some (.int (i ^ j.toNat)) else none
  | _, _ => none
def fShl : D → D → Option D
  | .int i, .int j => if powOk i j then some (.int (i * 2 ^ j.toNat)) else none
  | _, _ => none

/-- a tuple once is itself -/
theorem tuple_mul1 (l : Addr) (items : Array Value) (n : Nat) (sl : Array (Option Value)) (dd : Option Addr) (u : Tok) (c1 : (items.isEmpty || (1 : Int) == 1) = true) :
    Meets (Builtin.«tuple.__mul__» ⟨[.ref l, .int 1 u], []⟩) (fun _ R s => s.heap.get? l = some { cls := .type "tuple", dict := dd, data := .seq items n, slots := sl } ∧ R (.ok (.ret (Value.ref l))) s) :=
  .of_wp fun prog w A R s h => by
    obtain ⟨hp, g, d, tk, os⟩ := s
    obtain ⟨hl, h⟩ := h
    have f1 := AutoSeq1.idx_int
    wp_walk using wpAny_loadPart' hl
    repeat (first
      | (refine wpAny_ite_false (decide_eq_false (by decide)) ?_; wp_walk using wpAny_loadPart' hl)
      | (refine wpAny_ite_true (decide_eq_true (by rw [c1])) ?_; wp_walk using wpAny_loadPart' hl)
      | (refine wpAny_ite_true (decide_eq_true rfl) ?_; wp_walk using wpAny_loadPart' hl))
    exact ⟨_, rfl, h⟩
def rRepT1 (K : PySem.W.Frag) : R2 := fun x y H Q => ∃ l xs, x = .ref l ∧ y = .int 1 ∧ SqT K H l xs ∧ Q (.ref l) H
section
variable {X : Cx}
theorem op_repT1 : OpR X (binaryOp .Mult) (rRepT1 X.K) := by
  intro pins s σ H x y v u Q I rx ry h
  obtain ⟨l, xs, rfl, rfl, hT, q⟩ := h
  cases rx
  obtain ⟨t, rfl⟩ := ry
  obtain ⟨its, r, ⟨⟨cls, dd, data, sl⟩, ho, hc, n, hd⟩, hs⟩ := I.tuple hT
  simp only at hc hd
  subst hc hd
  have c1 : (its.toArray.isEmpty || (1 : Int) == 1) = true := by simp
  refine wpAny_binaryOp_repeat_ref (T := "tuple") (U := "int") (by decide) ⟨_, ho, rfl⟩ (fun s' => typeIs_int s' 1 t) noFill_tuple_mul F.fills_int_mul F.slot_int_rmul repeat_tuple F.slot_int_index.lookup
    (call_meets F.slot_int_rmul (typeIs_int s 1 t) F.entry_int_rmul (F.args_int_rmul_2 _ _) (int_rmul_tuple 1 t l its.toArray n dd sl)
      ⟨ho, rfl, ⟨_, ho, rfl⟩, call_meets F.slot_tuple_mul ⟨_, ho, rfl⟩ F.entry_tuple_mul (F.args_tuple_mul_2 _ _) (tuple_mul1 l its.toArray n sl dd t c1) ⟨ho, ?_⟩⟩)
  exact ⟨.ref l, H, I, rfl, q⟩
end

/-! ### adequacy of the operations -/
section
variable {K : PySem.W.Frag}
theorem bk_addI : BinOk K (rI0 fun i j => .int (i + j)) (fun x y => match x, y with | .int i, .int j => some (.int (i + j)) | _, _ => none) :=
  bin_int0 (h := fun i j => .int (i + j)) (fun i j _ _ => .int _) (by
    intro x y z e
    split at e
    · cases e; exact ⟨_, _, rfl, rfl, rfl⟩
    · cases e)
theorem bk_subI : BinOk K (rI0 fun i j => .int (i - j)) fSub :=
  bin_int0 (h := fun i j => .int (i - j)) (fun i j _ _ => .int _) (by
    intro x y z e
    unfold fSub at e
    split at e
    · cases e; exact ⟨_, _, rfl, rfl, rfl⟩
    · cases e)
def rStrAdd : R2 := fun x y H Q => ∃ i j, x = .str i ∧ y = .str j ∧ i.length + j.length ≤ sizeLine ∧ Q (.str (i ++ j)) H
theorem bk_addS : BinOk K rStrAdd (fun x y => match x, y with | .str a, .str b => if szOk (a.length + b.length) then some (.str (a ++ b)) else none | _, _ => none) := by
  intro x y z e Hf μ v u H s r1 r2 Q q
  dsimp only at e
  split at e
  · split at e
    · rename_i hz
      cases e
      cases r1
      cases r2
      exact ⟨_, _, rfl, rfl, szOk_le hz, q Hf H _ (Grow.refl s) (.str _)⟩
    · cases e
  · cases e
theorem Reps.nil_iff {H : Hp} {μ : List Addr} {vs : List V} {ds : List D} (r : Reps K H μ vs ds) : vs = [] ↔ ds = [] := by
  cases r <;> simp
theorem bk_addT : BinOk K (rCatA K) (fun x y => match x, y with | .tup a, .tup b => if szOk (a.length + b.length) then some (.tup (a ++ b)) else none | _, _ => none) := by
  intro x y z e Hf μ v u H s r1 r2 Q q
  dsimp only at e
  split at e
  · split at e
    · rename_i hz
      cases e
      cases r1 with
      | tup h1 r1 =>
      cases r2 with
      | tup h2 r2 =>
      rename_i a xs b ys
      refine ⟨a, b, xs, ys, rfl, rfl, same_sqT s h1, same_sqT s h2, by rw [r1.length, r2.length]; exact szOk_le hz, fun ex => ?_, fun _ ey => ?_, fun _ _ p hp => ?_⟩
      · have : _ = [] := r1.nil_iff.mp ex
        subst this
        exact q Hf H _ (Grow.refl s) (.tup h2 r2)
      · have : _ = [] := r2.nil_iff.mp ey
        subst this
        rw [List.append_nil] at q
        exact q Hf H _ (Grow.refl s) (.tup h1 r1)
      · have g : Grow Hf H (upd Hf p (.tup (xs ++ ys))) (upd H p (.tup (xs ++ ys))) := Grow.new s hp
        exact q _ _ _ g (.tup (SqT.of upd_same) ((r1.append r2).mono g.same (List.prefix_refl _)))
    · cases e
  · cases e
theorem bk_addL : BinOk K rCat (fun x y => match x, y with | .lst a, .lst b => if szOk (a.length + b.length) then some (.lst (a ++ b)) else none | _, _ => none) := by
  intro x y z e Hf μ v u H s r1 r2 Q q
  dsimp only at e
  split at e
  · split at e
    · rename_i hz
      cases e
      cases r1 with
      | lst h1 r1 =>
      cases r2 with
      | lst h2 r2 =>
      rename_i a xs b ys
      refine ⟨a, b, xs, ys, rfl, rfl, s _ _ h1, s _ _ h2, by rw [r1.length, r2.length]; exact szOk_le hz, fun p hp => ?_⟩
      have g : Grow Hf H (upd Hf p (.lst (xs ++ ys))) (upd H p (.lst (xs ++ ys))) := Grow.new s hp
      exact q _ _ _ g (.lst upd_same ((r1.append r2).mono g.same (List.prefix_refl _)))
    · cases e
  · cases e
def rAddAll (K : PySem.W.Frag) : R2 := fun x y H Q => (rI0 fun i j => .int (i + j)) x y H Q ∨ (rStrAdd x y H Q ∨ (rCatA K x y H Q ∨ rCat x y H Q))
theorem bk_add : BinOk K (rAddAll K) fAdd := by
  refine bin_or bk_addI (bin_or bk_addS (bin_or bk_addT bk_addL (h := fun x y => match x, y with | .tup a, .tup b => if szOk (a.length + b.length) then some (.tup (a ++ b)) else none | .lst a, .lst b => if szOk (a.length + b.length) then some (.lst (a ++ b)) else none | _, _ => none) ?_)
    (h := fun x y => match x, y with | .str a, .str b => if szOk (a.length + b.length) then some (.str (a ++ b)) else none | .tup a, .tup b => if szOk (a.length + b.length) then some (.tup (a ++ b)) else none | .lst a, .lst b => if szOk (a.length + b.length) then some (.lst (a ++ b)) else none | _, _ => none) ?_) ?_
  · intro x y z e
    cases x <;> cases y <;> first | exact .inl e | exact .inr e | cases e
  · intro x y z e
    cases x <;> cases y <;> first | exact .inl e | exact .inr e | cases e
  · intro x y z e
    cases x <;> cases y <;> first | exact .inl e | exact .inr e | cases e
theorem bk_mulI : BinOk K (rI CMulW fun i j => .int (i * j)) (fun x y => match x, y with | .int i, .int j => if mulOk i j then some (.int (i * j)) else none | _, _ => none) :=
  bin_intC (h := fun i j => .int (i * j)) (fun i j _ _ => .int _) (by
    intro x y z e
    split at e
    · split at e
      · rename_i h
        cases e
        exact ⟨_, _, rfl, rfl, (by unfold mulOk at h; exact of_decide_eq_true (p := _ < _) h), rfl⟩
      · cases e
    · cases e)
def rRepA (K : PySem.W.Frag) : R2 := fun x y H Q => rRepT K x y H Q ∨ rRepT1 K x y H Q
theorem bk_mulT : BinOk K (rRepA K) (fun x y => match x, y with | .tup a, .int k => if !a.isEmpty && decide (1 ≤ k) && decide (k ≤ 1000) && decide (a.length ≤ 1000) then some (.tup (List.replicate k.toNat a).flatten) else none | _, _ => none) := by
  intro x y z e Hf μ v u H s r1 r2 Q q
  dsimp only at e
  split at e
  · split at e
    · rename_i h
      simp only [Bool.and_eq_true, decide_eq_true_eq, Bool.not_eq_true', List.isEmpty_eq_false_iff] at h
      obtain ⟨⟨⟨h1, h2⟩, h3⟩, h4⟩ := h
      cases e
      cases r1 with
      | tup t1 r1 =>
      cases r2
      rename_i k a xs
      by_cases hk : k = 1
      · subst hk
        refine .inr ⟨a, xs, rfl, rfl, same_sqT s t1, ?_⟩
        have e1 : ∀ (l : List D), (List.replicate (1 : Int).toNat l).flatten = l := fun l => by simp
        rw [e1] at q
        exact q Hf H _ (Grow.refl s) (.tup t1 r1)
      · refine .inl ⟨a, k, xs, rfl, rfl, same_sqT s t1, fun z => h1 (r1.nil_iff.mp z), by omega, h3, by rw [r1.length]; exact h4, fun p hp => ?_⟩
        have g : Grow Hf H (upd Hf p (.tup (List.replicate k.toNat xs).flatten)) (upd H p (.tup (List.replicate k.toNat xs).flatten)) := Grow.new s hp
        exact q _ _ _ g (.tup (SqT.of upd_same) ((r1.rep k.toNat).mono g.same (List.prefix_refl _)))
    · cases e
  · cases e
def rMulAll (K : PySem.W.Frag) : R2 := fun x y H Q => (rI CMulW fun i j => .int (i * j)) x y H Q ∨ rRepA K x y H Q
theorem bk_mul : BinOk K (rMulAll K) fMul := by
  refine bin_or bk_mulI bk_mulT ?_
  intro x y z e
  cases x <;> cases y <;> first | exact .inl e | exact .inr e | cases e
def rDivAll : R2 := fun x y H Q => (rI CDivW fun i j => .int (i / j)) x y H Q ∨ (rI CDivN fun i j => .int (i.fdiv j)) x y H Q
theorem bk_div : BinOk K rDivAll fDiv := by
  refine bin_or (f := fun x y => match x, y with | .int i, .int j => if divOk j then some (.int (i / j)) else none | _, _ => none) (g := fun x y => match x, y with | .int i, .int j => if divOkN j then some (.int (i.fdiv j)) else none | _, _ => none)
    (bin_intC (h := fun i j => .int (i / j)) (fun i j _ _ => .int _) ?_) (bin_intC (h := fun i j => .int (i.fdiv j)) (fun i j _ _ => .int _) ?_) ?_
  · intro x y z e
    split at e
    · split at e
      · rename_i h
        cases e
        unfold divOk at h
        simp only [Bool.and_eq_true, decide_eq_true_eq] at h
        exact ⟨_, _, rfl, rfl, h, rfl⟩
      · cases e
    · cases e
  · intro x y z e
    split at e
    · split at e
      · rename_i h
        cases e
        unfold divOkN at h
        simp only [Bool.and_eq_true, decide_eq_true_eq] at h
        exact ⟨_, _, rfl, rfl, ⟨by omega, h.2⟩, rfl⟩
      · cases e
    · cases e
  · intro x y z e
    cases x <;> cases y <;> first | (cases e; done) | skip
    unfold fDiv at e
    dsimp only at e ⊢
    split at e
    · rename_i h
      exact .inl (by rw [if_pos h]; exact e)
    · split at e
      · rename_i h
        exact .inr (by rw [if_pos h]; exact e)
      · cases e
def rModAll : R2 := fun x y H Q => (rI (fun _ j => 0 < j) fun i j => .int (i % j)) x y H Q ∨ (rI (fun _ j => j ≠ 0) fun i j => .int (i.fmod j)) x y H Q
theorem bk_mod : BinOk K rModAll fMod := by
  refine bin_or (f := fun x y => match x, y with | .int i, .int j => if 0 < j then some (.int (i % j)) else none | _, _ => none) (g := fun x y => match x, y with | .int i, .int j => if j < 0 then some (.int (i.fmod j)) else none | _, _ => none)
    (bin_intC (h := fun i j => .int (i % j)) (fun i j _ _ => .int _) ?_) (bin_intC (h := fun i j => .int (i.fmod j)) (fun i j _ _ => .int _) ?_) ?_
  · intro x y z e
    split at e
    · split at e
      · rename_i h
        cases e
        exact ⟨_, _, rfl, rfl, h, rfl⟩
      · cases e
    · cases e
  · intro x y z e
    split at e
    · split at e
      · rename_i h
        cases e
        exact ⟨_, _, rfl, rfl, by omega, rfl⟩
      · cases e
    · cases e
  · intro x y z e
    cases x <;> cases y <;> first | (cases e; done) | skip
    unfold fMod at e
    dsimp only at e ⊢
    split at e
    · rename_i h
      exact .inl (by rw [if_pos h]; exact e)
    · split at e
      · rename_i h
        exact .inr (by rw [if_pos h]; exact e)
      · cases e
theorem bk_pow : BinOk K (rI CPow fun i j => .int (i ^ j.toNat)) fPow :=
  bin_intC (h := fun i j => .int (i ^ j.toNat)) (fun i j _ _ => .int _) (by
    intro x y z e
    unfold fPow at e
    split at e
    · split at e
      · rename_i h
        cases e
        unfold powOk at h
        simp only [Bool.and_eq_true, decide_eq_true_eq] at h
        exact ⟨_, _, rfl, rfl, ⟨h.1.1, h.1.2, h.2⟩, rfl⟩
      · cases e
    · cases e)
theorem bk_shl : BinOk K (rI CPow fun i j => .int (i * 2 ^ j.toNat)) fShl :=
  bin_intC (h := fun i j => .int (i * 2 ^ j.toNat)) (fun i j _ _ => .int _) (by
    intro x y z e
    unfold fShl at e
    split at e
    · split at e
      · rename_i h
        cases e
        unfold powOk at h
        simp only [Bool.and_eq_true, decide_eq_true_eq] at h
        exact ⟨_, _, rfl, rfl, ⟨h.1.1, h.1.2, h.2⟩, rfl⟩
      · cases e
    · cases e)
end
section
variable {F : Fam} {a b : Expr} {ma mb : M D} {pos : Pos}
theorem op_addAll {X : Cx} : OpR X (binaryOp .Add) (rAddAll X.K) := op_add.or (op_add_str.or (op_catA.or op_cat))
theorem op_mulAll {X : Cx} : OpR X (binaryOp .Mult) (rMulAll X.K) := op_mulW.or (op_repT.or op_repT1)
theorem pm_add (ha : PM F a ma) (hb : PM F b mb) : PM F (.BinOp a .Add b pos) (mBin fAdd ma mb) := pm_op (fun i => by have h := op_addAll (X := F.X i); rw [F.hK i] at h; exact h) bk_add ha hb
theorem pm_sub (ha : PM F a ma) (hb : PM F b mb) : PM F (.BinOp a .Sub b pos) (mBin fSub ma mb) := pm_op (fun i => op_sub) bk_subI ha hb
theorem pm_mul (ha : PM F a ma) (hb : PM F b mb) : PM F (.BinOp a .Mult b pos) (mBin fMul ma mb) := pm_op (fun i => by have h := op_mulAll (X := F.X i); rw [F.hK i] at h; exact h) bk_mul ha hb
theorem pm_div (ha : PM F a ma) (hb : PM F b mb) : PM F (.BinOp a .FloorDiv b pos) (mBin fDiv ma mb) := pm_op (fun i => op_fdivW.or op_fdivN) bk_div ha hb
theorem pm_mod (ha : PM F a ma) (hb : PM F b mb) : PM F (.BinOp a .Mod b pos) (mBin fMod ma mb) := pm_op (fun i => op_mod.or op_modN) bk_mod ha hb
theorem pm_pow (ha : PM F a ma) (hb : PM F b mb) : PM F (.BinOp a .Pow b pos) (mBin fPow ma mb) := pm_op (fun i => op_pow) bk_pow ha hb
theorem pm_shl (ha : PM F a ma) (hb : PM F b mb) : PM F (.BinOp a .LShift b pos) (mBin fShl ma mb) := pm_op (fun i => op_shl) bk_shl ha hb
def mUn (f : D → Option D) (a : M D) : M D := fun ρ G => (a ρ G).bind fun p => (f p.1).bind fun z => some (z, p.2)
def fNeg : D → Option D | .int i => some (.int (-i)) | _ => none
theorem pm_neg (ha : PM F a ma) : PM F (.UnaryOp .USub a pos) (mUn fNeg ma) := by
  obtain ⟨ta, pa, ea⟩ := ha
  refine ⟨_, fun i => pe_un un_neg (pa i), ?_⟩
  intro Z Hf μ ρ G σ H R d G' e Q q
  unfold mUn at e
  obtain ⟨⟨x, G1⟩, e1, e⟩ := Option.bind_eq_some_iff.mp e
  obtain ⟨z, e2, e⟩ := Option.bind_eq_some_iff.mp e
  cases e
  refine ea Z Hf μ ρ G σ H R x _ e1 _ fun Hf1 μ1 v H1 R1 s1 m1 r1 => ?_
  cases x <;> simp only [fNeg, reduceCtorEq] at e2
  cases e2
  cases r1
  exact ⟨_, rfl, q Hf1 μ1 _ H1 R1 s1 m1 (.int _)⟩
end

/-! ### comparisons -/
def fLt : D → D → Option D | .int i, .int j => some (.bl (decide (i < j))) | _, _ => none
def fLe : D → D → Option D | .int i, .int j => some (.bl (decide (i ≤ j))) | _, _ => none
def fGt : D → D → Option D | .int i, .int j => some (.bl (decide (j < i))) | _, _ => none
def fGe : D → D → Option D | .int i, .int j => some (.bl (decide (j ≤ i))) | _, _ => none
mutual
def toPy : D → Option PyData
  | .non => some .none
  | .bl b => some (.bool b)
  | .int i => some (.int i)
  | .str s => some (.str s)
  | .tup ds => (toPys ds).map .tuple
  | .lst ds => (toPys ds).map .list
  | .frz ds => (toPys ds).map .list
  | .loc _ => none
def toPys : List D → Option (List PyData)
  | [] => some []
  | d :: ds => (toPy d).bind fun x => (toPys ds).map (x :: ·)
end
/-- the equality of data -/
def eqD (x y : D) : Option Bool := match x, y with
  | .int i, .int j => some (i == j)
  | .str i, .str j => some (i == j)
  | .bl i, .bl j => some (i == j)
  | x, y => (toPy x).bind fun a => (toPy y).bind fun b => if SeqAt.shaped a && SeqAt.shaped b then some (PyData.eqv a b) else none
def fEq (x y : D) : Option D := (eqD x y).map .bl
def fNe (x y : D) : Option D := (eqD x y).map fun b => .bl (!b)
mutual
theorem dp_of {K : PySem.W.Frag} {H : Hp} {μ : List Addr} : ∀ {v : V} {d : D} {p : PyData}, Rep K H μ v d → toPy d = some p → Dp K H v p
  | _, _, _, .non, e => by cases e; exact .non
  | _, _, _, .bl b, e => by cases e; exact .bl b
  | _, _, _, .int i, e => by cases e; exact .int i
  | _, _, _, .str s, e => by cases e; exact .str s
  | _, _, _, .tup h r, e => by
    unfold toPy at e
    obtain ⟨ps, e1, e2⟩ := Option.map_eq_some_iff.mp e
    cases e2
    exact .tup h (dps_of r e1)
  | _, _, _, .lst h r, e => by
    unfold toPy at e
    obtain ⟨ps, e1, e2⟩ := Option.map_eq_some_iff.mp e
    cases e2
    exact .lst (SqL.of h) (dps_of r e1)
  | _, _, _, .frz h r, e => by
    unfold toPy at e
    obtain ⟨ps, e1, e2⟩ := Option.map_eq_some_iff.mp e
    cases e2
    exact .lst h (dps_of r e1)
  | _, _, _, .loc _, e => by cases e
theorem dps_of {K : PySem.W.Frag} {H : Hp} {μ : List Addr} : ∀ {vs : List V} {ds : List D} {ps : List PyData}, Reps K H μ vs ds → toPys ds = some ps → DpAll K H vs ps
  | _, _, _, .nil, e => by cases e; exact .nil
  | _, _, _, .cons h r, e => by
    unfold toPys at e
    obtain ⟨x, e1, e⟩ := Option.bind_eq_some_iff.mp e
    obtain ⟨xs, e2, e3⟩ := Option.map_eq_some_iff.mp e
    cases e3
    exact .cons (dp_of h e1) (dps_of r e2)
end
theorem eqD_py {x y : D} {b : Bool} (h : eqD x y = some b) : (∃ i j, x = .str i ∧ y = .str j ∧ b = (i == j)) ∨ ∃ a c, toPy x = some a ∧ toPy y = some c ∧ SeqAt.shaped a = true ∧ SeqAt.shaped c = true ∧ PyData.eqv a c = b := by
  unfold eqD at h
  split at h
  · cases h; exact .inr ⟨_, _, rfl, rfl, rfl, rfl, rfl⟩
  · cases h; exact .inl ⟨_, _, rfl, rfl, rfl⟩
  · cases h; exact .inr ⟨_, _, rfl, rfl, rfl, rfl, rfl⟩
  · obtain ⟨a, e1, h⟩ := Option.bind_eq_some_iff.mp h
    obtain ⟨c, e2, h⟩ := Option.bind_eq_some_iff.mp h
    split at h
    · rename_i hs
      rw [Bool.and_eq_true] at hs
      cases h
      exact .inr ⟨a, c, e1, e2, hs.1, hs.2, rfl⟩
    · cases h
def rEqA (K : PySem.W.Frag) : R2 := fun x y H Q => rEq x y H Q ∨ rEqD K x y H Q
def rNeA (K : PySem.W.Frag) : R2 := fun x y H Q => rNe x y H Q ∨ rNeD K x y H Q
theorem bk_eq {K : PySem.W.Frag} : BinOk K (rEqA K) fEq := by
  intro x y z e Hf μ v u H s r1 r2 Q q
  obtain ⟨b, e1, e2⟩ := Option.map_eq_some_iff.mp e
  subst e2
  rcases eqD_py e1 with ⟨i, j, rfl, rfl, rfl⟩ | ⟨a, c, h1, h2, h3, h4, h5⟩
  · cases r1
    cases r2
    exact .inl ⟨rfl, by rw [dec_str]; exact q Hf H _ (Grow.refl s) (.bl _)⟩
  · subst h5
    exact .inr ⟨a, c, dp_of (r1.mono s (List.prefix_refl _)) h1, dp_of (r2.mono s (List.prefix_refl _)) h2, h3, h4, q Hf H _ (Grow.refl s) (.bl _)⟩
theorem bk_ne {K : PySem.W.Frag} : BinOk K (rNeA K) fNe := by
  intro x y z e Hf μ v u H s r1 r2 Q q
  obtain ⟨b, e1, e2⟩ := Option.map_eq_some_iff.mp e
  subst e2
  rcases eqD_py e1 with ⟨i, j, rfl, rfl, rfl⟩ | ⟨a, c, h1, h2, h3, h4, h5⟩
  · cases r1
    cases r2
    exact .inl ⟨rfl, by rw [dec_str]; exact q Hf H _ (Grow.refl s) (.bl _)⟩
  · subst h5
    exact .inr ⟨a, c, dp_of (r1.mono s (List.prefix_refl _)) h1, dp_of (r2.mono s (List.prefix_refl _)) h2, h3, h4, q Hf H _ (Grow.refl s) (.bl _)⟩
def isNon : D → Bool | .non => true | _ => false
def fIsN (x y : D) : Option D := match y with | .non => some (.bl (isNon x)) | _ => none
def fNotN (x y : D) : Option D := match y with | .non => some (.bl (!isNon x)) | _ => none
theorem isNon_of {K : PySem.W.Frag} {H : Hp} {μ : List Addr} {v : V} {d : D} (r : Rep K H μ v d) : decide (v = V.non) = isNon d := by
  cases r <;> simp [isNon]
theorem bk_isN {K : PySem.W.Frag} : BinOk K (fun x y H Q => y = .non ∧ Q (.bl (decide (x = .non))) H) fIsN := by
  intro x y z e Hf μ v u H s r1 r2 Q q
  unfold fIsN at e
  split at e
  · cases e
    cases r2
    rw [isNon_of r1]
    exact ⟨rfl, q Hf H _ (Grow.refl s) (.bl _)⟩
  · cases e
theorem bk_notN {K : PySem.W.Frag} : BinOk K (fun x y H Q => y = .non ∧ Q (.bl (!decide (x = .non))) H) fNotN := by
  intro x y z e Hf μ v u H s r1 r2 Q q
  unfold fNotN at e
  split at e
  · cases e
    cases r2
    rw [isNon_of r1]
    exact ⟨rfl, q Hf H _ (Grow.refl s) (.bl _)⟩
  · cases e
theorem bk_cmpI {K : PySem.W.Frag} {p : Int → Int → Bool} {f : D → D → Option D} (hf : ∀ x y z, f x y = some z → ∃ i j, x = .int i ∧ y = .int j ∧ z = .bl (p i j)) : BinOk K (rI0 fun i j => .bl (p i j)) f :=
  bin_int0 (h := fun i j => .bl (p i j)) (fun i j _ _ => .bl _) hf
theorem bk_lt {K : PySem.W.Frag} : BinOk K (rI0 fun i j => .bl (decide (i < j))) fLt := bk_cmpI (by intro x y z e; unfold fLt at e; split at e <;> cases e; exact ⟨_, _, rfl, rfl, rfl⟩)
theorem bk_le {K : PySem.W.Frag} : BinOk K (rI0 fun i j => .bl (decide (i ≤ j))) fLe := bk_cmpI (by intro x y z e; unfold fLe at e; split at e <;> cases e; exact ⟨_, _, rfl, rfl, rfl⟩)
theorem bk_gt {K : PySem.W.Frag} : BinOk K (rI0 fun i j => .bl (decide (j < i))) fGt := bk_cmpI (by intro x y z e; unfold fGt at e; split at e <;> cases e; exact ⟨_, _, rfl, rfl, rfl⟩)
theorem bk_ge {K : PySem.W.Frag} : BinOk K (rI0 fun i j => .bl (decide (j ≤ i))) fGe := bk_cmpI (by intro x y z e; unfold fGe at e; split at e <;> cases e; exact ⟨_, _, rfl, rfl, rfl⟩)
/-- a comparison's rule: its sign, its function -/
structure CmpR (F : Fam) (op : CmpOp) (f : D → D → Option D) : Prop where
  ex : ∃ r, (∀ i, OpR (F.X i) (compareOp op) r) ∧ BinOk F.K r f
section
variable {F : Fam} {a b : Expr} {ma mb : M D} {pos : Pos} {op : CmpOp} {f : D → D → Option D}
theorem cr_lt : CmpR F .Lt fLt := ⟨_, fun _ => op_lt, bk_lt⟩
theorem cr_le : CmpR F .LtE fLe := ⟨_, fun _ => op_le, bk_le⟩
theorem cr_gt : CmpR F .Gt fGt := ⟨_, fun _ => op_gt, bk_gt⟩
theorem cr_ge : CmpR F .GtE fGe := ⟨_, fun _ => op_ge, bk_ge⟩
theorem cr_eq : CmpR F .Eq fEq := ⟨_, fun i => by have h : OpR (F.X i) (compareOp .Eq) (rEqA (F.X i).K) := op_eq.or (op_eqD (F.room i).units); rw [F.hK i] at h; exact h, bk_eq⟩
theorem cr_ne : CmpR F .NotEq fNe := ⟨_, fun i => by have h : OpR (F.X i) (compareOp .NotEq) (rNeA (F.X i).K) := op_ne.or (op_neD (F.room i).units); rw [F.hK i] at h; exact h, bk_ne⟩
theorem cr_isN : CmpR F .Is fIsN := ⟨_, fun _ => op_isN, bk_isN⟩
theorem cr_notN : CmpR F .IsNot fNotN := ⟨_, fun _ => op_notN, bk_notN⟩
theorem pm_cp (c : CmpR F op f) (ha : PM F a ma) (hb : PM F b mb) (hm : behindInMarks op b = false := by exact nomark _) : PM F (.Compare a [op] [b] pos) (mBin f ma mb) := by
  obtain ⟨r, h1, h2⟩ := c.ex
  exact pm_cmp h1 h2 ha hb hm
theorem pb_cp (c : CmpR F op f) (ha : PM F a ma) (hb : PM F b mb) (hm : behindInMarks op b = false := by exact nomark _) : PB F (.Compare a [op] [b] pos) (mBool (mBin f ma mb)) := by
  obtain ⟨r, h1, h2⟩ := c.ex
  exact pb_cmp h1 h2 ha hb hm
end
end Lf

/-! Lf4: tests, places, slices, built-in functions. -/
namespace Lf
open PySem PySem.Spec PyProof.Rows L2
variable [Tabs]

/-! ### what can be read as a row of items -/
def seqOf (G : Sto) : D → Option (List D)
  | .tup ds => some ds
  | .lst ds => some ds
  | .frz ds => some ds
  | .loc l => match G.cs[l]? with | some (.lst ds) => some ds | _ => none
  | _ => none
theorem seqOf_loc {G : Sto} {l : Nat} {ds : List D} (e : seqOf G (.loc l) = some ds) : G.cs[l]? = some (.lst ds) := by
  have e : (match G.cs[l]? with | some (.lst ds) => some ds | _ => none) = some ds := e
  split at e
  · rename_i hg
    cases e
    exact hg
  · cases e
section
variable {K : PySem.W.Frag} {Z : Act} {Hf Hf' : Hp} {μ : List Addr} {ρ : Evn} {G : Sto} {σ : L2.St} {H H' : Hp}
theorem Rel.seq (R : Rel K Z Hf μ ρ G σ H) {v : V} {d : D} {ds : List D} (r : Rep K Hf μ v d) (e : seqOf G d = some ds) : ∃ a xs, v = .ref a ∧ (SqL K H a xs ∨ SqT K H a xs) ∧ Reps K Hf μ xs ds := by
  cases r with
  | tup h r => cases e; exact ⟨_, _, rfl, .inr (same_sqT R.sub h), r⟩
  | lst h r => cases e; exact ⟨_, _, rfl, .inl (SqL.of (R.sub _ _ h)), r⟩
  | frz h r => cases e; exact ⟨_, _, rfl, .inl (same_sqL R.sub h), r⟩
  | loc h =>
    obtain ⟨_, vs, hv, r⟩ := R.cells _ _ _ (seqOf_loc e) h
    exact ⟨_, vs, rfl, .inl (SqL.of hv), r⟩
  | _ => cases e
theorem Rel.size (R : Rel K Z Hf μ ρ G σ H) {v : V} {d : D} {ds : List D} (r : Rep K Hf μ v d) (e : seqOf G d = some ds) : True := trivial
end

/-! ### truth -/
def truD (G : Sto) : D → Option Bool
  | .non => some false
  | .bl b => some b
  | .int i => some (i != 0)
  | .str y => if szOk y.length then some ((y.length : Int) != 0) else none
  | d => (seqOf G d).map fun ds => !ds.isEmpty
def mTru (a : M D) : M Bool := fun ρ G => (a ρ G).bind fun p => (truD p.2 p.1).bind fun b => some (b, p.2)
theorem isEmpty_reps {K : PySem.W.Frag} {H : Hp} {μ : List Addr} {vs : List V} {ds : List D} (r : Reps K H μ vs ds) : vs.isEmpty = ds.isEmpty := by cases r <;> rfl
theorem Rel.tru {K : PySem.W.Frag} {Z : Act} {Hf : Hp} {μ : List Addr} {ρ : Evn} {G : Sto} {σ : L2.St} {H : Hp} (R : Rel K Z Hf μ ρ G σ H) {v : V} {d : D} {b : Bool} (r : Rep K Hf μ v d) (e : truD G d = some b) : TruV K v H b := by
  have sq : ∀ {d : D}, Rep K Hf μ v d → (seqOf G d).map (fun ds => !ds.isEmpty) = some b → TruV K v H b := fun {d} r e => by
    obtain ⟨ds, e1, e2⟩ := Option.map_eq_some_iff.mp e
    obtain ⟨a, xs, rfl, h, rr⟩ := R.seq r e1
    subst e2
    rcases h with h | h
    · exact .inl ⟨xs, h, by rw [isEmpty_reps rr]⟩
    · exact .inr (.inl ⟨xs, h, by rw [isEmpty_reps rr]⟩)
  cases d with
  | non => cases r; cases e; exact rfl
  | bl k => cases r; cases e; exact rfl
  | int i => cases r; cases e; exact rfl
  | str y =>
    cases r
    have e : (if szOk y.length then some ((y.length : Int) != 0) else none) = some b := e
    split at e
    · rename_i hz
      cases e
      exact ⟨szOk_le hz, rfl⟩
    · cases e
  | tup ds => exact sq r e
  | lst ds => exact sq r e
  | frz ds => exact sq r e
  | loc l => exact sq r e
theorem pb_tru {F : Fam} {a : Expr} {ma : M D} (ha : PM F a ma) (he : ∀ i whole, isTrue a (F.X i).env whole = (do let v ← whole; standAt a.pos; holding [v] (truthy v)) := by intro _ _; rfl) : PB F a (mTru ma) := by
  obtain ⟨ta, pa, ea⟩ := ha
  refine ⟨fun σ H Q => ta σ H fun x H' => ∃ k, TruV F.K x H' k ∧ Q k H', fun i => by have h := pt_truth (pa i) (he i); rw [F.hK i] at h; exact h, ?_⟩
  intro Z Hf μ ρ G σ H R d G' e Q q
  unfold mTru at e
  obtain ⟨⟨x, G1⟩, e1, e⟩ := Option.bind_eq_some_iff.mp e
  obtain ⟨b, e2, e⟩ := Option.bind_eq_some_iff.mp e
  cases e
  refine ea Z Hf μ ρ G σ H R x _ e1 _ fun Hf1 μ1 v H1 R1 s1 m1 r1 => ⟨d, R1.tru r1 e2, q Hf1 μ1 H1 R1 s1 m1⟩

/-! ### and, or, not -/
def mAnd (a b : M Bool) : M Bool := fun ρ G => (a ρ G).bind fun p => if p.1 then b ρ p.2 else some (false, p.2)
def mOr (a b : M Bool) : M Bool := fun ρ G => (a ρ G).bind fun p => if p.1 then some (true, p.2) else b ρ p.2
def mNot (a : M Bool) : M Bool := fun ρ G => (a ρ G).bind fun p => some (!p.1, p.2)
section
variable {F : Fam} {a b : Expr} {rest : List Expr} {pos : Pos} {ma mb : M Bool}
theorem pb_of (h : PBw F a ma) : PB F a ma := let ⟨t, p, e⟩ := h; ⟨t, fun i => (p i).pt, e⟩
theorem bw_and1 (h : PB F a ma) : PBw F (.BoolOp .And [a] pos) ma := let ⟨t, p, e⟩ := h; ⟨t, fun i => pw_and1 (p i), e⟩
theorem bw_or1 (h : PB F a ma) : PBw F (.BoolOp .Or [a] pos) ma := let ⟨t, p, e⟩ := h; ⟨t, fun i => pw_or1 (p i), e⟩
theorem bw_and (ha : PB F a ma) (hb : PBw F (.BoolOp .And (b :: rest) pos) mb) : PBw F (.BoolOp .And (a :: b :: rest) pos) (mAnd ma mb) := by
  obtain ⟨ta, pa, ea⟩ := ha
  obtain ⟨tb, pb, eb⟩ := hb
  refine ⟨_, fun i => pw_and (pa i) (pb i), ?_⟩
  intro Z Hf μ ρ G σ H R d G' e Q q
  unfold mAnd at e
  obtain ⟨⟨x, G1⟩, e1, e⟩ := Option.bind_eq_some_iff.mp e
  refine ea Z Hf μ ρ G σ H R x _ e1 _ fun Hf1 μ1 H1 R1 s1 m1 => ?_
  cases x with
  | true => exact iteT (eb Z Hf1 μ1 ρ G1 σ H1 R1 d G' e Q fun Hf2 μ2 H2 R2 s2 m2 => q Hf2 μ2 H2 R2 (s1.trans s2) (m1.trans m2))
  | false => cases e; exact iteF (q Hf1 μ1 H1 R1 s1 m1)
theorem bw_or (ha : PB F a ma) (hb : PBw F (.BoolOp .Or (b :: rest) pos) mb) : PBw F (.BoolOp .Or (a :: b :: rest) pos) (mOr ma mb) := by
  obtain ⟨ta, pa, ea⟩ := ha
  obtain ⟨tb, pb, eb⟩ := hb
  refine ⟨_, fun i => pw_or (pa i) (pb i), ?_⟩
  intro Z Hf μ ρ G σ H R d G' e Q q
  unfold mOr at e
  obtain ⟨⟨x, G1⟩, e1, e⟩ := Option.bind_eq_some_iff.mp e
  refine ea Z Hf μ ρ G σ H R x _ e1 _ fun Hf1 μ1 H1 R1 s1 m1 => ?_
  cases x with
  | true => cases e; exact iteT (q Hf1 μ1 H1 R1 s1 m1)
  | false => exact iteF (eb Z Hf1 μ1 ρ G1 σ H1 R1 d G' e Q fun Hf2 μ2 H2 R2 s2 m2 => q Hf2 μ2 H2 R2 (s1.trans s2) (m1.trans m2))
theorem pb_not (ha : PB F a ma) : PB F (.UnaryOp .Not a pos) (mNot ma) := by
  obtain ⟨ta, pa, ea⟩ := ha
  refine ⟨_, fun i => pt_not (pa i), ?_⟩
  intro Z Hf μ ρ G σ H R d G' e Q q
  unfold mNot at e
  obtain ⟨⟨x, G1⟩, e1, e⟩ := Option.bind_eq_some_iff.mp e
  cases e
  exact ea Z Hf μ ρ G σ H R x _ e1 _ fun Hf1 μ1 H1 R1 s1 m1 => q Hf1 μ1 H1 R1 s1 m1
end
/-! .. as values -/
def mAndV (a b : M D) : M D := fun ρ G => (a ρ G).bind fun p => match p.1 with | .bl true => b ρ p.2 | .bl false => some (.bl false, p.2) | _ => none
def mOrV (a b : M D) : M D := fun ρ G => (a ρ G).bind fun p => match p.1 with | .bl true => some (.bl true, p.2) | .bl false => b ρ p.2 | _ => none
def mNotV (a : M D) : M D := fun ρ G => (a ρ G).bind fun p => match p.1 with | .bl b => some (.bl (!b), p.2) | _ => none
def mIf (c : M Bool) (a b : M D) : M D := fun ρ G => (c ρ G).bind fun p => if p.1 then a ρ p.2 else b ρ p.2
section
variable {F : Fam} {a b c : Expr} {rest : List Expr} {pos : Pos} {ma mb : M D} {mc : M Bool} {op : BoolOp}
theorem pm_one (h : PM F a ma) : PM F (.BoolOp op [a] pos) ma := let ⟨t, p, e⟩ := h; ⟨t, fun i => pe_one (p i), e⟩
theorem pm_and (ha : PM F a ma) (hb : PM F (.BoolOp .And (b :: rest) pos) mb) : PM F (.BoolOp .And (a :: b :: rest) pos) (mAndV ma mb) := by
  obtain ⟨ta, pa, ea⟩ := ha
  obtain ⟨tb, pb, eb⟩ := hb
  refine ⟨_, fun i => pe_and (pa i) (pb i), ?_⟩
  intro Z Hf μ ρ G σ H R d G' e Q q
  unfold mAndV at e
  obtain ⟨⟨x, G1⟩, e1, e⟩ := Option.bind_eq_some_iff.mp e
  refine ea Z Hf μ ρ G σ H R x _ e1 _ fun Hf1 μ1 v H1 R1 s1 m1 r1 => ?_
  split at e
  · rename_i hx
    cases (show x = _ from hx)
    cases r1
    exact ⟨true, rfl, iteT (eb Z Hf1 μ1 ρ G1 σ H1 R1 d G' e Q fun Hf2 μ2 v2 H2 R2 s2 m2 r2 => q Hf2 μ2 v2 H2 R2 (s1.trans s2) (m1.trans m2) r2)⟩
  · rename_i hx
    cases (show x = _ from hx)
    cases r1
    cases e
    exact ⟨false, rfl, iteF (q Hf1 μ1 _ H1 R1 s1 m1 (.bl _))⟩
  · cases e
theorem pm_or (ha : PM F a ma) (hb : PM F (.BoolOp .Or (b :: rest) pos) mb) : PM F (.BoolOp .Or (a :: b :: rest) pos) (mOrV ma mb) := by
  obtain ⟨ta, pa, ea⟩ := ha
  obtain ⟨tb, pb, eb⟩ := hb
  refine ⟨_, fun i => pe_or (pa i) (pb i), ?_⟩
  intro Z Hf μ ρ G σ H R d G' e Q q
  unfold mOrV at e
  obtain ⟨⟨x, G1⟩, e1, e⟩ := Option.bind_eq_some_iff.mp e
  refine ea Z Hf μ ρ G σ H R x _ e1 _ fun Hf1 μ1 v H1 R1 s1 m1 r1 => ?_
  split at e
  · rename_i hx
    cases (show x = _ from hx)
    cases r1
    cases e
    exact ⟨true, rfl, iteT (q Hf1 μ1 _ H1 R1 s1 m1 (.bl _))⟩
  · rename_i hx
    cases (show x = _ from hx)
    cases r1
    exact ⟨false, rfl, iteF (eb Z Hf1 μ1 ρ G1 σ H1 R1 d G' e Q fun Hf2 μ2 v2 H2 R2 s2 m2 r2 => q Hf2 μ2 v2 H2 R2 (s1.trans s2) (m1.trans m2) r2)⟩
  · cases e
theorem pm_not (ha : PM F a ma) : PM F (.UnaryOp .Not a pos) (mNotV ma) := by
  obtain ⟨ta, pa, ea⟩ := ha
  refine ⟨_, fun i => pe_not (pa i), ?_⟩
  intro Z Hf μ ρ G σ H R d G' e Q q
  unfold mNotV at e
  obtain ⟨⟨x, G1⟩, e1, e⟩ := Option.bind_eq_some_iff.mp e
  refine ea Z Hf μ ρ G σ H R x _ e1 _ fun Hf1 μ1 v H1 R1 s1 m1 r1 => ?_
  split at e
  · rename_i hx
    cases (show x = _ from hx)
    cases r1
    cases e
    exact ⟨_, rfl, q Hf1 μ1 _ H1 R1 s1 m1 (.bl _)⟩
  · cases e
theorem pm_if (hc : PB F c mc) (ha : PM F a ma) (hb : PM F b mb) : PM F (.IfExp c a b pos) (mIf mc ma mb) := by
  obtain ⟨tc, pc, ec⟩ := hc
  obtain ⟨ta, pa, ea⟩ := ha
  obtain ⟨tb, pb, eb⟩ := hb
  refine ⟨_, fun i => pe_ifExp (pc i) (pa i) (pb i), ?_⟩
  intro Z Hf μ ρ G σ H R d G' e Q q
  unfold mIf at e
  obtain ⟨⟨x, G1⟩, e1, e⟩ := Option.bind_eq_some_iff.mp e
  refine ec Z Hf μ ρ G σ H R x _ e1 _ fun Hf1 μ1 H1 R1 s1 m1 => ?_
  cases x with
  | true => exact iteT (ea Z Hf1 μ1 ρ G1 σ H1 R1 d G' e Q fun Hf2 μ2 v H2 R2 s2 m2 r2 => q Hf2 μ2 v H2 R2 (s1.trans s2) (m1.trans m2) r2)
  | false => exact iteF (eb Z Hf1 μ1 ρ G1 σ H1 R1 d G' e Q fun Hf2 μ2 v H2 R2 s2 m2 r2 => q Hf2 μ2 v H2 R2 (s1.trans s2) (m1.trans m2) r2)
end

/-! ### a place -/
def fIdx (G : Sto) (x y : D) : Option D := match x, y with
  | .str z, .int i => if szOk z.length then (atI z.cps.toList i).map fun c => .str ⟨#[c]⟩ else none
  | x, .int i => (seqOf G x).bind fun ds => atI ds i
  | _, _ => none
def mIdx (a b : M D) : M D := fun ρ G => (a ρ G).bind fun p => (b ρ p.2).bind fun q => (fIdx q.2 p.1 q.1).bind fun z => some (z, q.2)
theorem Reps.atI {K : PySem.W.Frag} {H : Hp} {μ : List Addr} {vs : List V} {ds : List D} (r : Reps K H μ vs ds) {i : Int} {d : D} (e : L2.atI ds i = some d) : ∃ v, L2.atI vs i = some v ∧ Rep K H μ v d := by
  unfold L2.atI at e ⊢
  obtain ⟨j, e1, e2⟩ := Option.bind_eq_some_iff.mp e
  obtain ⟨v, h1, h2⟩ := r.get e2
  exact ⟨v, by rw [r.length, e1]; exact h1, h2⟩
section
variable {F : Fam} {a b : Expr} {pos : Pos} {ma mb : M D}
theorem pm_ix (ha : PM F a ma) (hb : PM F b mb) (hs : PlainIx b := by exact fun _ _ => rfl) : PM F (.Subscript a b pos) (mIdx ma mb) := by
  obtain ⟨ta, pa, ea⟩ := ha
  obtain ⟨tb, pb, eb⟩ := hb
  refine ⟨tOp (rIx F.K) ta tb, fun i => by have h := pe_ix (pos := pos) ix_seq (pa i) (pb i) hs; rw [F.hK i] at h; exact h, ?_⟩
  intro Z Hf μ ρ G σ H R d G' e Q q
  unfold mIdx at e
  obtain ⟨⟨x, G1⟩, e1, e⟩ := Option.bind_eq_some_iff.mp e
  obtain ⟨⟨y, G2⟩, e2, e⟩ := Option.bind_eq_some_iff.mp e
  obtain ⟨z, e3, e⟩ := Option.bind_eq_some_iff.mp e
  cases e
  refine ea Z Hf μ ρ G σ H R x _ e1 _ fun Hf1 μ1 v H1 R1 s1 m1 r1 => ?_
  refine eb Z Hf1 μ1 ρ G1 σ H1 R1 y _ e2 _ fun Hf2 μ2 u H2 R2 s2 m2 r2 => ?_
  have r1' := r1.mono s2 m2
  have fin : ∀ {w : V}, Rep F.K Hf2 μ2 w d → Q w H2 := fun {w} r => q Hf2 μ2 w H2 R2 (s1.trans s2) (m1.trans m2) r
  dsimp only at e3
  unfold fIdx at e3
  split at e3
  · split at e3
    · rename_i hz
      obtain ⟨c, e4, e5⟩ := Option.map_eq_some_iff.mp e3
      cases r1'
      cases r2
      cases e5
      exact .inr (.inr ⟨_, _, c, rfl, rfl, szOk_le hz, e4, fin (.str _)⟩)
    · cases e3
  · obtain ⟨ds, e4, e5⟩ := Option.bind_eq_some_iff.mp e3
    obtain ⟨p, xs, rfl, h, rr⟩ := R2.seq r1' e4
    obtain ⟨w, hw, rw'⟩ := rr.atI e5
    cases r2
    rcases h with h | h
    · exact .inl ⟨p, xs, _, w, rfl, rfl, h, hw, fin rw'⟩
    · exact .inr (.inl ⟨p, xs, _, w, rfl, rfl, h, hw, fin rw'⟩)
  · cases e3
end

/-! ### slices -/
def cutD {α : Type} (xs : List α) (lo hi : Option Int) : List α := (xs.drop (HT.sIx xs.length 0 lo)).take (HT.sIx xs.length xs.length hi - HT.sIx xs.length 0 lo)
def fSl (G : Sto) (x : D) (lo hi : Option Int) : Option D := match x with
  | .str z => if szOk z.length then some (.str (cutS z lo hi)) else none
  | .tup ds => some (.tup (cutD ds lo hi))
  | x => (seqOf G x).map fun ds => .lst (cutD ds lo hi)
def mNoP : M (Option Int) := fun _ G => some (none, G)
def mPart (a : M D) : M (Option Int) := fun ρ G => (a ρ G).bind fun p => match p.1 with | .int i => some (some i, p.2) | _ => none
def mSl (a : M D) (l h : M (Option Int)) : M D := fun ρ G => (a ρ G).bind fun p => (l ρ p.2).bind fun q => (h ρ q.2).bind fun r => (fSl r.2 p.1 q.1 r.1).bind fun z => some (z, r.2)
theorem Reps.cut {K : PySem.W.Frag} {H : Hp} {μ : List Addr} {vs : List V} {ds : List D} (r : Reps K H μ vs ds) (lo hi : Option Int) : Reps K H μ (cutV vs lo hi) (cutD ds lo hi) := by
  unfold cutV cutD
  rw [r.length]
  exact (r.drop _).take _
theorem cutD_whole {α : Type} {xs : List α} {lo hi : Option Int} (h : HT.sIx xs.length 0 lo = 0 ∧ HT.sIx xs.length xs.length hi = xs.length) : cutD xs lo hi = xs := by
  unfold cutD
  rw [h.1, h.2]
  simp
section
variable {F : Fam} {a : Expr} {lo hi : Option Expr} {pos p2 : Pos} {ma : M D} {ml mh : M (Option Int)}
theorem pp_none : PP F none mNoP := by
  refine ⟨_, fun _ => po_none, ?_⟩
  intro Z Hf μ ρ G σ H R d G' e Q q
  cases e
  exact q Hf μ H R (Same.refl _) (List.prefix_refl _)
theorem pp_some (h : PM F a ma) : PP F (some a) (mPart ma) := by
  obtain ⟨t, p, ev⟩ := h
  refine ⟨_, fun i => po_some (p i), ?_⟩
  intro Z Hf μ ρ G σ H R d G' e Q q
  unfold mPart at e
  obtain ⟨⟨x, G1⟩, e1, e⟩ := Option.bind_eq_some_iff.mp e
  refine ev Z Hf μ ρ G σ H R x _ e1 _ fun Hf1 μ1 v H1 R1 s1 m1 r1 => ?_
  cases x <;> simp only [reduceCtorEq] at e
  cases e
  cases r1
  exact ⟨_, rfl, q Hf1 μ1 H1 R1 s1 m1⟩
def rSlAll (K : PySem.W.Frag) : V → Option Int → Option Int → Hp → VK → Prop := fun x lo hi H Q => rSlL K x lo hi H Q ∨ (rSlA K x lo hi H Q ∨ rSlS x lo hi H Q)
theorem sl_all {X : Cx} : SlR X (rSlAll X.K) := sl_list.or (sl_tupA.or sl_str)
theorem pm_sl (ha : PM F a ma) (hl : PP F lo ml) (hh : PP F hi mh) : PM F (.Subscript a (.Slice lo hi none p2) pos) (mSl ma ml mh) := by
  obtain ⟨ta, pa, ea⟩ := ha
  obtain ⟨tl, pl, el⟩ := hl
  obtain ⟨th, ph, eh⟩ := hh
  refine ⟨tSl (rSlAll F.K) ta tl th, fun i => by have h := pe_slice (pos := pos) (p2 := p2) sl_all (pa i) (pl i) (ph i); rw [F.hK i] at h; exact h, ?_⟩
  intro Z Hf μ ρ G σ H R d G' e Q q
  unfold mSl at e
  obtain ⟨⟨x, G1⟩, e1, e⟩ := Option.bind_eq_some_iff.mp e
  obtain ⟨⟨l, G2⟩, e2, e⟩ := Option.bind_eq_some_iff.mp e
  obtain ⟨⟨h, G3⟩, e3, e⟩ := Option.bind_eq_some_iff.mp e
  obtain ⟨z, e4, e⟩ := Option.bind_eq_some_iff.mp e
  cases e
  refine ea Z Hf μ ρ G σ H R x _ e1 _ fun Hf1 μ1 v H1 R1 s1 m1 r1 => ?_
  refine el Z Hf1 μ1 ρ G1 σ H1 R1 l _ e2 _ fun Hf2 μ2 H2 R2 s2 m2 => ?_
  refine eh Z Hf2 μ2 ρ G2 σ H2 R2 h _ e3 _ fun Hf3 μ3 H3 R3 s3 m3 => ?_
  have r1' := (r1.mono s2 m2).mono s3 m3
  have ss := (s1.trans s2).trans s3
  have mm := (m1.trans m2).trans m3
  dsimp only at e4
  have asL : ∀ {ds : List D} {p : Addr} {xs : List V}, v = .ref p → SqL F.K H3 p xs → Reps F.K Hf3 μ3 xs ds → d = .lst (cutD ds l h) → rSlAll F.K v l h H3 Q := fun {ds p xs} ev hx rr ed => by
    subst ev ed
    refine .inl ⟨p, xs, rfl, hx, fun a ha => ?_⟩
    obtain ⟨R4, s4, r4⟩ := R3.lstNew ha (rr.cut l h)
    exact q _ _ _ _ R4 (ss.trans s4) mm r4
  unfold fSl at e4
  split at e4
  · split at e4
    · rename_i hz
      cases e4
      cases r1'
      exact .inr (.inr ⟨_, rfl, szOk_le hz, q Hf3 μ3 _ H3 R3 ss mm (.str _)⟩)
    · cases e4
  · cases e4
    cases r1' with
    | tup ht rr =>
    rename_i a xs
    refine .inr (.inl ⟨a, xs, rfl, same_sqT R3.sub ht, fun hw => ?_, fun hw p hp => ?_⟩)
    · rw [rr.length] at hw
      rw [cutD_whole hw] at q
      exact q Hf3 μ3 _ H3 R3 ss mm (.tup ht rr)
    · obtain ⟨R4, s4, r4⟩ := R3.tupNew hp (rr.cut l h)
      exact q _ _ _ _ R4 (ss.trans s4) mm r4
  · rename_i n1 n2
    obtain ⟨ds, e5, e6⟩ := Option.map_eq_some_iff.mp e4
    cases r1' with
    | tup _ _ => exact absurd rfl (n2 _)
    | lst hx rr => cases e5; exact asL rfl (SqL.of (R3.sub _ _ hx)) rr e6.symm
    | frz hx rr => cases e5; exact asL rfl (same_sqL R3.sub hx) rr e6.symm
    | loc hx =>
      obtain ⟨_, vs, hv, r⟩ := R3.cells _ _ _ (seqOf_loc e5) hx
      exact asL rfl (SqL.of hv) r e6.symm
    | _ => cases e5
end

/-! ### built-in functions -/
def mCB (f : Sto → List D → Option D) (ms : M (List D)) : M D := fun ρ G => (ms ρ G).bind fun p => (f p.2 p.1).bind fun z => some (z, p.2)
def CrOk (K : PySem.W.Frag) (r : List V → Hp → VK → Prop) (f : Sto → List D → Option D) : Prop := ∀ G ds z, f G ds = some z → ∀ Z Hf μ ρ σ H, Rel K Z Hf μ ρ G σ H → ∀ vs, Reps K Hf μ vs ds → ∀ Q : VK,
  (∀ Hf' H' t, Grow Hf H Hf' H' → Rep K Hf' μ t z → Q t H') → r vs H Q
theorem ev_cb {K : PySem.W.Frag} {r : List V → Hp → VK → Prop} {f : Sto → List D → Option D} {t : TA} {ms : M (List D)} (hf : CrOk K r f) (h : EvA K t ms) : EvE K (tCB r t) (mCB f ms) := by
  intro Z Hf μ ρ G σ H R d G' e Q q
  unfold mCB at e
  obtain ⟨⟨xs, G1⟩, e1, e⟩ := Option.bind_eq_some_iff.mp e
  obtain ⟨z, e2, e⟩ := Option.bind_eq_some_iff.mp e
  cases e
  refine h Z Hf μ ρ G σ H R xs _ e1 _ fun Hf1 μ1 vs H1 R1 s1 m1 r1 => ?_
  exact hf _ xs _ e2 Z Hf1 μ1 ρ σ H1 R1 vs r1 Q fun Hf2 H2 t g r2 => q Hf2 μ1 t H2 (R1.grow g) (s1.trans g.same) m1 r2
section
variable {F : Fam} {x : Str} {p pos : Pos} {e : Expr} {es : List Expr} {ms : M (List D)} {id T : String} {r : List V → Hp → VK → Prop} {f : Sto → List D → Option D}
theorem pm_callB (hc : ∀ i, CallR (F.X i) (.builtin id) r) (hf : CrOk F.K r f) (hg : ∀ i, Gl (F.X i) x) (hm : F.mg x = none) (hv : bootBuiltins x = some (.builtin id)) (ha : PL F (e :: es) ms) (hn : x ≠ "__name__" := by decide) (hdb : (x == ("__debug__" : Str)) = false := by decide)
    (he : ∀ i, starEach (e :: es) (F.X i).env = (false, eval e (F.X i).env) :: starEach es (F.X i).env := by intro _; rfl) (hpl : ∀ i, (backTo pos (starEach es (F.X i).env)).any (·.1) = false := by intro _; rfl) : PM F (.Call (.Name x p) (e :: es) [] pos) (mCB f ms) := by
  obtain ⟨t, pa, ev⟩ := ha
  exact ⟨_, fun i => pe_callB (hc i) (hg i) (by rw [F.hm i]; exact hm) hv (pa i) hn hdb (he i) (hpl i), ev_cb hf ev⟩
theorem pm_callTy (hc : ∀ i, CallR (F.X i) (.type T) r) (hf : CrOk F.K r f) (hg : ∀ i, Gl (F.X i) x) (hm : F.mg x = none) (hv : bootBuiltins x = some (.type T)) (ha : PL F (e :: es) ms) (hn : x ≠ "__name__" := by decide) (hdb : (x == ("__debug__" : Str)) = false := by decide)
    (he : ∀ i, starEach (e :: es) (F.X i).env = (false, eval e (F.X i).env) :: starEach es (F.X i).env := by intro _; rfl) (hpl : ∀ i, (backTo pos (starEach es (F.X i).env)).any (·.1) = false := by intro _; rfl) : PM F (.Call (.Name x p) (e :: es) [] pos) (mCB f ms) := by
  obtain ⟨t, pa, ev⟩ := ha
  exact ⟨_, fun i => pe_callTy (hc i) (hg i) (by rw [F.hm i]; exact hm) hv (pa i) hn hdb (he i) (hpl i), ev_cb hf ev⟩
/-- a built-in function under a module's name -/
theorem pm_callBf (hc : ∀ i, CallR (F.X i) (.builtin id) r) (hf : CrOk F.K r f) (hg : ∀ i, Gl (F.X i) x) (hm : F.mg x = some (.builtin id)) (ha : PL F (e :: es) ms) (hdb : (x == ("__debug__" : Str)) = false := by decide)
    (he : ∀ i, starEach (e :: es) (F.X i).env = (false, eval e (F.X i).env) :: starEach es (F.X i).env := by intro _; rfl) (hpl : ∀ i, (backTo pos (starEach es (F.X i).env)).any (·.1) = false := by intro _; rfl) : PM F (.Call (.Name x p) (e :: es) [] pos) (mCB f ms) := by
  obtain ⟨t, pa, ev⟩ := ha
  exact ⟨_, fun i => pe_callBfun (hc i) (hg i) (by rw [F.hm i]; exact hm) (pa i) hdb (he i) (hpl i), ev_cb hf ev⟩
end
def bAbs : Sto → List D → Option D | _, [.int i] => some (.int (if i < 0 then -i else i)) | _, _ => none
def bMax : Sto → List D → Option D | _, [.int i, .int j] => some (.int (if j > i then j else i)) | _, _ => none
def bMin : Sto → List D → Option D | _, [.int i, .int j] => some (.int (if j < i then j else i)) | _, _ => none
def bInt : Sto → List D → Option D | _, [.int i] => some (.int i) | _, [.bl b] => some (.int (if b then 1 else 0)) | _, _ => none
def bLen : Sto → List D → Option D
  | _, [.str y] => if szOk y.length then some (.int y.length) else none
  | G, [d] => (seqOf G d).map fun ds => .int ds.length
  | _, _ => none
def bGcd : Sto → List D → Option D | _, [.int i, .int j] => some (.int (Nat.gcd i.natAbs j.natAbs : Nat)) | _, _ => none
def bTuple : Sto → List D → Option D | G, [d] => (seqOf G d).map .tup | _, _ => none
def bList : Sto → List D → Option D | G, [d] => (seqOf G d).map .lst | _, _ => none
section
variable {K : PySem.W.Frag}
theorem co_abs : CrOk K (fun xs H Q => ∃ i, xs = [.int i] ∧ Q (.int (if i < 0 then -i else i)) H) bAbs := by
  intro G ds z e Z Hf μ ρ σ H R vs r Q q
  unfold bAbs at e
  split at e
  · cases e; cases r with | cons h t => cases t; cases h; exact ⟨_, rfl, q Hf H _ (Grow.refl R.sub) (.int _)⟩
  · cases e
theorem co_max : CrOk K (fun xs H Q => ∃ i j, xs = [.int i, .int j] ∧ Q (.int (if j > i then j else i)) H) bMax := by
  intro G ds z e Z Hf μ ρ σ H R vs r Q q
  unfold bMax at e
  split at e
  · cases e; cases r with | cons h t => cases t with | cons h' t => cases t; cases h; cases h'; exact ⟨_, _, rfl, q Hf H _ (Grow.refl R.sub) (.int _)⟩
  · cases e
theorem co_min : CrOk K (fun xs H Q => ∃ i j, xs = [.int i, .int j] ∧ Q (.int (if j < i then j else i)) H) bMin := by
  intro G ds z e Z Hf μ ρ σ H R vs r Q q
  unfold bMin at e
  split at e
  · cases e; cases r with | cons h t => cases t with | cons h' t => cases t; cases h; cases h'; exact ⟨_, _, rfl, q Hf H _ (Grow.refl R.sub) (.int _)⟩
  · cases e
theorem co_int : CrOk K (fun xs H Q => (∃ i, xs = [.int i] ∧ Q (.int i) H) ∨ ∃ k, xs = [.bl k] ∧ Q (.int (if k then 1 else 0)) H) bInt := by
  intro G ds z e Z Hf μ ρ σ H R vs r Q q
  unfold bInt at e
  split at e
  · cases e; cases r with | cons h t => cases t; cases h; exact .inl ⟨_, rfl, q Hf H _ (Grow.refl R.sub) (.int _)⟩
  · cases e; cases r with | cons h t => cases t; cases h; exact .inr ⟨_, rfl, q Hf H _ (Grow.refl R.sub) (.int _)⟩
  · cases e
theorem co_len : CrOk K (fun xs H Q => ∃ x n, xs = [x] ∧ LenV K x H n ∧ Q (.int n) H) bLen := by
  intro G ds z e Z Hf μ ρ σ H R vs r Q q
  unfold bLen at e
  split at e
  · split at e
    · rename_i hz
      cases e; cases r with | cons h t => cases t; cases h; exact ⟨_, _, rfl, ⟨szOk_le hz, rfl⟩, q Hf H _ (Grow.refl R.sub) (.int _)⟩
    · cases e
  · obtain ⟨es, e1, e2⟩ := Option.map_eq_some_iff.mp e
    cases e2
    cases r with
    | cons h t =>
      cases t
      obtain ⟨a, xs, rfl, hx, rr⟩ := R.seq h e1
      refine ⟨_, xs.length, rfl, ?_, by rw [rr.length]; exact q Hf H _ (Grow.refl R.sub) (.int _)⟩
      rcases hx with hx | hx
      · exact .inl ⟨xs, hx, rfl⟩
      · exact .inr ⟨xs, hx, rfl⟩
  · cases e
theorem co_gcd : CrOk K rGcd bGcd := by
  intro G ds z e Z Hf μ ρ σ H R vs r Q q
  unfold bGcd at e
  split at e
  · cases e; cases r with | cons h t => cases t with | cons h' t => cases t; cases h; cases h'; exact ⟨_, _, rfl, q Hf H _ (Grow.refl R.sub) (.int _)⟩
  · cases e
def rTupOf (K : PySem.W.Frag) : List V → Hp → VK → Prop := fun xs H Q => ∃ p ys, xs = [.ref p] ∧ ((SqL K H p ys ∧ ∀ l, H l = none → Q (.ref l) (upd H l (.tup ys))) ∨ (SqT K H p ys ∧ Q (.ref p) H))
theorem co_tuple : CrOk K (rTupOf K) bTuple := by
  intro G ds z e Z Hf μ ρ σ H R vs r Q q
  unfold bTuple at e
  split at e
  · obtain ⟨es, e1, e2⟩ := Option.map_eq_some_iff.mp e
    cases e2
    cases r with
    | cons h t =>
      cases t
      have lst : ∀ {a : Addr} {xs : List V}, SqL K H a xs → Reps K Hf μ xs es → rTupOf K [.ref a] H Q := fun {a xs} hx rr => by
        refine ⟨a, xs, rfl, .inl ⟨hx, fun l hl => ?_⟩⟩
        have g : Grow Hf H (upd Hf l (.tup xs)) (upd H l (.tup xs)) := Grow.new R.sub hl
        exact q _ _ _ g (.tup (SqT.of upd_same) (rr.mono g.same (List.prefix_refl _)))
      cases h with
      | tup hx rr => cases e1; exact ⟨_, _, rfl, .inr ⟨same_sqT R.sub hx, q Hf H _ (Grow.refl R.sub) (.tup hx rr)⟩⟩
      | lst hx rr => cases e1; exact lst (SqL.of (R.sub _ _ hx)) rr
      | frz hx rr => cases e1; exact lst (same_sqL R.sub hx) rr
      | loc hx =>
        obtain ⟨_, vs, hv, rr⟩ := R.cells _ _ _ (seqOf_loc e1) hx
        exact lst (SqL.of hv) rr
      | _ => cases e1
  · cases e
def rListOf (K : PySem.W.Frag) : List V → Hp → VK → Prop := fun xs H Q => ∃ p ys, xs = [.ref p] ∧ (SqL K H p ys ∨ SqT K H p ys) ∧ ∀ l, H l = none → Q (.ref l) (upd H l (.lst ys))
theorem co_list : CrOk K (rListOf K) bList := by
  intro G ds z e Z Hf μ ρ σ H R vs r Q q
  unfold bList at e
  split at e
  · obtain ⟨es, e1, e2⟩ := Option.map_eq_some_iff.mp e
    cases e2
    cases r with
    | cons h t =>
      cases t
      obtain ⟨a, xs, rfl, hx, rr⟩ := R.seq h e1
      refine ⟨a, xs, rfl, hx, fun l hl => ?_⟩
      have g : Grow Hf H (upd Hf l (.lst xs)) (upd H l (.lst xs)) := Grow.new R.sub hl
      exact q _ _ _ g (.lst upd_same (rr.mono g.same (List.prefix_refl _)))
  · cases e
end
section
variable {F : Fam} {p pos : Pos} {e : Expr} {es : List Expr} {ms : M (List D)}
theorem pm_abs (hg : ∀ i, Gl (F.X i) "abs") (hm : F.mg "abs" = none) (ha : PL F [e] ms) (he : ∀ i, starEach [e] (F.X i).env = (false, eval e (F.X i).env) :: starEach [] (F.X i).env := by intro _; rfl) : PM F (.Call (.Name "abs" p) [e] [] pos) (mCB bAbs ms) :=
  pm_callB (fun _ => call_abs) co_abs hg hm (by decide +kernel) ha (he := he)
theorem pm_len (hg : ∀ i, Gl (F.X i) "len") (hm : F.mg "len" = none) (ha : PL F [e] ms) (he : ∀ i, starEach [e] (F.X i).env = (false, eval e (F.X i).env) :: starEach [] (F.X i).env := by intro _; rfl) : PM F (.Call (.Name "len" p) [e] [] pos) (mCB bLen ms) :=
  pm_callB (fun i => by have h := call_len (X := F.X i); rw [F.hK i] at h; exact h) co_len hg hm (by decide +kernel) ha (he := he)
theorem pm_intc (hg : ∀ i, Gl (F.X i) "int") (hm : F.mg "int" = none) (ha : PL F [e] ms) (he : ∀ i, starEach [e] (F.X i).env = (false, eval e (F.X i).env) :: starEach [] (F.X i).env := by intro _; rfl) : PM F (.Call (.Name "int" p) [e] [] pos) (mCB bInt ms) :=
  pm_callTy (fun _ => call_int1) co_int hg hm (by decide +kernel) ha (he := he)
theorem pm_tuple (hg : ∀ i, Gl (F.X i) "tuple") (hm : F.mg "tuple" = none) (ha : PL F [e] ms) (he : ∀ i, starEach [e] (F.X i).env = (false, eval e (F.X i).env) :: starEach [] (F.X i).env := by intro _; rfl) : PM F (.Call (.Name "tuple" p) [e] [] pos) (mCB bTuple ms) :=
  pm_callTy (fun i => by have h := call_tuple_of (X := F.X i); rw [F.hK i] at h; exact h) co_tuple hg hm (by decide +kernel) ha (he := he)
theorem pm_list (hg : ∀ i, Gl (F.X i) "list") (hm : F.mg "list" = none) (ha : PL F [e] ms) (he : ∀ i, starEach [e] (F.X i).env = (false, eval e (F.X i).env) :: starEach [] (F.X i).env := by intro _; rfl) : PM F (.Call (.Name "list" p) [e] [] pos) (mCB bList ms) :=
  pm_callTy (fun i => by have h := call_list_of (X := F.X i); rw [F.hK i] at h; exact h) co_list hg hm (by decide +kernel) ha (he := he)
theorem pm_max {e2 : Expr} (hg : ∀ i, Gl (F.X i) "max") (hm : F.mg "max" = none) (ha : PL F [e, e2] ms) (he : ∀ i, starEach [e, e2] (F.X i).env = (false, eval e (F.X i).env) :: starEach [e2] (F.X i).env := by intro _; rfl) (hpl : ∀ i, (backTo pos (starEach [e2] (F.X i).env)).any (·.1) = false := by intro _; rfl) : PM F (.Call (.Name "max" p) [e, e2] [] pos) (mCB bMax ms) :=
  pm_callB (fun i => call_max2 (F.calm i)) co_max hg hm (by decide +kernel) ha (he := he) (hpl := hpl)
theorem pm_min {e2 : Expr} (hg : ∀ i, Gl (F.X i) "min") (hm : F.mg "min" = none) (ha : PL F [e, e2] ms) (he : ∀ i, starEach [e, e2] (F.X i).env = (false, eval e (F.X i).env) :: starEach [e2] (F.X i).env := by intro _; rfl) (hpl : ∀ i, (backTo pos (starEach [e2] (F.X i).env)).any (·.1) = false := by intro _; rfl) : PM F (.Call (.Name "min" p) [e, e2] [] pos) (mCB bMin ms) :=
  pm_callB (fun i => call_min2 (F.calm i)) co_min hg hm (by decide +kernel) ha (he := he) (hpl := hpl)
theorem pm_gcd {x : Str} {e2 : Expr} (hg : ∀ i, Gl (F.X i) x) (hm : F.mg x = some (.builtin "math.gcd")) (ha : PL F [e, e2] ms) (hdb : (x == ("__debug__" : Str)) = false := by decide) (he : ∀ i, starEach [e, e2] (F.X i).env = (false, eval e (F.X i).env) :: starEach [e2] (F.X i).env := by intro _; rfl) (hpl : ∀ i, (backTo pos (starEach [e2] (F.X i).env)).any (·.1) = false := by intro _; rfl) : PM F (.Call (.Name x p) [e, e2] [] pos) (mCB bGcd ms) :=
  pm_callBf (fun i => cr_gcd) co_gcd hg hm ha hdb (he := he) (hpl := hpl)
end

/-! ### isinstance of a built-in type -/
def tyD : D → Option String
  | .non => some "NoneType"
  | .bl _ => some "bool"
  | .int _ => some "int"
  | .str _ => some "str"
  | .tup _ => some "tuple"
  | .lst _ => some "list"
  | .frz _ => some "list"
  | .loc _ => none
/-- the answers of isinstance, by the type's name: none, bool, int, str, tuple, list -/
structure IsiT (T : String) (f : D → Option Bool) : Prop where
  ok : ∀ d b, f d = some b → ∃ t, tyD d = some t ∧ kitB t T = some b
def isBoolD : D → Option Bool | .bl _ => some true | .loc _ => none | _ => some false
def isIntD : D → Option Bool | .bl _ => some true | .int _ => some true | .loc _ => none | _ => some false
def isStrD : D → Option Bool | .str _ => some true | .loc _ => none | _ => some false
def isTupD : D → Option Bool | .tup _ => some true | .loc _ => none | _ => some false
def isLstD : D → Option Bool | .lst _ => some true | .frz _ => some true | .loc _ => none | _ => some false
theorem kbB : kitB "NoneType" "bool" = some false ∧ kitB "bool" "bool" = some true ∧ kitB "int" "bool" = some false ∧ kitB "str" "bool" = some false ∧ kitB "tuple" "bool" = some false ∧ kitB "list" "bool" = some false := by decide +kernel
theorem kbI : kitB "NoneType" "int" = some false ∧ kitB "bool" "int" = some true ∧ kitB "int" "int" = some true ∧ kitB "str" "int" = some false ∧ kitB "tuple" "int" = some false ∧ kitB "list" "int" = some false := by decide +kernel
theorem kbS : kitB "NoneType" "str" = some false ∧ kitB "bool" "str" = some false ∧ kitB "int" "str" = some false ∧ kitB "str" "str" = some true ∧ kitB "tuple" "str" = some false ∧ kitB "list" "str" = some false := by decide +kernel
theorem kbT : kitB "NoneType" "tuple" = some false ∧ kitB "bool" "tuple" = some false ∧ kitB "int" "tuple" = some false ∧ kitB "str" "tuple" = some false ∧ kitB "tuple" "tuple" = some true ∧ kitB "list" "tuple" = some false := by decide +kernel
theorem kbL : kitB "NoneType" "list" = some false ∧ kitB "bool" "list" = some false ∧ kitB "int" "list" = some false ∧ kitB "str" "list" = some false ∧ kitB "tuple" "list" = some false ∧ kitB "list" "list" = some true := by decide +kernel
theorem it_bool : IsiT "bool" isBoolD := ⟨fun d b e => by obtain ⟨h1, h2, h3, h4, h5, h6⟩ := kbB; cases d <;> cases e <;> exact ⟨_, rfl, by assumption⟩⟩
theorem it_int : IsiT "int" isIntD := ⟨fun d b e => by obtain ⟨h1, h2, h3, h4, h5, h6⟩ := kbI; cases d <;> cases e <;> exact ⟨_, rfl, by assumption⟩⟩
theorem it_str : IsiT "str" isStrD := ⟨fun d b e => by obtain ⟨h1, h2, h3, h4, h5, h6⟩ := kbS; cases d <;> cases e <;> exact ⟨_, rfl, by assumption⟩⟩
theorem it_tup : IsiT "tuple" isTupD := ⟨fun d b e => by obtain ⟨h1, h2, h3, h4, h5, h6⟩ := kbT; cases d <;> cases e <;> exact ⟨_, rfl, by assumption⟩⟩
theorem it_lst : IsiT "list" isLstD := ⟨fun d b e => by obtain ⟨h1, h2, h3, h4, h5, h6⟩ := kbL; cases d <;> cases e <;> exact ⟨_, rfl, by assumption⟩⟩
theorem tyX_of {K : PySem.W.Frag} {Hf H : Hp} {μ : List Addr} {v : V} {d : D} {t : String} (s : Same Hf H) (r : Rep K Hf μ v d) (e : tyD d = some t) : TyX K H v (.type t) := by
  cases r with
  | non => cases e; exact .base .non
  | bl b => cases e; exact .base (.bl b)
  | int i => cases e; exact .base (.int i)
  | str x => cases e; exact .base (.str x)
  | tup h r =>
    cases e
    rcases h with (h | ⟨o, h⟩) | ⟨o, its, n, hk, hc, _⟩
    · exact .base (.tup (s _ _ h))
    · exact .fTuple (s _ _ h)
    · exact .kTuple hk hc
  | lst h r => cases e; exact .base (.lst (s _ _ h))
  | frz h r =>
    cases e
    rcases h with (h | ⟨o, h⟩) | ⟨o, its, n, hk, hc, _⟩
    · exact .base (.lst (s _ _ h))
    · exact .base (.frz (s _ _ h))
    · exact .kList hk hc
  | loc h => cases e
def mIsi (f : D → Option Bool) (a : M D) : M D := fun ρ G => (a ρ G).bind fun p => (f p.1).bind fun b => some (.bl b, p.2)
theorem pm_isi {F : Fam} {T : String} {f : D → Option Bool} {e : Expr} {ma : M D} {x : Str} {p p2 pos : Pos} (it : IsiT T f) (hg : ∀ i, Gl (F.X i) "isinstance") (hm : F.mg "isinstance" = none) (hgT : ∀ i, Gl (F.X i) x) (hmT : F.mg x = none) (hv : bootBuiltins x = some (.type T)) (ha : PM F e ma)
    (hn : x ≠ "__name__" := by decide) (hd : (x == ("__debug__" : Str)) = false := by decide)
    (he : ∀ i, starEach [e, .Name x p2] (F.X i).env = (false, eval e (F.X i).env) :: starEach [.Name x p2] (F.X i).env := by intro _; rfl) (he2 : ∀ i, starEach [.Name x p2] (F.X i).env = (false, eval (.Name x p2) (F.X i).env) :: starEach [] (F.X i).env := by intro _; rfl)
    (hpl : ∀ i, (backTo pos (starEach [.Name x p2] (F.X i).env)).any (·.1) = false := by intro _; rfl) : PM F (.Call (.Name "isinstance" p) [e, .Name x p2] [] pos) (mIsi f ma) := by
  obtain ⟨t, pa, ev⟩ := ha
  refine ⟨tCB (rIsi F.K) (tCons t (tCons (tC (.ty T)) tNil)), fun i => by
    have h := pe_callB (x := "isinstance") (p := p) (pos := pos) (call_isi (X := F.X i)) (hg i) (by rw [F.hm i]; exact hm) (by decide +kernel) (pa_cons (pa i) (pa_cons (pe_bltn (v := .ty T) (pos := p2) (hgT i) (by rw [F.hm i]; exact hmT) hv rfl hn hd) pa_nil (he2 i)) (he i)) (by decide) (by decide) (he i) (hpl i)
    rw [F.hK i] at h
    exact h, ?_⟩
  intro Z Hf μ ρ G σ H R d G' e Q q
  unfold mIsi at e
  obtain ⟨⟨x, G1⟩, e1, e⟩ := Option.bind_eq_some_iff.mp e
  obtain ⟨b, e2, e⟩ := Option.bind_eq_some_iff.mp e
  cases e
  refine ev Z Hf μ ρ G σ H R x _ e1 _ fun Hf1 μ1 v H1 R1 s1 m1 r1 => ?_
  obtain ⟨t, h1, h2⟩ := it.ok x b e2
  exact ⟨v, .ty T, .type t, .type T, b, rfl, .ty T, tyX_of R1.sub r1 h1, kit_ty h2, q Hf1 μ1 _ H1 R1 s1 m1 (.bl b)⟩
end Lf

/-! Lf5: statements, loops, comprehensions, defs. -/
namespace Lf
open PySem PySem.Spec PyProof.Rows L2
variable [Tabs]

/-! ### statements -/
inductive Out where
  | nx | bk | ct | rt (d : D)
abbrev MS := Evn → Sto → Option (Out × Evn × Sto)
def Post (K : PySem.W.Frag) (Z : Act) (Hf : Hp) (μ : List Addr) (o : Out) (ρ : Evn) (G : Sto) (E : Ends) : Prop :=
  match o with
  | .nx => ∀ Hf' μ' σ' H', Rel K Z Hf' μ' ρ G σ' H' → Same Hf Hf' → μ <+: μ' → E.nx σ' H'
  | .bk => ∀ Hf' μ' σ' H', Rel K Z Hf' μ' ρ G σ' H' → Same Hf Hf' → μ <+: μ' → E.bk σ' H'
  | .ct => ∀ Hf' μ' σ' H', Rel K Z Hf' μ' ρ G σ' H' → Same Hf Hf' → μ <+: μ' → E.ct σ' H'
  | .rt d => ∀ Hf' μ' v σ' H', Rel K Z Hf' μ' ρ G σ' H' → Same Hf Hf' → μ <+: μ' → Rep K Hf' μ' v d → E.rt v H'
theorem Post.mono {K : PySem.W.Frag} {Z : Act} {Hf Hf1 : Hp} {μ μ1 : List Addr} {o : Out} {ρ : Evn} {G : Sto} {E : Ends} (p : Post K Z Hf μ o ρ G E) (s : Same Hf Hf1) (m : μ <+: μ1) : Post K Z Hf1 μ1 o ρ G E := by
  cases o with
  | nx => exact fun Hf' μ' σ' H' R s' m' => p Hf' μ' σ' H' R (s.trans s') (m.trans m')
  | bk => exact fun Hf' μ' σ' H' R s' m' => p Hf' μ' σ' H' R (s.trans s') (m.trans m')
  | ct => exact fun Hf' μ' σ' H' R s' m' => p Hf' μ' σ' H' R (s.trans s') (m.trans m')
  | rt d => exact fun Hf' μ' v σ' H' R s' m' r => p Hf' μ' v σ' H' R (s.trans s') (m.trans m') r
def EvS (K : PySem.W.Frag) (t : TS) (m : MS) : Prop :=
  ∀ Z Hf μ ρ G σ H, Rel K Z Hf μ ρ G σ H → ∀ o ρ' G', m ρ G = some (o, ρ', G') → ∀ E : Ends, Post K Z Hf μ o ρ' G' E → t E σ H
def QS (F : Fam) (st : Stmt) (m : MS) : Prop := ∃ t, (∀ i, PS (F.X i) st t) ∧ EvS F.K t m
def QSs (F : Fam) (sts : List Stmt) (m : MS) : Prop := ∃ t, (∀ i, PSs (F.X i) sts t) ∧ EvS F.K t m

def mSkip : MS := fun ρ G => some (.nx, ρ, G)
def mSeq (a b : MS) : MS := fun ρ G => (a ρ G).bind fun r => match r.1 with | .nx => b r.2.1 r.2.2 | o => some (o, r.2.1, r.2.2)
theorem qs_nil {F : Fam} : QSs F [] mSkip := by
  refine ⟨_, fun _ => pss_nil, ?_⟩
  intro Z Hf μ ρ G σ H R o ρ' G' e E q
  cases e
  exact q Hf μ σ H R (Same.refl _) (List.prefix_refl _)
theorem qs_one {F : Fam} {st : Stmt} {m : MS} (h : QS F st m) : QSs F [st] m := let ⟨t, p, e⟩ := h; ⟨t, fun i => pss_one (p i), e⟩
theorem qs_cons {F : Fam} {st : Stmt} {sts : List Stmt} {a b : MS} (ha : QS F st a) (hb : QSs F sts b) : QSs F (st :: sts) (mSeq a b) := by
  obtain ⟨ta, pa, ea⟩ := ha
  obtain ⟨tb, pb, eb⟩ := hb
  refine ⟨_, fun i => pss_cons (pa i) (pb i), ?_⟩
  intro Z Hf μ ρ G σ H R o ρ' G' e E q
  unfold mSeq at e
  obtain ⟨⟨o1, ρ1, G1⟩, e1, e⟩ := Option.bind_eq_some_iff.mp e
  refine ea Z Hf μ ρ G σ H R o1 ρ1 G1 e1 _ ?_
  cases o1 with
  | nx => exact fun Hf1 μ1 σ1 H1 R1 s1 m1 => eb Z Hf1 μ1 ρ1 G1 σ1 H1 R1 o ρ' G' e E (q.mono s1 m1)
  | bk => cases e; exact q
  | ct => cases e; exact q
  | rt d => cases e; exact q
/-- a cell's list turned to a value, between two statements -/
def mFrz (i : Nat) (b : MS) : MS := fun ρ G => match ρ[i]? with
  | some (some (.loc l)) => if G.n0 ≤ l then (match G.cs[l]? with | some (.lst ds) => b (ρ.set i (some (.lst ds))) (G.set l .dead) | _ => none) else none
  | _ => none
theorem qs_frz {F : Fam} {sts : List Stmt} {m : MS} (i : Nat) (h : QSs F sts m) : QSs F sts (mFrz i m) := by
  obtain ⟨t, p, ev⟩ := h
  refine ⟨t, p, ?_⟩
  intro Z Hf μ ρ G σ H R o ρ' G' e E q
  unfold mFrz at e
  split at e
  · rename_i l hl
    split at e
    · rename_i hz
      split at e
      · rename_i ds hg
        obtain ⟨v, hv, r⟩ := R.env.2 i _ hl
        cases r with
        | loc ha =>
        obtain ⟨Hf1, s1, R1, r1⟩ := R.freeze hg ha hz
        have R2 : Rel F.K Z Hf1 μ (ρ.set i (some (.lst ds))) (G.set l .dead) σ H := by
          refine R1.envs ⟨by rw [List.length_set]; exact R1.env.1, fun j d ej => ?_⟩
          by_cases hj : i = j
          · subst hj
            have hlt : i < ρ.length := (List.getElem?_eq_some_iff.mp hl).1
            rw [List.getElem?_set_self hlt] at ej
            cases ej
            exact ⟨_, hv, r1⟩
          · rw [List.getElem?_set_ne hj] at ej
            exact R1.env.2 j d ej
        exact ev Z Hf1 μ _ _ σ H R2 o ρ' G' e E (q.mono s1 (List.prefix_refl _))
      · cases e
    · cases e
  · cases e
def mRet (a : M D) : MS := fun ρ G => (a ρ G).bind fun p => some (.rt p.1, ρ, p.2)
def mRetN : MS := fun ρ G => some (.rt .non, ρ, G)
def mDrop (a : M D) : MS := fun ρ G => (a ρ G).bind fun p => some (.nx, ρ, p.2)
def mBrk : MS := fun ρ G => some (.bk, ρ, G)
def mCnt : MS := fun ρ G => some (.ct, ρ, G)
def mIfS (c : M Bool) (a b : MS) : MS := fun ρ G => (c ρ G).bind fun p => if p.1 then a ρ p.2 else b ρ p.2
def mAsg (i : Nat) (a : M D) : MS := fun ρ G => (a ρ G).bind fun p => some (.nx, ρ.set i (some p.1), p.2)
section
variable {F : Fam} {e : Expr} {pos : Pos} {m : M D}
theorem q_ret (h : PM F e m) : QS F (.Return (some e) pos) (mRet m) := by
  obtain ⟨t, p, ev⟩ := h
  refine ⟨_, fun i => ps_ret (p i), ?_⟩
  intro Z Hf μ ρ G σ H R o ρ' G' e E q
  unfold mRet at e
  obtain ⟨⟨x, G1⟩, e1, e⟩ := Option.bind_eq_some_iff.mp e
  cases e
  exact ev Z Hf μ ρ G σ H R x _ e1 _ fun Hf1 μ1 v H1 R1 s1 m1 r1 => q Hf1 μ1 v σ H1 R1 s1 m1 r1
theorem q_retN : QS F (.Return none pos) mRetN := by
  refine ⟨_, fun i => ps_retN, ?_⟩
  intro Z Hf μ ρ G σ H R o ρ' G' e E q
  cases e
  exact q Hf μ _ σ H R (Same.refl _) (List.prefix_refl _) .non
theorem q_expr (h : PM F e m) (hs : ∀ i, swapsWith e none pos.line (F.X i).env = pure false := by intro _; rfl) : QS F (.Expr e pos) (mDrop m) := by
  obtain ⟨t, p, ev⟩ := h
  refine ⟨_, fun i => ps_expr (p i) (hs i), ?_⟩
  intro Z Hf μ ρ G σ H R o ρ' G' e E q
  unfold mDrop at e
  obtain ⟨⟨x, G1⟩, e1, e⟩ := Option.bind_eq_some_iff.mp e
  cases e
  exact ev Z Hf μ ρ G σ H R x _ e1 _ fun Hf1 μ1 v H1 R1 s1 m1 r1 => q Hf1 μ1 σ H1 R1 s1 m1
theorem q_pass : QS F (.Pass pos) mSkip := by
  refine ⟨_, fun i => ps_pass, ?_⟩
  intro Z Hf μ ρ G σ H R o ρ' G' e E q
  cases e
  exact q Hf μ σ H R (Same.refl _) (List.prefix_refl _)
theorem q_break : QS F (.Break pos) mBrk := by
  refine ⟨_, fun i => ps_break, ?_⟩
  intro Z Hf μ ρ G σ H R o ρ' G' e E q
  cases e
  exact q Hf μ σ H R (Same.refl _) (List.prefix_refl _)
theorem q_continue : QS F (.Continue pos) mCnt := by
  refine ⟨_, fun i => ps_continue, ?_⟩
  intro Z Hf μ ρ G σ H R o ρ' G' e E q
  cases e
  exact q Hf μ σ H R (Same.refl _) (List.prefix_refl _)
theorem q_if {c : Expr} {a b : List Stmt} {mc : M Bool} {ma mb : MS} (hc : PB F c mc) (ha : QSs F a ma) (hb : QSs F b mb) : QS F (.If c a b pos) (mIfS mc ma mb) := by
  obtain ⟨tc, pc, ec⟩ := hc
  obtain ⟨ta, pa, ea⟩ := ha
  obtain ⟨tb, pb, eb⟩ := hb
  refine ⟨_, fun i => ps_if (pc i) (pa i) (pb i), ?_⟩
  intro Z Hf μ ρ G σ H R o ρ' G' e E q
  unfold mIfS at e
  obtain ⟨⟨x, G1⟩, e1, e⟩ := Option.bind_eq_some_iff.mp e
  refine ec Z Hf μ ρ G σ H R x _ e1 _ fun Hf1 μ1 H1 R1 s1 m1 => ?_
  cases x with
  | true => exact iteT (ea Z Hf1 μ1 ρ G1 σ H1 R1 o ρ' G' e E (q.mono s1 m1))
  | false => exact iteF (eb Z Hf1 μ1 ρ G1 σ H1 R1 o ρ' G' e E (q.mono s1 m1))
theorem ev_asg {K : PySem.W.Frag} {t : TE} {m : M D} {i : Nat} (ev : EvE K t m) : EvS K (tAsg t (gName i)) (mAsg i m) := by
  intro Z Hf μ ρ G σ H R o ρ' G' e E q
  unfold mAsg at e
  obtain ⟨⟨x, G1⟩, e1, e⟩ := Option.bind_eq_some_iff.mp e
  cases e
  exact ev Z Hf μ ρ G σ H R x _ e1 _ fun Hf1 μ1 v H1 R1 s1 m1 r1 => q Hf1 μ1 _ H1 (R1.set r1 i) s1 m1
theorem q_set {i : Nat} {x : Str} {pos' : Pos} (h : PM F e m) (hi : ∀ j, (F.X j).N[i]? = some x := by intro _; rfl) (hx : ∀ j, Loc (F.X j).env.scope x := by first | exact fun _ => Or.inl rfl | exact fun _ => Or.inr rfl) (hf : ∀ j, (F.X j).fn x = true ∨ (F.X j).env.scope.names.lookup x = some .local := by first | exact fun _ => Or.inl rfl | exact fun _ => Or.inr rfl) (hs : ∀ j, swapsWith e (some (.Name x pos')) pos.line (F.X j).env = pure false := by intro _; rfl) :
    QS F (.Assign [.Name x pos'] e pos) (mAsg i m) := by
  obtain ⟨t, p, ev⟩ := h
  exact ⟨_, fun j => ps_set (F.nd j) (hi j) (hx j) (p j) (hs j) (hf j), ev_asg ev⟩
/-- name op= e -/
def mAug (i : Nat) (f : D → D → Option D) (a : M D) : MS := fun ρ G => match ρ[i]? with
  | some (some x) => (a ρ G).bind fun p => (f x p.1).bind fun z => some (.nx, ρ.set i (some z), p.2)
  | _ => none
theorem q_aug {op : Operator} {r : R2} {f : D → D → Option D} {i : Nat} {x : Str} {pos' : Pos} (ho : ∀ j, OpR (F.X j) (inplaceOp op) r) (hfn : BinOk F.K r f) (h : PM F e m) (hi : ∀ j, (F.X j).N[i]? = some x := by intro _; rfl) (hx : ∀ j, Loc (F.X j).env.scope x := by first | exact fun _ => Or.inl rfl | exact fun _ => Or.inr rfl) (hf : ∀ j, (F.X j).fn x = true ∨ (F.X j).env.scope.names.lookup x = some .local := by first | exact fun _ => Or.inl rfl | exact fun _ => Or.inr rfl) :
    QS F (.AugAssign (.Name x pos') op e pos) (mAug i f m) := by
  obtain ⟨t, p, ev⟩ := h
  refine ⟨_, fun j => ps_aug (F.nd j) (hi j) (hx j) (p j) (ho j) (hf j), ?_⟩
  intro Z Hf μ ρ G σ H R o ρ' G' e E q
  unfold mAug at e
  split at e
  · rename_i x hx
    obtain ⟨⟨y, G1⟩, e1, e⟩ := Option.bind_eq_some_iff.mp e
    obtain ⟨z, e2, e⟩ := Option.bind_eq_some_iff.mp e
    cases e
    obtain ⟨v, hv, r0⟩ := R.env.2 i _ hx
    refine ⟨v, hv, ev Z Hf μ ρ G σ H R y _ e1 _ fun Hf1 μ1 u H1 R1 s1 m1 r1 => ?_⟩
    exact hfn x y z e2 Hf1 μ1 v u H1 R1.sub (r0.mono s1 m1) r1 _ fun Hf2 H2 w g r2 => q Hf2 μ1 _ H2 ((R1.grow g).set r2 i) (s1.trans g.same) m1
  · cases e
end

section
variable {F : Fam} {e : Expr} {pos pos' : Pos} {m : M D} {i : Nat} {x : Str}
theorem iop_mulW {X : Cx} : OpR X (inplaceOp .Mult) (rI CMulW fun i j => .int (i * j)) := opI fun _ _ _ _ _ _ _ hc q => imul_int q hc.ok
theorem aug_mul (h : PM F e m) (hi : ∀ j, (F.X j).N[i]? = some x := by intro _; rfl) (hx : ∀ j, Loc (F.X j).env.scope x := by first | exact fun _ => Or.inl rfl | exact fun _ => Or.inr rfl) (hf : ∀ j, (F.X j).fn x = true ∨ (F.X j).env.scope.names.lookup x = some .local := by first | exact fun _ => Or.inl rfl | exact fun _ => Or.inr rfl) :
    QS F (.AugAssign (.Name x pos') .Mult e pos) (mAug i (fun x y => match x, y with | .int i, .int j => if mulOk i j then some (.int (i * j)) else none | _, _ => none) m) := q_aug (fun _ => iop_mulW) bk_mulI h hi hx hf
theorem aug_add (h : PM F e m) (hi : ∀ j, (F.X j).N[i]? = some x := by intro _; rfl) (hx : ∀ j, Loc (F.X j).env.scope x := by first | exact fun _ => Or.inl rfl | exact fun _ => Or.inr rfl) (hf : ∀ j, (F.X j).fn x = true ∨ (F.X j).env.scope.names.lookup x = some .local := by first | exact fun _ => Or.inl rfl | exact fun _ => Or.inr rfl) :
    QS F (.AugAssign (.Name x pos') .Add e pos) (mAug i (fun x y => match x, y with | .int i, .int j => some (.int (i + j)) | _, _ => none) m) := q_aug (fun _ => iop_add) bk_addI h hi hx hf
theorem aug_sub (h : PM F e m) (hi : ∀ j, (F.X j).N[i]? = some x := by intro _; rfl) (hx : ∀ j, Loc (F.X j).env.scope x := by first | exact fun _ => Or.inl rfl | exact fun _ => Or.inr rfl) (hf : ∀ j, (F.X j).fn x = true ∨ (F.X j).env.scope.names.lookup x = some .local := by first | exact fun _ => Or.inl rfl | exact fun _ => Or.inr rfl) :
    QS F (.AugAssign (.Name x pos') .Sub e pos) (mAug i fSub m) := q_aug (fun _ => iop_sub) bk_subI h hi hx hf
end
/-! ### targets -/
abbrev Tgt := D → Evn → Option Evn
def OnlyAt (is : List Nat) (σ σ' : L2.St) : Prop := σ'.length = σ.length ∧ ∀ j, j ∉ is → σ'[j]? = σ[j]?
theorem OnlyAt.set {is : List Nat} {σ : L2.St} {i : Nat} {v : Option V} (h : i ∈ is) : OnlyAt is σ (σ.set i v) := ⟨List.length_set, fun j hj => List.getElem?_set_ne (fun e => hj (by rw [← e]; exact h))⟩
theorem OnlyAt.trans {is : List Nat} {a b c : L2.St} (x : OnlyAt is a b) (y : OnlyAt is b c) : OnlyAt is a c := ⟨y.1.trans x.1, fun j hj => (y.2 j hj).trans (x.2 j hj)⟩
theorem OnlyAt.mono {is js : List Nat} {a b : L2.St} (x : OnlyAt is a b) (h : ∀ i ∈ is, i ∈ js) : OnlyAt js a b := ⟨x.1, fun j hj => x.2 j fun z => hj (h j z)⟩
theorem OnlyAt.refl {is : List Nat} {a : L2.St} : OnlyAt is a a := ⟨rfl, fun _ _ => rfl⟩
def EvG (K : PySem.W.Frag) (g : TG) (f : Tgt) (is : List Nat) : Prop :=
  ∀ Z Hf μ ρ G σ H, Rel K Z Hf μ ρ G σ H → ∀ v d ρ', Rep K Hf μ v d → f d ρ = some ρ' → ∀ Q : L2.St → Hp → Prop, (∀ σ', Rel K Z Hf μ ρ' G σ' H → OnlyAt is σ σ' → Q σ' H) → g v σ H Q
def EvGs (K : PySem.W.Frag) (g : TGs) (f : List D → Evn → Option Evn) (is : List Nat) : Prop :=
  ∀ Z Hf μ ρ G σ H, Rel K Z Hf μ ρ G σ H → ∀ vs ds ρ', Reps K Hf μ vs ds → f ds ρ = some ρ' → ∀ Q : L2.St → Hp → Prop, (∀ σ', Rel K Z Hf μ ρ' G σ' H → OnlyAt is σ σ' → Q σ' H) → g vs σ H Q
def QG (F : Fam) (tg : Expr) (f : Tgt) (is : List Nat) : Prop := ∃ g, (∀ i, PG (F.X i) tg g) ∧ EvG F.K g f is
def QGs (F : Fam) (tgs : List Expr) (f : List D → Evn → Option Evn) (is : List Nat) : Prop := ∃ g, (∀ i, PGs (F.X i) tgs g) ∧ EvGs F.K g f is
def gtName (i : Nat) : Tgt := fun d ρ => some (ρ.set i (some d))
def gtNil : List D → Evn → Option Evn | [], ρ => some ρ | _, _ => none
def gtCons (f : Tgt) (g : List D → Evn → Option Evn) : List D → Evn → Option Evn | d :: ds, ρ => (f d ρ).bind fun ρ1 => g ds ρ1 | [], _ => none
def gtTup (n : Nat) (f : List D → Evn → Option Evn) : Tgt := fun d ρ => match d with | .tup ds => if ds.length = n then f ds ρ else none | _ => none
section
variable {F : Fam} {pos : Pos}
theorem qg_name {i : Nat} {x : Str} (hi : ∀ j, (F.X j).N[i]? = some x := by intro _; rfl) (hx : ∀ j, Loc (F.X j).env.scope x := by first | exact fun _ => Or.inl rfl | exact fun _ => Or.inr rfl) (hf : ∀ j, (F.X j).fn x = true ∨ (F.X j).env.scope.names.lookup x = some .local := by first | exact fun _ => Or.inl rfl | exact fun _ => Or.inr rfl) : QG F (.Name x pos) (gtName i) [i] := by
  refine ⟨_, fun j => pg_name (F.nd j) (hi j) (hx j) (hf j), ?_⟩
  intro Z Hf μ ρ G σ H R v d ρ' r e Q q
  cases e
  exact q _ (R.set r i) (OnlyAt.set (by simp))
theorem qgs_nil : QGs F [] gtNil [] := by
  refine ⟨_, fun j => pgs_nil, ?_⟩
  intro Z Hf μ ρ G σ H R vs ds ρ' r e Q q
  cases r with
  | nil => cases e; exact ⟨rfl, q _ R OnlyAt.refl⟩
  | cons _ _ => cases e
theorem qgs_cons {t : Expr} {ts : List Expr} {f : Tgt} {g : List D → Evn → Option Evn} {is js : List Nat} (h1 : QG F t f is) (h2 : QGs F ts g js)
    (hs : ∀ j, (assignEach (t :: ts) (F.X j).env).map (·.2) = assign t (F.X j).env :: (assignEach ts (F.X j).env).map (·.2) := by intro _; rfl) : QGs F (t :: ts) (gtCons f g) (is ++ js) := by
  obtain ⟨t1, p1, e1⟩ := h1
  obtain ⟨t2, p2, e2⟩ := h2
  refine ⟨_, fun j => pgs_cons (p1 j) (p2 j) (hs j), ?_⟩
  intro Z Hf μ ρ G σ H R vs ds ρ' r e Q q
  cases r with
  | nil => cases e
  | cons r rs =>
    obtain ⟨ρ1, h1, h2⟩ := Option.bind_eq_some_iff.mp (show (f _ ρ).bind _ = some ρ' from e)
    refine ⟨_, _, rfl, e1 Z Hf μ ρ G σ H R _ _ ρ1 r h1 _ fun σ1 R1 o1 => ?_⟩
    exact e2 Z Hf μ ρ1 G σ1 H R1 _ _ ρ' rs h2 Q fun σ2 R2 o2 => q σ2 R2 ((o1.mono fun i hi => List.mem_append_left _ hi).trans (o2.mono fun i hi => List.mem_append_right _ hi))
theorem qg_tup {es : List Expr} {k n : Nat} {f : List D → Evn → Option Evn} {is : List Nat} (h : QGs F es f is) (hn : ∀ j, (assignEach es (F.X j).env).length = n := by intro _; rfl) (hst : ∀ j, (assignEach es (F.X j).env).findIdx? (·.1) = none := by intro _; rfl) : QG F (.Tuple es k pos) (gtTup n f) is := by
  obtain ⟨t, p, ev⟩ := h
  refine ⟨gTup F.K n t, fun j => by have h := pg_tup (X := F.X j) (k := k) (pos := pos) (F.calm j) (p j) (hn j) (hst j); rw [F.hK j] at h; exact h, ?_⟩
  intro Z Hf μ ρ G σ H R v d ρ' r e Q q
  unfold gtTup at e
  split at e
  · split at e
    · rename_i hl
      cases r with
      | tup h r => exact ⟨_, _, rfl, same_sqT R.sub h, by rw [r.length]; exact hl, ev Z Hf μ ρ G σ H R _ _ ρ' r e Q q⟩
    · cases e
  · cases e
/-- target = e -/
def mAsgG (f : Tgt) (a : M D) : MS := fun ρ G => (a ρ G).bind fun p => (f p.1 ρ).bind fun ρ' => some (.nx, ρ', p.2)
theorem q_asg {tg e : Expr} {m : M D} {f : Tgt} {is : List Nat} (h : PM F e m) (hg : QG F tg f is) (hs : ∀ j, swapsWithSole [tg] e pos.line (F.X j).env = pure false := by intro _; rfl) (hw : ∀ j, swappedStores [tg] e (F.X j).env = pure none := by intro _; rfl)
    (h1 : ∀ j, (assignEach [tg] (F.X j).env).map (·.2) = [assign tg (F.X j).env] := by intro _; rfl) : QS F (.Assign [tg] e pos) (mAsgG f m) := by
  obtain ⟨t, p, ev⟩ := h
  obtain ⟨g, pg, eg⟩ := hg
  refine ⟨_, fun j => ps_asg (p j) (pg j) (hs j) (hw j) (h1 j), ?_⟩
  intro Z Hf μ ρ G σ H R o ρ' G' e E q
  unfold mAsgG at e
  obtain ⟨⟨x, G1⟩, e1, e⟩ := Option.bind_eq_some_iff.mp e
  obtain ⟨ρ1, e2, e⟩ := Option.bind_eq_some_iff.mp e
  cases e
  exact ev Z Hf μ ρ G σ H R x _ e1 _ fun Hf1 μ1 v H1 R1 s1 m1 r1 => eg Z Hf1 μ1 ρ G1 σ H1 R1 v x ρ' r1 e2 _ fun σ1 R2 _ => q Hf1 μ1 σ1 H1 R2 s1 m1
/-- a, b = x, y -/
def mPar2 (i j : Nat) (ms : M (List D)) : MS := fun ρ G => (ms ρ G).bind fun p => match p.1 with | [x, y] => some (.nx, (ρ.set i (some x)).set j (some y), p.2) | _ => none
def mPar3 (i j l : Nat) (ms : M (List D)) : MS := fun ρ G => (ms ρ G).bind fun p => match p.1 with | [x, y, z] => some (.nx, ((ρ.set i (some x)).set j (some y)).set l (some z), p.2) | _ => none
theorem q_par2 {i j : Nat} {x y : Str} {a b : Expr} {ms : M (List D)} {px py pt : Pos} {kt k2 pt2} (hi : ∀ n, (F.X n).N[i]? = some x) (hj : ∀ n, (F.X n).N[j]? = some y) (hij : i ≠ j)
    (hx : ∀ n, (F.X n).env.scope.names.lookup x = some .local) (hy : ∀ n, (F.X n).env.scope.names.lookup y = some .local) (ha : PL F [a, b] ms)
    (hw : ∀ n, swappedStores [.Tuple [.Name x px, .Name y py] kt pt] (.Tuple [a, b] k2 pt2) (F.X n).env = pure (some [x, y]))
    (hs : ∀ n, swapsWithSole [.Tuple [.Name x px, .Name y py] kt pt] (.Tuple [a, b] k2 pt2) pos.line (F.X n).env = pure false := by intro _; rfl) :
    QS F (.Assign [.Tuple [.Name x px, .Name y py] kt pt] (.Tuple [a, b] k2 pt2) pos) (mPar2 i j ms) := by
  obtain ⟨t, p, ev⟩ := ha
  refine ⟨_, fun n => ps_par (F.calm n) (F.nd n) (hi n) (hj n) hij (hx n) (hy n) (p n) (hw n) (hs n), ?_⟩
  intro Z Hf μ ρ G σ H R o ρ' G' e E q
  unfold mPar2 at e
  obtain ⟨⟨xs, G1⟩, e1, e⟩ := Option.bind_eq_some_iff.mp e
  dsimp only at e
  split at e
  · cases e
    refine ev Z Hf μ ρ G σ H R _ _ e1 _ fun Hf1 μ1 vs H1 R1 s1 m1 r1 => ?_
    cases r1 with
    | cons ra r1 =>
    cases r1 with
    | cons rb r1 =>
    cases r1
    exact ⟨_, _, rfl, q Hf1 μ1 _ H1 ((R1.set ra i).set rb j) s1 m1⟩
  · cases e
theorem q_par3 {i j l : Nat} {x y z : Str} {a b c : Expr} {ms : M (List D)} {px py pz pt : Pos} {kt k2 pt2} (hi : ∀ n, (F.X n).N[i]? = some x) (hj : ∀ n, (F.X n).N[j]? = some y) (hl : ∀ n, (F.X n).N[l]? = some z) (hij : i ≠ j) (hil : i ≠ l) (hjl : j ≠ l)
    (hx : ∀ n, (F.X n).env.scope.names.lookup x = some .local) (hy : ∀ n, (F.X n).env.scope.names.lookup y = some .local) (hz : ∀ n, (F.X n).env.scope.names.lookup z = some .local) (ha : PL F [a, b, c] ms)
    (hw : ∀ n, swappedStores [.Tuple [.Name x px, .Name y py, .Name z pz] kt pt] (.Tuple [a, b, c] k2 pt2) (F.X n).env = pure (some [x, y, z]))
    (hs : ∀ n, swapsWithSole [.Tuple [.Name x px, .Name y py, .Name z pz] kt pt] (.Tuple [a, b, c] k2 pt2) pos.line (F.X n).env = pure false := by intro _; rfl) :
    QS F (.Assign [.Tuple [.Name x px, .Name y py, .Name z pz] kt pt] (.Tuple [a, b, c] k2 pt2) pos) (mPar3 i j l ms) := by
  obtain ⟨t, p, ev⟩ := ha
  refine ⟨_, fun n => ps_par3 (F.calm n) (F.nd n) (hi n) (hj n) (hl n) hij hil hjl (hx n) (hy n) (hz n) (p n) (hw n) (hs n), ?_⟩
  intro Z Hf μ ρ G σ H R o ρ' G' e E q
  unfold mPar3 at e
  obtain ⟨⟨xs, G1⟩, e1, e⟩ := Option.bind_eq_some_iff.mp e
  dsimp only at e
  split at e
  · cases e
    refine ev Z Hf μ ρ G σ H R _ _ e1 _ fun Hf1 μ1 vs H1 R1 s1 m1 r1 => ?_
    cases r1 with
    | cons ra r1 =>
    cases r1 with
    | cons rb r1 =>
    cases r1 with
    | cons rc r1 =>
    cases r1
    exact ⟨_, _, _, rfl, q Hf1 μ1 _ H1 (((R1.set ra i).set rb j).set rc l) s1 m1⟩
  · cases e
end
end Lf

/-! Lf6: loops, comprehensions, cells, defs. -/
namespace Lf
open PySem PySem.Spec PyProof.Rows L2
variable [Tabs]

/-! ### what is walked -/
def IterOk (K : PySem.W.Frag) (Hf : Hp) (μ : List Addr) (J : It) (ds : List D) : Prop :=
  ∃ Gp Y, Walk J ds.length Gp Y ∧ (∀ H, Same Hf H → Gp H) ∧ ∀ Hfc i H x H', Same Hf Hfc → Same Hfc H → i < ds.length → Y i H x H' → ∃ Hf2, Grow Hfc H Hf2 H' ∧ ∃ d, ds[i]? = some d ∧ Rep K Hf2 μ x d
def EvI (K : PySem.W.Frag) (wi : TI) (m : M (List D)) : Prop :=
  ∀ Z Hf μ ρ G σ H, Rel K Z Hf μ ρ G σ H → ∀ ds G', m ρ G = some (ds, G') → ∀ Q : It → Hp → Prop,
    (∀ Hf' μ' J H', Rel K Z Hf' μ' ρ G' σ H' → Same Hf Hf' → μ <+: μ' → IterOk K Hf' μ' J ds → Q J H') → wi σ H Q
def QI (F : Fam) (tg e : Expr) (m : M (List D)) : Prop := ∃ wi, (∀ i, PI (F.X i) tg e wi) ∧ EvI F.K wi m

def iSeq (K : PySem.W.Frag) (tl : TE) : TI := fun σ H R => tl σ H fun x H1 => ∃ a, x = .ref a ∧ (((∃ xs, SqL K H1 a xs) ∧ R (Itl K a) H1) ∨ ((∃ xs, SqT K H1 a xs) ∧ R (Itt K a) H1))
theorem pi_seq {X : Cx} {tg l : Expr} {tl : TE} (hl : PE X l tl) : PI X tg l (iSeq X.K tl) := by
  refine ⟨fun pins s σ H R I h => ?_⟩
  refine thn (hl.run pins s σ H _ I h) fun v s1 ⟨x, H1, I1, r1, q1⟩ => ?_
  obtain ⟨a, e, q1⟩ := q1
  subst e
  cases r1
  rcases q1 with ⟨⟨xs, hq⟩, q⟩ | ⟨⟨xs, hq⟩, q⟩
  · obtain ⟨its, rv, p, hz⟩ := I1.list hq
    refine wpAny_pyIter_list p.isList ?_
    refine ⟨s1.heap.objs.size, [s1.heap.objs.size], _, _, H1, rfl, I1.kept (t' := s1.toks) fun b o e => Heap.get?_push_of_some _ e, turn_list a _, ⟨_, Heap.get?_push_size _ rfl, rfl, rfl⟩, fun b hb => ?_, q⟩
    have e : b = s1.heap.objs.size := by simpa using hb
    subst e
    exact I1.fpOk (Nat.le_refl _) (I1.hok.fresh (Nat.le_refl _))
  · obtain ⟨its, rv, p, hz⟩ := I1.tuple hq
    refine wpAny_pyIter_tuple (show s1.heap.IsTuple a its.toArray from p) ?_
    refine ⟨s1.heap.objs.size, [s1.heap.objs.size], _, _, H1, rfl, I1.kept (t' := s1.toks) fun b o e => Heap.get?_push_of_some _ e, turn_tuple a _, ⟨_, Heap.get?_push_size _ rfl, rfl, rfl⟩, fun b hb => ?_, q⟩
    have e : b = s1.heap.objs.size := by simpa using hb
    subst e
    exact I1.fpOk (Nat.le_refl _) (I1.hok.fresh (Nat.le_refl _))
/-- a frozen row of items -/
def rowOf : D → Option (List D)
  | .tup ds => some ds
  | .lst ds => some ds
  | .frz ds => some ds
  | _ => none
theorem rep_row {K : PySem.W.Frag} {Hf : Hp} {μ : List Addr} {v : V} {d : D} {ds : List D} (r : Rep K Hf μ v d) (e : rowOf d = some ds) : ∃ a xs, v = .ref a ∧ (SqL K Hf a xs ∨ SqT K Hf a xs) ∧ Reps K Hf μ xs ds := by
  cases r with
  | tup h r => cases e; exact ⟨_, _, rfl, .inr h, r⟩
  | lst h r => cases e; exact ⟨_, _, rfl, .inl (SqL.of h), r⟩
  | frz h r => cases e; exact ⟨_, _, rfl, .inl h, r⟩
  | _ => cases e
def mRow (a : M D) : M (List D) := fun ρ G => (a ρ G).bind fun p => (rowOf p.1).bind fun ds => some (ds, p.2)
theorem iter_at {K : PySem.W.Frag} {Hf : Hp} {μ : List Addr} {xs : List V} {ds : List D} {Hfc H : Hp} {i : Nat} {x : V} {H' : Hp} (rr : Reps K Hf μ xs ds) (s1 : Same Hf Hfc) (s2 : Same Hfc H) (y : YAt xs i H x H') : ∃ Hf2, Grow Hfc H Hf2 H' ∧ ∃ d, ds[i]? = some d ∧ Rep K Hf2 μ x d := by
  obtain ⟨rfl, hx⟩ := y
  obtain ⟨d, hd, r⟩ := rr.get' hx
  exact ⟨Hfc, Grow.refl s2, d, hd, r.mono s1 (List.prefix_refl _)⟩
theorem qi_row {F : Fam} {tg e : Expr} {m : M D} (h : PM F e m) : QI F tg e (mRow m) := by
  obtain ⟨t, p, ev⟩ := h
  refine ⟨iSeq F.K t, fun i => by have h := pi_seq (tg := tg) (p i); rw [F.hK i] at h; exact h, ?_⟩
  intro Z Hf μ ρ G σ H R ds G' e Q q
  unfold mRow at e
  obtain ⟨⟨x, G1⟩, e1, e⟩ := Option.bind_eq_some_iff.mp e
  obtain ⟨es, e2, e⟩ := Option.bind_eq_some_iff.mp e
  cases e
  refine ev Z Hf μ ρ G σ H R x _ e1 _ fun Hf1 μ1 v H1 R1 s1 m1 r1 => ?_
  obtain ⟨a, xs, rfl, h, rr⟩ := rep_row r1 e2
  have hl := rr.length
  rcases h with h | h
  · refine ⟨a, rfl, .inl ⟨⟨xs, same_sqL R1.sub h⟩, q Hf1 μ1 _ H1 R1 s1 m1 ⟨_, _, by rw [← hl]; exact walk_list, fun H' s => same_sqL s h, fun Hfc i H x H' s1 s2 _ y => iter_at rr s1 s2 y⟩⟩⟩
  · refine ⟨a, rfl, .inr ⟨⟨xs, same_sqT R1.sub h⟩, q Hf1 μ1 _ H1 R1 s1 m1 ⟨_, _, by rw [← hl]; exact walk_tup, fun H' s => same_sqT s h, fun Hfc i H x H' s1 s2 _ y => iter_at rr s1 s2 y⟩⟩⟩
def rgOk (i : Int) : Bool := decide (-(2 ^ 62) ≤ i) && decide (i < 2 ^ 62)
/-- lo, lo + 1, .. -/
def rangeD (lo : Int) (n : Nat) : List D := (List.range n).map fun i => .int (lo + (i : Nat))
theorem rangeD_length (lo : Int) (n : Nat) : (rangeD lo n).length = n := by unfold rangeD; rw [List.length_map, List.length_range]
theorem rangeD_get {lo : Int} {n i : Nat} (h : i < n) : (rangeD lo n)[i]? = some (.int (lo + (i : Nat))) := by
  unfold rangeD
  rw [List.getElem?_map, List.getElem?_range h]
  rfl
theorem iter_range {K : PySem.W.Frag} {Hf : Hp} {μ : List Addr} (lo : Int) (n : Nat) : IterOk K Hf μ (Itr lo n) (rangeD lo n) := by
  refine ⟨_, _, by rw [rangeD_length]; exact walk_range, fun _ _ => True.intro, fun Hfc i H x H' s1 s2 hi y => ?_⟩
  obtain ⟨rfl, rfl⟩ := y
  rw [rangeD_length] at hi
  exact ⟨Hfc, Grow.refl s2, _, rangeD_get hi, .int _⟩
def mRange1 (ms : M (List D)) : M (List D) := fun ρ G => (ms ρ G).bind fun p => match p.1 with
  | [.int j] => if rgOk j then some (rangeD 0 j.toNat, p.2) else none
  | _ => none
def mRange2 (ms : M (List D)) : M (List D) := fun ρ G => (ms ρ G).bind fun p => match p.1 with
  | [.int i, .int j] => if rgOk i && rgOk j then some (rangeD i (j - i).toNat, p.2) else none
  | _ => none
section
variable {F : Fam} {tg a b : Expr} {ms : M (List D)} {p pos : Pos}
theorem qi_range1 (hg : ∀ i, Gl (F.X i) "range") (hm : F.mg "range" = none) (ha : PL F [a] ms) (hs : ∀ i, starEach [a] (F.X i).env = [(false, eval a (F.X i).env)] := by intro _; rfl) : QI F tg (.Call (.Name "range" p) [a] [] pos) (mRange1 ms) := by
  obtain ⟨t, pa, ev⟩ := ha
  refine ⟨iRng1 t, fun i => pi_range1 (hg i) (by rw [F.hm i]; exact hm) (pa i) (hs i), ?_⟩
  intro Z Hf μ ρ G σ H R ds G' e Q q
  unfold mRange1 at e
  obtain ⟨⟨xs, G1⟩, e1, e⟩ := Option.bind_eq_some_iff.mp e
  refine ev Z Hf μ ρ G σ H R _ _ e1 _ fun Hf1 μ1 vs H1 R1 s1 m1 r1 => ?_
  dsimp only at e
  split at e
  · split at e
    · rename_i h
      unfold rgOk at h
      simp only [Bool.and_eq_true, decide_eq_true_eq] at h
      cases e
      cases r1 with
      | cons h1 h2 =>
      cases h2
      cases h1
      exact ⟨_, rfl, h.1, h.2, q Hf1 μ1 _ H1 R1 s1 m1 (iter_range _ _)⟩
    · cases e
  · cases e
theorem qi_range2 (hg : ∀ i, Gl (F.X i) "range") (hm : F.mg "range" = none) (ha : PL F [a, b] ms) (hs : ∀ i, starEach [a, b] (F.X i).env = [(false, eval a (F.X i).env), (false, eval b (F.X i).env)] := by intro _; rfl) (hs2 : ∀ i, starEach [b] (F.X i).env = [(false, eval b (F.X i).env)] := by intro _; rfl) :
    QI F tg (.Call (.Name "range" p) [a, b] [] pos) (mRange2 ms) := by
  obtain ⟨t, pa, ev⟩ := ha
  refine ⟨iRng2 t, fun i => pi_range2 (hg i) (by rw [F.hm i]; exact hm) (pa i) (hs i) (hs2 i), ?_⟩
  intro Z Hf μ ρ G σ H R ds G' e Q q
  unfold mRange2 at e
  obtain ⟨⟨xs, G1⟩, e1, e⟩ := Option.bind_eq_some_iff.mp e
  refine ev Z Hf μ ρ G σ H R _ _ e1 _ fun Hf1 μ1 vs H1 R1 s1 m1 r1 => ?_
  dsimp only at e
  split at e
  · split at e
    · rename_i h
      unfold rgOk at h
      simp only [Bool.and_eq_true, decide_eq_true_eq] at h
      cases e
      cases r1 with
      | cons h1 h2 =>
      cases h2 with
      | cons h2 h3 =>
      cases h3
      cases h1
      cases h2
      exact ⟨_, _, rfl, ⟨h.1.1, h.1.2, h.2.1, h.2.2⟩, q Hf1 μ1 _ H1 R1 s1 m1 (iter_range _ _)⟩
    · cases e
  · cases e
end

/-! ### for -/
def forL (f : Tgt) (b : MS) : List D → MS
  | [], ρ, G => some (.nx, ρ, G)
  | d :: ds, ρ, G => (f d ρ).bind fun ρ1 => (b ρ1 G).bind fun r => match r.1 with
    | .nx => forL f b ds r.2.1 r.2.2
    | .ct => forL f b ds r.2.1 r.2.2
    | .bk => some (.nx, r.2.1, r.2.2)
    | .rt d => some (.rt d, r.2.1, r.2.2)
def mFor (it : M (List D)) (f : Tgt) (b : MS) : MS := fun ρ G => (it ρ G).bind fun p => forL f b p.1 ρ p.2
theorem ev_for {K : PySem.W.Frag} {wi : TI} {g : TG} {tb : TS} {it : M (List D)} {f : Tgt} {b : MS} {is : List Nat} (hi : EvI K wi it) (hg : EvG K g f is) (hb : EvS K tb b) : EvS K (tFor wi g tb) (mFor it f b) := by
  intro Z Hf μ ρ G σ H R o ρ' G' e E q
  unfold mFor at e
  obtain ⟨⟨ds, G1⟩, e1, e⟩ := Option.bind_eq_some_iff.mp e
  refine hi Z Hf μ ρ G σ H R _ _ e1 _ fun Hf1 μ1 J H1 R1 s1 m1 ok => ?_
  obtain ⟨Gp, Y, wk, hG, hY⟩ := ok
  refine for_it wk (fun i σ2 H2 => ∃ Hf2 μ2 ρ2 G2, Rel K Z Hf2 μ2 ρ2 G2 σ2 H2 ∧ Same Hf1 Hf2 ∧ μ1 <+: μ2 ∧ forL f b (ds.drop i) ρ2 G2 = some (o, ρ', G')) ⟨Hf1, μ1, ρ, G1, R1, Same.refl _, List.prefix_refl _, e⟩ (fun i σ2 H2 _ ⟨Hf2, μ2, ρ2, G2, R2, s2, m2, _⟩ => hG H2 (s2.trans R2.sub)) ?_ ?_
  · intro i x σ2 H2 H3 hi' hPv y
    obtain ⟨Hf2, μ2, ρ2, G2, R2, s2, m2, e2⟩ := hPv
    obtain ⟨Hf3, g3, d, hd, r3⟩ := hY Hf2 i H2 x H3 s2 R2.sub hi' y
    have hdrop : ds.drop i = d :: ds.drop (i + 1) := by
      rw [List.drop_eq_getElem_cons hi']
      rw [List.getElem?_eq_getElem hi'] at hd
      rw [Option.some.inj hd]
    rw [hdrop] at e2
    unfold forL at e2
    obtain ⟨ρ3, h3, e2⟩ := Option.bind_eq_some_iff.mp e2
    obtain ⟨⟨o4, ρ4, G4⟩, h4, e2⟩ := Option.bind_eq_some_iff.mp e2
    have R3 := R2.grow g3
    refine hg Z Hf3 μ2 ρ2 G2 σ2 H3 R3 x d ρ3 (r3.mono (Same.refl _) m2) h3 _ fun σ4 R4 _ => ?_
    refine hb Z Hf3 μ2 ρ3 G2 σ4 H3 R4 o4 ρ4 G4 h4 _ ?_
    have s3 : Same Hf1 Hf3 := s2.trans g3.same
    cases o4 with
    | nx => exact fun Hf5 μ5 σ5 H5 R5 s5 m5 => ⟨Hf5, μ5, ρ4, G4, R5, s3.trans s5, m2.trans m5, e2⟩
    | ct => exact fun Hf5 μ5 σ5 H5 R5 s5 m5 => ⟨Hf5, μ5, ρ4, G4, R5, s3.trans s5, m2.trans m5, e2⟩
    | bk => cases e2; exact fun Hf5 μ5 σ5 H5 R5 s5 m5 => q Hf5 μ5 σ5 H5 R5 (s1.trans (s3.trans s5)) (m1.trans (m2.trans m5))
    | rt d => cases e2; exact fun Hf5 μ5 v σ5 H5 R5 s5 m5 r5 => q Hf5 μ5 v σ5 H5 R5 (s1.trans (s3.trans s5)) (m1.trans (m2.trans m5)) r5
  · intro σ2 H2 ⟨Hf2, μ2, ρ2, G2, R2, s2, m2, e2⟩
    rw [List.drop_length] at e2
    cases e2
    exact q Hf2 μ2 σ2 H2 R2 (s1.trans s2) (m1.trans m2)
theorem q_for {F : Fam} {tg iter : Expr} {body : List Stmt} {it : M (List D)} {f : Tgt} {b : MS} {is : List Nat} {pos : Pos} (hi : QI F tg iter it) (hg : QG F tg f is) (hb : QSs F body b) (hp : ∀ i, PassesOwn (model (F.X i).prog (F.X i).w) (F.X i).A (F.X i).env (F.X i).xe)
    (hs : ∀ i x, foldedSetIterable iter (F.X i).env x = pure x := by intro _ _; rfl) : QS F (.For tg iter body [] pos) (mFor it f b) := by
  obtain ⟨ti, pi, ei⟩ := hi
  obtain ⟨tg', pg, eg⟩ := hg
  obtain ⟨tb, pb, eb⟩ := hb
  exact ⟨_, fun i => ps_for (hp i) (F.calm i) (pi i) (pg i) (pb i) (hs i), ev_for ei eg eb⟩

/-! ### while -/
def whileN (c : M Bool) (b : MS) : Nat → MS
  | 0 => fun _ _ => none
  | n + 1 => fun ρ G => (c ρ G).bind fun p => if p.1 then (b ρ p.2).bind fun r => match r.1 with
      | .nx => whileN c b n r.2.1 r.2.2
      | .ct => whileN c b n r.2.1 r.2.2
      | .bk => some (.nx, r.2.1, r.2.2)
      | .rt d => some (.rt d, r.2.1, r.2.2)
    else some (.nx, ρ, p.2)
def fuel : Nat := 1000000000
def mWhile (c : M Bool) (b : MS) : MS := whileN c b fuel
theorem ev_while {K : PySem.W.Frag} {tc : TT} {tb : TS} {c : M Bool} {b : MS} (hc : EvB K tc c) (hb : EvS K tb b) : EvS K (tWhile tc tb) (mWhile c b) := by
  intro Z Hf μ ρ G σ H R o ρ' G' e E q
  refine ⟨fun n σ2 H2 => ∃ Hf2 μ2 ρ2 G2, Rel K Z Hf2 μ2 ρ2 G2 σ2 H2 ∧ Same Hf Hf2 ∧ μ <+: μ2 ∧ whileN c b n ρ2 G2 = some (o, ρ', G'), ⟨fuel, Hf, μ, ρ, G, R, Same.refl _, List.prefix_refl _, e⟩, ?_⟩
  rintro n σ2 H2 ⟨Hf2, μ2, ρ2, G2, R2, s2, m2, e2⟩
  cases n with
  | zero => cases e2
  | succ n =>
    unfold whileN at e2
    obtain ⟨⟨k, G3⟩, e3, e2⟩ := Option.bind_eq_some_iff.mp e2
    refine hc Z Hf2 μ2 ρ2 G2 σ2 H2 R2 _ _ e3 _ fun Hf3 μ3 H3 R3 s3 m3 => ?_
    cases k with
    | false =>
      cases e2
      exact iteF (q Hf3 μ3 σ2 H3 R3 (s2.trans s3) (m2.trans m3))
    | true =>
      dsimp only at e2
      rw [if_pos rfl] at e2
      obtain ⟨⟨o4, ρ4, G4⟩, h4, e2⟩ := Option.bind_eq_some_iff.mp e2
      refine iteT ⟨fun σ4 H4 => ∃ Hf4 μ4 ρ5 G5, Rel K Z Hf4 μ4 ρ5 G5 σ4 H4 ∧ Same Hf Hf4 ∧ μ <+: μ4 ∧ whileN c b n ρ5 G5 = some (o, ρ', G'), fun σ4 H4 h => ⟨n, Nat.lt_succ_self n, h⟩, ?_⟩
      refine hb Z Hf3 μ3 ρ2 G3 σ2 H3 R3 o4 ρ4 G4 h4 _ ?_
      have s4 := s2.trans s3
      have m4 := m2.trans m3
      cases o4 with
      | nx => exact fun Hf5 μ5 σ5 H5 R5 s5 m5 => ⟨Hf5, μ5, ρ4, G4, R5, s4.trans s5, m4.trans m5, e2⟩
      | ct => exact fun Hf5 μ5 σ5 H5 R5 s5 m5 => ⟨Hf5, μ5, ρ4, G4, R5, s4.trans s5, m4.trans m5, e2⟩
      | bk => cases e2; exact fun Hf5 μ5 σ5 H5 R5 s5 m5 => q Hf5 μ5 σ5 H5 R5 (s4.trans s5) (m4.trans m5)
      | rt d => cases e2; exact fun Hf5 μ5 v σ5 H5 R5 s5 m5 r5 => q Hf5 μ5 v σ5 H5 R5 (s4.trans s5) (m4.trans m5) r5
theorem q_while {F : Fam} {c : Expr} {body : List Stmt} {mc : M Bool} {b : MS} {pos : Pos} (hc : PB F c mc) (hb : QSs F body b) (hp : ∀ i, PassesOwn (model (F.X i).prog (F.X i).w) (F.X i).A (F.X i).env (F.X i).xe) : QS F (.While c body [] pos) (mWhile mc b) := by
  obtain ⟨tc, pc, ec⟩ := hc
  obtain ⟨tb, pb, eb⟩ := hb
  exact ⟨_, fun i => ps_while (hp i) (pc i) (pb i), ev_while ec eb⟩

/-! ### comprehensions -/
def lcL (f : Tgt) (c : M Bool) (e : M D) (ρ : Evn) : List D → Sto → Option (List D × Sto)
  | [], G => some ([], G)
  | d :: ds, G => (f d ρ).bind fun ρ1 => (c ρ1 G).bind fun p => if p.1 then (e ρ1 p.2).bind fun q => (lcL f c e ρ ds q.2).bind fun r => some (q.1 :: r.1, r.2) else lcL f c e ρ ds p.2
def mLcR (it : M (List D)) (f : Tgt) (c : M Bool) (e : M D) (vs : List Nat) : M (List D) := fun ρ G => (it ρ G).bind fun p => (lcL f c e (wipeD ρ vs) p.1 p.2).bind fun q => if szOk q.1.length then some q else none
def mLc (it : M (List D)) (f : Tgt) (c : M Bool) (e : M D) (vs : List Nat) : M D := fun ρ G => (mLcR it f c e vs ρ G).bind fun q => some (.lst q.1, q.2)
def mLcN (it : M (List D)) (f : Tgt) (c : M Bool) (e : M D) (vs : List Nat) : M D := fun ρ G => (mLcR it f c e vs ρ G).bind fun q => some (.loc q.2.cs.length, q.2.push (.lst q.1))
def mYes : M Bool := fun _ G => some (true, G)
theorem ev_yes {K : PySem.W.Frag} : EvB K tYes mYes := by
  intro Z Hf μ ρ G σ H R d G' e Q q
  cases e
  exact q Hf μ H R (Same.refl _) (List.prefix_refl _)
theorem wipe_get {σ : L2.St} {i : Nat} (vs : List Nat) : (wipe σ vs)[i]? = if i ∈ vs then (if i < σ.length then some none else none) else σ[i]? := by
  induction vs with
  | nil => simp [wipe]
  | cons v vs ih =>
    unfold wipe
    by_cases h : v = i
    · subst h
      rw [if_pos List.mem_cons_self]
      by_cases hl : v < σ.length
      · rw [if_pos hl, List.getElem?_set_self (by rw [wipe_length]; exact hl)]
      · rw [if_neg hl, List.getElem?_eq_none (by rw [List.length_set, wipe_length]; omega)]
    · rw [List.getElem?_set_ne h, ih]
      by_cases hv : i ∈ vs
      · rw [if_pos hv, if_pos (List.mem_cons_of_mem _ hv)]
      · rw [if_neg hv, if_neg (fun z => (List.mem_cons.mp z).elim (fun e => h e.symm) hv)]
theorem wipe_only {σ σ2 : L2.St} {vs is : List Nat} (h : OnlyAt is (wipe σ vs) σ2) (hs : ∀ i ∈ is, i ∈ vs) : wipe σ2 vs = wipe σ vs := by
  refine List.ext_getElem? fun i => ?_
  rw [wipe_get, wipe_get]
  have hl : σ2.length = σ.length := by rw [h.1, wipe_length]
  by_cases hv : i ∈ vs
  · rw [if_pos hv, if_pos hv, hl]
  · rw [if_neg hv, if_neg hv, h.2 i (fun z => hv (hs i z)), wipe_get, if_neg hv]
/-- what a comprehension leaves: a list apart -/
theorem ev_lc {K : PySem.W.Frag} {wi : TI} {g : TG} {tt : TT} {te : TE} {it : M (List D)} {f : Tgt} {c : M Bool} {e : M D} {is vs : List Nat} (hi : EvI K wi it) (hg : EvG K g f is) (hc : EvB K tt c) (he : EvE K te e) (hs : ∀ i ∈ is, i ∈ vs)
    {Z : Act} {Hf : Hp} {μ : List Addr} {ρ : Evn} {G : Sto} {σ : L2.St} {H : Hp} (R : Rel K Z Hf μ ρ G σ H) {ds : List D} {G' : Sto} (h : mLcR it f c e vs ρ G = some (ds, G')) {Q : VK}
    (q : ∀ Hf' μ' p xs H', Rel K Z Hf' μ' ρ G' σ H' → Same Hf Hf' → μ <+: μ' → Apart Z Hf' μ' p → H' p = some (.lst xs) → Reps K Hf' μ' xs ds → Q (.ref p) H') : tLc wi g tt te vs σ H Q := by
  unfold mLcR at h
  obtain ⟨⟨its, G1⟩, e1, h⟩ := Option.bind_eq_some_iff.mp h
  obtain ⟨⟨ds', G2⟩, e2, h⟩ := Option.bind_eq_some_iff.mp h
  split at h
  · rename_i hz
    cases h
    have hz := szOk_le hz
    refine hi Z Hf μ ρ G σ H R _ _ e1 _ fun Hf1 μ1 J H1 R1 s1 m1 ok => ?_
    obtain ⟨Gp, Y, wk, hG, hY⟩ := ok
    intro p hp
    have A1 := R1.apart hp
    refine lc_it wk (fun i H2 => ∃ Hf2 μ2 G2 xs acc rs, Rel K Z Hf2 μ2 (wipeD ρ vs) G2 (wipe σ vs) H2 ∧ Rel K Z Hf2 μ2 ρ G2 σ H2 ∧ Same Hf1 Hf2 ∧ μ1 <+: μ2 ∧ Apart Z Hf2 μ2 p ∧ H2 p = some (.lst xs) ∧ Reps K Hf2 μ2 xs acc ∧
      lcL f c e (wipeD ρ vs) (its.drop i) G2 = some (rs, G') ∧ acc ++ rs = ds) ?_ ?_ ?_ ?_
    · have R2 := R1.extra A1 (.lst [])
      exact ⟨Hf1, μ1, G1, [], [], ds, R2.envs (R2.env.wipe vs), R2, Same.refl _, List.prefix_refl _, A1, upd_same, .nil, e2, rfl⟩
    · rintro i H2 _ ⟨Hf2, μ2, G2, xs, acc, rs, R2, _, s2, _⟩
      exact hG H2 (s2.trans R2.sub)
    · rintro i x H2 H3 hi' ⟨Hf2, μ2, G2, xs, acc, rs, R2, R2', s2, m2, A2, hx, rr, e3, ea⟩ y
      obtain ⟨Hf3, g3, d, hd, r3⟩ := hY Hf2 i H2 x H3 s2 R2.sub hi' y
      have hdrop : its.drop i = d :: its.drop (i + 1) := by
        rw [List.drop_eq_getElem_cons hi']
        rw [List.getElem?_eq_getElem hi'] at hd
        rw [Option.some.inj hd]
      rw [hdrop] at e3
      unfold lcL at e3
      obtain ⟨ρ3, h3, e3⟩ := Option.bind_eq_some_iff.mp e3
      obtain ⟨⟨k, G4⟩, h4, e3⟩ := Option.bind_eq_some_iff.mp e3
      have A3 : Apart Z Hf3 μ2 p := ⟨(g3.old p (by rw [hx]; exact fun z => by cases z)).trans A2.hf, A2.mu, A2.h0, A2.tb⟩
      have hx3 : H3 p = some (.lst xs) := g3.keep p _ A2.tb hx
      obtain ⟨hf, hm, R3⟩ := (R2.grow g3).guard A3 hx3
      have s3 : Same Hf1 Hf3 := s2.trans g3.same
      have rr3 := rr.mono (μ' := μ2) g3.same (List.prefix_refl _)
      refine hg _ Hf3 μ2 _ G2 _ H3 R3 x d ρ3 (r3.mono (Same.refl _) m2) h3 _ fun σ4 R4 o4 => ⟨wipe_only o4 hs, ?_⟩
      refine hc _ Hf3 μ2 ρ3 G2 σ4 H3 R4 k G4 h4 _ fun Hf5 μ5 H5 R5 s5 m5 => ?_
      have bk : ∀ {Hf6 : Hp} {μ6 : List Addr} {ρ6 : Evn} {G6 : Sto} {σ6 : L2.St} {H6 : Hp}, Rel K (Z.with_ p (.lst xs) hf hm A3.tb) Hf6 μ6 ρ6 G6 σ6 H6 → Same Hf3 Hf6 → μ2 <+: μ6 → Rel K Z Hf6 μ6 (wipeD ρ vs) G6 (wipe σ vs) H6 ∧ Rel K Z Hf6 μ6 ρ G6 σ H6 := fun {Hf6 μ6 ρ6 G6 σ6 H6} R6 s6 m6 => by
        have R7 := (R6.unguard A3.h0).1
        exact ⟨R7.envs (R2.env.mono (g3.same.trans s6) m6), R7.envs (R2'.env.mono (g3.same.trans s6) m6)⟩
      cases k with
      | false =>
        refine iteF ?_
        obtain ⟨_, A6, hx6⟩ := R5.unguard A3.h0
        obtain ⟨Ra, Rb⟩ := bk R5 s5 m5
        exact ⟨Hf5, μ5, G4, xs, acc, rs, Ra, Rb, s3.trans s5, m2.trans m5, A6, hx6, rr3.mono s5 m5, e3, ea⟩
      | true =>
        refine iteT ?_
        dsimp only at e3
        rw [if_pos rfl] at e3
        obtain ⟨⟨y6, G6⟩, h6, e3⟩ := Option.bind_eq_some_iff.mp e3
        obtain ⟨⟨rs', G7⟩, h7, e3⟩ := Option.bind_eq_some_iff.mp e3
        cases e3
        refine he _ Hf5 μ5 ρ3 G4 σ4 H5 R5 y6 G6 h6 _ fun Hf6 μ6 v6 H6 R6 s6 m6 r6 => ?_
        obtain ⟨_, A6, hx6⟩ := R6.unguard A3.h0
        obtain ⟨Ra, Rb⟩ := bk R6 (s5.trans s6) (m5.trans m6)
        have rr6 := (rr3.mono s5 m5).mono s6 m6
        refine ⟨xs, hx6, ?_, Hf6, μ6, G6, xs ++ [v6], acc ++ [y6], rs', Ra.extra A6 _, Rb.extra A6 _, s3.trans (s5.trans s6), m2.trans (m5.trans m6), A6, upd_same, rr6.append (.one r6), h7, by rw [List.append_assoc]; exact ea⟩
        rw [rr6.length]
        refine Nat.lt_of_lt_of_le ?_ hz
        rw [← ea, List.length_append, List.length_cons]
        omega
    · rintro H2 ⟨Hf2, μ2, G2, xs, acc, rs, R2, R2', s2, m2, A2, hx, rr, e3, ea⟩
      rw [List.drop_length] at e3
      cases e3
      rw [List.append_nil] at ea
      subst ea
      exact q Hf2 μ2 p xs H2 R2' (s1.trans s2) (m1.trans m2) A2 hx rr
  · cases h
theorem ev_lcv {K : PySem.W.Frag} {wi : TI} {g : TG} {tt : TT} {te : TE} {it : M (List D)} {f : Tgt} {c : M Bool} {e : M D} {is vs : List Nat} (hi : EvI K wi it) (hg : EvG K g f is) (hc : EvB K tt c) (he : EvE K te e) (hs : ∀ i ∈ is, i ∈ vs) : EvE K (tLc wi g tt te vs) (mLc it f c e vs) := by
  intro Z Hf μ ρ G σ H R d G' h Q q
  unfold mLc at h
  obtain ⟨⟨ds, G1⟩, e1, h⟩ := Option.bind_eq_some_iff.mp h
  cases h
  refine ev_lc hi hg hc he hs R e1 fun Hf1 μ1 p xs H1 R1 s1 m1 A hx rr => ?_
  obtain ⟨R2, s2⟩ := R1.adopt A hx
  exact q _ μ1 _ H1 R2 (s1.trans s2) m1 (.lst upd_same (rr.mono s2 (List.prefix_refl _)))
theorem ev_lcn {K : PySem.W.Frag} {wi : TI} {g : TG} {tt : TT} {te : TE} {it : M (List D)} {f : Tgt} {c : M Bool} {e : M D} {is vs : List Nat} (hi : EvI K wi it) (hg : EvG K g f is) (hc : EvB K tt c) (he : EvE K te e) (hs : ∀ i ∈ is, i ∈ vs) : EvE K (tLc wi g tt te vs) (mLcN it f c e vs) := by
  intro Z Hf μ ρ G σ H R d G' h Q q
  unfold mLcN at h
  obtain ⟨⟨ds, G1⟩, e1, h⟩ := Option.bind_eq_some_iff.mp h
  cases h
  refine ev_lc hi hg hc he hs R e1 fun Hf1 μ1 p xs H1 R1 s1 m1 A hx rr => ?_
  have R2 := R1.adoptCell A (c := .lst ds) ⟨A.hf, xs, hx, rr.mono (Same.refl _) pre_app⟩
  refine q _ _ _ H1 R2 s1 (m1.trans pre_app) (.loc ?_)
  rw [← R1.len, List.getElem?_append_right (Nat.le_refl _), Nat.sub_self]
  rfl
/-- a comprehension's blocks -/
def Fam.blk (F : Fam) (scope : Scope) : Fam where
  ι := F.ι × Shared × Hp × Addr × List (Str × Addr) × List Addr
  X := fun (i, s, H, C, cl, fp) => (F.X i).blk s H scope (compEnvC scope cl C (F.X i).env) fp
  P := F.P
  w := F.w
  K := F.K
  mg := F.mg
  base := F.base
  k := F.k
  hP := fun i => F.hP i.1
  hw := fun i => F.hw i.1
  hK := fun i => F.hK i.1
  hm := fun i => F.hm i.1
  hb := fun i => F.hb i.1
  calm := fun i => F.calm i.1
  nd := fun i => F.nd i.1
  room := fun i => F.room i.1
def QT (F : Fam) (ifs : List Expr) (m : M Bool) : Prop := ∃ t, (∀ i, PTs (F.X i) ifs t) ∧ EvB F.K t m
theorem qt_nil {F : Fam} : QT F [] mYes := ⟨_, fun _ => pts_nil, ev_yes⟩
theorem qt_one {F : Fam} {c : Expr} {m : M Bool} (h : PB F c m) : QT F [c] m := let ⟨t, p, e⟩ := h; ⟨t, fun i => pts_one (p i), e⟩
section
variable {F : Fam} {elt tg iter : Expr} {ifs : List Expr} {scope : Scope} {own : List (Str × Nat)} {pos : Pos} {it : M (List D)} {f : Tgt} {c : M Bool} {e : M D} {is : List Nat}
theorem pm_lc (hi : QI F tg iter it) (ok : ∀ i, BlkOk (F.X i).N (F.X i).env.scope scope own) (hg : QG (F.blk scope) tg f is) (ht : QT (F.blk scope) ifs c) (he : PM (F.blk scope) elt e) (hsub : ∀ i ∈ is, i ∈ own.map (·.2) := by decide) (hs : ∀ i x, foldedSetIterable iter (F.X i).env x = pure x := by intro _ _; rfl) :
    PM F (.ListComp elt [⟨tg, iter, ifs, 0⟩] scope pos) (mLc it f c e (own.map (·.2))) := by
  obtain ⟨ti, pi, ei⟩ := hi
  obtain ⟨tg', pg, eg⟩ := hg
  obtain ⟨tt, pt, et⟩ := ht
  obtain ⟨te, pe, ee⟩ := he
  exact ⟨_, fun i => pe_lc (F.calm i) (F.nd i) (pi i) (ok i) (fun s H C cl fp => pg (i, s, H, C, cl, fp)) (fun s H C cl fp => pt (i, s, H, C, cl, fp)) (fun s H C cl fp => pe (i, s, H, C, cl, fp)) (hs i), ev_lcv ei eg et ee hsub⟩
theorem pm_lcn (hi : QI F tg iter it) (ok : ∀ i, BlkOk (F.X i).N (F.X i).env.scope scope own) (hg : QG (F.blk scope) tg f is) (ht : QT (F.blk scope) ifs c) (he : PM (F.blk scope) elt e) (hsub : ∀ i ∈ is, i ∈ own.map (·.2) := by decide) (hs : ∀ i x, foldedSetIterable iter (F.X i).env x = pure x := by intro _ _; rfl) :
    PM F (.ListComp elt [⟨tg, iter, ifs, 0⟩] scope pos) (mLcN it f c e (own.map (·.2))) := by
  obtain ⟨ti, pi, ei⟩ := hi
  obtain ⟨tg', pg, eg⟩ := hg
  obtain ⟨tt, pt, et⟩ := ht
  obtain ⟨te, pe, ee⟩ := he
  exact ⟨_, fun i => pe_lc (F.calm i) (F.nd i) (pi i) (ok i) (fun s H C cl fp => pg (i, s, H, C, cl, fp)) (fun s H C cl fp => pt (i, s, H, C, cl, fp)) (fun s H C cl fp => pe (i, s, H, C, cl, fp)) (hs i), ev_lcn ei eg et ee hsub⟩
/-- y = [..] on one line, y a local name -/
theorem q_setLc {i : Nat} {y : Str} {py spos : Pos} (hy : ∀ j, (F.X j).N[i]? = some y) (hyl : ∀ j, (F.X j).env.scope.names.lookup y = some .local) (hsw : ∀ j, swapsWith (.ListComp elt [⟨tg, iter, ifs, 0⟩] scope pos) (some (.Name y py)) spos.line (F.X j).env = pure true)
    (hi : QI F tg iter it) (ok : ∀ i, BlkOk (F.X i).N (F.X i).env.scope scope own) (hg : QG (F.blk scope) tg f is) (ht : QT (F.blk scope) ifs c) (he : PM (F.blk scope) elt e) (hsub : ∀ i ∈ is, i ∈ own.map (·.2) := by decide) (hs : ∀ i x, foldedSetIterable iter (F.X i).env x = pure x := by intro _ _; rfl) :
    QS F (.Assign [.Name y py] (.ListComp elt [⟨tg, iter, ifs, 0⟩] scope pos) spos) (mAsg i (mLc it f c e (own.map (·.2)))) := by
  obtain ⟨ti, pi, ei⟩ := hi
  obtain ⟨tg', pg, eg⟩ := hg
  obtain ⟨tt, pt, et⟩ := ht
  obtain ⟨te, pe, ee⟩ := he
  exact ⟨_, fun i => ps_setLc (F.calm i) (F.nd i) (hy i) (hyl i) (hsw i) (pi i) (ok i) (fun s H C cl fp => pg (i, s, H, C, cl, fp)) (fun s H C cl fp => pt (i, s, H, C, cl, fp)) (fun s H C cl fp => pe (i, s, H, C, cl, fp)) (hs i), ev_asg (ev_lcv ei eg et ee hsub)⟩
theorem q_setLcn {i : Nat} {y : Str} {py spos : Pos} (hy : ∀ j, (F.X j).N[i]? = some y) (hyl : ∀ j, (F.X j).env.scope.names.lookup y = some .local) (hsw : ∀ j, swapsWith (.ListComp elt [⟨tg, iter, ifs, 0⟩] scope pos) (some (.Name y py)) spos.line (F.X j).env = pure true)
    (hi : QI F tg iter it) (ok : ∀ i, BlkOk (F.X i).N (F.X i).env.scope scope own) (hg : QG (F.blk scope) tg f is) (ht : QT (F.blk scope) ifs c) (he : PM (F.blk scope) elt e) (hsub : ∀ i ∈ is, i ∈ own.map (·.2) := by decide) (hs : ∀ i x, foldedSetIterable iter (F.X i).env x = pure x := by intro _ _; rfl) :
    QS F (.Assign [.Name y py] (.ListComp elt [⟨tg, iter, ifs, 0⟩] scope pos) spos) (mAsg i (mLcN it f c e (own.map (·.2)))) := by
  obtain ⟨ti, pi, ei⟩ := hi
  obtain ⟨tg', pg, eg⟩ := hg
  obtain ⟨tt, pt, et⟩ := ht
  obtain ⟨te, pe, ee⟩ := he
  exact ⟨_, fun i => ps_setLc (F.calm i) (F.nd i) (hy i) (hyl i) (hsw i) (pi i) (ok i) (fun s H C cl fp => pg (i, s, H, C, cl, fp)) (fun s H C cl fp => pt (i, s, H, C, cl, fp)) (fun s H C cl fp => pe (i, s, H, C, cl, fp)) (hs i), ev_asg (ev_lcn ei eg et ee hsub)⟩
end
end Lf

/-! Lf7: cells, defs and their calls. -/
namespace Lf
open PySem PySem.Spec PyProof.Rows L2
variable [Tabs]

/-! ### a list cell changed -/
def cellL (G : Sto) (d : D) : Option (Nat × List D) := match d with
  | .loc l => (match G.cs[l]? with | some (.lst ds) => some (l, ds) | _ => none)
  | _ => none
theorem cellL_loc {G : Sto} {d : D} {l : Nat} {ds : List D} (h : cellL G d = some (l, ds)) : d = .loc l ∧ G.cs[l]? = some (.lst ds) := by
  unfold cellL at h
  split at h
  · split at h
    · rename_i hg
      cases h
      exact ⟨rfl, hg⟩
    · cases h
  · cases h
section
variable {K : PySem.W.Frag} {Z : Act} {Hf Hf' : Hp} {μ : List Addr} {ρ : Evn} {G : Sto} {σ : L2.St} {H H' : Hp}
theorem Rel.cellL (R : Rel K Z Hf μ ρ G σ H) {v : V} {d : D} {l : Nat} {ds : List D} (r : Rep K Hf μ v d) (e : cellL G d = some (l, ds)) :
    ∃ a vs, v = .ref a ∧ μ[l]? = some a ∧ H a = some (.lst vs) ∧ Reps K Hf μ vs ds ∧ Hf a = none ∧ l < G.cs.length := by
  obtain ⟨rfl, hg⟩ := cellL_loc e
  cases r with
  | loc ha =>
  obtain ⟨hn, vs, hv, rr⟩ := R.cells _ _ _ hg ha
  exact ⟨_, vs, rfl, ha, hv, rr, hn, (List.getElem?_eq_some_iff.mp hg).1⟩
theorem Rel.setL (R : Rel K Z Hf μ ρ G σ H) {l : Nat} {a : Addr} {vs : List V} {ds : List D} (hl : l < G.cs.length) (ha : μ[l]? = some a) (hf : Hf a = none) (rr : Reps K Hf μ vs ds) : Rel K Z Hf μ ρ (G.set l (.lst ds)) σ (upd H a (.lst vs)) :=
  R.setCell hl ha hf ⟨hf, vs, upd_same, rr⟩
end
def mApp (o e : M D) : M D := fun ρ G => (o ρ G).bind fun p => (cellL p.2 p.1).bind fun _ => (e ρ p.2).bind fun q => (cellL q.2 p.1).bind fun c => if szOk (c.2.length + 1) then some (.non, q.2.set c.1 (.lst (c.2 ++ [q.1]))) else none
def mPop (o : M D) : M D := fun ρ G => (o ρ G).bind fun p => (cellL p.2 p.1).bind fun c => (c.2[c.2.length - 1]?).bind fun d => some (d, p.2.set c.1 (.lst c.2.dropLast))
def mRev (o : M D) : M D := fun ρ G => (o ρ G).bind fun p => (cellL p.2 p.1).bind fun c => some (.non, p.2.set c.1 (.lst c.2.reverse))
section
variable {F : Fam} {o e : Expr} {mo me : M D} {apos cpos : Pos}
theorem pm_append (ho : PM F o mo) (he : PM F e me) (hbase : ∀ i, attributeBase o "append" (F.X i).env (eval o (F.X i).env) = eval o (F.X i).env := by intro _; rfl)
    (hfew : ∀ i, ((backTo cpos (starEach [e] (F.X i).env)).all (fun x => !x.1) && (backToKw cpos (keywordEach [] (F.X i).env)).all (fun x => x.1.isSome) && decide ([e].length + ([] : List Keyword).length + (if ([] : List Keyword).isEmpty then 0 else 1) < 30)) = true := by intro _; rfl)
    (hline : (apos.endLine == cpos.line) = true := by rfl) (hs : ∀ i, starEach [e] (F.X i).env = (false, eval e (F.X i).env) :: starEach [] (F.X i).env := by intro _; rfl) : PM F (.Call (.Attribute o "append" apos) [e] [] cpos) (mApp mo me) := by
  obtain ⟨to, po, eo⟩ := ho
  obtain ⟨te, pe, ee⟩ := he
  refine ⟨tBM F.K "list" rAppend to (tCons te tNil), fun i => by
    have h := pe_bm (cpos := cpos) PySem.F.plainAttrs_list PySem.F.slot_list_append PySem.F.type_list_append mt_append (po i) (pa_cons (pe i) pa_nil (hs i)) (hbase i) (hfew i) hline (hs i) (by rfl)
    rw [F.hK i] at h
    exact h, ?_⟩
  intro Z Hf μ ρ G σ H R d G' h Q q
  unfold mApp at h
  obtain ⟨⟨x, G1⟩, e1, h⟩ := Option.bind_eq_some_iff.mp h
  obtain ⟨⟨l, ds⟩, e2, h⟩ := Option.bind_eq_some_iff.mp h
  obtain ⟨⟨y, G2⟩, e3, h⟩ := Option.bind_eq_some_iff.mp h
  obtain ⟨⟨l', ds'⟩, e4, h⟩ := Option.bind_eq_some_iff.mp h
  split at h
  · rename_i hz
    cases h
    refine eo Z Hf μ ρ G σ H R _ _ e1 _ fun Hf1 μ1 v H1 R1 s1 m1 r1 => ?_
    obtain ⟨a, vs, rfl, ha, hv, rr, hn, hl⟩ := R1.cellL r1 e2
    refine ⟨.inl ⟨rfl, vs, SqL.of hv⟩, ?_⟩
    refine ee Z Hf1 μ1 ρ G1 σ H1 R1 _ _ e3 _ fun Hf2 μ2 u H2 R2 s2 m2 r2 => ?_
    obtain ⟨a', vs', ea, ha', hv', rr', hn', hl'⟩ := R2.cellL (r1.mono s2 m2) e4
    cases ea
    refine ⟨a, vs', u, rfl, rfl, hv', by rw [rr'.length]; exact Nat.lt_of_lt_of_le (Nat.lt_succ_self _) (szOk_le hz), ?_⟩
    exact q Hf2 μ2 _ _ (R2.setL hl' ha' hn' (rr'.append (.one r2))) (s1.trans s2) (m1.trans m2) .non
  · cases h
theorem pm_pop (ho : PM F o mo) (hbase : ∀ i, attributeBase o "pop" (F.X i).env (eval o (F.X i).env) = eval o (F.X i).env := by intro _; rfl) (hline : (apos.endLine == cpos.line) = true := by rfl) : PM F (.Call (.Attribute o "pop" apos) [] [] cpos) (mPop mo) := by
  obtain ⟨to, po, eo⟩ := ho
  refine ⟨tBM0 F.K "list" rPop to, fun i => by
    have h := pe_bm0 (cpos := cpos) PySem.F.plainAttrs_list PySem.F.slot_list_pop PySem.F.type_list_pop mt_pop (po i) (hbase i) hline
    rw [F.hK i] at h
    exact h, ?_⟩
  intro Z Hf μ ρ G σ H R d G' h Q q
  unfold mPop at h
  obtain ⟨⟨x, G1⟩, e1, h⟩ := Option.bind_eq_some_iff.mp h
  obtain ⟨⟨l, ds⟩, e2, h⟩ := Option.bind_eq_some_iff.mp h
  obtain ⟨y, e3, h⟩ := Option.bind_eq_some_iff.mp h
  cases h
  refine eo Z Hf μ ρ G σ H R _ _ e1 _ fun Hf1 μ1 v H1 R1 s1 m1 r1 => ?_
  obtain ⟨a, vs, rfl, ha, hv, rr, hn, hl⟩ := R1.cellL r1 e2
  obtain ⟨w, hw, rw'⟩ := rr.get e3
  refine ⟨.inl ⟨rfl, vs, SqL.of hv⟩, a, vs, w, rfl, rfl, hv, by rw [rr.length]; exact hw, ?_⟩
  exact q Hf1 μ1 _ _ (R1.setL hl ha hn rr.dropLast) s1 m1 rw'
theorem pm_reverse (ho : PM F o mo) (hbase : ∀ i, attributeBase o "reverse" (F.X i).env (eval o (F.X i).env) = eval o (F.X i).env := by intro _; rfl) (hline : (apos.endLine == cpos.line) = true := by rfl) : PM F (.Call (.Attribute o "reverse" apos) [] [] cpos) (mRev mo) := by
  obtain ⟨to, po, eo⟩ := ho
  refine ⟨tBM0 F.K "list" rReverse to, fun i => by
    have h := pe_bm0 (cpos := cpos) PySem.F.plainAttrs_list PySem.F.slot_list_reverse PySem.F.type_list_reverse mt_reverse (po i) (hbase i) hline
    rw [F.hK i] at h
    exact h, ?_⟩
  intro Z Hf μ ρ G σ H R d G' h Q q
  unfold mRev at h
  obtain ⟨⟨x, G1⟩, e1, h⟩ := Option.bind_eq_some_iff.mp h
  obtain ⟨⟨l, ds⟩, e2, h⟩ := Option.bind_eq_some_iff.mp h
  cases h
  refine eo Z Hf μ ρ G σ H R _ _ e1 _ fun Hf1 μ1 v H1 R1 s1 m1 r1 => ?_
  obtain ⟨a, vs, rfl, ha, hv, rr, hn, hl⟩ := R1.cellL r1 e2
  refine ⟨.inl ⟨rfl, vs, SqL.of hv⟩, a, vs, rfl, rfl, hv, ?_⟩
  exact q Hf1 μ1 _ _ (R1.setL hl ha hn rr.reverse) s1 m1 .non
/-- o[i] = e -/
def mSetI (o i e : M D) : MS := fun ρ G => (e ρ G).bind fun p => (o ρ p.2).bind fun q => (i ρ q.2).bind fun r => match r.1 with
  | .int k => (cellL r.2 q.1).bind fun c => (ixN c.2.length k).bind fun j => some (.nx, ρ, r.2.set c.1 (.lst (c.2.set j p.1)))
  | _ => none
theorem q_setI {i : Expr} {mi : M D} {pos spos : Pos} (ho : PM F o mo) (hi : PM F i mi) (he : PM F e me)
    (ha : ∀ j v, assign (.Subscript o i pos) (F.X j).env v = (do
      let ov ← holding [v] (eval o (F.X j).env)
      let iv ← holding [v, ov] (eval i (F.X j).env)
      standAt pos
      holding [v, ov, iv] (setItem ov iv v)
      release [v, ov, iv] []) := by intro _ _; rfl) (hs : ∀ j, swapsWithSole [.Subscript o i pos] e spos.line (F.X j).env = pure false := by intro _; rfl) (hw : ∀ j, swappedStores [.Subscript o i pos] e (F.X j).env = pure none := by intro _; rfl)
    (h1 : ∀ j, (assignEach [.Subscript o i pos] (F.X j).env).map (·.2) = [assign (.Subscript o i pos) (F.X j).env] := by intro _; rfl) : QS F (.Assign [.Subscript o i pos] e spos) (mSetI mo mi me) := by
  obtain ⟨to, po, eo⟩ := ho
  obtain ⟨ti, pi, ei⟩ := hi
  obtain ⟨te, pe, ee⟩ := he
  refine ⟨_, fun j => ps_asg (pe j) (pg_sub (po j) (pi j) set_list (ha j)) (hs j) (hw j) (h1 j), ?_⟩
  intro Z Hf μ ρ G σ H R out ρ' G' h E q
  unfold mSetI at h
  obtain ⟨⟨x, G1⟩, e1, h⟩ := Option.bind_eq_some_iff.mp h
  obtain ⟨⟨y, G2⟩, e2, h⟩ := Option.bind_eq_some_iff.mp h
  obtain ⟨⟨z, G3⟩, e3, h⟩ := Option.bind_eq_some_iff.mp h
  dsimp only at h
  split at h
  · rename_i k
    obtain ⟨⟨l, ds⟩, e4, h⟩ := Option.bind_eq_some_iff.mp h
    obtain ⟨j, e5, h⟩ := Option.bind_eq_some_iff.mp h
    cases h
    refine ee Z Hf μ ρ G σ H R _ _ e1 _ fun Hf1 μ1 v H1 R1 s1 m1 r1 => ?_
    refine eo Z Hf1 μ1 ρ G1 σ H1 R1 _ _ e2 _ fun Hf2 μ2 u H2 R2 s2 m2 r2 => ?_
    refine ei Z Hf2 μ2 ρ G2 σ H2 R2 _ _ e3 _ fun Hf3 μ3 w H3 R3 s3 m3 r3 => ?_
    obtain ⟨a, vs, rfl, ha, hv, rr, hn, hl⟩ := R3.cellL (r2.mono s3 m3) e4
    cases r3
    refine ⟨a, vs, k, j, rfl, rfl, hv, by rw [rr.length]; exact e5, ?_⟩
    exact q Hf3 μ3 σ _ (R3.setL hl ha hn (Reps.set ((r1.mono s2 m2).mono s3 m3) j rr)) ((s1.trans s2).trans s3) ((m1.trans m2).trans m3)
  · cases h
end

/-! ### defs -/
abbrev Fn := List D → Sto → Option (D × Sto)
/-- what a def promises: f of the arguments and the cells -/
def spM (K : PySem.W.Frag) (f : Fn) : Sp := fun vs H Q _ => ∃ Hf μ G ds d G', Rel K (Act.entry H Hf μ) Hf μ [] G [] H ∧ Reps K Hf μ vs ds ∧ f ds G = some (d, G') ∧
  ∀ Hf' μ' v H', Rel K (Act.entry H Hf μ) Hf' μ' [] G' [] H' → Rep K Hf' μ' v d → Q v H'
mutual
/-- no cell from n on is named -/
def belowD (n : Nat) : D → Bool
  | .tup ds => belowDs n ds
  | .lst ds => belowDs n ds
  | .frz ds => belowDs n ds
  | .loc l => decide (l < n)
  | _ => true
def belowDs (n : Nat) : List D → Bool
  | [] => true
  | d :: ds => belowD n d && belowDs n ds
end
def belowC (n : Nat) : Cell → Bool
  | .lst ds => belowDs n ds
  | .ins _ fs => belowDs n (fs.map (·.2))
  | .dead => true
mutual
theorem Rep.cut {K : PySem.W.Frag} {H : Hp} {μ : List Addr} {n : Nat} : ∀ {v : V} {d : D}, Rep K H μ v d → belowD n d = true → Rep K H (μ.take n) v d
  | _, _, .non, _ => .non
  | _, _, .bl b, _ => .bl b
  | _, _, .int i, _ => .int i
  | _, _, .str s, _ => .str s
  | _, _, .tup h r, e => .tup h (Reps.cut_ r e)
  | _, _, .lst h r, e => .lst h (Reps.cut_ r e)
  | _, _, .frz h r, e => .frz h (Reps.cut_ r e)
  | _, _, .loc h, e => .loc (by rw [List.getElem?_take_of_lt (of_decide_eq_true e)]; exact h)
theorem Reps.cut_ {K : PySem.W.Frag} {H : Hp} {μ : List Addr} {n : Nat} : ∀ {vs : List V} {ds : List D}, Reps K H μ vs ds → belowDs n ds = true → Reps K H (μ.take n) vs ds
  | _, _, .nil, _ => .nil
  | _, _, .cons h r, e => by
    unfold belowDs at e
    rw [Bool.and_eq_true] at e
    exact .cons (h.cut e.1) (Reps.cut_ r e.2)
end
theorem RepF.cut {K : PySem.W.Frag} {H : Hp} {μ : List Addr} {n : Nat} : ∀ {vs : List (Str × V)} {ds : List (Str × D)}, RepF K H μ vs ds → belowDs n (ds.map (·.2)) = true → RepF K H (μ.take n) vs ds
  | _, _, .nil, _ => .nil
  | _, _, .cons h r, e => by
    rw [List.map_cons] at e
    unfold belowDs at e
    rw [Bool.and_eq_true] at e
    exact .cons (h.cut e.1) (RepF.cut r e.2)
theorem CellAt.cut {K : PySem.W.Frag} {Hf H : Hp} {μ : List Addr} {a : Addr} {c : Cell} {n : Nat} (h : CellAt K Hf μ H a c) (e : belowC n c = true) : CellAt K Hf (μ.take n) H a c := by
  cases c with
  | lst ds => obtain ⟨h0, vs, h1, r⟩ := h; exact ⟨h0, vs, h1, r.cut_ e⟩
  | ins C fs => obtain ⟨h0, dx, fv, h1, r⟩ := h; exact ⟨h0, dx, fv, h1, r.cut e⟩
  | dead => exact h
/-- the cells made within are let go -/
def fin (G : Sto) (d : D) (G' : Sto) : Option (D × Sto) := if belowD G.cs.length d && (G'.cs.take G.cs.length).all (belowC G.cs.length) then some (d, ⟨G.n0, G'.cs.take G.cs.length⟩) else none
/-- .. or kept -/
def finK (G : Sto) (d : D) (G' : Sto) : Option (D × Sto) := some (d, ⟨G.n0, G'.cs⟩)
def runBody (fin : Sto → D → Sto → Option (D × Sto)) (N np : Nat) (b : MS) : Fn := fun ds G =>
  if ds.length = np then (b (ds.map some ++ List.replicate (N - np) none) ⟨G.cs.length, G.cs⟩).bind fun r => match r.1 with
    | .rt d => fin G d r.2.2
    | .nx => fin G .non r.2.2
    | _ => none
  else none
abbrev runF := runBody fin
abbrev runK := runBody finK
structure FinOk (fin : Sto → D → Sto → Option (D × Sto)) : Prop where
  ok : ∀ {K Hf0 H0 μ0 Hf μ ρ σ H G d G1 d' G' v}, fin G d G1 = some (d', G') → G.cs.length = μ0.length → G.n0 = μ0.length → Rel K (Act.entry H0 Hf0 μ0) Hf μ ρ G1 σ H → Rep K Hf μ v d → ∃ μ', Rel K (Act.entry H0 Hf0 μ0) Hf μ' [] G' [] H ∧ Rep K Hf μ' v d'
theorem Rel.bare {K : PySem.W.Frag} {Z : Act} {Hf : Hp} {μ : List Addr} {ρ : Evn} {G : Sto} {σ : L2.St} {H : Hp} (R : Rel K Z Hf μ ρ G σ H) : Rel K Z Hf μ [] G [] H := R.envs ⟨rfl, fun i d e => by simp at e⟩
theorem fin_ok : FinOk fin := by
  refine ⟨fun {K Hf0 H0 μ0 Hf μ ρ σ H G d G1 d' G' v} h hl hn R r => ?_⟩
  unfold fin at h
  split at h
  · rename_i hb
    rw [Bool.and_eq_true] at hb
    cases h
    have hlen : μ0.length ≤ μ.length := R.pre.length_le
    refine ⟨μ.take G.cs.length, ⟨R.sub, R.base, R.old, R.keep, R.live, ?_, fun l a e hl2 => ?_, R.nd.sublist (List.take_sublist _ _), ?_, hn, fun l c a e1 e2 => ?_, ⟨rfl, fun i d e => by simp at e⟩, fun P hP => ⟨(R.tab P hP).1, (R.tab P hP).2.1, fun hm => (R.tab P hP).2.2 (List.mem_of_mem_take hm)⟩⟩, r.cut hb.1⟩
    · obtain ⟨t, ht⟩ := R.pre
      have ht : μ0 ++ t = μ := ht
      rw [← ht, hl, List.take_left']
      · exact List.prefix_refl _
      · rfl
    · have h1 : l < (μ.take G.cs.length).length := (List.getElem?_eq_some_iff.mp e).1
      rw [List.length_take] at h1
      have hl2 : μ0.length ≤ l := hl2
      omega
    · show (μ.take G.cs.length).length = (G1.cs.take G.cs.length).length
      rw [List.length_take, List.length_take, R.len]
    · have e1 : (G1.cs.take G.cs.length)[l]? = some c := e1
      have h1 : l < (G1.cs.take G.cs.length).length := (List.getElem?_eq_some_iff.mp e1).1
      rw [List.length_take] at h1
      have hm : belowC G.cs.length c = true := List.all_eq_true.mp hb.2 c (List.mem_of_getElem? e1)
      rw [List.getElem?_take_of_lt (by omega)] at e1 e2
      exact (R.cells l c a e1 e2).cut hm
  · cases h
theorem finK_ok : FinOk finK := by
  refine ⟨fun {K Hf0 H0 μ0 Hf μ ρ σ H G d G1 d' G' v} h hl hn R r => ?_⟩
  cases h
  have R' := R.bare
  exact ⟨μ, ⟨R'.sub, R'.base, R'.old, R'.keep, R'.live, R'.pre, R'.new, R'.nd, R'.len, hn, R'.cells, R'.env, R'.tab⟩, r⟩

/-- the family of one body -/
def famOf (P : Program) (w : World) (K : PySem.W.Frag) (mg : Str → Option Value) (base : Heap) (N : List Str) (qual : Str) (scope : Scope) (f : Addr) (cd : Value) (A : Around) (outer : List Env) (s : Shared) (H : Hp) (E : XK) (k : Nat) (nd : N.Nodup) (hr : Room k (A.deeper (envOfC qual scope s.heap.objs.size f cd))) : Fam where
  ι := Unit
  X := fun _ => (cxOf CX0 P w K mg base N qual scope f cd A outer s H E).nox
  P := P
  w := w
  K := K
  mg := mg
  base := base
  k := k
  hP := fun _ => rfl
  hw := fun _ => rfl
  hK := fun _ => rfl
  hm := fun _ => rfl
  hb := fun _ => rfl
  calm := fun _ => rfl
  nd := fun _ => nd
  room := fun _ => hr
theorem start_env {K : PySem.W.Frag} {Hf : Hp} {μ : List Addr} {N : List Str} {vs : List V} {ds : List D} (r : Reps K Hf μ vs ds) : EnvOk K Hf μ (ds.map some ++ List.replicate (N.length - ds.length) none) (L2.start N vs) := by
  have hl := r.length
  refine ⟨?_, fun i d e => ?_⟩
  · unfold L2.start
    rw [List.length_append, List.length_append, List.length_map, List.length_map, List.length_replicate, List.length_replicate, hl]
  · by_cases hi : i < ds.length
    · rw [List.getElem?_append_left (by rw [List.length_map]; exact hi), List.getElem?_map] at e
      obtain ⟨d', e1, e2⟩ := Option.map_eq_some_iff.mp e
      cases e2
      obtain ⟨v, h1, h2⟩ := r.get e1
      refine ⟨v, ?_, h2⟩
      unfold L2.start
      rw [List.getElem?_append_left (by rw [List.length_map, hl]; exact hi), List.getElem?_map, h1]
      rfl
    · rw [List.getElem?_append_right (by rw [List.length_map]; omega), List.getElem?_replicate] at e
      split at e <;> cases e
section
variable {P : Program} {w : World} {K : PySem.W.Frag} {mg : Str → Option Value} {base : Heap}
/-- THE RULE for a def -/
theorem fn_ok {x qual : Str} {st : Stmt} {f : Addr} {fd : FuncData} {N ps : List Str} {k np : Nat} {b : MS} {fi : Sto → D → Sto → Option (D × Sto)} (hfi : FinOk fi) (Fn : Fun K x qual st f fd) (S : FnScope N ps (defScope st)) (hnp : ps.length = np)
    (hbody : ∀ (cdv : Value) (A : Around) (outer : List Env) (s : Shared) (H : Hp) (E : XK) (hr : Room k (A.deeper (envOfC qual (defScope st) s.heap.objs.size f cdv))), QSs (famOf P w K mg base N qual (defScope st) f cdv A outer s H E k S.nd hr) (defBody st) b) :
    FnOk P w K mg base CX0 (k + 1) f fd ps (spM K (runBody fi N.length np b)) := by
  refine Fn.ok S (fun vs H Q E h => ?_) (fun cdv A outer s H vs Q E hr h => ?_)
  · obtain ⟨Hf, μ, G, ds, d, G', R, r, e, q⟩ := h
    unfold runBody at e
    split at e
    · rename_i hl
      rw [r.length, hl, hnp]
    · cases e
  · obtain ⟨Hf, μ, G, ds, d, G', R, r, e, q⟩ := h
    obtain ⟨t, p, ev⟩ := hbody cdv A outer s H E hr
    refine ⟨t, p (), ?_⟩
    unfold runBody at e
    split at e
    · rename_i hl
      obtain ⟨⟨o, ρ1, G1⟩, e1, e⟩ := Option.bind_eq_some_iff.mp e
      have hn : G.n0 = μ.length := R.n0
      have hcl : G.cs.length = μ.length := R.len.symm
      have R0 : Rel K (Act.entry H Hf μ) Hf μ (ds.map some ++ List.replicate (N.length - np) none) ⟨G.cs.length, G.cs⟩ (L2.start N vs) H := by
        have R1 := R.envs (hl ▸ start_env (N := N) r)
        exact ⟨R1.sub, R1.base, R1.old, R1.keep, R1.live, R1.pre, R1.new, R1.nd, R1.len, hcl, R1.cells, R1.env, R1.tab⟩
      refine ev (Act.entry H Hf μ) Hf μ _ _ _ H R0 o ρ1 G1 e1 _ ?_
      cases o with
      | nx =>
        intro Hf1 μ1 σ1 H1 R1 s1 m1
        obtain ⟨μ2, R2, r2⟩ := hfi.ok (v := V.non) e hcl hn R1 .non
        exact q Hf1 μ2 _ H1 R2 r2
      | rt d1 =>
        intro Hf1 μ1 v σ1 H1 R1 s1 m1 r1
        obtain ⟨μ2, R2, r2⟩ := hfi.ok e hcl hn R1 r1
        exact q Hf1 μ2 _ H1 R2 r2
      | bk => cases e
      | ct => cases e
    · cases e
/-- a def that is there, and what it promises -/
def Has (P : Program) (w : World) (K : PySem.W.Frag) (mg : Str → Option Value) (base : Heap) (x : Str) (st : Stmt) (k : Nat) (ps : List Str) (f : Fn) : Prop :=
  ∃ a fd, mg x = some (.ref a) ∧ Fun K x x st a fd ∧ Binds K fd ps [] ∧ FnOk P w K mg base CX0 k a fd ps (spM K f)
theorem Has.mono {x : Str} {st : Stmt} {j k : Nat} {ps : List Str} {f : Fn} (h : Has P w K mg base x st j ps f) (hjk : j ≤ k) : Has P w K mg base x st k ps f := let ⟨a, fd, h1, h2, h3, h4⟩ := h; ⟨a, fd, h1, h2, h3, h4.mono hjk⟩
/-- nothing promised -/
theorem fn_none {f : Addr} {fd : FuncData} {ps : List Str} {k : Nat} : FnOk P w K mg base CX0 k f fd ps (spM K fun _ _ => none) :=
  ⟨fun vs H Q E h => (by obtain ⟨_, _, _, _, _, _, _, _, e, _⟩ := h; cases e), fun A outer s H args us vs Q E _ _ _ _ h => (by obtain ⟨_, _, _, _, _, _, _, _, e, _⟩ := h; cases e)⟩
end

/-! ### calls -/
/-- a def that is handed no cells -/
def mCallP (f : Fn) (ms : M (List D)) : M D := fun ρ G => (ms ρ G).bind fun p => if belowDs 0 p.1 then (f p.1 Sto.none).bind fun q => if belowD 0 q.1 then some (q.1, p.2) else none else none
/-- .. that is handed all cells -/
def mCall (f : Fn) (ms : M (List D)) : M D := fun ρ G => (ms ρ G).bind fun p => (f p.1 ⟨p.2.cs.length, p.2.cs⟩).bind fun q => some (q.1, ⟨p.2.n0, q.2.cs⟩)
theorem ev_callP {K : PySem.W.Frag} {f : Fn} {t : TA} {ms : M (List D)} (h : EvA K t ms) : EvE K (tCall (spM K f) [] E0 t) (mCallP f ms) := by
  intro Z Hf μ ρ G σ H R d G' e Q q
  unfold mCallP at e
  obtain ⟨⟨ds, G1⟩, e1, e⟩ := Option.bind_eq_some_iff.mp e
  split at e
  · rename_i hb
    obtain ⟨⟨d1, G2⟩, e2, e⟩ := Option.bind_eq_some_iff.mp e
    split at e
    · rename_i hb2
      cases e
      refine h Z Hf μ ρ G σ H R _ _ e1 _ fun Hf1 μ1 vs H1 R1 s1 m1 r1 => ?_
      rw [List.append_nil]
      have r0 := r1.cut_ hb
      rw [List.take_zero] at r0
      refine ⟨Hf1, [], Sto.none, ds, d1, G2, R1.enter0, r0, e2, fun Hf2 μ2 v H2 R2 r2 => ?_⟩
      have g := R2.leave0
      have r3 := r2.cut hb2
      rw [List.take_zero] at r3
      exact q Hf2 μ1 v H2 (R1.grow g) (s1.trans g.same) m1 (r3.mono (Same.refl _) (List.nil_prefix))
    · cases e
  · cases e
theorem ev_call {K : PySem.W.Frag} {f : Fn} {t : TA} {ms : M (List D)} (h : EvA K t ms) : EvE K (tCall (spM K f) [] E0 t) (mCall f ms) := by
  intro Z Hf μ ρ G σ H R d G' e Q q
  unfold mCall at e
  obtain ⟨⟨ds, G1⟩, e1, e⟩ := Option.bind_eq_some_iff.mp e
  obtain ⟨⟨d1, G2⟩, e2, e⟩ := Option.bind_eq_some_iff.mp e
  cases e
  refine h Z Hf μ ρ G σ H R _ _ e1 _ fun Hf1 μ1 vs H1 R1 s1 m1 r1 => ?_
  rw [List.append_nil]
  refine ⟨Hf1, μ1, ⟨G1.cs.length, G1.cs⟩, ds, _, G2, R1.enter, r1, e2, fun Hf2 μ2 v H2 R2 r2 => ?_⟩
  exact q Hf2 μ2 v H2 (R1.leave R2) (s1.trans R2.base) (m1.trans R2.pre) r2
section
variable {F : Fam} {x : Str} {st : Stmt} {k : Nat} {ps : List Str} {f : Fn} {p pos : Pos} {e : Expr} {es : List Expr} {ms : M (List D)}
theorem has_fn {i : F.ι} {a : Addr} {fd : FuncData} {sp : Sp} (h : FnOk F.P F.w F.K F.mg F.base CX0 k a fd ps sp) : FnOk (F.X i).prog (F.X i).w (F.X i).K (F.X i).mg (F.X i).base CX0 k a fd ps sp := by
  rw [F.hP i, F.hw i, F.hK i, F.hm i, F.hb i]
  exact h
theorem pm_callP (h : Has F.P F.w F.K F.mg F.base x st k ps f) (hk : k ≤ F.k) (hg : ∀ i, Gl (F.X i) x) (ha : PL F (e :: es) ms) (hdb : (x == ("__debug__" : Str)) = false := by decide) (he : ∀ i, starEach (e :: es) (F.X i).env = (false, eval e (F.X i).env) :: starEach es (F.X i).env := by intro _; rfl) (hpl : ∀ i, (backTo pos (starEach es (F.X i).env)).any (·.1) = false := by intro _; rfl) :
    PM F (.Call (.Name x p) (e :: es) [] pos) (mCallP f ms) := by
  obtain ⟨a, fd, h1, h2, h3, h4⟩ := h
  obtain ⟨t, pa, ev⟩ := ha
  exact ⟨_, fun i => pe_call (has_fn h4) ((F.room i).mono hk) (hg i) (by rw [F.hm i]; exact h1) (by rw [F.hK i]; exact h2.kp) (by rw [F.hK i]; exact h3) .nil pass0 (pa i) hdb (he i) (hpl i), ev_callP ev⟩
theorem pm_call (h : Has F.P F.w F.K F.mg F.base x st k ps f) (hk : k ≤ F.k) (hg : ∀ i, Gl (F.X i) x) (ha : PL F (e :: es) ms) (hdb : (x == ("__debug__" : Str)) = false := by decide) (he : ∀ i, starEach (e :: es) (F.X i).env = (false, eval e (F.X i).env) :: starEach es (F.X i).env := by intro _; rfl) (hpl : ∀ i, (backTo pos (starEach es (F.X i).env)).any (·.1) = false := by intro _; rfl) :
    PM F (.Call (.Name x p) (e :: es) [] pos) (mCall f ms) := by
  obtain ⟨a, fd, h1, h2, h3, h4⟩ := h
  obtain ⟨t, pa, ev⟩ := ha
  exact ⟨_, fun i => pe_call (has_fn h4) ((F.room i).mono hk) (hg i) (by rw [F.hm i]; exact h1) (by rw [F.hK i]; exact h2.kp) (by rw [F.hK i]; exact h3) .nil pass0 (pa i) hdb (he i) (hpl i), ev_call ev⟩
end
end Lf

/-! Lf8: calls by names; what the top has left; the ends. -/
namespace Lf
open PySem PySem.Spec PyProof.Rows L2
variable [Tabs]

def pick {α : Type} (is : List Nat) (xs : List α) : List α := is.filterMap fun i => xs[i]?
theorem vals_pick {zs : List V} {ws : List Value} (r : Vals zs ws) (is : List Nat) : Vals (pick is zs) (pick is ws) := by
  induction is with
  | nil => exact .nil
  | cons i is ih =>
    unfold pick
    rw [List.filterMap_cons, List.filterMap_cons]
    cases h : zs[i]? with
    | none => rw [Vals.none_of r h]; exact ih
    | some z =>
      obtain ⟨u, h1, h2⟩ := Vals.get r h
      rw [h1]
      exact .cons h2 ih
theorem reps_pick {K : PySem.W.Frag} {H : Hp} {μ : List Addr} {vs : List V} {ds : List D} (r : Reps K H μ vs ds) (is : List Nat) : Reps K H μ (pick is vs) (pick is ds) := by
  induction is with
  | nil => exact .nil
  | cons i is ih =>
    unfold pick
    rw [List.filterMap_cons, List.filterMap_cons]
    cases h : ds[i]? with
    | none =>
      have : vs[i]? = none := by
        rw [List.getElem?_eq_none_iff] at h ⊢
        rw [r.length]; exact h
      rw [this]; exact ih
    | some z =>
      obtain ⟨u, h1, h2⟩ := r.get h
      rw [h1]
      exact .cons h2 ih
/-- f(k = v, ..) -/
def tCallK0 (sp : Sp) (is : List Nat) (n : Nat) (E : XK) (tk : TA) : TE := fun σ H Q => tk σ H fun zs H2 => zs.length = n ∧ sp (pick is zs) H2 Q E
theorem pe_callK0 {X : Cx} {CX : CXT} {k : Nat} {f : Addr} {fd : FuncData} {ps ks : List Str} {sp : Sp} {E : XK} {x : Str} {p pos : Pos} {kws : List Keyword} {tk : TA} {is : List Nat} (F : FnOk X.prog X.w X.K X.mg X.base CX k f fd ps sp) (hr : Room k X.A) (hg : Gl X x) (hm : X.mg x = some (.ref f)) (hk : PySem.W.keepIn X.K (.ref f) = true)
    (hb : ∀ (s : Shared) (ws : List Value), ws.length = ks.length → BindsTo s fd ⟨[], ks.zip ws⟩ (ps.zip (pick is ws))) (hx : Passes CX X E) (hkw : PK X kws tk)
    (hall : (backToKw pos (keywordEach kws X.env)).all (·.1.isSome) = true := by rfl) (hks : (backToKw pos (keywordEach kws X.env)).filterMap (·.1) = ks := by rfl) (hdb : (x == ("__debug__" : Str)) = false := by decide)
    (hpl : ((backTo pos (starEach [] X.env)).any (·.1) || (backToKw pos (keywordEach kws X.env)).any (·.1.isNone)) = false := by rfl) : PE X (.Call (.Name x p) [] kws pos) (tCallK0 sp is ks.length E tk) := by
  refine ⟨fun pins s σ H Q I h => ?_⟩
  refine wpAny_Call_Name_kw (ld_glob I hg hm ?_ hdb)
  refine PySem.W.callWith_KW0 (h₀ := X.base) I.ok.mod.kin hk hall ?_ hpl
  refine thn (hkw.run pos pins s σ H _ I h) fun ws s2 ⟨zs, H2, I2, rz, l2, q2⟩ => ⟨I2.kIn, ?_⟩
  rw [hks]
  have r2 := vals_pick rz is
  refine wpAny_call (codeAny_mono (F.run X.A X.stack s2 H2 ⟨[], ks.zip ws⟩ (pick is ws) (pick is zs) Q E hr I2.env0 (hb s2 ws (rz.length.symm.trans l2)) r2 q2) fun r s' hq => ?_)
  cases r with
  | error e => exact hx pins σ H2 s2 e s' I2 hq
  | ok fl =>
    cases fl with
    | ret u => exact I2.after hq
    | next => exact False.elim hq
    | brk => exact False.elim hq
    | cont => exact False.elim hq
def PKm (F : Fam) (kws : List Keyword) (m : M (List D)) : Prop := ∃ t, (∀ i, PK (F.X i) kws t) ∧ EvA F.K t m
theorem pk0 {F : Fam} : PKm F [] mNil := by
  refine ⟨_, fun _ => pk_nil, ?_⟩
  intro Z Hf μ ρ G σ H R ds G' e Q q
  cases e
  exact q Hf μ [] H R (Same.refl _) (List.prefix_refl _) .nil
theorem pk1 {F : Fam} {nm : Option Str} {e : Expr} {kpos : Pos} {kws : List Keyword} {a : M D} {r : M (List D)} (ha : PM F e a) (hr : PKm F kws r) : PKm F (⟨nm, e, kpos⟩ :: kws) (mCons a r) := by
  obtain ⟨ta, pa, ea⟩ := ha
  obtain ⟨tr, pr, er⟩ := hr
  refine ⟨_, fun i => pk_cons (pa i) (pr i), ?_⟩
  intro Z Hf μ ρ G σ H R ds G' e Q q
  unfold mCons at e
  obtain ⟨⟨x, G1⟩, e1, e⟩ := Option.bind_eq_some_iff.mp e
  obtain ⟨⟨xs, G2⟩, e2, e⟩ := Option.bind_eq_some_iff.mp e
  cases e
  refine ea Z Hf μ ρ G σ H R x G1 e1 _ fun Hf1 μ1 v H1 R1 s1 m1 r1 => ?_
  refine er Z Hf1 μ1 ρ G1 σ H1 R1 xs G2 e2 _ fun Hf2 μ2 vs H2 R2 s2 m2 r2 => ?_
  exact q Hf2 μ2 (v :: vs) H2 R2 (s1.trans s2) (m1.trans m2) (.cons (r1.mono s2 m2) r2)
/-- the values of the names, in the parameters' order -/
def mPick (is : List Nat) (n : Nat) (ms : M (List D)) : M (List D) := fun ρ G => (ms ρ G).bind fun p => if p.1.length = n then some (pick is p.1, p.2) else none
section
variable {F : Fam} {x : Str} {st : Stmt} {k : Nat} {ps : List Str} {f : Fn} {p pos : Pos} {kws : List Keyword} {ms : M (List D)}
theorem ev_callPK {K : PySem.W.Frag} {f : Fn} {t : TA} {ms : M (List D)} {is : List Nat} {n : Nat} (h : EvA K t ms) : EvE K (tCallK0 (spM K f) is n E0 t) (mCallP f (mPick is n ms)) := by
  intro Z Hf μ ρ G σ H R d G' e Q q
  unfold mCallP mPick at e
  obtain ⟨⟨ds, G1⟩, e1, e⟩ := Option.bind_eq_some_iff.mp e
  obtain ⟨⟨ds0, G0⟩, e0, e1⟩ := Option.bind_eq_some_iff.mp e1
  split at e1
  · rename_i hn
    cases e1
    split at e
    · rename_i hb
      obtain ⟨⟨d1, G2⟩, e2, e⟩ := Option.bind_eq_some_iff.mp e
      split at e
      · rename_i hb2
        cases e
        refine h Z Hf μ ρ G σ H R _ _ e0 _ fun Hf1 μ1 vs H1 R1 s1 m1 r1 => ⟨by rw [r1.length]; exact hn, ?_⟩
        have r0 := (reps_pick r1 is).cut_ hb
        rw [List.take_zero] at r0
        refine ⟨Hf1, [], Sto.none, _, d1, G2, R1.enter0, r0, e2, fun Hf2 μ2 v H2 R2 r2 => ?_⟩
        have g := R2.leave0
        have r3 := r2.cut hb2
        rw [List.take_zero] at r3
        exact q Hf2 μ1 v H2 (R1.grow g) (s1.trans g.same) m1 (r3.mono (Same.refl _) (List.nil_prefix))
      · cases e
    · cases e
  · cases e1
theorem pm_callPK {ks : List Str} {is : List Nat} (h : Has F.P F.w F.K F.mg F.base x st k ps f) (hk : k ≤ F.k) (hg : ∀ i, Gl (F.X i) x) (ha : PKm F kws ms)
    (hb : ∀ (kV doc pm : Value) (an : Option Addr) (cdv ct : Value) (ws : List Value), ws.length = ks.length → bindArgs (PySem.W.fnOf x x (defArgs st) (defBody st) (defScope st) .none kV doc pm an cdv ct) ⟨[], ks.zip ws⟩ = pure (ps.zip (pick is ws)))
    (hall : ∀ i, (backToKw pos (keywordEach kws (F.X i).env)).all (·.1.isSome) = true := by intro _; rfl) (hks : ∀ i, (backToKw pos (keywordEach kws (F.X i).env)).filterMap (·.1) = ks := by intro _; rfl) (hdb : (x == ("__debug__" : Str)) = false := by decide)
    (hpl : ∀ i, ((backTo pos (starEach [] (F.X i).env)).any (·.1) || (backToKw pos (keywordEach kws (F.X i).env)).any (·.1.isNone)) = false := by intro _; rfl) : PM F (.Call (.Name x p) [] kws pos) (mCallP f (mPick is ks.length ms)) := by
  obtain ⟨a, fd, h1, h2, h3, h4⟩ := h
  obtain ⟨t, pa, ev⟩ := ha
  have hb' : ∀ (s : Shared) (ws : List Value), ws.length = ks.length → BindsTo s fd ⟨[], ks.zip ws⟩ (ps.zip (pick is ws)) := fun s ws hl => by
    obtain ⟨oc, od, kV, doc, pm, an, cdv, ct, osl, rfl, lk, hcd⟩ := h2.ex
    exact .of_eq (hb kV doc pm an cdv ct ws hl)
  exact ⟨_, fun i => pe_callK0 (has_fn h4) ((F.room i).mono hk) (hg i) (by rw [F.hm i]; exact h1) (by rw [F.hK i]; exact h2.kp) hb' pass0 (pa i) (hall i) (hks i) hdb (hpl i), ev_callPK ev⟩
end

/-! ### the text -/
/-- a def as the top has left it -/
def FunAt (K : PySem.W.Frag) (mg : Str → Option Value) (x : Str) (st : Stmt) : Prop := ∃ a fd, mg x = some (.ref a) ∧ Fun K x x st a fd
theorem mk_fun {K : PySem.W.Frag} {mg : Str → Option Value} {h : Heap} (X : K.In h) (G : h.Ns mainGlobals mg) {x : Str} {st : Stmt} {f : Addr} {od an : Option Addr} {sl : Array (Option Value)} {oc kV dc pm cd ct : Value}
    (a : PySem.W.nsIn K mainGlobals x = some (some (.ref f))) (l : K.lookup f = some ⟨oc, od, .func (PySem.W.fnOf x x (defArgs st) (defBody st) (defScope st) .none kV dc pm an cd ct), sl⟩) (c : PySem.W.codeIn K cd x = true) (k : PySem.W.keepIn K (.ref f) = true) : FunAt K mg x st :=
  ⟨f, _, PySem.W.mg_of X G a, fun_mk l c k⟩
section
variable {P : Program} {w : World} {K : PySem.W.Frag} {mg : Str → Option Value} {base : Heap}
theorem has_of {x : Str} {st : Stmt} {N ps : List Str} {k np n : Nat} {b : MS} {fi : Sto → D → Sto → Option (D × Sto)} (hfi : FinOk fi) (A : FunAt K mg x st) (S : FnScope N ps (defScope st)) (hnp : ps.length = np) (hN : N.length = n)
    (hbd : ∀ (kV doc pm : Value) (an : Option Addr) (cdv ct : Value) (us : List Value), us.length = ps.length → bindArgs (PySem.W.fnOf x x (defArgs st) (defBody st) (defScope st) .none kV doc pm an cdv ct) ⟨us, []⟩ = pure (ps.zip us))
    (hbody : ∀ (f : Addr) (cdv : Value) (A : Around) (outer : List Env) (s : Shared) (H : Hp) (E : XK) (hr : Room k (A.deeper (envOfC x (defScope st) s.heap.objs.size f cdv))), QSs (famOf P w K mg base N x (defScope st) f cdv A outer s H E k S.nd hr) (defBody st) b) :
    Has P w K mg base x st (k + 1) ps (runBody fi n np b) := by
  obtain ⟨a, fd, h1, h2⟩ := A
  subst hN
  exact ⟨a, fd, h1, h2, h2.binds hbd, fn_ok hfi h2 S hnp fun cdv A outer s H E hr => hbody a cdv A outer s H E hr⟩
theorem has_none {x : Str} {st : Stmt} {ps : List Str} {k : Nat} (A : FunAt K mg x st) (hbd : ∀ (kV doc pm : Value) (an : Option Addr) (cdv ct : Value) (us : List Value), us.length = ps.length → bindArgs (PySem.W.fnOf x x (defArgs st) (defBody st) (defScope st) .none kV doc pm an cdv ct) ⟨us, []⟩ = pure (ps.zip us)) :
    Has P w K mg base x st k ps fun _ _ => none := by
  obtain ⟨a, fd, h1, h2⟩ := A
  exact ⟨a, fd, h1, h2, h2.binds hbd, fn_none⟩
end
/-- the law's promise, from the value -/
theorem law_sp {K : PySem.W.Frag} {f : Fn} {H : Hp} {a : Addr} {ns : List Int} (hT : ∀ P ∈ Tabs.T, H P = some (.tbl #[])) (hS : SqL K H a (ns.map V.int)) (h : ∃ G', f [.frz (ns.map .int)] Sto.none = some (.bl true, G')) : spM K f [.ref a] H (fun v _ => v = .bl true) fun _ _ _ => False := by
  obtain ⟨G', e⟩ := h
  let Hf : Hp := fun b => if b ∈ Tabs.T then none else H b
  have hf : ∀ b o, Hf b = some o → b ∉ Tabs.T ∧ H b = some o := fun b o q => by
    have q : (if b ∈ Tabs.T then none else H b) = some o := q
    split at q
    · cases q
    · rename_i h; exact ⟨h, q⟩
  have hf2 : ∀ b o, (∀ ps, o ≠ .tbl ps) → H b = some o → Hf b = some o := fun b o n q => by
    show (if b ∈ Tabs.T then none else H b) = some o
    rw [if_neg, q]
    intro hb
    rw [hT b hb] at q
    cases q
    exact n _ rfl
  have hS' : SqL K Hf a (ns.map V.int) := by
    rcases hS with (h | ⟨o, h⟩) | h
    · exact .inl (.inl (hf2 _ _ (fun ps z => by cases z) h))
    · exact .inl (.inr ⟨o, hf2 _ _ (fun ps z => by cases z) h⟩)
    · exact .inr h
  have tb : ∀ P ∈ Tabs.T, GxR.TabG H P ∧ Hf P = none ∧ P ∉ ([] : List Addr) := fun P hP => ⟨⟨#[], hT P hP, by first | trivial | rfl | decide⟩, if_pos hP, by simp⟩
  have R : Rel K (Act.entry H Hf []) Hf [] [] Sto.none [] H :=
    ⟨fun b o q => (hf b o q).2, Same.refl _, fun _ _ => rfl, fun a o e => (by
      have e : (if a ∈ ([] : List Addr) ∨ a ∈ Tabs.T then none else H a) = some o := e
      split at e
      · cases e
      · exact e), fun _ h => h, List.prefix_refl _, fun l a e _ => (by simp at e), List.nodup_nil, rfl, rfl, fun l c a e _ => (by simp at e), ⟨rfl, fun i d e => by simp at e⟩, tb⟩
  refine ⟨Hf, [], Sto.none, _, _, G', R, .cons (.frz hS' (Reps.ints ns)) .nil, e, fun Hf' μ' v H' _ r => ?_⟩
  cases r
  rfl
end Lf

/-! Lf9: sum of a generator expression over enumerate. -/
namespace Lf
open PySem PySem.Spec PyProof.Rows L2
open Sem (wp)
section
variable {prog : Program} {w : World} {A : Around}
/-- the turns of sum over what a generator gives, ints of any size -/
theorem sum_turns {R : Result → Shared → Prop} {I : Addr} {fp wr : List Addr} {Gr : Array GenState → Array GenState → Prop} {n : Nat} {Pv : Nat → Value → Prop} {St : Nat → Shared → Prop}
    (W : WalksS prog w A.in1 I fp wr Gr n Pv St) (val : Nat → Int) (hval : ∀ i v, Pv i v → ∃ t, v = .int (val i) t) (S : Addr) (hSf : S ∉ fp) :
    ∀ (k i : Nat) (s : Shared) (tA : Tok) (c : Nat) (stg : Int), (stg = 0 ∨ stg = 2) → n - i = k → i ≤ n → St i s → s.heap.get? S = some { cls := .type "list", dict := none, data := .seq #[.int (preSum val i) tA] c, slots := #[] } →
    (∀ s' t', Moved (S :: wr) Gr s s' → R (.ok (.ret (.int (preSum val n) t'))) s') → codeAny (model prog w) A (.builtin "sum.loop" ⟨[.ref I, .ref S, rawInt stg, rawInt 0], []⟩) R s := by
  have apart : S ∉ wr := fun z => hSf (W.sub _ z)
  have wider : ∀ b ∈ wr, b ∈ S :: wr := fun b z => List.mem_cons_of_mem _ z
  have other : ∀ {b : Addr} {h0 : Heap} {f : Obj → Obj}, b ≠ S → (h0.update S f).get? b = h0.get? b := fun {b h0 f} z => Heap.get?_update_other _ _ (Ne.symm z)
  intro k
  induction k with
  | zero =>
    intro i s tA c stg _ hk hi st hS hR
    obtain rfl : i = n := by omega
    refine codeAny_builtin F.entry_sum_loop ?_
    rw [Around.under_plainId F.plain_sum_loop _]
    show wpAny _ A.in1 (seqItems? (.ref S) >>= fun x => _) _ _ s
    refine wpAny_bind (wpAny_seqItems hS rfl ?_)
    show wpAny _ A.in1 (tryCatch (pyNext (.ref I)) (fun x => _) >>= _) _ _ s
    exact wpAny_bind (wpAny_tryCatch (W.done s _ _ st fun s' hm => wpAny_pure (hR s' tA (hm.mono wider))))
  | succ k ih =>
    intro i s tA c stg hstg hk hi st hS hR
    have lt : i < n := by omega
    refine codeAny_builtin F.entry_sum_loop ?_
    rw [Around.under_plainId F.plain_sum_loop _]
    show wpAny _ A.in1 (seqItems? (.ref S) >>= fun x => _) _ _ s
    refine wpAny_bind (wpAny_seqItems hS rfl ?_)
    show wpAny _ A.in1 (tryCatch (pyNext (.ref I)) (fun x => _) >>= _) _ _ s
    refine wpAny_bind (wpAny_tryCatch (W.item i s _ _ lt st fun v s' hP st' hm => ?_))
    obtain ⟨t, rfl⟩ := hval i v hP
    have hS' := hm.heap S _ apart hS
    -- an add and two writes
    have frm : ∀ {h2 : Heap} {tk : Nat}, s'.toks ≤ tk → (∀ b, b ≠ S → h2.get? b = s'.heap.get? b) → St (i + 1) { s' with heap := h2, toks := tk } := fun {h2 tk} htk hb => W.frame _ s' _ _ st' htk fun b hbf o e => (hb b fun z => hSf (z ▸ hbf)).trans e
    have mv : ∀ {h2 : Heap} {tk : Nat} {s'' : Shared}, s'.toks ≤ tk → (∀ b, b ≠ S → h2.get? b = s'.heap.get? b) → Moved (S :: wr) Gr { s' with heap := h2, toks := tk } s'' → Moved (S :: wr) Gr s s'' := fun {h2 tk s''} htk hb hm2 => Moved.trans W.gtrans ((hm.mono wider).then_heap htk fun b o hbw e => (hb b fun z => hbw (by rw [z]; exact List.mem_cons_self)).trans e) hm2
    rcases hstg with rfl | rfl
    · show wpAny _ A.in1 (if (_ : Bool) = true then (mkInt (preSum val i + val i) >>= fun x => _) else _) _ _ _
      split
      · refine wpAny_bind (wpAny_mkInt ?_)
        show wpAny _ A.in1 (updateSeq S (fun _ => #[.int (preSum val i + val i) s'.toks]) >>= fun x => _) _ _ _
        refine wpAny_bind (wpAny_updateSeq hS' rfl (wpAny_pure ⟨plainId_quiet F.plain_sum_loop _, ih (i + 1) _ s'.toks _ 0 (.inl rfl) (by omega) lt ?_ (Heap.get?_update_self _ hS' rfl) fun s'' t'' hm2 => ?_⟩))
        · exact frm (tk := s'.toks + 1) (Nat.le_succ _) fun b z => other z
        · exact hR s'' t'' (mv (tk := s'.toks + 1) (Nat.le_succ _) (fun b z => other z) hm2)
      · refine wpAny_bind (wpAny_rule (wpAny_bind (wpAny_attempt (wpAny_holding (PySem.P.add_int ?_)))))
        show wpAny _ A.in1 (updateSeq S (fun _ => #[.int (preSum val i + val i) s'.toks]) >>= fun x => _) _ _ _
        refine wpAny_bind (wpAny_updateSeq hS' rfl ?_)
        have hS2 := Heap.get?_update_self (Obj.mapSeq fun _ => #[Value.int (preSum val i + val i) s'.toks]) hS' rfl
        refine wpAny_bind (wpAny_letGo (wpAny_bind (wpAny_updateSeq hS2 rfl (wpAny_pure ⟨plainId_quiet F.plain_sum_loop _, ih (i + 1) _ s'.toks _ 2 (.inr rfl) (by omega) lt ?_ (Heap.get?_update_self _ hS2 rfl) fun s'' t'' hm2 => ?_⟩))))
        · exact frm (tk := s'.toks + 1) (Nat.le_succ _) fun b z => (other z).trans (other z)
        · exact hR s'' t'' (mv (tk := s'.toks + 1) (Nat.le_succ _) (fun b z => (other z).trans (other z)) hm2)
    · show wpAny _ A.in1 ((holding [Value.int (val i) t] (binaryOp .Add (.int (preSum val i) tA) (.int (val i) t))).attempt >>= fun x => _) _ _ _
      refine wpAny_bind (wpAny_attempt (wpAny_holding (PySem.P.add_int ?_)))
      show wpAny _ A.in1 (updateSeq S (fun _ => #[.int (preSum val i + val i) s'.toks]) >>= fun x => _) _ _ _
      refine wpAny_bind (wpAny_updateSeq hS' rfl ?_)
      have hS2 := Heap.get?_update_self (Obj.mapSeq fun _ => #[Value.int (preSum val i + val i) s'.toks]) hS' rfl
      refine wpAny_bind (wpAny_letGo (wpAny_bind (wpAny_updateSeq hS2 rfl (wpAny_pure ⟨plainId_quiet F.plain_sum_loop _, ih (i + 1) _ s'.toks _ 2 (.inr rfl) (by omega) lt ?_ (Heap.get?_update_self _ hS2 rfl) fun s'' t'' hm2 => ?_⟩))))
      · exact frm (tk := s'.toks + 1) (Nat.le_succ _) fun b z => (other z).trans (other z)
      · exact hR s'' t'' (mv (tk := s'.toks + 1) (Nat.le_succ _) (fun b z => (other z).trans (other z)) hm2)
/-- sum(g) of a generator of ints -/
theorem sum_gen {Er : Value → Shared → Prop} {s : Shared} {x : Value} {Q : Value → Shared → Prop}
    (h : wpAny (model prog w) A.in1 (pyIter x) (fun it s₂ => ∃ I fp wr Gr n Pv St val, it = .ref I ∧ WalksS prog w A.in1 I fp wr Gr n Pv St ∧ St 0 s₂ ∧ (∀ b ∈ fp, b < s₂.heap.objs.size) ∧
      (∀ i v, Pv i v → ∃ t, v = .int (val i) t) ∧ ∀ s' t', Moved wr Gr s₂ s' → Q (.int (preSum val n) t') s') Er s) :
    wpAny (model prog w) A (call (.builtin "sum") [x]) Q Er s := by
  refine call_function_tree F.kind_sum F.plain_sum F.entry_sum (F.args_sum1 _) ?_
  unfold Builtin.«sum»
  simp only [List.length_cons, List.length_nil]
  rw [if_neg (by decide)]
  have b0 : Builtin.Builtins.bindParams "sum" ["start"] 0 { } = pure [none] := rfl
  refine wpAny_bind (wpAny_of_eq b0 (wpAny_bind (wpAny_mono h (fun it s₂ h₂ => ?_) fun _ _ e => e)))
  obtain ⟨I, fp, wr, Gr, n, Pv, St, val, rfl, W, st, hfp, hval, hQ⟩ := h₂
  refine wpAny_bind (wpAny_mkInt (wpAny_bind (wpAny_pure ?_)))
  simp only [List.forIn_cons, List.forIn_nil]
  have no : ∀ {T : String} {Q2 : Bool → Shared → Prop} {s3 : Shared} {v : Int} {t : Tok}, isSubtype (.type "int") (.type T) = pure false → Q2 false s3 → wpAny (model prog w) A.in1 (isInstance (.int v t) (.type T)) Q2 Er s3 := fun hs hq => wpAny_isInstance (b := false) (typeIs_int _ _ _) hs hq
  refine wpAny_bind (wpAny_bind (wpAny_bind (no PySem.sub_int_str ?_)))
  simp only [Bool.false_eq_true, if_false]
  refine wpAny_pure (wpAny_bind (wpAny_bind (no PySem.sub_int_bytes ?_)))
  simp only [Bool.false_eq_true, if_false]
  refine wpAny_pure (wpAny_bind (wpAny_bind (no PySem.sub_int_bytearray ?_)))
  simp only [Bool.false_eq_true, if_false]
  refine wpAny_pure (wpAny_pure (wpAny_bind (wpAny_newObj_type ?_)))
  have hSf : s₂.heap.objs.size ∉ fp := fun z => absurd (hfp _ z) (Nat.lt_irrefl _)
  have up : ∀ a b : Nat, a = b ∨ a + 1 = b → a ≤ b := fun a b z => by omega
  refine wpAny_pure ⟨plainId_quiet F.plain_sum_loop _, sum_turns W val hval s₂.heap.objs.size hSf n 0 _ s₂.toks 0 0 (.inl rfl) rfl (Nat.zero_le _) (W.frame 0 s₂ _ _ st (up _ _ (by first | exact .inl rfl | exact .inr rfl)) fun b _ o e => Heap.get?_push_of_some _ e) (Heap.get?_push_size _ rfl) fun s' t' hm => ?_⟩
  exact hQ s' t' (hm.drop_new (up _ _ (by first | exact .inl rfl | exact .inr rfl)))
end
section
variable {prog : Program} {w : World} {A : Around} {Er : Value → Shared → Prop} {s : Shared}
set_option maxHeartbeats 1000000 in
theorem enum_new_tuple {t : Addr} {items : Array Value} :
    Meets (Builtin.«enumerate.__new__» ⟨[.type "enumerate", .ref t], []⟩) (fun _ R s => s.heap.IsTuple t items ∧
      R (.ok (.ret (.ref (s.heap.push { cls := .type "tuple_iterator", data := .fields #[.ref t, .int 0 0] }).objs.size)))
        { s with heap := (s.heap.push { cls := .type "tuple_iterator", data := .fields #[.ref t, .int 0 0] }).push { cls := .type "enumerate", data := .fields #[.none, .bool false, .ref s.heap.objs.size, rawInt 0, .none, .none] } }) :=
  .of_wp fun prog w A R s h => by
    obtain ⟨hT, h⟩ := h
    obtain ⟨hp, g, d, tk, os⟩ := s
    obtain ⟨ob, ho, hc, nn, hd⟩ := id hT
    have hsub := sub_enumerate
    wp_walk
    refine wpAny_stack_any fun stk => wpAny_pure ?_
    split
    · rename_i c _ _ _ _ _
      cases (c == Value.type "enumerate")
      · wp_walk using wpAny_pyIter_tuple hT
        exact ⟨_, rfl, h⟩
      · wp_walk using wpAny_pyIter_tuple hT
        exact ⟨_, rfl, h⟩
    · wp_walk using wpAny_pyIter_tuple hT
      exact ⟨_, rfl, h⟩
theorem call_enum_tuple {t : Addr} {items : Array Value} {Q : Value → Shared → Prop} (hT : s.heap.IsTuple t items)
    (h : ∀ h', IsEnum h' (s.heap.objs.size + 1) s.heap.objs.size 0 .none → h'.IsTupleIter s.heap.objs.size t 0 → h'.objs.size = s.heap.objs.size + 2 →
      (∀ b o, s.heap.get? b = some o → h'.get? b = some o) → Q (.ref (s.heap.objs.size + 1)) { s with heap := h' }) :
    wpAny (model prog w) A (call (.type "enumerate") [.ref t]) Q Er s := by
  refine callType_new F.called_enumerate (by decide) (F.typeCall_enumerate_1 _) (F.newCall_enumerate_1 _) (fun obj => F.args_object_init_2 obj _) F.entry_enumerate_new enum_new_tuple ⟨hT, ?_⟩
  generalize hi : ({ cls := .type "tuple_iterator", data := .fields #[.ref t, .int 0 0] } : Obj) = ti
  have sz : (s.heap.push ti).objs.size = s.heap.objs.size + 1 := Heap.size_push ..
  generalize hen : ({ cls := .type "enumerate", data := .fields #[.none, .bool false, .ref s.heap.objs.size, rawInt 0, .none, .none] } : Obj) = en
  show _ ∧ _
  rw [sz]
  have ee : ((s.heap.push ti).push en).get? (s.heap.objs.size + 1) = some en := by
    have q := Heap.get?_push_size (s.heap.push ti) (o := en) (by rw [← hen]; rfl)
    rwa [sz] at q
  have he : IsEnum ((s.heap.push ti).push en) (s.heap.objs.size + 1) s.heap.objs.size 0 .none := by
    rw [← hen] at ee ⊢
    exact ee
  have hti : (s.heap.push ti).get? s.heap.objs.size = some ti := Heap.get?_push_size _ (by rw [← hi]; rfl)
  refine ⟨⟨_, ee, by rw [← hen]⟩, h _ he ⟨ti, Heap.get?_push_of_some _ hti, by rw [← hi], by rw [← hi]; rfl⟩ (by rw [Heap.size_push, sz]) fun b o x => Heap.get?_push_of_some _ (Heap.get?_push_of_some _ x)⟩
end
end Lf

/-! Lf10: sum of a generator expression over enumerate, the rule. -/
namespace Lf
open PySem PySem.Spec PyProof.Rows L2
open Sem (wp)
/-- the generator expression's own scope: two names, the walked thing at «.0» -/
structure GenS2 (env : Env) (scope : Scope) (xa xb : Str) : Prop where
  kind : scope.kind = .function
  co : scope.isCoroutine = false
  cell : ∀ y ∈ scope.names, y.2 ≠ .cell
  dot : scope.names.lookup (".0" : Str) = some NameKind.local
  la : scope.names.lookup xa = some .local
  lb : scope.names.lookup xb = some .local
  ab : xa ≠ xb
  free : ∀ y ∈ scope.names, y.2 = .free → ∃ c, env.cells.lookup y.1 = some c
/-- an element made of two ints -/
def EltII (prog : Program) (w : World) (scope : Scope) (xa xb : Str) (elt : Expr) (f : Int → Int → Option Int) : Prop :=
  ∀ (cenv : Env) (A' : Around) (E' : Value → Shared → Prop) (i j r : Int) (ti tj : Tok) (s₂ : Shared) (m₂ : Str → Option Value), cenv.scope = scope → s₂.heap.Ns cenv.locals m₂ → m₂ xa = some (.int i ti) → m₂ xb = some (.int j tj) → f i j = some r →
    wpAny (model prog w) A' (eval elt cenv) (fun y s₃ => (∃ t, y = .int r t) ∧ Keeps s₂ s₃) E' s₂
section
variable {prog : Program} {w : World} {scope : Scope} {xa xb : Str}
theorem elt_a {p : Pos} (hk : scope.kind = .function) (hl : scope.names.lookup xa = some .local) (hd : (xa == ("__debug__" : Str)) = false := by decide) : EltII prog w scope xa xb (.Name xa p) fun i _ => some i := by
  intro cenv A' E' i j r ti tj s₂ m₂ hs hn ha hb hf
  cases hf
  exact wpAny_Name (wpAny_loadName_local (by rw [hs]; exact hk) (show cenv.scope.names.lookup xa = some .local by rw [hs]; exact hl) hn ha ⟨⟨_, rfl⟩, GxR.keeps_refl _⟩) hd
theorem elt_b {p : Pos} (hk : scope.kind = .function) (hl : scope.names.lookup xb = some .local) (hd : (xb == ("__debug__" : Str)) = false := by decide) : EltII prog w scope xa xb (.Name xb p) fun _ j => some j := by
  intro cenv A' E' i j r ti tj s₂ m₂ hs hn ha hb hf
  cases hf
  exact wpAny_Name (wpAny_loadName_local (by rw [hs]; exact hk) (show cenv.scope.names.lookup xb = some .local by rw [hs]; exact hl) hn hb ⟨⟨_, rfl⟩, GxR.keeps_refl _⟩) hd
theorem elt_c {k : Int} {t : Nat} {p : Pos} : EltII prog w scope xa xb (.Constant (.int k) t p) fun _ _ => some k := by
  intro cenv A' E' i j r ti tj s₂ m₂ hs hn ha hb hf
  cases hf
  exact wpAny_Constant_int ⟨⟨_, rfl⟩, GxR.keeps_tok _ _⟩
theorem keeps_trans {a b c : Shared} (h : Keeps a b) (k : Keeps b c) : Keeps a c := by
  obtain ⟨h1, t1, rfl, k1⟩ := h
  obtain ⟨h2, t2, rfl, k2⟩ := k
  exact ⟨h2, t2, rfl, fun x o e => k2 x o (k1 x o e)⟩
theorem ns_keeps {a b : Shared} {c : Addr} {m : Str → Option Value} (h : a.heap.Ns c m) (k : Keeps a b) : b.heap.Ns c m := by
  obtain ⟨h1, t1, rfl, k1⟩ := k
  exact h.at' fun o e => k1 c o e
theorem elt_op {op : Operator} {a b : Expr} {p : Pos} {f g : Int → Int → Option Int} {o : Int → Int → Option Int} (ha : EltII prog w scope xa xb a f) (hb : EltII prog w scope xa xb b g)
    (ho : ∀ (A' : Around) (E' : Value → Shared → Prop) (x y r : Int) (t u : Tok) (s : Shared), o x y = some r → wpAny (model prog w) A' (binaryOp op (.int x t) (.int y u)) (fun z s₃ => (∃ t, z = .int r t) ∧ Keeps s s₃) E' s) :
    EltII prog w scope xa xb (.BinOp a op b p) fun i j => (f i j).bind fun x => (g i j).bind fun y => o x y := by
  intro cenv A' E' i j r ti tj s₂ m₂ hs hn h1 h2 hf
  obtain ⟨x, e1, hf⟩ := Option.bind_eq_some_iff.mp hf
  obtain ⟨y, e2, e3⟩ := Option.bind_eq_some_iff.mp hf
  refine wpAny_BinOp (wpAny_mono (ha cenv A' E' i j x ti tj s₂ m₂ hs hn h1 h2 e1) (fun v s3 q => ?_) fun _ _ e => e)
  obtain ⟨⟨t, rfl⟩, k1⟩ := q
  refine wpAny_mono (hb cenv A' E' i j y ti tj s3 m₂ hs (ns_keeps hn k1) h1 h2 e2) (fun v s4 q => ?_) fun _ _ e => e
  obtain ⟨⟨u, rfl⟩, k2⟩ := q
  exact wpAny_mono (ho A' E' x y r t u s4 e3) (fun z s5 q => ⟨q.1, keeps_trans (keeps_trans k1 k2) q.2⟩) fun _ _ e => e
def oAdd (x y : Int) : Option Int := some (x + y)
def oSub (x y : Int) : Option Int := some (x - y)
def oMul (x y : Int) : Option Int := if mulOk x y then some (x * y) else none
theorem elt_add {a b : Expr} {p : Pos} {f g : Int → Int → Option Int} (ha : EltII prog w scope xa xb a f) (hb : EltII prog w scope xa xb b g) : EltII prog w scope xa xb (.BinOp a .Add b p) fun i j => (f i j).bind fun x => (g i j).bind fun y => oAdd x y :=
  elt_op ha hb fun A' E' x y r t u s h => by cases h; exact PySem.P.add_int ⟨⟨_, rfl⟩, GxR.keeps_tok _ _⟩
theorem elt_mul {a b : Expr} {p : Pos} {f g : Int → Int → Option Int} (ha : EltII prog w scope xa xb a f) (hb : EltII prog w scope xa xb b g) : EltII prog w scope xa xb (.BinOp a .Mult b p) fun i j => (f i j).bind fun x => (g i j).bind fun y => oMul x y :=
  elt_op ha hb fun A' E' x y r t u s h => by
    unfold oMul at h
    split at h
    · rename_i hm
      cases h
      exact PySem.P.mul_int ⟨⟨_, rfl⟩, GxR.keeps_tok _ _⟩ (CMulW.ok (by unfold mulOk at hm; exact of_decide_eq_true (p := _ < _) hm))
    · cases h
end
/-- the values that the generator gives, at place i -/
def genVal (f : Int → Int → Option Int) (js : List Int) (i : Nat) : Int := (js[i]?.bind fun j => f i j).getD 0
section
variable {X : Cx} {pins : List (Addr × Obj)} {σ : L2.St} {H : Hp} {s : Shared}
theorem gen_enum {c P : Addr} {elt e : Expr} {xa xb : Str} {pa pb pt p pos gpos : Pos} {kt : Nat} {scope : Scope} {f : Int → Int → Option Int} {ta : TA} {k : Nat} {Q' : Value → Shared → Prop} {R : List Int → Hp → Prop}
    (hr : Room k X.A) (TB : GxR.TabB X.base X.mg c P) (hcode : X.env.code = .ref c) (S : GenS2 X.env scope xa xb) (hg : Gl X "enumerate") (hmg : X.mg "enumerate" = none) (ha : PA X [e] ta) (hel : EltII X.prog X.w scope xa xb elt f)
    (he : starEach [e] X.env = [(false, eval e X.env)])
    (hs : ∀ v, genFold (.Call (.Name "enumerate" p) [e] [] pos) X.env v = pure v) (I : Inv X pins σ H s) (h : ta σ H fun vs H1 => ∃ (a : Addr) (js : List Int), vs = [.ref a] ∧ SqT X.K H1 a (js.map V.int) ∧ (∀ (i : Nat) (j : Int), js[i]? = some j → ∃ r, f i j = some r) ∧ GxR.TabG H1 P ∧ R js H1)
    (hQ : ∀ js H1 g s5 (fp wr : List Addr) (Gr : Array GenState → Array GenState → Prop) (F : Nat → Value → Prop) (St : Nat → Shared → Prop), R js H1 → WalksS X.prog X.w X.A.in1 g fp wr Gr js.length F St → St 0 s5 → (∀ b ∈ fp, b < s5.heap.objs.size) →
      (∀ i v, F i v → ∃ t, v = .int (genVal f js i) t) → (∀ s', Moved wr Gr s5 s' → ∃ H2, GxR.Tabbed P H1 H2 ∧ Inv X pins σ H2 s') → Q' (.ref g) s5) :
    wpAny (model X.prog X.w) X.A (eval (.GeneratorExp elt [⟨.Tuple [.Name xa pa, .Name xb pb] kt pt, .Call (.Name "enumerate" p) [e] [] pos, [], 0⟩] scope gpos) X.env) Q' X.xe s := by
  refine wpAny_GeneratorExp_walksQT hr.hd S.co (closure_ok S.free) S.cell S.dot S.la S.lb S.ab S.kind (by have := hr.dp; omega) ?_ hs
  refine Call_ (ld_blt I hg hmg boot_enumerate (PyProof.Rows.callWith_type1 (thn (ha.run pos pins s σ H _ I h) fun us s1 ⟨vs, H1, I1, r1, q1⟩ => ?_) he rfl))
  obtain ⟨a, js, rfl, hq, hok, ⟨ps, hP, ht⟩, hR⟩ := q1
  cases r1 with
  | cons r rr =>
  cases rr
  cases r
  obtain ⟨its, rv, hT0, hz⟩ := I1.tuple hq
  have hT : s1.heap.IsTuple a its.toArray := hT0
  have hlen : its.length = js.length := by have := rv.length; rw [List.length_map] at this; exact this.symm
  refine call_enum_tuple hT fun h2 hen hit hsz hk => wpAny_pyIter_enum hen ?_
  have hPs : s1.heap.get? P = some { cls := .none, data := .fields ps } := I1.hok P _ hP
  have hPlt : P < s1.heap.objs.size := Heap.lt_size hPs
  have hP2 : h2.get? P = some { cls := .none, data := .fields ps } := hk _ _ hPs
  have cd : PySem.W.CodeHd h2 c P := TB.code.keeps fun b u q => hk b u (I1.bk b u q)
  have lim2 : h2.NoLimit := I1.nolimit.keeps hk
  have aP : a ≠ P := fun z => by
    obtain ⟨o, e1, e2, n, e3⟩ := hT
    rw [z, hPs] at e1
    cases e1
    cases e2
  have aLt : a < s1.heap.objs.size := let ⟨o, e1, _⟩ := hT; Heap.lt_size e1
  have itNe : a ≠ s1.heap.objs.size := fun z => Nat.lt_irrefl _ (z ▸ aLt)
  have enNe : a ≠ s1.heap.objs.size + 1 := fun z => Nat.lt_irrefl _ (Nat.lt_of_lt_of_le (z ▸ aLt) (Nat.le_succ _))
  have W : ∀ A' : Around, A'.handled = none → WalksU X.prog X.w A' (s1.heap.objs.size + 1) ((s1.heap.objs.size + 1) :: [s1.heap.objs.size, a]) [s1.heap.objs.size + 1, s1.heap.objs.size] its.toArray.size (fun i vals => ∃ t x, its.toArray[i]? = some x ∧ vals = #[.int i t, x])
      (fun i h => (∃ old, IsEnum h (s1.heap.objs.size + 1) s1.heap.objs.size i old) ∧ (h.IsTupleIter s1.heap.objs.size a i ∧ h.IsTuple a its.toArray))
      (fun i T h => (∃ x, IsEnumOut h (s1.heap.objs.size + 1) s1.heap.objs.size ((i : Int) + 1) x T) ∧ (h.IsTupleIter s1.heap.objs.size a (i + 1) ∧ h.IsTuple a its.toArray) ∧ T ≠ s1.heap.objs.size + 1 ∧ T ≠ s1.heap.objs.size) := fun A' hA =>
    (WalksT.enumerateD (Draws.tuple (A := A'.in1) hA s1.heap.objs.size a itNe its.toArray) (s1.heap.objs.size + 1) (Nat.succ_ne_self _) (by
      intro z
      rcases List.mem_cons.mp z with z | z
      · exact Nat.succ_ne_self _ z
      · exact enNe (List.mem_singleton.mp z).symm) (by simp)).toU
  have st0 : (∃ old, IsEnum h2 (s1.heap.objs.size + 1) s1.heap.objs.size ((0 : Nat) : Int) old) ∧ (h2.IsTupleIter s1.heap.objs.size a 0 ∧ h2.IsTuple a its.toArray) := ⟨⟨_, hen⟩, hit, let ⟨o, e1, q⟩ := hT; ⟨o, hk a o e1, q⟩⟩
  have memfp : ∀ {b : Addr}, b ∈ ((s1.heap.objs.size + 1) :: [s1.heap.objs.size, a]) → b ≠ P ∧ b < s1.heap.objs.size + 2 := fun {b} hb => by
    have hb' : b = s1.heap.objs.size + 1 ∨ b = s1.heap.objs.size ∨ b = a := by simpa using hb
    rcases hb' with z | z | z
    · exact ⟨fun y => by rw [z] at y; rw [← y] at hPlt; exact Nat.lt_irrefl _ (Nat.lt_trans (Nat.lt_succ_self _) hPlt), by rw [z]; exact Nat.lt_succ_self _⟩
    · exact ⟨fun y => by rw [z] at y; rw [← y] at hPlt; exact Nat.lt_irrefl _ hPlt, by rw [z]; exact Nat.lt_succ_of_lt (Nat.lt_succ_self _)⟩
    · exact ⟨by rw [z]; exact aP, by rw [z]; exact Nat.lt_of_lt_of_le aLt (Nat.le_add_right _ 2)⟩
  have memwr : ∀ {b : Addr}, b ∈ [s1.heap.objs.size + 1, s1.heap.objs.size] → s1.heap.objs.size ≤ b := fun {b} hb => by
    have hb' : b = s1.heap.objs.size + 1 ∨ b = s1.heap.objs.size := by simpa using hb
    rcases hb' with z | z
    · rw [z]; exact Nat.le_succ _
    · rw [z]; exact Nat.le_refl _
  have cont : ∀ (code : Value) (h3 : Heap) (tk : Nat) (ps' : Array Value), Heap.ExtBut P h2 h3 → h2.objs.size ≤ h3.objs.size → h3.get? P = some { cls := .none, data := .fields ps' } → (∃ more, ps' = ps ++ more) → TriplesOk ps'.toList →
      wpAny (model X.prog X.w) X.A (builtinsFor X.env.globals X.env.builtins) (fun bi s₄ =>
        ∃ I0 fp wr n₀ Pt St₀ Mid pz F, Value.ref (s1.heap.objs.size + 1) = .ref I0 ∧ (∀ A' : Around, A'.handled = none → WalksU X.prog X.w A' I0 fp wr n₀ Pt St₀ Mid) ∧ (∀ i vals, Pt i vals → ∃ va vb, vals = #[va, vb]) ∧ St₀ 0 s₄.heap ∧ (∀ b ∈ fp, b < s₄.heap.objs.size) ∧ s₄.heap.NoLimit ∧ cStatics ∉ wr ∧
          (∀ href : Heap, (∀ b o, s₄.heap.get? b = some o → href.get? b = some o) →
            QuietGenT X.prog X.w (genEnv scope (cloFrom X.env.cells scope.names []) s₄.heap.objs.size code bi X.env) xa xb [] elt (List.range s₄.heap.objs.size) wr Pt pz F href) ∧
          (∀ a h₅ tk gs, gs.bare = true → s₄.heap.objs.size < a → h₅.objs.size = a + 1 → (∀ b o, s₄.heap.get? b = some o → h₅.get? b = some o) →
            WalksS X.prog X.w X.A.in4 a (a :: s₄.heap.objs.size :: List.range s₄.heap.objs.size) (s₄.heap.objs.size :: wr) (GenOnlyQ s₄.gens.size) (passing pz n₀ 0).length
              (fun j y => ∃ i, (passing pz n₀ 0)[j]? = some i ∧ F i y) (GenAt X.prog X.w X.A.in4 a s₄.gens.size s₄.heap.objs.size (List.range s₄.heap.objs.size) wr pz n₀ F) →
            GenAt X.prog X.w X.A.in4 a s₄.gens.size s₄.heap.objs.size (List.range s₄.heap.objs.size) wr pz n₀ F 0 { s₄ with gens := s₄.gens.push gs, toks := tk, heap := h₅ } →
            Q' (.ref a) { s₄ with gens := s₄.gens.push gs, toks := tk, heap := h₅ })) X.xe { s1 with heap := h3, toks := tk } := by
    intro code h3 tk ps' hx hsz3 hP3 hmore ht3
    obtain ⟨bm, ob, e1, e2, e3, e4, e5, e6, e7, e8⟩ := TB.bm
    have hcP : cStatics ≠ P := fun q => by
      obtain ⟨_, ⟨o', es, ep, ho, hd, _⟩, _⟩ := I1.nolimit
      rw [q, hPs] at ho
      cases ho
      cases hd
    have hcl : cStatics < s1.heap.objs.size := let ⟨_, hns, _⟩ := I1.nolimit; hns.lt
    have keep3 : ∀ b u, b ≠ P → s1.heap.get? b = some u → h3.get? b = some u := fun b u hb q => hx b u hb (hk b u q)
    refine wpAny_builtinsFor (m := X.mg) (by rw [I1.ok.glob]; exact ((I1.mod.glob.keeps I1.bk).keeps hk).extBut hx TB.gP) e1 e2 (keep3 _ _ e4 (I1.bk _ _ e5)) e6 e7 e8 ?_
    refine ⟨_, _, _, _, _, _, _, (fun _ => true), (fun i y => ∃ t, i < js.length ∧ y = .int (genVal f js i) t), rfl, W, ?_, ?_, ?_, lim2.extBut hx hcP, ?_, ?_, ?_⟩
    · rintro i vals ⟨t, x, _, rfl⟩
      exact ⟨_, _, rfl⟩
    · exact (W X.A hr.hd).frame _ _ _ st0 fun b hb u q => hx b u (memfp hb).1 q
    · intro b hb
      have q := (memfp hb).2
      show b < h3.objs.size
      have q2 : s1.heap.objs.size + 2 ≤ h3.objs.size := by rw [← hsz]; exact hsz3
      exact Nat.lt_of_lt_of_le q q2
    · intro z
      exact Nat.not_le_of_lt hcl (memwr z)
    · intro href hhref
      refine ⟨fun A' E' i va vb s₂ m₂ hA hPv hn h1 h2 hk2 => ?_, fun A' E' i va vb s₂ m₂ hA hPv hp hn h1 h2 hk2 => ?_⟩
      · simp only [List.forIn_nil]
        exact wpAny_pure ⟨rfl, GxR.keeps_refl _⟩
      · obtain ⟨t, x, hx2, hv⟩ := hPv
        have hi : i < its.length := by
          have q := (Array.getElem?_eq_some_iff.mp hx2).1
          simpa using q
        obtain ⟨u, hu, ru⟩ := Vals.get rv (i := i) (x := .int js[i]) (by rw [List.getElem?_map, List.getElem?_eq_getElem (by omega)]; rfl)
        have hxu : x = u := by
          have q : its[i]? = some x := by simpa using hx2
          rw [hu] at q
          exact (Option.some.inj q).symm
        obtain ⟨tj, rfl⟩ := (show ∃ tj, u = Value.int js[i] tj from ru)
        obtain ⟨rfl, rfl⟩ : va = .int i t ∧ vb = x := by
          have q := congrArg Array.toList hv
          simpa using q
        subst hxu
        obtain ⟨r, hr2⟩ := hok i js[i] (List.getElem?_eq_getElem (by omega))
        refine wpAny_mono (hel _ A' E' i js[i] r t tj s₂ m₂ rfl hn h1 h2 hr2) (fun y s3 q => ⟨?_, q.2⟩) fun _ _ e => e
        obtain ⟨t2, rfl⟩ := q.1
        refine ⟨t2, by omega, ?_⟩
        unfold genVal
        rw [List.getElem?_eq_getElem (by omega), Option.bind_some, hr2]
        rfl
    · intro g h5 tk5 gs hgb hag hsz5 hk5 W5 hat
      simp only [GxR.passing_true, List.length_range] at W5
      have hn : its.toArray.size = js.length := by simpa using hlen
      rw [hn] at W5 hat
      refine hQ js H1 g _ _ _ _ _ _ hR W5.in4_1 hat (fun b hb => ?_) ?_ fun s' hm => ?_
      · show b < h5.objs.size
        rw [hsz5]
        rcases List.mem_cons.mp hb with z | z
        · rw [z]; exact Nat.lt_succ_self _
        · rcases List.mem_cons.mp z with z | z
          · rw [z]; exact Nat.lt_succ_of_lt hag
          · exact Nat.lt_succ_of_lt (Nat.lt_trans (List.mem_range.mp z) hag)
      · rintro i v ⟨i', hi', t, hlt, rfl⟩
        obtain ⟨hj, ej⟩ := List.getElem?_eq_some_iff.mp hi'
        rw [List.getElem_range] at ej
        subst ej
        exact ⟨t, rfl⟩
      · obtain ⟨more, em⟩ := hmore
        have nwr : ∀ b u, s1.heap.get? b = some u → b ∉ h3.objs.size :: [s1.heap.objs.size + 1, s1.heap.objs.size] := fun b u q hb => by
          have hl := Heap.lt_size q
          rcases List.mem_cons.mp hb with z | z
          · rw [z] at hl
            have h9 : (h3.objs.size : Nat) < s1.heap.objs.size := hl
            omega
          · exact Nat.not_le_of_lt hl (memwr z)
        have J := GxR.inv_tab (more := more) (h' := s'.heap) (g' := s'.gens) (d' := s'.drawn) (t' := s'.toks) I1 hP (fun b u hb q => hm.heap b u (nwr b u q) (hk5 b u (keep3 b u hb q)))
          (by rw [← em]; exact hm.heap P _ (nwr P _ hPs) (hk5 P _ hP3)) (AllBare.movedS (I1.bare.push hgb) hm)
        rw [GxR.sh_eta s1 s' hm.os] at J
        exact ⟨upd H1 P (.tbl (ps ++ more)), ⟨⟨ps ++ more, upd_same, by rw [← em]; exact ht3⟩, fun b hb => upd_ne hb⟩, J⟩
  refine ⟨lim2, ?_⟩
  cases hf : codeAmong gpos ps.toList with
  | none =>
    refine wpAny_genexprCodeX hcode (cd.code hP2 ht) (cd.tab hP2) hf fun c' h' tk hx hge hlt hco' _ htab' _ => ?_
    obtain ⟨o1, vs, f1, tf, fl, tg, inF, tx, tt, op, _, _, _, _, _, _, _, _, _, htr, _⟩ := hco'
    exact cont _ h' tk _ hx (Nat.le_trans hge (Nat.le_of_lt hlt)) htab'.2 ⟨_, rfl⟩ htr
  | some cv =>
    exact wpAny_genexprCode_hit hcode (cd.code hP2 ht) hf (cont cv h2 s1.toks ps (Heap.ExtBut.refl _ _) (Nat.le_refl _) hP2 ⟨#[], by simp⟩ ht)
end
end Lf

/-! Lf11: sum of a generator, a def with a code object; attributes, methods, makers. -/
namespace Lf
open PySem PySem.Spec PyProof.Rows L2
variable [Tabs]
/-! ### sum(f(i, x) for i, x in enumerate(xs)) -/
def tSumE (K : PySem.W.Frag) (P : Addr) (f : Int → Int → Option Int) (ta : TA) : TE := fun σ H Q => ta σ H fun vs H1 => ∃ (a : Addr) (js : List Int), vs = [.ref a] ∧ SqT K H1 a (js.map V.int) ∧ (∀ (i : Nat) (j : Int), js[i]? = some j → ∃ r, f i j = some r) ∧ GxR.TabG H1 P ∧
  ∀ H2, GxR.Tabbed P H1 H2 → Q (.int (preSum (genVal f js) js.length)) H2
section
variable {X : Cx} {c P : Addr} {elt e : Expr} {xa xb : Str} {pa pb pt p p0 pos pos0 gpos : Pos} {kt : Nat} {scope : Scope} {f : Int → Int → Option Int} {ta : TA} {k : Nat}
theorem boot_sum : bootBuiltins "sum" = some (.builtin "sum") := by first | rfl | decide +kernel | kernel_rfl
theorem pe_sumE (hr : Room k X.A) (hgs : Gl X "sum") (hms : X.mg "sum" = none) (TB : GxR.TabB X.base X.mg c P) (hcode : X.env.code = .ref c) (S : GenS2 X.env scope xa xb) (hg : Gl X "enumerate") (hmg : X.mg "enumerate" = none) (ha : PA X [e] ta) (hel : EltII X.prog X.w scope xa xb elt f)
    (he : starEach [e] X.env = [(false, eval e X.env)] := by rfl) (hs : ∀ v, genFold (.Call (.Name "enumerate" p) [e] [] pos) X.env v = pure v := by intro _; rfl)
    (he2 : starEach [.GeneratorExp elt [⟨.Tuple [.Name xa pa, .Name xb pb] kt pt, .Call (.Name "enumerate" p) [e] [] pos, [], 0⟩] scope gpos] X.env = (false, eval (.GeneratorExp elt [⟨.Tuple [.Name xa pa, .Name xb pb] kt pt, .Call (.Name "enumerate" p) [e] [] pos, [], 0⟩] scope gpos) X.env) :: starEach [] X.env := by rfl) :
    PE X (.Call (.Name "sum" p0) [.GeneratorExp elt [⟨.Tuple [.Name xa pa, .Name xb pb] kt pt, .Call (.Name "enumerate" p) [e] [] pos, [], 0⟩] scope gpos] [] pos0) (tSumE X.K P f ta) := by
  refine ⟨fun pins s σ H Q I h => ?_⟩
  refine wpAny_Call_Name_kw (ld_blt I hgs hms boot_sum (PyProof.Rows.callWith_builtin1 ?_ he2 (by rfl)))
  rw [he2]
  generalize hG : Expr.GeneratorExp elt [⟨.Tuple [.Name xa pa, .Name xb pb] kt pt, .Call (.Name "enumerate" p) [e] [] pos, [], 0⟩] scope gpos = ge
  show wpAny _ _ (spliced ((false, eval ge X.env) :: backTo pos0 (starEach [] X.env))) _ _ s
  subst hG
  refine Calls.spliced_cons (gen_enum (R := fun js H1 => ∀ H2, GxR.Tabbed P H1 H2 → Q (.int (preSum (genVal f js) js.length)) H2) hr TB hcode S hg hmg ha hel he hs I h fun js H1 g s5 fp wr Gr F St hR W st hfp hval hI => ?_)
  refine Calls.spliced_nil (sum_gen (W.self 0 _ _ _ st ⟨g, fp, wr, Gr, _, F, St, _, rfl, W, st, hfp, hval, fun s' t' hmv => ?_⟩))
  obtain ⟨H2, hT, J⟩ := hI s' hmv
  exact ⟨.int _, H2, J, ⟨t', rfl⟩, hR H2 hT⟩
end
def intsOf : List D → Option (List Int)
  | [] => some []
  | .int i :: ds => (intsOf ds).map (i :: ·)
  | _ :: _ => none
theorem intsOf_eq : ∀ {ds : List D} {js : List Int}, intsOf ds = some js → ds = js.map D.int
  | [], js, h => by cases h; rfl
  | .int i :: ds, js, h => by
    obtain ⟨ks, e, rfl⟩ := Option.map_eq_some_iff.mp h
    rw [intsOf_eq e]; rfl
  | .non :: _, _, h | .bl _ :: _, _, h | .str _ :: _, _, h | .tup _ :: _, _, h | .lst _ :: _, _, h | .frz _ :: _, _, h | .loc _ :: _, _, h => by cases h
theorem intsOf_map : ∀ js : List Int, intsOf (js.map D.int) = some js
  | [] => rfl
  | j :: js => by
    show (intsOf (js.map D.int)).map (j :: ·) = _
    rw [intsOf_map js]; rfl
theorem Reps.ints_of {K : PySem.W.Frag} {H : Hp} {μ : List Addr} : ∀ {vs : List V} {js : List Int}, Reps K H μ vs (js.map D.int) → vs = js.map V.int
  | _, [], h => by cases h; rfl
  | _, j :: js, h => by
    cases h with
    | cons r rr => cases r; rw [Reps.ints_of rr]; rfl
def sumOk (f : Int → Int → Option Int) (js : List Int) : Bool := (List.range js.length).all fun i => (js[i]?.bind fun j => f i j).isSome
def mSumE (f : Int → Int → Option Int) (m : M D) : M D := fun ρ G => (m ρ G).bind fun p => match p.1 with
  | .tup ds => (intsOf ds).bind fun js => if sumOk f js then some (.int (preSum (genVal f js) js.length), p.2) else none
  | _ => none
section
variable {F : Fam} {c P : Addr} {elt e : Expr} {xa xb : Str} {pa pb pt p p0 pos pos0 gpos : Pos} {kt : Nat} {scope : Scope} {f : Int → Int → Option Int} {m : M D}
theorem pm_sumE (hP : P ∈ Tabs.T) (hgs : ∀ i, Gl (F.X i) "sum") (hms : F.mg "sum" = none) (TB : GxR.TabB F.base F.mg c P) (hcode : ∀ i, (F.X i).env.code = .ref c) (S : ∀ i, GenS2 (F.X i).env scope xa xb) (hg : ∀ i, Gl (F.X i) "enumerate") (hmg : F.mg "enumerate" = none) (he : PM F e m) (hel : EltII F.P F.w scope xa xb elt f)
    (h1 : ∀ i, starEach [e] (F.X i).env = [(false, eval e (F.X i).env)] := by intro _; rfl) (hs : ∀ i v, genFold (.Call (.Name "enumerate" p) [e] [] pos) (F.X i).env v = pure v := by intro _ _; rfl)
    (h2 : ∀ i, starEach [.GeneratorExp elt [⟨.Tuple [.Name xa pa, .Name xb pb] kt pt, .Call (.Name "enumerate" p) [e] [] pos, [], 0⟩] scope gpos] (F.X i).env = (false, eval (.GeneratorExp elt [⟨.Tuple [.Name xa pa, .Name xb pb] kt pt, .Call (.Name "enumerate" p) [e] [] pos, [], 0⟩] scope gpos) (F.X i).env) :: starEach [] (F.X i).env := by intro _; rfl) :
    PM F (.Call (.Name "sum" p0) [.GeneratorExp elt [⟨.Tuple [.Name xa pa, .Name xb pb] kt pt, .Call (.Name "enumerate" p) [e] [] pos, [], 0⟩] scope gpos] [] pos0) (mSumE f m) := by
  obtain ⟨t, pe, ev⟩ := he
  refine ⟨tSumE F.K P f (tCons t tNil), fun i => ?_, ?_⟩
  · have := pe_sumE (X := F.X i) (c := c) (P := P) (pa := pa) (pb := pb) (pt := pt) (p := p) (p0 := p0) (pos := pos) (pos0 := pos0) (gpos := gpos) (kt := kt) (f := f) (elt := elt) (F.room i) (hgs i) (by rw [F.hm i]; exact hms) (by rw [F.hb i, F.hm i]; exact TB) (hcode i) (S i) (hg i) (by rw [F.hm i]; exact hmg) (pa_cons (pe i) pa_nil (h1 i)) (by rw [F.hP i, F.hw i]; exact hel) (h1 i) (hs i) (h2 i)
    rw [F.hK i] at this
    exact this
  intro Z Hf μ ρ G σ H R d G' h Q q
  unfold mSumE at h
  obtain ⟨⟨x, G1⟩, e1, h⟩ := Option.bind_eq_some_iff.mp h
  dsimp only at h
  split at h
  · rename_i ds
    obtain ⟨js, e2, h⟩ := Option.bind_eq_some_iff.mp h
    split at h
    · rename_i hok
      cases h
      have := intsOf_eq e2
      subst this
      refine ev Z Hf μ ρ G σ H R _ _ e1 _ fun Hf1 μ1 v H1 R1 s1 m1 r1 => ?_
      cases r1 with
      | @tup a xs _ hx rr =>
      have hxs := rr.ints_of
      subst hxs
      refine ⟨a, js, rfl, same_sqT R1.sub hx, fun i j hj => ?_, (R1.tab P hP).1, fun H2 hT => ?_⟩
      · have := List.all_eq_true.mp hok i (List.mem_range.mpr (List.getElem?_eq_some_iff.mp hj).1)
        rw [hj, Option.bind_some] at this
        exact Option.isSome_iff_exists.mp this
      · have g : Grow Hf1 H1 Hf1 H2 := by
          refine ⟨Same.refl _, fun a o z => ?_, fun a o n z => ?_, fun _ _ => rfl, fun a z => ?_, fun P' hP' t => ?_⟩
          · have : a ≠ P := fun y => R1.notab z (by rw [y]; exact hP)
            rw [hT.2 a this]; exact R1.sub a o z
          · have : a ≠ P := fun y => n (by rw [y]; exact hP)
            rw [hT.2 a this]; exact z
          · by_cases y : a = P
            · rw [y]; exact tabG_there hT.1
            · rw [hT.2 a y]; exact z
          · by_cases y : P' = P
            · rw [y]; exact hT.1
            · obtain ⟨ps, e3, t3⟩ := t
              exact ⟨ps, by rw [hT.2 P' y]; exact e3, t3⟩
        exact q Hf1 μ1 _ H2 (R1.grow g) s1 m1 (.int _)
    · cases h
  · cases h
end
end Lf

/-! Lf12: attributes, methods, makers; defs whose code object is known. -/
namespace Lf
open PySem PySem.Spec PyProof.Rows L2
variable [Tabs]
/-! ### attributes -/
def putFD (f : Str) (v : D) : List (Str × D) → List (Str × D)
  | [] => [(f, v)]
  | (g, x) :: r => if g = f then (g, v) :: r else (g, x) :: putFD f v r
section
variable {K : PySem.W.Frag} {H : Hp} {μ : List Addr}
theorem RepF.put {f : Str} {v : V} {d : D} (r : Rep K H μ v d) : ∀ {vs : List (Str × V)} {ds : List (Str × D)}, RepF K H μ vs ds → RepF K H μ (putF f v vs) (putFD f d ds)
  | _, _, .nil => .cons r .nil
  | _, _, .cons (x := g) h t => by
    unfold putF putFD
    by_cases e : g = f
    · rw [if_pos e, if_pos e]; exact .cons r t
    · rw [if_neg e, if_neg e]; exact .cons h (RepF.put r t)
theorem RepF.length : ∀ {vs : List (Str × V)} {ds : List (Str × D)}, RepF K H μ vs ds → vs.length = ds.length
  | _, _, .nil => rfl
  | _, _, .cons _ t => by rw [List.length_cons, List.length_cons, RepF.length t]
theorem RepF.look {f : Str} : ∀ {vs : List (Str × V)} {ds : List (Str × D)}, RepF K H μ vs ds → ∀ {d : D}, ds.lookup f = some d → ∃ v, vs.lookup f = some v ∧ Rep K H μ v d
  | _, _, .nil, d, e => by cases e
  | _, _, .cons (x := g) h t, d, e => by
    by_cases q : f = g
    · subst q
      rw [List.lookup_cons_self] at e ⊢
      cases e
      exact ⟨_, rfl, h⟩
    · have hb : (f == g) = false := beq_eq_false_iff_ne.mpr q
      rw [List.lookup_cons, hb] at e ⊢
      exact RepF.look t e
theorem RepF.none {f : Str} : ∀ {vs : List (Str × V)} {ds : List (Str × D)}, RepF K H μ vs ds → ds.lookup f = Option.none → vs.lookup f = Option.none
  | _, _, .nil, e => rfl
  | _, _, .cons (x := g) h t, e => by
    by_cases q : f = g
    · subst q
      rw [List.lookup_cons_self] at e
      cases e
    · have hb : (f == g) = false := beq_eq_false_iff_ne.mpr q
      rw [List.lookup_cons, hb] at e ⊢
      exact RepF.none t e
end
def cellI (c : Nat) (G : Sto) (d : D) : Option (Nat × List (Str × D)) := match d with
  | .loc l => (match G.cs[l]? with | some (.ins c' fs) => if c' = c then some (l, fs) else none | _ => none)
  | _ => none
theorem cellI_loc {c : Nat} {G : Sto} {d : D} {l : Nat} {fs : List (Str × D)} (h : cellI c G d = some (l, fs)) : d = .loc l ∧ G.cs[l]? = some (.ins c fs) := by
  unfold cellI at h
  split at h
  · split at h
    · rename_i hg
      split at h
      · rename_i hc
        subst hc
        cases h
        exact ⟨rfl, hg⟩
      · cases h
    · cases h
  · cases h
theorem cellI_at {c l : Nat} {G : Sto} {fs : List (Str × D)} (h : G.cs[l]? = some (.ins c fs)) : cellI c G (.loc l) = some (l, fs) := by
  unfold cellI
  dsimp only
  rw [h]
  exact if_pos rfl
section
variable {K : PySem.W.Frag} {Z : Act} {Hf : Hp} {μ : List Addr} {ρ : Evn} {G : Sto} {σ : L2.St} {H : Hp}
theorem Rel.cellI (R : Rel K Z Hf μ ρ G σ H) {c : Nat} {v : V} {d : D} {l : Nat} {fs : List (Str × D)} (r : Rep K Hf μ v d) (e : cellI c G d = some (l, fs)) :
    ∃ a dx fv, v = .ref a ∧ μ[l]? = some a ∧ H a = some (.ins (Tabs.C c) dx fv) ∧ RepF K Hf μ fv fs ∧ Hf a = none ∧ l < G.cs.length := by
  obtain ⟨rfl, hg⟩ := cellI_loc e
  cases r with
  | loc ha =>
  obtain ⟨hn, dx, fv, hv, rr⟩ := R.cells _ _ _ hg ha
  exact ⟨_, dx, fv, rfl, ha, hv, rr, hn, (List.getElem?_eq_some_iff.mp hg).1⟩
theorem Rel.setI (R : Rel K Z Hf μ ρ G σ H) {c l : Nat} {a dx : Addr} {fv : List (Str × V)} {fs : List (Str × D)} (hl : l < G.cs.length) (ha : μ[l]? = some a) (hf : Hf a = none) (rr : RepF K Hf μ fv fs) : Rel K Z Hf μ ρ (G.set l (.ins c fs)) σ (upd H a (.ins (Tabs.C c) dx fv)) :=
  R.setCell hl ha hf ⟨hf, dx, fv, upd_same, rr⟩
end
def mFld (c : Nat) (f : Str) (o : M D) : M D := fun ρ G => (o ρ G).bind fun p => (cellI c p.2 p.1).bind fun q => (q.2.lookup f).bind fun d => some (d, p.2)
def mSetF (c : Nat) (f : Str) (o e : M D) : MS := fun ρ G => (e ρ G).bind fun p => (o ρ p.2).bind fun q => (cellI c q.2 q.1).bind fun r => if r.2.length < 1000 then some (.nx, ρ, q.2.set r.1 (.ins c (putFD f p.1 r.2))) else none
def mAugF (c : Nat) (f : Str) (op : D → D → Option D) (o e : M D) : MS := fun ρ G => (o ρ G).bind fun p => (cellI c p.2 p.1).bind fun q => (q.2.lookup f).bind fun x => (e ρ p.2).bind fun y => (op x y.1).bind fun z =>
  (cellI c y.2 p.1).bind fun r => if r.2.length < 1000 then some (.nx, ρ, y.2.set r.1 (.ins c (putFD f z r.2))) else none
/-- int + int -/
def iAdd : D → D → Option D | .int i, .int j => some (.int (i + j)) | _, _ => none
theorem iAdd_some {w y z : D} (h : iAdd w y = some z) : ∃ i j, w = .int i ∧ y = .int j ∧ z = .int (i + j) := by
  unfold iAdd at h
  split at h
  · cases h; exact ⟨_, _, rfl, rfl, rfl⟩
  · cases h
section
variable {F : Fam} {c : Nat} {f : Str} {o e : Expr} {mo me : M D} {pos pos' tpos : Pos}
theorem pm_fld (hc : Cls F.K (Tabs.C c)) (hn : NoAttr F.K (Tabs.C c) f) (ho : PM F o mo) (hb : ∀ i, attributeBase o f (F.X i).env (eval o (F.X i).env) = eval o (F.X i).env := by intro _; rfl) : PM F (.Attribute o f pos) (mFld c f mo) := by
  obtain ⟨t, po, eo⟩ := ho
  refine ⟨tFld F.K t f, fun i => by
    have h := pe_fld (pos := pos) (po i) (hb i)
    rw [F.hK i] at h
    exact h, ?_⟩
  intro Z Hf μ ρ G σ H R d G' h Q q
  unfold mFld at h
  obtain ⟨⟨x, G1⟩, e1, h⟩ := Option.bind_eq_some_iff.mp h
  obtain ⟨⟨l, fs⟩, e2, h⟩ := Option.bind_eq_some_iff.mp h
  obtain ⟨y, e3, h⟩ := Option.bind_eq_some_iff.mp h
  cases h
  refine eo Z Hf μ ρ G σ H R _ _ e1 _ fun Hf1 μ1 v H1 R1 s1 m1 r1 => ?_
  obtain ⟨a, dx, fv, rfl, ha, hv, rr, hf, hl⟩ := R1.cellI r1 e2
  obtain ⟨u, hu, ru⟩ := rr.look e3
  exact ⟨a, _, dx, fv, u, rfl, hv, hc, hn, hu, q Hf1 μ1 u H1 R1 s1 m1 ru⟩
theorem q_setF (hc : Cls F.K (Tabs.C c)) (hn : NoAttr F.K (Tabs.C c) f) (ho : PM F o mo) (he : PM F e me) (hs : ∀ i, swapsWith e (some (.Attribute o f pos')) pos.line (F.X i).env = pure false := by intro _; rfl) : QS F (.Assign [.Attribute o f pos'] e pos) (mSetF c f mo me) := by
  obtain ⟨t, po, eo⟩ := ho
  obtain ⟨te, pe, ee⟩ := he
  refine ⟨sFld F.K t te f, fun i => by
    have h := ps_fld (po i) (pe i) (hs i)
    rw [F.hK i] at h
    exact h, ?_⟩
  intro Z Hf μ ρ G σ H R out ρ' G' h E q
  unfold mSetF at h
  obtain ⟨⟨x, G1⟩, e1, h⟩ := Option.bind_eq_some_iff.mp h
  obtain ⟨⟨y, G2⟩, e2, h⟩ := Option.bind_eq_some_iff.mp h
  obtain ⟨⟨l, fs⟩, e3, h⟩ := Option.bind_eq_some_iff.mp h
  dsimp only at h
  split at h
  · rename_i hz
    cases h
    refine ee Z Hf μ ρ G σ H R _ _ e1 _ fun Hf1 μ1 v H1 R1 s1 m1 r1 => ?_
    refine eo Z Hf1 μ1 ρ G1 σ H1 R1 _ _ e2 _ fun Hf2 μ2 u H2 R2 s2 m2 r2 => ?_
    obtain ⟨a, dx, fv, rfl, ha, hv, rr, hf, hl⟩ := R2.cellI r2 e3
    refine ⟨a, _, dx, fv, rfl, hv, hc, hn, by rw [rr.length]; exact hz, ?_⟩
    exact q Hf2 μ2 σ _ (R2.setI hl ha hf (rr.put (r1.mono s2 m2))) (s1.trans s2) (m1.trans m2)
  · cases h
theorem q_augF (hc : Cls F.K (Tabs.C c)) (hn : NoAttr F.K (Tabs.C c) f) (ho : PM F o mo) (he : PM F e me) : QS F (.AugAssign (.Attribute o f tpos) .Add e pos) (mAugF c f iAdd mo me) := by
  obtain ⟨t, po, eo⟩ := ho
  obtain ⟨te, pe, ee⟩ := he
  refine ⟨sFldAug F.K t te rAdd f, fun i => by
    have h := ps_fldaug (tpos := tpos) (pos := pos) (f := f) (po i) (pe i) in_add
    rw [F.hK i] at h
    exact h, ?_⟩
  intro Z Hf μ ρ G σ H R out ρ' G' h E q
  unfold mAugF at h
  obtain ⟨⟨x, G1⟩, e1, h⟩ := Option.bind_eq_some_iff.mp h
  obtain ⟨⟨l, fs⟩, e2, h⟩ := Option.bind_eq_some_iff.mp h
  obtain ⟨w, e3, h⟩ := Option.bind_eq_some_iff.mp h
  obtain ⟨⟨y, G2⟩, e4, h⟩ := Option.bind_eq_some_iff.mp h
  obtain ⟨z, e5, h⟩ := Option.bind_eq_some_iff.mp h
  obtain ⟨⟨l', fs'⟩, e6, h⟩ := Option.bind_eq_some_iff.mp h
  dsimp only at h
  split at h
  · rename_i hz
    cases h
    refine eo Z Hf μ ρ G σ H R _ _ e1 _ fun Hf1 μ1 v H1 R1 s1 m1 r1 => ?_
    obtain ⟨a, dx, fv, rfl, ha, hv, rr, hf, hl⟩ := R1.cellI r1 e2
    obtain ⟨u, hu, ru⟩ := rr.look e3
    refine ⟨a, _, dx, fv, u, rfl, hv, hc, hn, hu, ?_⟩
    refine ee Z Hf1 μ1 ρ G1 σ H1 R1 _ _ e4 _ fun Hf2 μ2 w2 H2 R2 s2 m2 r2 => ?_
    obtain ⟨a', dx', fv', ea, ha', hv', rr', hf', hl'⟩ := R2.cellI (r1.mono s2 m2) e6
    cases ea
    obtain ⟨i, j, rfl, rfl, rfl⟩ := iAdd_some e5
    cases ru
    cases r2
    refine ⟨_, _, rfl, rfl, dx', fv', hv', by rw [rr'.length]; exact hz, ?_⟩
    exact q Hf2 μ2 σ _ (R2.setI hl' ha' hf' (rr'.put (.int _))) (s1.trans s2) (m1.trans m2)
  · cases h
end
/-! ### methods and makers -/
def mMeth (c : Nat) (m : Str) (f : Fn) (o : M D) (ms : M (List D)) : M D := fun ρ G => (o ρ G).bind fun p => (cellI c p.2 p.1).bind fun q => if (q.2.lookup m).isNone then (ms ρ p.2).bind fun r => (f (p.1 :: r.1) ⟨r.2.cs.length, r.2.cs⟩).bind fun u => some (u.1, ⟨r.2.n0, u.2.cs⟩) else none
def mMake (c : Nat) (f : Fn) (ms : M (List D)) : M D := fun ρ G => (ms ρ G).bind fun p => (f (.loc p.2.cs.length :: p.1) ⟨p.2.cs.length + 1, p.2.cs ++ [.ins c []]⟩).bind fun u => match u.1 with
  | .non => some (.loc p.2.cs.length, ⟨p.2.n0, u.2.cs⟩)
  | _ => none
def HasM (P : Program) (w : World) (K : PySem.W.Frag) (mg : Str → Option Value) (base : Heap) (c : Nat) (m qual : Str) (st : Stmt) (k : Nat) (ps : List Str) (f : Fn) : Prop :=
  ∃ a fd, Meth K (Tabs.C c) m a ∧ Fun K m qual st a fd ∧ Binds K fd ps [] ∧ FnOk P w K mg base CX0 k a fd ps (spM K f)
def HasI (P : Program) (w : World) (K : PySem.W.Frag) (mg : Str → Option Value) (base : Heap) (c : Nat) (x qual : Str) (st : Stmt) (k : Nat) (ps : List Str) (f : Fn) : Prop :=
  mg x = some (.ref (Tabs.C c)) ∧ ∃ a fd, Mk K (Tabs.C c) a ∧ Fun K "__init__" qual st a fd ∧ Binds K fd ps [] ∧ FnOk P w K mg base CX0 k a fd ps (spM K f)
section
variable {F : Fam} {c : Nat} {m x qual : Str} {st : Stmt} {k : Nat} {ps : List Str} {f : Fn} {o e : Expr} {es : List Expr} {mo : M D} {ms : M (List D)} {apos p pos : Pos}
theorem ev_meth {K : PySem.W.Frag} {t : TE} {ta : TA} (ho : EvE K t mo) (h : EvA K ta ms) : EvE K (tMeth (Tabs.C c) m (spM K f) [] E0 t ta) (mMeth c m f mo ms) := by
  intro Z Hf μ ρ G σ H R d G' e Q q
  unfold mMeth at e
  obtain ⟨⟨x, G1⟩, e1, e⟩ := Option.bind_eq_some_iff.mp e
  obtain ⟨⟨l, fs⟩, e2, e⟩ := Option.bind_eq_some_iff.mp e
  split at e
  · rename_i hn
    obtain ⟨⟨ds, G2⟩, e3, e⟩ := Option.bind_eq_some_iff.mp e
    obtain ⟨⟨y, G3⟩, e4, e⟩ := Option.bind_eq_some_iff.mp e
    cases e
    refine ho Z Hf μ ρ G σ H R _ _ e1 _ fun Hf1 μ1 v H1 R1 s1 m1 r1 => ?_
    obtain ⟨a, dx, fv, rfl, ha, hv, rr, hf, hl⟩ := R1.cellI r1 e2
    refine ⟨a, dx, fv, rfl, hv, rr.none (Option.isNone_iff_eq_none.mp hn), ?_⟩
    refine h Z Hf1 μ1 ρ G1 σ H1 R1 _ _ e3 _ fun Hf2 μ2 vs H2 R2 s2 m2 r2 => ?_
    rw [List.append_nil]
    refine ⟨Hf2, μ2, ⟨G2.cs.length, G2.cs⟩, _, _, G3, R2.enter, .cons (r1.mono s2 m2) r2, e4, fun Hf3 μ3 v H3 R3 r3 => ?_⟩
    exact q Hf3 μ3 v H3 (R2.leave R3) ((s1.trans s2).trans R3.base) ((m1.trans m2).trans R3.pre) r3
  · cases e
theorem pm_meth0 {pl : F.ι → Sem Bool} (hc : Cls F.K (Tabs.C c)) (h : HasM F.P F.w F.K F.mg F.base c m qual st k ps f) (hk : k ≤ F.k) (ho : PM F o mo)
    (ht : ∀ i, eval (.Call (.Attribute o m apos) [] [] pos) (F.X i).env = (do
      let ov ← eval o (F.X i).env
      standAt apos.atName
      let (f, first) ← holding [ov] (getMethod ov m (pl i))
      callWith pos f first (backTo pos (starEach [] (F.X i).env)) (backToKw pos (keywordEach [] (F.X i).env))) := by intro _; rfl) : PM F (.Call (.Attribute o m apos) [] [] pos) (mMeth c m f mo mNil) := by
  obtain ⟨a, fd, h1, h2, h3, h4⟩ := h
  obtain ⟨t, po, eo⟩ := ho
  refine ⟨_, fun i => pe_meth0 (po i) (by rw [F.hK i]; exact hc) (by rw [F.hK i]; exact h1) (has_fn h4) ((F.room i).mono hk) (by rw [F.hK i]; exact h3) .nil pass0 (ht i), ev_meth eo ?_⟩
  intro Z Hf μ ρ G σ H R ds G' e Q q
  cases e
  exact q Hf μ [] H R (Same.refl _) (List.prefix_refl _) .nil
theorem pm_meth {pl : F.ι → Sem Bool} (hc : Cls F.K (Tabs.C c)) (h : HasM F.P F.w F.K F.mg F.base c m qual st k ps f) (hk : k ≤ F.k) (ho : PM F o mo) (ha : PL F (e :: es) ms)
    (hst : ∀ i, starEach (e :: es) (F.X i).env = (false, eval e (F.X i).env) :: starEach es (F.X i).env := by intro _; rfl) (hpl : ∀ i, (backTo pos (starEach es (F.X i).env)).any (·.1) = false := by intro _; rfl)
    (ht : ∀ i, eval (.Call (.Attribute o m apos) (e :: es) [] pos) (F.X i).env = (do
      let ov ← eval o (F.X i).env
      standAt apos.atName
      let (f, first) ← holding [ov] (getMethod ov m (pl i))
      callWith pos f first (backTo pos (starEach (e :: es) (F.X i).env)) (backToKw pos (keywordEach [] (F.X i).env))) := by intro _; rfl) : PM F (.Call (.Attribute o m apos) (e :: es) [] pos) (mMeth c m f mo ms) := by
  obtain ⟨a, fd, h1, h2, h3, h4⟩ := h
  obtain ⟨t, po, eo⟩ := ho
  obtain ⟨ta, pa, ea⟩ := ha
  exact ⟨_, fun i => pe_meth (po i) (by rw [F.hK i]; exact hc) (by rw [F.hK i]; exact h1) (has_fn h4) ((F.room i).mono hk) (by rw [F.hK i]; exact h3) .nil pass0 (pa i) (hst i) (hpl i) (ht i), ev_meth eo ea⟩
theorem ev_make {K : PySem.W.Frag} {ta : TA} (h : EvA K ta ms) : EvE K (tMake (Tabs.C c) (spM K f) [] E0 ta) (mMake c f ms) := by
  intro Z Hf μ ρ G σ H R d G' e Q q
  unfold mMake at e
  obtain ⟨⟨ds, G1⟩, e1, e⟩ := Option.bind_eq_some_iff.mp e
  obtain ⟨⟨y, G2⟩, e2, e⟩ := Option.bind_eq_some_iff.mp e
  dsimp only at e
  split at e
  · cases e
    refine h Z Hf μ ρ G σ H R _ _ e1 _ fun Hf1 μ1 vs H1 R1 s1 m1 r1 => ?_
    intro x dx hx hdx hne
    rw [List.append_nil]
    have R2 := R1.extra (R1.apart hdx) (.own x)
    have hx2 : upd H1 dx (.own x) x = none := by rw [upd_ne hne.symm]; exact hx
    have R3 := R2.newCell (o := .ins (Tabs.C c) dx []) (c := .ins c []) hx2 ⟨R2.sub.free hx2, dx, [], upd_same, .nil⟩
    have hself : Rep K Hf1 (μ1 ++ [x]) (.ref x) (.loc G1.cs.length) := .loc (by rw [List.getElem?_append_right (by rw [R1.len]; exact Nat.le_refl _), R1.len, Nat.sub_self]; rfl)
    have hl : (G1.cs ++ [Cell.ins c []]).length = G1.cs.length + 1 := by rw [List.length_append]; rfl
    have R4 := R3.enter
    rw [show (G1.push (.ins c [])).cs.length = G1.cs.length + 1 from hl] at R4
    refine ⟨Hf1, μ1 ++ [x], _, _, _, G2, R4, .cons hself (r1.mono (Same.refl _) pre_app), e2, fun Hf2 μ2 v H2 R5 r5 => ?_⟩
    cases r5
    refine ⟨rfl, ?_⟩
    have R6 := R3.leave R5
    exact q Hf2 μ2 _ H2 R6 (s1.trans R5.base) ((m1.trans pre_app).trans R5.pre) (hself.mono R5.base R5.pre)
  · cases e
theorem pm_make (h : HasI F.P F.w F.K F.mg F.base c x qual st k ps f) (hk : k + 1 ≤ F.k) (hg : ∀ i, Gl (F.X i) x) (ha : PL F (e :: es) ms) (hdb : (x == ("__debug__" : Str)) = false := by decide) (he : ∀ i, starEach (e :: es) (F.X i).env = (false, eval e (F.X i).env) :: starEach es (F.X i).env := by intro _; rfl) (hpl : ∀ i, (backTo pos (starEach es (F.X i).env)).any (·.1) = false := by intro _; rfl) :
    PM F (.Call (.Name x p) (e :: es) [] pos) (mMake c f ms) := by
  obtain ⟨hm, a, fd, h1, h2, h3, h4⟩ := h
  obtain ⟨t, pa, ev⟩ := ha
  exact ⟨_, fun i => pe_make (by rw [F.hK i]; exact h1) (has_fn h4) ((F.room i).mono hk) (hg i) (by rw [F.hm i]; exact hm) (by rw [F.hK i]; exact h3) .nil pass0 (pa i) hdb (he i) (hpl i), ev_make ev⟩
end
end Lf

/-! Lf13: sum of a list; defs whose code object is known, methods; the ends over a head's facts. -/
namespace Lf
open PySem PySem.Spec PyProof.Rows L2
variable [Tabs]
def bSum : Sto → List D → Option D
  | _, [.lst ds] => (intsOf ds).map fun js => .int js.sum
  | _, [.frz ds] => (intsOf ds).map fun js => .int js.sum
  | _, _ => none
theorem co_sum {K : PySem.W.Frag} : CrOk K (rSum K) bSum := by
  intro G ds z e Z Hf μ ρ σ H R vs r Q q
  unfold bSum at e
  split at e
  · obtain ⟨js, e1, e2⟩ := Option.map_eq_some_iff.mp e
    cases e2
    cases r with
    | cons h t =>
      cases t
      have := intsOf_eq e1
      subst this
      cases h with
      | lst hx rr =>
        have := rr.ints_of
        subst this
        exact ⟨_, js, rfl, SqL.of (R.sub _ _ hx), q Hf H _ (Grow.refl R.sub) (.int _)⟩
  · obtain ⟨js, e1, e2⟩ := Option.map_eq_some_iff.mp e
    cases e2
    cases r with
    | cons h t =>
      cases t
      have := intsOf_eq e1
      subst this
      cases h with
      | frz hx rr =>
        have := rr.ints_of
        subst this
        exact ⟨_, js, rfl, same_sqL R.sub hx, q Hf H _ (Grow.refl R.sub) (.int _)⟩
  · cases e
theorem pm_sum {F : Fam} {p pos : Pos} {e : Expr} {ms : M (List D)} (hg : ∀ i, Gl (F.X i) "sum") (hm : F.mg "sum" = none) (ha : PL F [e] ms) (he : ∀ i, starEach [e] (F.X i).env = (false, eval e (F.X i).env) :: starEach [] (F.X i).env := by intro _; rfl) : PM F (.Call (.Name "sum" p) [e] [] pos) (mCB bSum ms) :=
  pm_callB (fun i => by have h := cr_sum (X := F.X i) (F.calm i); rw [F.hK i] at h; exact h) co_sum hg hm (by decide +kernel) ha (he := he)
/-! ### defs -/
section
variable {P : Program} {w : World} {K : PySem.W.Frag} {mg : Str → Option Value} {base : Heap}
/-- THE RULE for a def whose code object is told -/
theorem fn_okG {Pc : Value → Prop} {x qual : Str} {st : Stmt} {f : Addr} {fd : FuncData} {N ps : List Str} {k np : Nat} {b : MS} {fi : Sto → D → Sto → Option (D × Sto)} (hfi : FinOk fi) (Fn : Fun K x qual st f fd) (hpc : Pc fd.code) (S : FnScope N ps (defScope st)) (hnp : ps.length = np)
    (hbody : ∀ (cdv : Value) (A : Around) (outer : List Env) (s : Shared) (H : Hp) (E : XK) (hr : Room k (A.deeper (envOfC qual (defScope st) s.heap.objs.size f cdv))), Pc cdv → QSs (famOf P w K mg base N qual (defScope st) f cdv A outer s H E k S.nd hr) (defBody st) b) :
    FnOk P w K mg base CX0 (k + 1) f fd ps (spM K (runBody fi N.length np b)) := by
  obtain ⟨oc, od, kV, doc, pm, an, cdv, ct, osl, rfl, lk, hcd⟩ := Fn.ex
  refine fn_of lk hcd S (fun vs H Q E h => ?_) fun A outer s H vs Q E hr h => ?_
  · obtain ⟨Hf, μ, G, ds, d, G', R, r, e, q⟩ := h
    unfold runBody at e
    split at e
    · rename_i hl
      rw [r.length, hl, hnp]
    · cases e
  · obtain ⟨Hf, μ, G, ds, d, G', R, r, e, q⟩ := h
    obtain ⟨t, p, ev⟩ := hbody cdv A outer s H E hr hpc
    refine ⟨t, (p ()).nox, ?_⟩
    unfold runBody at e
    split at e
    · rename_i hl
      obtain ⟨⟨o, ρ1, G1⟩, e1, e⟩ := Option.bind_eq_some_iff.mp e
      have hn : G.n0 = μ.length := R.n0
      have hcl : G.cs.length = μ.length := R.len.symm
      have R0 : Rel K (Act.entry H Hf μ) Hf μ (ds.map some ++ List.replicate (N.length - np) none) ⟨G.cs.length, G.cs⟩ (L2.start N vs) H := by
        have R1 := R.envs (hl ▸ start_env (N := N) r)
        exact ⟨R1.sub, R1.base, R1.old, R1.keep, R1.live, R1.pre, R1.new, R1.nd, R1.len, hcl, R1.cells, R1.env, R1.tab⟩
      refine ev (Act.entry H Hf μ) Hf μ _ _ _ H R0 o ρ1 G1 e1 _ ?_
      cases o with
      | nx =>
        intro Hf1 μ1 σ1 H1 R1 s1 m1
        obtain ⟨μ2, R2, r2⟩ := hfi.ok (v := V.non) e hcl hn R1 .non
        exact q Hf1 μ2 _ H1 R2 r2
      | rt d1 =>
        intro Hf1 μ1 v σ1 H1 R1 s1 m1 r1
        obtain ⟨μ2, R2, r2⟩ := hfi.ok e hcl hn R1 r1
        exact q Hf1 μ2 _ H1 R2 r2
      | bk => cases e
      | ct => cases e
    · cases e
/-- a def, its code object at c -/
def FunAtC (K : PySem.W.Frag) (mg : Str → Option Value) (x : Str) (st : Stmt) (c : Addr) : Prop := ∃ a fd, mg x = some (.ref a) ∧ Fun K x x st a fd ∧ fd.code = .ref c
/-- a method of the class c -/
def MethAt (K : PySem.W.Frag) (c : Nat) (m qual : Str) (st : Stmt) : Prop := ∃ a fd, Meth K (Tabs.C c) m a ∧ Fun K m qual st a fd
/-- the __init__ of the class c, of the name x; cc its code object -/
def InitAt (K : PySem.W.Frag) (mg : Str → Option Value) (c : Nat) (x qual : Str) (st : Stmt) (cc : Addr) : Prop := mg x = some (.ref (Tabs.C c)) ∧ ∃ a fd, Mk K (Tabs.C c) a ∧ Fun K "__init__" qual st a fd ∧ fd.code = .ref cc
abbrev BindH (x qual : Str) (st : Stmt) (ps : List Str) : Prop := ∀ (kV doc pm : Value) (an : Option Addr) (cdv ct : Value) (us : List Value), us.length = ps.length → bindArgs (PySem.W.fnOf x qual (defArgs st) (defBody st) (defScope st) .none kV doc pm an cdv ct) ⟨us, []⟩ = pure (ps.zip us)
theorem has_ofC {x : Str} {st : Stmt} {N ps : List Str} {k np n : Nat} {b : MS} {c : Addr} {fi : Sto → D → Sto → Option (D × Sto)} (hfi : FinOk fi) (A : FunAtC K mg x st c) (S : FnScope N ps (defScope st)) (hnp : ps.length = np) (hN : N.length = n) (hbd : BindH x x st ps)
    (hbody : ∀ (f : Addr) (cdv : Value) (A : Around) (outer : List Env) (s : Shared) (H : Hp) (E : XK) (hr : Room k (A.deeper (envOfC x (defScope st) s.heap.objs.size f cdv))), cdv = .ref c → QSs (famOf P w K mg base N x (defScope st) f cdv A outer s H E k S.nd hr) (defBody st) b) :
    Has P w K mg base x st (k + 1) ps (runBody fi n np b) := by
  obtain ⟨a, fd, h1, h2, h3⟩ := A
  subst hN
  exact ⟨a, fd, h1, h2, h2.binds hbd, fn_okG (Pc := fun v => v = .ref c) hfi h2 h3 S hnp fun cdv A outer s H E hr hc => hbody a cdv A outer s H E hr hc⟩
theorem has_ofM {cl : Nat} {m qual : Str} {st : Stmt} {N ps : List Str} {k np n : Nat} {b : MS} {fi : Sto → D → Sto → Option (D × Sto)} (hfi : FinOk fi) (A : MethAt K cl m qual st) (S : FnScope N ps (defScope st)) (hnp : ps.length = np) (hN : N.length = n) (hbd : BindH m qual st ps)
    (hbody : ∀ (f : Addr) (cdv : Value) (A : Around) (outer : List Env) (s : Shared) (H : Hp) (E : XK) (hr : Room k (A.deeper (envOfC qual (defScope st) s.heap.objs.size f cdv))), QSs (famOf P w K mg base N qual (defScope st) f cdv A outer s H E k S.nd hr) (defBody st) b) :
    HasM P w K mg base cl m qual st (k + 1) ps (runBody fi n np b) := by
  obtain ⟨a, fd, h1, h2⟩ := A
  subst hN
  exact ⟨a, fd, h1, h2, h2.binds hbd, fn_ok hfi h2 S hnp fun cdv A outer s H E hr => hbody a cdv A outer s H E hr⟩
theorem has_ofI {cl : Nat} {x qual : Str} {st : Stmt} {N ps : List Str} {k np n : Nat} {b : MS} {cc : Addr} {fi : Sto → D → Sto → Option (D × Sto)} (hfi : FinOk fi) (A : InitAt K mg cl x qual st cc) (S : FnScope N ps (defScope st)) (hnp : ps.length = np) (hN : N.length = n) (hbd : BindH "__init__" qual st ps)
    (hbody : ∀ (f : Addr) (cdv : Value) (A : Around) (outer : List Env) (s : Shared) (H : Hp) (E : XK) (hr : Room k (A.deeper (envOfC qual (defScope st) s.heap.objs.size f cdv))), cdv = .ref cc → QSs (famOf P w K mg base N qual (defScope st) f cdv A outer s H E k S.nd hr) (defBody st) b) :
    HasI P w K mg base cl x qual st (k + 1) ps (runBody fi n np b) := by
  obtain ⟨hm, a, fd, h1, h2, h3⟩ := A
  subst hN
  exact ⟨hm, a, fd, h1, h2, h2.binds hbd, fn_okG (Pc := fun v => v = .ref cc) hfi h2 h3 S hnp fun cdv A outer s H E hr hc => hbody a cdv A outer s H E hr hc⟩
end
/-! ### elements of a generator -/
def eA : Int → Int → Option Int := fun i _ => some i
def eB : Int → Int → Option Int := fun _ j => some j
def eC (k : Int) : Int → Int → Option Int := fun _ _ => some k
def eAdd (f g : Int → Int → Option Int) : Int → Int → Option Int := fun i j => (f i j).bind fun x => (g i j).bind fun y => oAdd x y
def eMul (f g : Int → Int → Option Int) : Int → Int → Option Int := fun i j => (f i j).bind fun x => (g i j).bind fun y => oMul x y
section
variable {prog : Program} {w : World} {scope : Scope} {xa xb : Str} {a b : Expr} {p : Pos} {f g : Int → Int → Option Int}
theorem ge_a (hk : scope.kind = .function) (hl : scope.names.lookup xa = some .local) (hd : (xa == ("__debug__" : Str)) = false := by decide) : EltII prog w scope xa xb (.Name xa p) eA := elt_a hk hl hd
theorem ge_b (hk : scope.kind = .function) (hl : scope.names.lookup xb = some .local) (hd : (xb == ("__debug__" : Str)) = false := by decide) : EltII prog w scope xa xb (.Name xb p) eB := elt_b hk hl hd
theorem ge_c {k : Int} {t : Nat} : EltII prog w scope xa xb (.Constant (.int k) t p) (eC k) := elt_c
theorem ge_add (ha : EltII prog w scope xa xb a f) (hb : EltII prog w scope xa xb b g) : EltII prog w scope xa xb (.BinOp a .Add b p) (eAdd f g) := elt_add ha hb
theorem ge_mul (ha : EltII prog w scope xa xb a f) (hb : EltII prog w scope xa xb b g) : EltII prog w scope xa xb (.BinOp a .Mult b p) (eMul f g) := elt_mul ha hb
theorem genS2_of {env : Env} (h1 : scope.kind = .function) (h2 : scope.isCoroutine = false) (h3 : (scope.names.all fun y => y.2 != .cell) = true) (h4 : scope.names.lookup (".0" : Str) = some NameKind.local) (h5 : scope.names.lookup xa = some .local) (h6 : scope.names.lookup xb = some .local) (h7 : xa ≠ xb) (h8 : (scope.names.all fun y => y.2 != .free) = true) : GenS2 env scope xa xb :=
  ⟨h1, h2, fun y hy e => (by have := List.all_eq_true.mp h3 y hy; rw [e] at this; cases this), h4, h5, h6, h7, fun y hy e => (by have := List.all_eq_true.mp h8 y hy; rw [e] at this; cases this)⟩
end
end Lf

/-! Lf14: the facts that a head's Hook tells, the end of a law. -/
namespace Lf
open PySem PySem.Spec PyProof.Rows L2
/-- a def's datum -/
abbrev ddOf (at_ : Str × Option Str) (x qual : Str) (st : Stmt) : He.DefD := ⟨at_, x, qual, defArgs st, defBody st, defScope st, [], []⟩
section
variable {K : PySem.W.Frag} {mg : Str → Option Value} {h : Heap} {fa : List He.Fa} {fn : List He.DefD} {x qual m : Str} {st : Stmt}
theorem fun_i {at_ : Str × Option Str} (c : He.SaysD fa fn K) (j : Nat) (h2 : fn[j]? = some (ddOf at_ x qual st)) : ∃ fd, Fun K x qual st (He.fAd K at_) fd ∧ fd.code = .ref (He.codeOf K at_) := by
  obtain ⟨fd, F⟩ := c.def_ j h2
  have F2 : Fun K x qual st (He.fAd K at_) fd := He5.fun_of F
  refine ⟨fd, F2, ?_⟩
  obtain ⟨oc, od, kV, doc, pm, an, cdv, ct, osl, rfl, lk, hcd⟩ := F2.ex
  obtain ⟨cc, rfl⟩ := He.codeIn_ref hcd
  have := He.codeOf_eq lk (c := cc) rfl
  rw [this]
theorem funAt_i (X : K.In h) (G : h.Ns mainGlobals mg) (c : He.SaysD fa fn K) (i j : Nat) (h1 : fa[i]? = some (.glo x)) (h2 : fn[j]? = some (ddOf (x, none) x x st)) : FunAt K mg x st := by
  obtain ⟨fd, F, _⟩ := fun_i c j h2
  exact ⟨He.ga K x, fd, He.glo_ok X G (c.fact i h1), F⟩
theorem funAtC_i (X : K.In h) (G : h.Ns mainGlobals mg) (c : He.SaysD fa fn K) (i j : Nat) (h1 : fa[i]? = some (.glo x)) (h2 : fn[j]? = some (ddOf (x, none) x x st)) : FunAtC K mg x st (He.codeOf K (x, none)) := by
  obtain ⟨fd, F, hc⟩ := fun_i c j h2
  exact ⟨He.ga K x, fd, He.glo_ok X G (c.fact i h1), F, hc⟩
theorem methAt_i [Tabs] {C : Str} {t : Nat} (c : He.SaysD fa fn K) (hC : Tabs.C t = He.ga K C) (i j : Nat) (h1 : fa[i]? = some (.meth C m)) (h2 : fn[j]? = some (ddOf (C, some m) m qual st)) : MethAt K t m qual st := by
  obtain ⟨fd, F, _⟩ := fun_i c j h2
  refine ⟨He.ma K (He.ga K C) m, fd, ?_, F⟩
  rw [hC]
  exact He.meth_ok (c.fact i h1)
theorem initAt_i [Tabs] {C : Str} {t : Nat} (X : K.In h) (G : h.Ns mainGlobals mg) (c : He.SaysD fa fn K) (hC : Tabs.C t = He.ga K C) (g i j : Nat) (h0 : fa[g]? = some (.glo C)) (h1 : fa[i]? = some (.mkr C)) (h2 : fn[j]? = some (ddOf (C, some "__init__") "__init__" qual st)) : InitAt K mg t C qual st (He.codeOf K (C, some "__init__")) := by
  obtain ⟨fd, F, hc⟩ := fun_i c j h2
  refine ⟨by rw [hC]; exact He.glo_ok X G (c.fact g h0), He.ma K (He.ga K C) "__init__", fd, ?_, F, hc⟩
  rw [hC]
  exact He.mkr_ok (c.fact i h1)
theorem cls_i [Tabs] {C : Str} {t : Nat} (c : He.SaysD fa fn K) (hC : Tabs.C t = He.ga K C) (i : Nat) (h1 : fa[i]? = some (.cls C)) : Cls K (Tabs.C t) := by rw [hC]; exact He.cls_ok (c.fact i h1)
theorem noat_i [Tabs] {C f : Str} {t : Nat} (c : He.SaysD fa fn K) (hC : Tabs.C t = He.ga K C) (i : Nat) (h1 : fa[i]? = some (.noat C f)) : NoAttr K (Tabs.C t) f := by rw [hC]; exact He.noat_ok (c.fact i h1)
theorem free_i (X : K.In h) (G : h.Ns mainGlobals mg) (c : He.SaysD fa fn K) (i : Nat) (h1 : fa[i]? = some (.free x)) : mg x = none := He.free_ok X G (c.fact i h1)
theorem int_i (X : K.In h) (G : h.Ns mainGlobals mg) (c : He.SaysD fa fn K) (i : Nat) {k : Int} (h1 : fa[i]? = some (.int x k)) : ∃ t, mg x = some (.int k t) := He.int_ok X G (c.fact i h1)
end
/-- the end of a law -/
theorem law_end [T : Tabs] {l : PySem.W.OpenLaw} {w : World} {K : PySem.W.Frag} {k : Nat} {mg : Str → Option Value} {fa : Addr} {h : Heap} {cs : List (Addr × Addr)} {st : Stmt} {f : Fn} (hcs : T.T = cs.map (·.2))
    (hT : ∀ p ∈ cs, h.get? p.2 = some { cls := .none, data := .fields #[] }) (nT : ∀ p ∈ cs, K.lookup p.2 = none) (hC : ∀ p ∈ cs, PySem.W.CodeHd h p.1 p.2) (hfa : mg "law" = some (.ref fa)) (A : FunAt K mg "law" st)
    (hbd : BindH "law" "law" st ["script"]) (plain : ∀ ns : List Int, ns.length ≤ 63 → ∃ G', f [.frz (ns.map .int)] Sto.none = some (.bl true, G'))
    (H : ∀ base : Heap, K.In base → base.Ns mainGlobals mg → (∀ p ∈ cs, GxR.TabB base mg p.1 p.2) → Has l.prog w K mg base "law" st k ["script"] f) : LamX.LawAtS l w K CX0 k 63 "script" mg fa h := by
  obtain ⟨a, fd, g, F⟩ := A
  have ea : a = fa := by
    have := g.symm.trans hfa
    cases this; rfl
  subst ea
  refine ⟨fd, cs, spM K f, hT, nT, hC, fun s u => ?_, fun Hp a ns hl _ ht hS => ?_, fun base Kb Gb tb => ?_⟩
  · obtain ⟨oc, od, kV, doc, pm, an, cdv, ct, osl, rfl, lk, hcd⟩ := F.ex
    exact .of_eq (hbd kV doc pm an cdv ct [u] rfl)
  · exact law_sp (fun P hP => by
      rw [hcs] at hP
      obtain ⟨p, hp, rfl⟩ := List.mem_map.mp hP
      exact ht p hp) hS (plain ns hl)
  · obtain ⟨a', fd', g', F', _, ok⟩ := H base Kb Gb fun p hp => ⟨(tb p hp).code, (tb p hp).bm, (tb p hp).gP⟩
    have ea : a' = a := by
      have := g'.symm.trans g
      cases this; rfl
    subst ea
    obtain ⟨oc, od, kV, doc, pm, an, cdv, ct, osl, rfl, lk, hcd⟩ := F.ex
    obtain ⟨oc', od', kV', doc', pm', an', cdv', ct', osl', rfl, lk', hcd'⟩ := F'.ex
    rw [lk] at lk'
    cases lk'
    exact ok
end Lf

/-! Lp: plain lemmas: running the mirrors; sizes; fractions. -/
namespace Lf
open PySem PySem.Spec PyProof.Rows L2
variable [Tabs]

/-! ### running -/
theorem fIdx_tup (G : Sto) (ds : List D) (i : Int) : fIdx G (.tup ds) (.int i) = L2.atI ds i := rfl
theorem fIdx_lst (G : Sto) (ds : List D) (i : Int) : fIdx G (.lst ds) (.int i) = L2.atI ds i := rfl
theorem fIdx_frz (G : Sto) (ds : List D) (i : Int) : fIdx G (.frz ds) (.int i) = L2.atI ds i := rfl
theorem atI_n {α : Type} {xs : List α} {j : Nat} {v : α} (h : xs[j]? = some v) : L2.atI xs (j : Int) = some v := L2.atI_nat h
theorem atI_nn {α : Type} {xs : List α} {i : Int} {v : α} (h0 : 0 ≤ i) (h : xs[i.toNat]? = some v) : L2.atI xs i = some v := by
  have := L2.atI_nat h
  rwa [Int.toNat_of_nonneg h0] at this
theorem atI0 {α : Type} (x : α) (xs : List α) : L2.atI (x :: xs) 0 = some x := atI_n (j := 0) rfl
theorem atI1 {α : Type} (x y : α) (xs : List α) : L2.atI (x :: y :: xs) 1 = some y := atI_n (j := 1) rfl
theorem atI2 {α : Type} (x y z : α) (xs : List α) : L2.atI (x :: y :: z :: xs) 2 = some z := atI_n (j := 2) rfl
theorem atI3 {α : Type} (x y z u : α) (xs : List α) : L2.atI (x :: y :: z :: u :: xs) 3 = some u := atI_n (j := 3) rfl
theorem fMul_ii {i j : Int} (h : mulOk i j = true) : fMul (.int i) (.int j) = some (.int (i * j)) := by simp [fMul, h]
theorem fAdd_ii (i j : Int) : fAdd (.int i) (.int j) = some (.int (i + j)) := rfl
theorem fSub_ii (i j : Int) : fSub (.int i) (.int j) = some (.int (i - j)) := rfl
theorem fDiv_ii {i j : Int} (h : divOk j = true) : fDiv (.int i) (.int j) = some (.int (i / j)) := by simp [fDiv, h]
theorem fMod_ii {i j : Int} (h : 0 < j) : fMod (.int i) (.int j) = some (.int (i % j)) := by simp [fMod, h]
theorem fLt_ii (i j : Int) : fLt (.int i) (.int j) = some (.bl (decide (i < j))) := rfl
theorem fLe_ii (i j : Int) : fLe (.int i) (.int j) = some (.bl (decide (i ≤ j))) := rfl
theorem fGt_ii (i j : Int) : fGt (.int i) (.int j) = some (.bl (decide (j < i))) := rfl
theorem fGe_ii (i j : Int) : fGe (.int i) (.int j) = some (.bl (decide (j ≤ i))) := rfl
theorem fEq_ii (i j : Int) : fEq (.int i) (.int j) = some (.bl (i == j)) := rfl
theorem fNe_ii (i j : Int) : fNe (.int i) (.int j) = some (.bl (!(i == j))) := rfl
theorem fNeg_i (i : Int) : fNeg (.int i) = some (.int (-i)) := rfl
theorem fin0 {d : D} {G : Sto} (h : belowD 0 d = true) : fin Sto.none d G = some (d, Sto.none) := by
  unfold fin
  show (if belowD 0 d && (G.cs.take 0).all (belowC 0) then some (d, (⟨0, G.cs.take 0⟩ : Sto)) else none) = _
  rw [h, List.take_zero]
  rfl
theorem fin00 {d : D} {G : Sto} (h : belowD 0 d = true) : fin { n0 := 0, cs := [] } d G = some (d, Sto.none) := fin0 h
theorem callP {f : Fn} {ms : M (List D)} {ρ : Evn} {G G1 : Sto} {ds : List D} {d : D} (h1 : ms ρ G = some (ds, G1)) (h2 : belowDs 0 ds = true) (h3 : f ds Sto.none = some (d, Sto.none)) (h4 : belowD 0 d = true) : mCallP f ms ρ G = some (d, G1) := by
  unfold mCallP
  rw [h1]
  simp [h2, h3, h4]
theorem mulOk_of {a b : Int} {m n : Nat} (ha : a.natAbs < 2 ^ m) (hb : b.natAbs < 2 ^ n) (h : m + n < 1000000) : mulOk a b = true := by
  have l : ∀ (x k : Nat), x < 2 ^ k → x.log2 ≤ k := fun x k hx => by
    by_cases h0 : x = 0
    · rw [h0]; exact Nat.zero_le _
    · exact Nat.le_of_lt ((Nat.log2_lt h0).mpr hx)
  have h1 := l _ _ ha
  have h2 := l _ _ hb
  unfold mulOk
  exact decide_eq_true (by omega)
theorem divOk_of {b : Int} {n : Nat} (h0 : 0 < b) (hb : b.natAbs < 2 ^ n) (h : n ≤ 9000) : divOk b = true := by
  unfold divOk
  rw [Bool.and_eq_true]
  refine ⟨decide_eq_true h0, decide_eq_true ?_⟩
  have : b.natAbs ≠ 0 := by omega
  exact Nat.lt_of_lt_of_le ((Nat.log2_lt this).mpr hb) h
theorem divOk_le {a b : Int} (h0 : 0 < a) (h : a ≤ b) (hb : divOk b = true) : divOk a = true := by
  unfold divOk at hb ⊢
  simp only [Bool.and_eq_true, decide_eq_true_eq] at hb ⊢
  refine ⟨h0, ?_⟩
  have h1 : b.natAbs ≠ 0 := by omega
  have h2 : a.natAbs ≠ 0 := by omega
  have h3 := (Nat.log2_lt h1).mp hb.2
  exact (Nat.log2_lt h2).mpr (Nat.lt_of_le_of_lt (by omega) h3)

/-! ### fractions -/
/-- a fraction as a pair -/
def q2 (q : Rat) : D := .tup [.int q.num, .int q.den]
theorem below_q2 (n : Nat) (q : Rat) : belowD n (q2 q) = true := rfl
theorem belowDs_q2 (n : Nat) : ∀ qs : List Rat, belowDs n (qs.map q2) = true
  | [] => rfl
  | q :: qs => by rw [List.map_cons]; unfold belowDs; rw [below_q2, belowDs_q2 n qs]; rfl
theorem belowDs_ints (n : Nat) : ∀ xs : List Int, belowDs n (xs.map D.int) = true
  | [] => rfl
  | x :: xs => by rw [List.map_cons]; unfold belowDs; rw [belowDs_ints n xs]; rfl
/-- sizes that all rules take -/
structure Sz (q : Rat) : Prop where
  n : q.num.natAbs < 2 ^ 2000
  d : q.den < 2 ^ 2000
/-- q is a whole number over L, at most B in size -/
def Bd (L B : Nat) (q : Rat) : Prop := ∃ a : Int, q * (L : Rat) = (a : Rat) ∧ a.natAbs ≤ B * L
theorem Bd.mk_eq {L B : Nat} {q : Rat} (hL : 0 < L) (h : Bd L B q) : ∃ a : Int, q = mkRat a L ∧ a.natAbs ≤ B * L := by
  obtain ⟨a, e, hb⟩ := h
  refine ⟨a, ?_, hb⟩
  rw [Rat.mkRat_eq_div, ← e, Rat.mul_div_cancel]
  intro z
  have : (L : Rat) = ((0 : Nat) : Rat) := by simpa using z
  have := Rat.natCast_inj.mp this
  omega
theorem Bd.sz {L B : Nat} {q : Rat} (hL : 0 < L) (h : Bd L B q) (h1 : L < 2 ^ 2000) (h2 : B * L < 2 ^ 2000) : Sz q := by
  obtain ⟨a, rfl, hb⟩ := h.mk_eq hL
  have hg : 0 < L.gcd a.natAbs := Nat.gcd_pos_of_pos_left _ hL
  refine ⟨?_, ?_⟩
  · rw [Rat.num_mkRat, if_neg (by omega)]
    have : (a / ((L.gcd a.natAbs : Nat) : Int)).natAbs ≤ a.natAbs := by
      rw [Int.natAbs_ediv_of_dvd]
      · exact Nat.div_le_self _ _
      · exact Int.ofNat_dvd_left.mpr (Nat.gcd_dvd_right _ _)
    omega
  · rw [Rat.den_mkRat, if_neg (by omega)]
    exact Nat.lt_of_le_of_lt (Nat.div_le_self _ _) h1
theorem Bd.add {L B C : Nat} {p q : Rat} (h : Bd L B p) (h' : Bd L C q) : Bd L (B + C) (p + q) := by
  obtain ⟨a, e, hb⟩ := h
  obtain ⟨c, e', hc⟩ := h'
  refine ⟨a + c, by rw [Rat.add_mul, e, e', Rat.intCast_add], ?_⟩
  rw [Nat.add_mul]
  have := Int.natAbs_add_le a c
  omega
theorem Bd.neg {L B : Nat} {p : Rat} (h : Bd L B p) : Bd L B (-p) := by
  obtain ⟨a, e, hb⟩ := h
  exact ⟨-a, by rw [Rat.neg_mul, e, Rat.intCast_neg], by omega⟩
theorem Bd.sub {L B C : Nat} {p q : Rat} (h : Bd L B p) (h' : Bd L C q) : Bd L (B + C) (p - q) := by
  rw [Rat.sub_eq_add_neg]; exact h.add h'.neg
theorem Bd.mul {L B M C : Nat} {p q : Rat} (h : Bd L B p) (h' : Bd M C q) : Bd (L * M) (B * C) (p * q) := by
  obtain ⟨a, e, hb⟩ := h
  obtain ⟨c, e', hc⟩ := h'
  refine ⟨a * c, by rw [Rat.intCast_mul, ← e, ← e', Rat.natCast_mul]; grind, ?_⟩
  rw [Int.natAbs_mul]
  have := Nat.mul_le_mul hb hc
  have e2 : B * C * (L * M) = B * L * (C * M) := by grind
  omega
theorem Bd.mono {L B M C : Nat} {p : Rat} (h : Bd L B p) (hd : L ∣ M) (hb : B ≤ C) : Bd M C p := by
  obtain ⟨a, e, hb'⟩ := h
  obtain ⟨k, rfl⟩ := hd
  refine ⟨a * k, by rw [Rat.natCast_mul, ← Rat.mul_assoc, e, Rat.intCast_mul]; rfl, ?_⟩
  rw [Int.natAbs_mul, Int.natAbs_natCast]
  have h1 := Nat.mul_le_mul_right k hb'
  have h2 := Nat.mul_le_mul_right (L * k) hb
  have e2 : B * (L * k) = B * L * k := by grind
  omega
theorem Bd.int {B : Nat} {n : Int} (h : n.natAbs ≤ B) : Bd 1 B (n : Rat) := ⟨n, by simp, by omega⟩
theorem Bd.inv {k : Nat} (h : 0 < k) : Bd k 1 ((1 : Rat) / (k : Rat)) := by
  refine ⟨1, ?_, by show 1 ≤ 1 * k; omega⟩
  rw [Rat.div_mul_cancel]
  · rfl
  · intro z
    have : (k : Rat) = ((0 : Nat) : Rat) := by simpa using z
    have := Rat.natCast_inj.mp this
    omega
theorem Sz.mul1 {p q : Rat} (hp : Sz p) (hq : Sz q) : mulOk p.num q.num = true := mulOk_of hp.n hq.n (by omega)
theorem Sz.mul2 {p q : Rat} (hp : Sz p) (hq : Sz q) : mulOk p.num q.den = true := mulOk_of hp.n (by rw [Int.natAbs_natCast]; exact hq.d) (by omega)
theorem Sz.mul3 {p q : Rat} (hp : Sz p) (hq : Sz q) : mulOk p.den q.den = true := mulOk_of (by rw [Int.natAbs_natCast]; exact hp.d) (by rw [Int.natAbs_natCast]; exact hq.d) (by omega)
theorem Sz.div {p q : Rat} (hp : Sz p) (hq : Sz q) : divOk ((p.den : Int) * (q.den : Int)) = true := by
  refine divOk_of (n := 4000) ?_ ?_ (by omega)
  · have h1 := p.den_pos
    have h2 := q.den_pos
    have : 0 < p.den * q.den := Nat.mul_pos h1 h2
    omega
  · rw [Int.natAbs_mul, Int.natAbs_natCast, Int.natAbs_natCast, show (4000 : Nat) = 2000 + 2000 from rfl, Nat.pow_add]
    exact Nat.mul_lt_mul'' hp.d hq.d
end Lf
namespace Lf
open PySem PySem.Spec PyProof.Rows L2
variable [Tabs]
/-! ### loops -/
theorem forL_run {f : Tgt} {b : MS} : ∀ {items : List D} (P : Nat → Evn → Sto → Prop) {ρ : Evn} {G : Sto}, P 0 ρ G → (∀ (i : Nat) (d : D) ρ G, items[i]? = some d → P i ρ G → ∃ ρ1 ρ2 G2, f d ρ = some ρ1 ∧ b ρ1 G = some (.nx, ρ2, G2) ∧ P (i + 1) ρ2 G2) →
    ∃ ρ' G', forL f b items ρ G = some (.nx, ρ', G') ∧ P items.length ρ' G'
  | [], P, ρ, G, h0, _ => ⟨ρ, G, rfl, h0⟩
  | d :: ds, P, ρ, G, h0, hs => by
    obtain ⟨ρ1, ρ2, G2, e1, e2, p⟩ := hs 0 d ρ G rfl h0
    obtain ⟨ρ', G', e3, p3⟩ := forL_run (items := ds) (fun i => P (i + 1)) p fun i x ρ G hx hp => hs (i + 1) x ρ G (by simpa using hx) hp
    refine ⟨ρ', G', ?_, p3⟩
    show (f d ρ).bind _ = _
    rw [e1, Option.bind_some, e2, Option.bind_some]
    exact e3
/-- a loop that may leave -/
theorem forL_runR {f : Tgt} {b : MS} : ∀ {items : List D} (P : Nat → Evn → Sto → Prop) {ρ : Evn} {G : Sto} {R : Out → Evn → Sto → Prop}, P 0 ρ G → (∀ (i : Nat) (d : D) ρ G, items[i]? = some d → P i ρ G → ∃ ρ1 o ρ2 G2, f d ρ = some ρ1 ∧ b ρ1 G = some (o, ρ2, G2) ∧ ((o = .nx ∧ P (i + 1) ρ2 G2) ∨ (∃ r, o = .rt r ∧ R (.rt r) ρ2 G2))) →
    (∀ ρ G, P items.length ρ G → R .nx ρ G) → ∃ o ρ' G', forL f b items ρ G = some (o, ρ', G') ∧ R o ρ' G'
  | [], P, ρ, G, R, h0, _, hd => ⟨.nx, ρ, G, rfl, hd ρ G h0⟩
  | d :: ds, P, ρ, G, R, h0, hs, hd => by
    obtain ⟨ρ1, o, ρ2, G2, e1, e2, p⟩ := hs 0 d ρ G rfl h0
    rcases p with ⟨rfl, p⟩ | ⟨r, rfl, p⟩
    · obtain ⟨o, ρ', G', e3, p3⟩ := forL_runR (items := ds) (R := R) (fun i => P (i + 1)) p (fun i x ρ G hx hp => hs (i + 1) x ρ G (by simpa using hx) hp) (fun ρ G hp => hd ρ G (by simpa using hp))
      refine ⟨o, ρ', G', ?_, p3⟩
      show (f d ρ).bind _ = _
      rw [e1, Option.bind_some, e2, Option.bind_some]
      exact e3
    · refine ⟨.rt r, ρ2, G2, ?_, p⟩
      show (f d ρ).bind _ = _
      rw [e1, Option.bind_some, e2, Option.bind_some]
theorem while_run {c : M Bool} {b : MS} (P : Nat → Evn → Sto → Prop) {R : Evn → Sto → Prop}
    (hs : ∀ k ρ G, P k ρ G → (∃ G1, c ρ G = some (false, G1) ∧ R ρ G1) ∨ (∃ G1 k' ρ2 G2, c ρ G = some (true, G1) ∧ b ρ G1 = some (.nx, ρ2, G2) ∧ k' < k ∧ P k' ρ2 G2)) : ∀ k n ρ G, k < n → P k ρ G → ∃ ρ' G', whileN c b n ρ G = some (.nx, ρ', G') ∧ R ρ' G' := by
  intro k
  induction k using Nat.strongRecOn with
  | _ k ih =>
    intro n ρ G hn hP
    cases n with
    | zero => omega
    | succ n =>
      rcases hs k ρ G hP with ⟨G1, e1, r⟩ | ⟨G1, k', ρ2, G2, e1, e2, hk, p⟩
      · refine ⟨ρ, G1, ?_, r⟩
        show (c ρ G).bind _ = _
        rw [e1]; rfl
      · obtain ⟨ρ', G', e3, r⟩ := ih k' hk n ρ2 G2 (by omega) p
        refine ⟨ρ', G', ?_, r⟩
        show (c ρ G).bind _ = _
        rw [e1, Option.bind_some]
        show (b ρ G1).bind _ = _
        rw [e2]
        exact e3
theorem lcL_run {f : Tgt} {c : M Bool} {e : M D} {ρ : Evn} {G : Sto} : ∀ {items outs : List D}, items.length = outs.length → (∀ (i : Nat) (d o : D), items[i]? = some d → outs[i]? = some o → ∃ ρ1, f d ρ = some ρ1 ∧ c ρ1 G = some (true, G) ∧ e ρ1 G = some (o, G)) → lcL f c e ρ items G = some (outs, G)
  | [], [], _, _ => rfl
  | [], _ :: _, h, _ => by cases h
  | _ :: _, [], h, _ => by cases h
  | d :: ds, o :: os, h, hs => by
    obtain ⟨ρ1, e1, e2, e3⟩ := hs 0 d o rfl rfl
    have e4 := lcL_run (f := f) (c := c) (e := e) (ρ := ρ) (G := G) (items := ds) (outs := os) (by simpa using h) fun i x y hx hy => hs (i + 1) x y (by simpa using hx) (by simpa using hy)
    show (f d ρ).bind _ = _
    rw [e1, Option.bind_some, e2, Option.bind_some]
    show (e ρ1 G).bind _ = _
    rw [e3, Option.bind_some, e4]
    rfl
theorem mLc_run {it : M (List D)} {f : Tgt} {c : M Bool} {e : M D} {vs : List Nat} {ρ : Evn} {G G1 : Sto} {items outs : List D} (h1 : it ρ G = some (items, G1)) (h2 : lcL f c e (wipeD ρ vs) items G1 = some (outs, G1)) (h3 : outs.length ≤ 16777216) : mLc it f c e vs ρ G = some (.lst outs, G1) := by
  have h4 : szOk outs.length = true := decide_eq_true h3
  simp [mLc, mLcR, h1, h2, h4]
/-- over range(n) -/
theorem mLc_range {it : M (List D)} {i : Nat} {e : M D} {vs : List Nat} {ρ : Evn} {G G1 : Sto} {n : Nat} {lo : Int} {outs : List D} (h1 : it ρ G = some (rangeD lo n, G1)) (hl : outs.length = n) (h : ∀ k o, k < n → outs[k]? = some o → e ((wipeD ρ vs).set i (some (.int (lo + (k : Nat))))) G1 = some (o, G1)) (h3 : n ≤ 16777216) : mLc it (gtName i) mYes e vs ρ G = some (.lst outs, G1) := by
  refine mLc_run h1 (lcL_run (by rw [rangeD_length, hl]) fun k d o hd ho => ?_) (by omega)
  have hk : k < n := by
    have := (List.getElem?_eq_some_iff.mp hd).1
    rwa [rangeD_length] at this
  rw [rangeD_get hk] at hd
  cases hd
  exact ⟨_, rfl, rfl, h k o hk ho⟩
theorem rgOk_of {i : Int} (h : -1000000 ≤ i ∧ i ≤ 1000000) : rgOk i = true := by
  have e : (2 : Int) ^ 62 = 4611686018427387904 := by decide
  unfold rgOk
  rw [e, Bool.and_eq_true]
  exact ⟨decide_eq_true (by omega), decide_eq_true (by omega)⟩
theorem range1_run {ms : M (List D)} {ρ : Evn} {G G1 : Sto} {n : Nat} (h : ms ρ G = some ([.int (n : Int)], G1)) (hn : n ≤ 1000000) : mRange1 ms ρ G = some (rangeD 0 n, G1) := by
  have h2 : rgOk (n : Int) = true := rgOk_of (by omega)
  unfold mRange1
  rw [h, Option.bind_some]
  show (if rgOk (n : Int) = true then _ else _) = _
  rw [if_pos h2]
  rfl
theorem range2_run {ms : M (List D)} {ρ : Evn} {G G1 : Sto} {a b : Int} (h : ms ρ G = some ([.int a, .int b], G1)) (ha : -1000000 ≤ a ∧ a ≤ 1000000) (hb : -1000000 ≤ b ∧ b ≤ 1000000) : mRange2 ms ρ G = some (rangeD a (b - a).toNat, G1) := by
  have h2 : rgOk a = true := rgOk_of ha
  have h3 : rgOk b = true := rgOk_of hb
  unfold mRange2
  rw [h, Option.bind_some]
  show (if (rgOk a && rgOk b) = true then _ else _) = _
  rw [if_pos (by rw [h2, h3]; rfl)]
/-- a call of a def that is run on the empty store -/
theorem run_body {N np : Nat} {b : MS} {ds : List D} {d : D} {ρ' : Evn} {G' : Sto} (hl : ds.length = np) (h : b (ds.map some ++ List.replicate (N - np) none) Sto.none = some (.rt d, ρ', G')) (hb : belowD 0 d = true) : runF N np b ds Sto.none = some (d, Sto.none) := by
  unfold runF runBody
  rw [if_pos hl]
  show (b _ Sto.none).bind _ = _
  rw [h]
  exact fin0 hb
theorem seq_run {a b : MS} {ρ ρ1 : Evn} {G G1 : Sto} {r : Option (Out × Evn × Sto)} (h1 : a ρ G = some (.nx, ρ1, G1)) (h2 : b ρ1 G1 = r) : mSeq a b ρ G = r := by
  unfold mSeq
  rw [h1]
  exact h2
theorem seq_rt {a b : MS} {ρ ρ1 : Evn} {G G1 : Sto} {d : D} (h1 : a ρ G = some (.rt d, ρ1, G1)) : mSeq a b ρ G = some (.rt d, ρ1, G1) := by
  unfold mSeq
  rw [h1]
  rfl
theorem asg_run {i : Nat} {a : M D} {ρ : Evn} {G G1 : Sto} {d : D} (h : a ρ G = some (d, G1)) : mAsg i a ρ G = some (.nx, ρ.set i (some d), G1) := by
  unfold mAsg
  rw [h]
  rfl
theorem ret_run {a : M D} {ρ : Evn} {G G1 : Sto} {d : D} (h : a ρ G = some (d, G1)) : mRet a ρ G = some (.rt d, ρ, G1) := by
  unfold mRet
  rw [h]
  rfl
theorem for_run {it : M (List D)} {f : Tgt} {b : MS} {ρ : Evn} {G G1 : Sto} {items : List D} {r : Option (Out × Evn × Sto)} (h1 : it ρ G = some (items, G1)) (h2 : forL f b items ρ G1 = r) : mFor it f b ρ G = r := by
  unfold mFor
  rw [h1]
  exact h2
theorem Sz.neg {q : Rat} (h : Sz q) : Sz (-q) := ⟨by rw [Rat.neg_num, Int.natAbs_neg]; exact h.n, h.d⟩
theorem bLen_of {G : Sto} {d : D} {ds : List D} (h : seqOf G d = some ds) : bLen G [d] = some (.int (ds.length : Nat)) := by
  cases d with
  | tup es => exact congrArg (Option.map fun ds : List D => D.int (ds.length : Nat)) h
  | lst es => exact congrArg (Option.map fun ds : List D => D.int (ds.length : Nat)) h
  | frz es => exact congrArg (Option.map fun ds : List D => D.int (ds.length : Nat)) h
  | loc l => exact congrArg (Option.map fun ds : List D => D.int (ds.length : Nat)) h
  | _ => cases h
theorem map_at {α : Type} {f : α → D} {xs : List α} {k : Nat} {x : α} (h : xs[k]? = some x) : L2.atI (xs.map f) (k : Int) = some (f x) := atI_n (by rw [List.getElem?_map, h]; rfl)
theorem seqOf_at {G : Sto} {l : Nat} {ds : List D} (h : G.cs[l]? = some (.lst ds)) : seqOf G (.loc l) = some ds := by
  show (match G.cs[l]? with | some (.lst ds) => some ds | _ => none) = _
  rw [h]
theorem cellL_at {G : Sto} {l : Nat} {ds : List D} (h : G.cs[l]? = some (.lst ds)) : cellL G (.loc l) = some (l, ds) := by
  show (match G.cs[l]? with | some (.lst ds) => some (l, ds) | _ => none) = _
  rw [h]
/-! ### the rules, one by one -/
section
variable {ρ : Evn} {G G1 G2 : Sto}
theorem ifS_true {c : M Bool} {a b : MS} {r : Option (Out × Evn × Sto)} (h : c ρ G = some (true, G1)) (h2 : a ρ G1 = r) : mIfS c a b ρ G = r := by
  unfold mIfS; rw [h]; exact h2
theorem ifS_false {c : M Bool} {a b : MS} {r : Option (Out × Evn × Sto)} (h : c ρ G = some (false, G1)) (h2 : b ρ G1 = r) : mIfS c a b ρ G = r := by
  unfold mIfS; rw [h]; exact h2
theorem bool_run {a : M D} {b : Bool} (h : a ρ G = some (.bl b, G1)) : mBool a ρ G = some (b, G1) := by
  unfold mBool; rw [h]; rfl
theorem bin_run {f : D → D → Option D} {a b : M D} {x y z : D} (h1 : a ρ G = some (x, G1)) (h2 : b ρ G1 = some (y, G2)) (h3 : f x y = some z) : mBin f a b ρ G = some (z, G2) := by
  unfold mBin; rw [h1]; show ((b ρ G1).bind _) = _; rw [h2]; show ((f x y).bind _) = _; rw [h3]; rfl
theorem un_run {f : D → Option D} {a : M D} {x z : D} (h1 : a ρ G = some (x, G1)) (h3 : f x = some z) : mUn f a ρ G = some (z, G1) := by
  unfold mUn; rw [h1]; show ((f x).bind _) = _; rw [h3]; rfl
theorem cb_run {f : Sto → List D → Option D} {ms : M (List D)} {ds : List D} {z : D} (h1 : ms ρ G = some (ds, G1)) (h2 : f G1 ds = some z) : mCB f ms ρ G = some (z, G1) := by
  unfold mCB; rw [h1]; show ((f G1 ds).bind _) = _; rw [h2]; rfl
theorem cons_run {a : M D} {r : M (List D)} {x : D} {xs : List D} (h1 : a ρ G = some (x, G1)) (h2 : r ρ G1 = some (xs, G2)) : mCons a r ρ G = some (x :: xs, G2) := by
  unfold mCons; rw [h1]; show ((r ρ G1).bind _) = _; rw [h2]; rfl
theorem one_run {a : M D} {x : D} (h1 : a ρ G = some (x, G1)) : mCons a mNil ρ G = some ([x], G1) := cons_run h1 rfl
theorem two_run {a b : M D} {x y : D} (h1 : a ρ G = some (x, G1)) (h2 : b ρ G1 = some (y, G2)) : mCons a (mCons b mNil) ρ G = some ([x, y], G2) := cons_run h1 (one_run h2)
theorem idx_run {a b : M D} {x y z : D} (h1 : a ρ G = some (x, G1)) (h2 : b ρ G1 = some (y, G2)) (h3 : fIdx G2 x y = some z) : mIdx a b ρ G = some (z, G2) := by
  unfold mIdx; rw [h1]; show ((b ρ G1).bind _) = _; rw [h2]; show ((fIdx G2 x y).bind _) = _; rw [h3]; rfl
theorem tup_run {ms : M (List D)} {ds : List D} (h : ms ρ G = some (ds, G1)) (hl : ds.length ≤ 16777216) : mTup ms ρ G = some (.tup ds, G1) := by
  unfold mTup; rw [h]; show (if szOk ds.length = true then _ else _) = _; rw [if_pos (show szOk ds.length = true from decide_eq_true hl)]
theorem lst_run {ms : M (List D)} {ds : List D} (h : ms ρ G = some (ds, G1)) (hl : ds.length ≤ 16777216) : mLst ms ρ G = some (.lst ds, G1) := by
  unfold mLst; rw [h]; show (if szOk ds.length = true then _ else _) = _; rw [if_pos (show szOk ds.length = true from decide_eq_true hl)]
theorem new_run {ms : M (List D)} {ds : List D} (h : ms ρ G = some (ds, G1)) (hl : ds.length ≤ 16777216) : mNew ms ρ G = some (.loc G1.cs.length, G1.push (.lst ds)) := by
  unfold mNew; rw [h]; show (if szOk ds.length = true then _ else _) = _; rw [if_pos (show szOk ds.length = true from decide_eq_true hl)]
theorem and_true {a b : M Bool} {r : Option (Bool × Sto)} (h : a ρ G = some (true, G1)) (h2 : b ρ G1 = r) : mAnd a b ρ G = r := by
  unfold mAnd; rw [h]; exact h2
theorem and_false {a b : M Bool} (h : a ρ G = some (false, G1)) : mAnd a b ρ G = some (false, G1) := by
  unfold mAnd; rw [h]; rfl
theorem or_true {a b : M Bool} (h : a ρ G = some (true, G1)) : mOr a b ρ G = some (true, G1) := by
  unfold mOr; rw [h]; rfl
theorem or_false {a b : M Bool} {r : Option (Bool × Sto)} (h : a ρ G = some (false, G1)) (h2 : b ρ G1 = r) : mOr a b ρ G = r := by
  unfold mOr; rw [h]; exact h2
theorem not_run {a : M Bool} {b : Bool} (h : a ρ G = some (b, G1)) : mNot a ρ G = some (!b, G1) := by
  unfold mNot; rw [h]; rfl
theorem tru_run {a : M D} {x : D} {b : Bool} (h : a ρ G = some (x, G1)) (h2 : truD G1 x = some b) : mTru a ρ G = some (b, G1) := by
  unfold mTru; rw [h]; show ((truD G1 x).bind _) = _; rw [h2]; rfl
theorem if_true_run {c : M Bool} {a b : M D} {r : Option (D × Sto)} (h : c ρ G = some (true, G1)) (h2 : a ρ G1 = r) : mIf c a b ρ G = r := by
  unfold mIf; rw [h]; exact h2
theorem if_false_run {c : M Bool} {a b : M D} {r : Option (D × Sto)} (h : c ρ G = some (false, G1)) (h2 : b ρ G1 = r) : mIf c a b ρ G = r := by
  unfold mIf; rw [h]; exact h2
theorem drop_run {a : M D} {d : D} (h : a ρ G = some (d, G1)) : mDrop a ρ G = some (.nx, ρ, G1) := by
  unfold mDrop; rw [h]; rfl
theorem asgG_run {f : Tgt} {a : M D} {d : D} {ρ' : Evn} (h : a ρ G = some (d, G1)) (h2 : f d ρ = some ρ') : mAsgG f a ρ G = some (.nx, ρ', G1) := by
  unfold mAsgG; rw [h]; show ((f d ρ).bind _) = _; rw [h2]; rfl
theorem par2_run {i j : Nat} {ms : M (List D)} {x y : D} (h : ms ρ G = some ([x, y], G1)) : mPar2 i j ms ρ G = some (.nx, (ρ.set i (some x)).set j (some y), G1) := by
  unfold mPar2; rw [h]; rfl
theorem call_run {f : Fn} {ms : M (List D)} {ds : List D} {d : D} {k : Nat} {cs : List Cell} (h1 : ms ρ G = some (ds, G1)) (h2 : f ds ⟨G1.cs.length, G1.cs⟩ = some (d, ⟨k, cs⟩)) : mCall f ms ρ G = some (d, ⟨G1.n0, cs⟩) := by
  unfold mCall; rw [h1]; show ((f ds _).bind _) = _; rw [h2]; rfl
theorem app_run {o e : M D} {l : Nat} {ds ds' : List D} {y : D} (h1 : o ρ G = some (.loc l, G1)) (h2 : G1.cs[l]? = some (.lst ds)) (h3 : e ρ G1 = some (y, G2)) (h4 : G2.cs[l]? = some (.lst ds')) (h5 : ds'.length + 1 ≤ 16777216) : mApp o e ρ G = some (.non, G2.set l (.lst (ds' ++ [y]))) := by
  unfold mApp
  rw [h1]
  show ((cellL G1 (.loc l)).bind _) = _
  rw [cellL_at h2]
  show ((e ρ G1).bind _) = _
  rw [h3]
  show ((cellL G2 (.loc l)).bind _) = _
  rw [cellL_at h4]
  show (if szOk (ds'.length + 1) = true then _ else _) = _
  rw [if_pos (show szOk (ds'.length + 1) = true from decide_eq_true h5)]
theorem frz_run {i : Nat} {b : MS} {l : Nat} {ds : List D} {r : Option (Out × Evn × Sto)} (h1 : ρ[i]? = some (some (.loc l))) (h2 : G.n0 ≤ l) (h3 : G.cs[l]? = some (.lst ds)) (h4 : b (ρ.set i (some (.lst ds))) (G.set l .dead) = r) : mFrz i b ρ G = r := by
  unfold mFrz
  rw [h1]
  show (if G.n0 ≤ l then _ else _) = _
  rw [if_pos h2, h3]
  exact h4
end
mutual
theorem belowD_mono {n m : Nat} (h : n ≤ m) : ∀ {d : D}, belowD n d = true → belowD m d = true
  | .tup ds, e => by unfold belowD at e ⊢; exact belowDs_mono h e
  | .lst ds, e => by unfold belowD at e ⊢; exact belowDs_mono h e
  | .frz ds, e => by unfold belowD at e ⊢; exact belowDs_mono h e
  | .loc l, e => by
    have e : decide (l < n) = true := e
    have e := of_decide_eq_true e
    show decide (l < m) = true
    exact decide_eq_true (by omega)
  | .non, _ => rfl
  | .bl _, _ => rfl
  | .int _, _ => rfl
  | .str _, _ => rfl
theorem belowDs_mono {n m : Nat} (h : n ≤ m) : ∀ {ds : List D}, belowDs n ds = true → belowDs m ds = true
  | [], _ => rfl
  | d :: ds, e => by
    unfold belowDs at e ⊢
    rw [Bool.and_eq_true] at e ⊢
    exact ⟨belowD_mono h e.1, belowDs_mono h e.2⟩
end
theorem belowC_mono {n m : Nat} (h : n ≤ m) : ∀ {c : Cell}, belowC n c = true → belowC m c = true
  | .lst ds, e => belowDs_mono h e
  | .ins _ fs, e => belowDs_mono h e
  | .dead, _ => rfl
/-- a def that is run on cells, and makes none -/
theorem runF_run {N np k : Nat} {b : MS} {ds : List D} {d : D} {ρ' : Evn} {cs cs' : List Cell} (hl : ds.length = np) (h : b (ds.map some ++ List.replicate (N - np) none) ⟨cs.length, cs⟩ = some (.rt d, ρ', ⟨cs.length, cs'⟩)) (hc : cs'.length = cs.length) (hw : ∀ c ∈ cs', belowC cs'.length c = true) (hd : belowD cs.length d = true) : runF N np b ds ⟨k, cs⟩ = some (d, ⟨k, cs'⟩) := by
  unfold runF runBody
  rw [if_pos hl]
  show (b _ ⟨cs.length, cs⟩).bind _ = _
  rw [h]
  show fin ⟨k, cs⟩ d ⟨cs.length, cs'⟩ = _
  unfold fin
  have e : cs'.take cs.length = cs' := by rw [← hc]; exact List.take_length
  have ha : cs'.all (belowC cs.length) = true := List.all_eq_true.mpr fun c h => by rw [← hc]; exact hw c h
  show (if belowD cs.length d && (cs'.take cs.length).all (belowC cs.length) then some (d, (⟨k, cs'.take cs.length⟩ : Sto)) else none) = _
  rw [e, ha, hd]
  rfl
/-- a comprehension whose parts change the cells -/
theorem lcL_eff {f : Tgt} {c : M Bool} {e : M D} {ρ : Evn} : ∀ {items : List D} (P : Nat → Sto → Prop) (Q : D → Prop) {G : Sto}, P 0 G → (∀ (i : Nat) (d : D) G, items[i]? = some d → P i G → ∃ ρ1 o G', f d ρ = some ρ1 ∧ c ρ1 G = some (true, G) ∧ e ρ1 G = some (o, G') ∧ Q o ∧ P (i + 1) G') →
    ∃ outs G', lcL f c e ρ items G = some (outs, G') ∧ outs.length = items.length ∧ (∀ o ∈ outs, Q o) ∧ P items.length G'
  | [], P, Q, G, h0, _ => ⟨[], G, rfl, rfl, fun _ h => by simp at h, h0⟩
  | d :: ds, P, Q, G, h0, hs => by
    obtain ⟨ρ1, o, G1, e1, e2, e3, q, p⟩ := hs 0 d G rfl h0
    obtain ⟨outs, G', e4, hl, hq, p'⟩ := lcL_eff (items := ds) (fun i => P (i + 1)) Q p fun i x G hx hp => hs (i + 1) x G (by simpa using hx) hp
    refine ⟨o :: outs, G', ?_, by rw [List.length_cons, List.length_cons, hl], fun x hx => ?_, p'⟩
    · show (f d ρ).bind _ = _
      rw [e1, Option.bind_some, e2, Option.bind_some]
      show (e ρ1 G).bind _ = _
      rw [e3, Option.bind_some, e4]
      rfl
    · rcases List.mem_cons.mp hx with hx | hx
      · rw [hx]; exact q
      · exact hq x hx
theorem mLc_runS {it : M (List D)} {f : Tgt} {c : M Bool} {e : M D} {vs : List Nat} {ρ : Evn} {G G1 G2 : Sto} {items outs : List D} (h1 : it ρ G = some (items, G1)) (h2 : lcL f c e (wipeD ρ vs) items G1 = some (outs, G2)) (h3 : outs.length ≤ 16777216) : mLc it f c e vs ρ G = some (.lst outs, G2) := by
  have h4 : szOk outs.length = true := decide_eq_true h3
  simp [mLc, mLcR, h1, h2, h4]
/-- a comprehension that goes through known cells -/
theorem lcL_det {f : Tgt} {c : M Bool} {e : M D} {ρ : Evn} : ∀ {items outs : List D} (S : Nat → Sto), items.length = outs.length → (∀ (i : Nat) (d o : D), items[i]? = some d → outs[i]? = some o → ∃ ρ1, f d ρ = some ρ1 ∧ c ρ1 (S i) = some (true, S i) ∧ e ρ1 (S i) = some (o, S (i + 1))) → lcL f c e ρ items (S 0) = some (outs, S items.length)
  | [], [], _, _, _ => rfl
  | [], _ :: _, _, h, _ => by cases h
  | _ :: _, [], _, h, _ => by cases h
  | d :: ds, o :: os, S, h, hs => by
    obtain ⟨ρ1, e1, e2, e3⟩ := hs 0 d o rfl rfl
    have e4 := lcL_det (f := f) (c := c) (e := e) (ρ := ρ) (items := ds) (outs := os) (fun i => S (i + 1)) (by simpa using h) fun i x y hx hy => hs (i + 1) x y (by simpa using hx) (by simpa using hy)
    show (f d ρ).bind _ = _
    rw [e1, Option.bind_some, e2, Option.bind_some]
    show (e ρ1 (S 0)).bind _ = _
    rw [e3, Option.bind_some, e4]
    rfl
theorem meth_run {cl : Nat} {m : Str} {f : Fn} {o : M D} {ms : M (List D)} {ρ : Evn} {G G1 G2 : Sto} {l : Nat} {fs : List (Str × D)} {ds : List D} {d : D} {k : Nat} {cs : List Cell} (h1 : o ρ G = some (.loc l, G1)) (h2 : G1.cs[l]? = some (.ins cl fs)) (h3 : fs.lookup m = none) (h4 : ms ρ G1 = some (ds, G2)) (h5 : f (.loc l :: ds) ⟨G2.cs.length, G2.cs⟩ = some (d, ⟨k, cs⟩)) : mMeth cl m f o ms ρ G = some (d, ⟨G2.n0, cs⟩) := by
  unfold mMeth
  rw [h1]
  show ((cellI cl G1 (.loc l)).bind _) = _
  rw [cellI_at h2]
  show (if (fs.lookup m).isNone then _ else _) = _
  rw [h3]
  show ((ms ρ G1).bind _) = _
  rw [h4]
  show ((f (.loc l :: ds) ⟨G2.cs.length, G2.cs⟩).bind _) = _
  rw [h5]
  rfl
theorem fld_run {cl : Nat} {x : Str} {o : M D} {ρ : Evn} {G G1 : Sto} {l : Nat} {fs : List (Str × D)} {d : D} (h1 : o ρ G = some (.loc l, G1)) (h2 : G1.cs[l]? = some (.ins cl fs)) (h3 : fs.lookup x = some d) : mFld cl x o ρ G = some (d, G1) := by
  unfold mFld
  rw [h1]
  show ((cellI cl G1 (.loc l)).bind _) = _
  rw [cellI_at h2]
  show ((fs.lookup x).bind _) = _
  rw [h3]
  rfl
theorem setF_run {cl : Nat} {x : Str} {o e : M D} {ρ : Evn} {G G1 G2 : Sto} {l : Nat} {fs : List (Str × D)} {d : D} (h0 : e ρ G = some (d, G1)) (h1 : o ρ G1 = some (.loc l, G2)) (h2 : G2.cs[l]? = some (.ins cl fs)) (h3 : fs.length < 1000) : mSetF cl x o e ρ G = some (.nx, ρ, G2.set l (.ins cl (putFD x d fs))) := by
  unfold mSetF
  rw [h0]
  show ((o ρ G1).bind _) = _
  rw [h1]
  show ((cellI cl G2 (.loc l)).bind _) = _
  rw [cellI_at h2]
  exact if_pos h3
theorem augF_run {cl : Nat} {x : Str} {op : D → D → Option D} {o e : M D} {ρ : Evn} {G G1 G2 : Sto} {l : Nat} {fs fs' : List (Str × D)} {v d z : D} (h1 : o ρ G = some (.loc l, G1)) (h2 : G1.cs[l]? = some (.ins cl fs)) (h3 : fs.lookup x = some v) (h4 : e ρ G1 = some (d, G2)) (h5 : op v d = some z) (h6 : G2.cs[l]? = some (.ins cl fs')) (h7 : fs'.length < 1000) : mAugF cl x op o e ρ G = some (.nx, ρ, G2.set l (.ins cl (putFD x z fs'))) := by
  unfold mAugF
  rw [h1]
  show ((cellI cl G1 (.loc l)).bind _) = _
  rw [cellI_at h2]
  show ((fs.lookup x).bind _) = _
  rw [h3]
  show ((e ρ G1).bind _) = _
  rw [h4]
  show ((op v d).bind _) = _
  rw [h5]
  show ((cellI cl G2 (.loc l)).bind _) = _
  rw [cellI_at h6]
  exact if_pos h7
end Lf

/-! K88M: the mirror of the text. -/
namespace K88
open PySem PySem.Spec PyProof.Rows L2 Lf
variable [Tabs]
def M_frac : MS :=
  (mSeq (mAsg 2 (mCB bGcd (mCons (mVar 0) (mCons (mVar 1) mNil))))
  (mSeq (mIfS (mBool (mBin fLt (mVar 1) (mC (.int 0))))
  (mAsg 2 (mUn fNeg (mVar 2)))
  mSkip)
  (mRet (mTup (mCons (mBin fDiv (mVar 0) (mVar 2)) (mCons (mBin fDiv (mVar 1) (mVar 2)) mNil))))))
def F_frac : Fn := runF 3 2 M_frac
def M_times : MS :=
  (mRet (mCallP F_frac (mCons (mBin fMul (mIdx (mVar 0) (mC (.int 0))) (mIdx (mVar 1) (mC (.int 0)))) (mCons (mBin fMul (mIdx (mVar 0) (mC (.int 1))) (mIdx (mVar 1) (mC (.int 1)))) mNil))))
def F_times : Fn := runF 2 2 M_times
def M_Drawer___init__ : MS :=
  (mSeq (mSetF 0 "numbers" (mVar 0) (mVar 1))
  (mSeq (mSetF 0 "place" (mVar 0) (mC (.int 0)))
  (mSetF 0 "state" (mVar 0) (mSumE (eMul eB (eAdd eA (eC 1))) (mVar 1)))))
def F_Drawer___init__ : Fn := runF 4 2 M_Drawer___init__
def M_Drawer_draw : MS :=
  (mSeq (mAsg 1 (mIdx (mFld 0 "numbers" (mVar 0)) (mBin fMod (mFld 0 "place" (mVar 0)) (mCB bLen (mCons (mFld 0 "numbers" (mVar 0)) mNil)))))
  (mSeq (mSetF 0 "state" (mVar 0) (mBin fMod (mBin fAdd (mBin fAdd (mBin fMul (mFld 0 "state" (mVar 0)) (mC (.int 1103515245))) (mC (.int 12345))) (mVar 1)) (mC (.int 2147483648))))
  (mSeq (mAugF 0 "place" iAdd (mVar 0) (mC (.int 1)))
  (mRet (mBin fDiv (mFld 0 "state" (mVar 0)) (mC (.int 65536)))))))
def F_Drawer_draw : Fn := runF 2 1 M_Drawer_draw
def M_draws : MS :=
  (mSeq (mAsg 2 (mMake 0 F_Drawer___init__ (mCons (mVar 0) mNil)))
  (mRet (mCB bTuple (mCons (mLc (mRange1 (mCons (mVar 1) mNil)) (gtName 3) mYes (mMeth 0 "draw" F_Drawer_draw (mVar 2) mNil) [3]) mNil))))
def F_draws : Fn := runF 4 2 M_draws
def M_start_by : MS :=
  (mSeq (mAsg 2 (mNew mNil))
  (mSeq (mFor (mRange1 (mCons (mBin fAdd (mVar 1) (mC (.int 1))) mNil)) (gtName 3)
  (mSeq (mAsg 4 (mCallP F_frac (mCons (mBin fSub (mBin fMod (mMeth 0 "draw" F_Drawer_draw (mVar 0) mNil) (mC (.int 2001))) (mC (.int 1000))) (mCons (mC (.int 100)) mNil))))
  (mDrop (mApp (mVar 2) (mTup (mCons (mVar 4) (mCons (mCallP F_frac (mCons (mBin fMod (mMeth 0 "draw" F_Drawer_draw (mVar 0) mNil) (mC (.int 50))) (mCons (mC (.int 100)) mNil))) mNil)))))))
  (mFrz 2 (mRet (mTup (mCons (mCB bTuple (mCons (mLc (mRow (mVar 2)) (gtName 5) mYes (mIdx (mVar 5) (mC (.int 0))) [5]) mNil)) (mCons (mCB bTuple (mCons (mLc (mRow (mVar 2)) (gtName 5) mYes (mIdx (mVar 5) (mC (.int 1))) [5]) mNil)) mNil)))))))
def F_start_by : Fn := runF 6 2 M_start_by
def M_drawn_start : MS :=
  (mRet (mCall F_start_by (mCons (mMake 0 F_Drawer___init__ (mCons (mVar 0) mNil)) (mCons (mVar 1) mNil))))
def F_drawn_start : Fn := runF 2 2 M_drawn_start
def M_drawn_hand : MS :=
  (mSeq (mAsg 2 (mMake 0 F_Drawer___init__ (mCons (mVar 1) mNil)))
  (mRet (mCB bTuple (mCons (mLc (mRow (mIdx (mVar 0) (mC (.int 1)))) (gtName 3) mYes (mCallP F_times (mCons (mVar 3) (mCons (mCallP F_frac (mCons (mBin fSub (mBin fMod (mMeth 0 "draw" F_Drawer_draw (mVar 2) mNil) (mC (.int 201))) (mC (.int 100))) (mCons (mC (.int 100)) mNil))) mNil))) [3]) mNil))))
def F_drawn_hand : Fn := runF 4 2 M_drawn_hand
def M_drawn_page : MS :=
  (mSeq (mAsg 2 (mMake 0 F_Drawer___init__ (mCons (mVar 0) mNil)))
  (mSeq (mAsg 3 (mCall F_start_by (mCons (mVar 2) (mCons (mVar 1) mNil))))
  (mSeq (mAsg 4 (mBin fSub (mBin fMod (mMeth 0 "draw" F_Drawer_draw (mVar 2) mNil) (mC (.int 21))) (mC (.int 10))))
  (mRet (mTup (mCons (mVar 3) (mCons (mVar 4) (mCons (mBin fAdd (mC (.int 5)) (mBin fMod (mMeth 0 "draw" F_Drawer_draw (mVar 2) mNil) (mC (.int 10)))) (mCons (mC (.int 0)) (mCons (mC (.str "up")) mNil))))))))))
def F_drawn_page : Fn := runF 5 2 M_drawn_page
def M__law_bag : MS :=
  (mSeq (mAsg 1 (mBin fAdd (mLc (mRow (mVar 0)) (gtName 2) mYes (mCB bAbs (mCons (mCB bInt (mCons (mVar 2) mNil)) mNil)) [2]) (mLst (mCons (mC (.int 7)) mNil))))
  (mSeq (mAsg 3 (mNew mNil))
  (mSeq (mIfS (mBool (mBin fEq (mBin fMod (mCB bInt (mCons (mIdx (mVar 1) (mC (.int 0))) mNil)) (mC (.int 2))) (mC (.int 0))))
  (mSeq (mAsg 3 (mLcN (mRow (mVar 1)) (gtName 2) (mBool (mBin fGe (mVar 2) (mBin fPow (mC (.int 10)) (mC (.int 18))))) (mBin fDiv (mVar 2) (mC (.int 2))) [2]))
  (mDrop (mRev (mVar 3))))
  mSkip)
  (mRet (mNew (mCons (mC (.int 0)) (mCons (mC (.int 0)) (mCons (mVar 3) (mCons (mLc (mRow (mVar 1)) (gtName 2) mYes (mBin fMod (mCB bInt (mCons (mVar 2) mNil)) (mC (.int 2147483647))) [2]) mNil)))))))))
def F__law_bag : Fn := runK 4 1 M__law_bag
def M__law_draw : MS :=
  (mSeq (mSetI (mVar 0) (mC (.int 1)) (mBin fAdd (mIdx (mVar 0) (mC (.int 1))) (mC (.int 1))))
  (mSeq (mIfS (mAnd (mBool (mBin fEq (mIdx (mVar 0) (mC (.int 0))) (mC (.int 0)))) (mBool (mBin fGt (mCB bLen (mCons (mIdx (mVar 0) (mC (.int 2))) mNil)) (mC (.int 0)))))
  (mSetI (mVar 0) (mC (.int 0)) (mPop (mIdx (mVar 0) (mC (.int 2)))))
  mSkip)
  (mSeq (mIfS (mBool (mBin fGt (mIdx (mVar 0) (mC (.int 0))) (mC (.int 0))))
  (mSeq (mAsg 2 (mBin fMod (mCB bInt (mCons (mIdx (mVar 0) (mC (.int 0))) mNil)) (mVar 1)))
  (mSeq (mSetI (mVar 0) (mC (.int 0)) (mBin fDiv (mIdx (mVar 0) (mC (.int 0))) (mVar 1)))
  (mRet (mVar 2))))
  mSkip)
  (mSeq (mAsg 3 (mIdx (mIdx (mVar 0) (mC (.int 3))) (mBin fMod (mCB bInt (mCons (mIdx (mVar 0) (mC (.int 1))) mNil)) (mCB bLen (mCons (mIdx (mVar 0) (mC (.int 3))) mNil)))))
  (mSeq (mAsg 4 (mBin fMod (mCB bInt (mCons (mBin fAdd (mBin fAdd (mBin fMul (mVar 3) (mC (.int 48271))) (mBin fMul (mIdx (mVar 0) (mC (.int 1))) (mC (.int 69621)))) (mC (.int 1))) mNil)) (mC (.int 2147483647))))
  (mRet (mBin fMod (mBin fDiv (mBin fMod (mCB bInt (mCons (mBin fAdd (mBin fAdd (mBin fMul (mVar 4) (mVar 4)) (mBin fMul (mVar 4) (mC (.int 16807)))) (mBin fMul (mIdx (mVar 0) (mC (.int 1))) (mC (.int 40014)))) mNil)) (mC (.int 2147483629))) (mC (.int 32))) (mVar 1))))))))
def F__law_draw : Fn := runF 5 2 M__law_draw
def M__law_pick : MS :=
  (mRet (mIdx (mVar 1) (mCall F__law_draw (mCons (mVar 0) (mCons (mCB bLen (mCons (mVar 1) mNil)) mNil)))))
def F__law_pick : Fn := runF 2 2 M__law_pick
def M__law_same (rec : Fn) : MS :=
  (mSeq (mIfS (mBool (mBin fIsN (mVar 1) (mC .non)))
  (mRet (mBin fIsN (mVar 0) (mC .non)))
  mSkip)
  (mSeq (mIfS (mOr (mTru (mIsi isBoolD (mVar 1))) (mTru (mIsi isBoolD (mVar 0))))
  (mRet (mAndV (mIsi isBoolD (mVar 1)) (mAndV (mIsi isBoolD (mVar 0)) (mBin fEq (mVar 0) (mVar 1)))))
  mSkip)
  (mSeq (mIfS (mTru (mIsi isIntD (mVar 1)))
  (mRet (mAndV (mIsi isIntD (mVar 0)) (mBin fEq (mVar 0) (mVar 1))))
  mSkip)
  (mSeq (mIfS (mTru (mIsi isStrD (mVar 1)))
  (mRet (mAndV (mIsi isStrD (mVar 0)) (mBin fEq (mVar 0) (mVar 1))))
  mSkip)
  (mSeq (mIfS (mOr (mNot (mTru (mIsi isTupD (mVar 1)))) (mOr (mNot (mTru (mIsi isTupD (mVar 0)))) (mBool (mBin fNe (mCB bLen (mCons (mVar 0) mNil)) (mCB bLen (mCons (mVar 1) mNil))))))
  (mRet (mC (.bl false)))
  mSkip)
  (mSeq (mFor (mRange1 (mCons (mCB bLen (mCons (mVar 1) mNil)) mNil)) (gtName 2)
  (mIfS (mNot (mTru (mCallP rec (mCons (mIdx (mVar 0) (mVar 2)) (mCons (mIdx (mVar 1) (mVar 2)) mNil)))))
  (mRet (mC (.bl false)))
  mSkip))
  (mRet (mC (.bl true)))))))))
def F__law_same : Nat → Fn
  | 0 => fun _ _ => none
  | n + 1 => runF 3 2 (M__law_same (F__law_same n))
def M__law_gcd : MS :=
  (mSeq (mPar2 0 1 (mCons (mCB bAbs (mCons (mVar 0) mNil)) (mCons (mCB bAbs (mCons (mVar 1) mNil)) mNil)))
  (mSeq (mWhile (mBool (mBin fNe (mVar 1) (mC (.int 0))))
  (mPar2 0 1 (mCons (mVar 1) (mCons (mBin fMod (mCB bInt (mCons (mVar 0) mNil)) (mVar 1)) mNil))))
  (mRet (mVar 0))))
def F__law_gcd : Fn := runF 2 2 M__law_gcd
def M__law_fr : MS :=
  (mSeq (mAsg 2 (mCallP F__law_gcd (mCons (mVar 0) (mCons (mVar 1) mNil))))
  (mRet (mTup (mCons (mBin fDiv (mVar 0) (mVar 2)) (mCons (mBin fDiv (mVar 1) (mVar 2)) mNil)))))
def F__law_fr : Fn := runF 3 2 M__law_fr
def M__law_times : MS :=
  (mRet (mCallP F__law_fr (mCons (mBin fMul (mIdx (mVar 0) (mC (.int 0))) (mIdx (mVar 1) (mC (.int 0)))) (mCons (mBin fMul (mIdx (mVar 0) (mC (.int 1))) (mIdx (mVar 1) (mC (.int 1)))) mNil))))
def F__law_times : Fn := runF 2 2 M__law_times
def M__law_less : MS :=
  (mRet (mBin fLt (mBin fMul (mIdx (mVar 0) (mC (.int 0))) (mIdx (mVar 1) (mC (.int 1)))) (mBin fMul (mIdx (mVar 1) (mC (.int 0))) (mIdx (mVar 0) (mC (.int 1))))))
def F__law_less : Fn := runF 2 2 M__law_less
def M__law_ten : MS :=
  (mSeq (mAsg 1 (mC (.int 1)))
  (mSeq (mFor (mRange1 (mCons (mVar 0) mNil)) (gtName 2)
  (mAsg 1 (mBin fMul (mVar 1) (mC (.int 10)))))
  (mRet (mVar 1))))
def F__law_ten : Fn := runF 3 1 M__law_ten
def M__law_is_whole : MS :=
  (mRet (mAndV (mIsi isIntD (mVar 0)) (mNotV (mIsi isBoolD (mVar 0)))))
def F__law_is_whole : Fn := runF 1 1 M__law_is_whole
def M__law_is_fraction : MS :=
  (mSeq (mIfS (mOr (mNot (mTru (mIsi isTupD (mVar 0)))) (mOr (mBool (mBin fNe (mCB bLen (mCons (mVar 0) mNil)) (mC (.int 2)))) (mOr (mNot (mTru (mCallP F__law_is_whole (mCons (mIdx (mVar 0) (mC (.int 0))) mNil)))) (mOr (mNot (mTru (mCallP F__law_is_whole (mCons (mIdx (mVar 0) (mC (.int 1))) mNil)))) (mBool (mBin fLt (mIdx (mVar 0) (mC (.int 1))) (mC (.int 1))))))))
  (mRet (mC (.bl false)))
  mSkip)
  (mRet (mBin fEq (mCallP F__law_gcd (mCons (mCB bAbs (mCons (mIdx (mVar 0) (mC (.int 0))) mNil)) (mCons (mIdx (mVar 0) (mC (.int 1))) mNil))) (mC (.int 1)))))
def F__law_is_fraction : Fn := runF 1 1 M__law_is_fraction
def M__law_is_hand : MS :=
  (mSeq (mIfS (mOr (mNot (mTru (mIsi isTupD (mVar 1)))) (mBool (mBin fNe (mCB bLen (mCons (mVar 1) mNil)) (mCB bLen (mCons (mIdx (mVar 0) (mC (.int 0))) mNil)))))
  (mRet (mC (.bl false)))
  mSkip)
  (mSeq (mFor (mRange1 (mCons (mCB bLen (mCons (mVar 1) mNil)) mNil)) (gtName 2)
  (mIfS (mOr (mNot (mTru (mCallP F__law_is_fraction (mCons (mIdx (mVar 1) (mVar 2)) mNil)))) (mTru (mCallP F__law_less (mCons (mIdx (mIdx (mVar 0) (mC (.int 1))) (mVar 2)) (mCons (mTup (mCons (mCB bAbs (mCons (mIdx (mIdx (mVar 1) (mVar 2)) (mC (.int 0))) mNil)) (mCons (mIdx (mIdx (mVar 1) (mVar 2)) (mC (.int 1))) mNil))) mNil)))))
  (mRet (mC (.bl false)))
  mSkip))
  (mRet (mC (.bl true)))))
def F__law_is_hand : Fn := runF 3 2 M__law_is_hand
def M__law_half : MS :=
  (mSeq (mAsg 3 (mBin fAdd (mC (.int 1)) (mCall F__law_draw (mCons (mVar 0) (mCons (mVar 2) mNil)))))
  (mRet (mCallP F__law_fr (mCons (mBin fSub (mCall F__law_draw (mCons (mVar 0) (mCons (mBin fAdd (mBin fMul (mBin fMul (mC (.int 2)) (mVar 1)) (mVar 3)) (mC (.int 1))) mNil))) (mBin fMul (mVar 1) (mVar 3))) (mCons (mVar 3) mNil)))))
def F__law_half : Fn := runF 4 3 M__law_half
def M__law_start : MS :=
  (mSeq (mAsg 4 (mLc (mRange1 (mCons (mBin fAdd (mVar 1) (mC (.int 1))) mNil)) (gtName 5) mYes (mCall F__law_half (mCons (mVar 0) (mCons (mIf (mBool (mBin fEq (mVar 5) (mC (.int 0)))) (mVar 2) (mC (.int 2))) (mCons (mVar 3) mNil)))) [5]))
  (mSeq (mAsg 6 (mLc (mRange1 (mCons (mBin fAdd (mVar 1) (mC (.int 1))) mNil)) (gtName 5) mYes (mIf (mBool (mBin fEq (mVar 5) (mC (.int 0)))) (mCall F__law_pick (mCons (mVar 0) (mCons (mLst (mCons (mTup (mCons (mC (.int 0)) (mCons (mC (.int 1)) mNil))) (mCons (mTup (mCons (mC (.int 1)) (mCons (mC (.int 2)) mNil))) (mCons (mTup (mCons (mC (.int 1)) (mCons (mC (.int 4)) mNil))) (mCons (mTup (mCons (mC (.int 1)) (mCons (mC (.int 10)) mNil))) (mCons (mTup (mCons (mC (.int 1)) (mCons (mC (.int 1)) mNil))) (mCons (mTup (mCons (mC (.int 1)) (mCons (mC (.int 20)) mNil))) mNil))))))) mNil))) (mCall F__law_pick (mCons (mVar 0) (mCons (mLst (mCons (mTup (mCons (mC (.int 0)) (mCons (mC (.int 1)) mNil))) (mCons (mTup (mCons (mC (.int 1)) (mCons (mC (.int 20)) mNil))) (mCons (mTup (mCons (mC (.int 1)) (mCons (mC (.int 4)) mNil))) (mCons (mTup (mCons (mC (.int 1)) (mCons (mC (.int 10)) mNil))) mNil))))) mNil)))) [5]))
  (mRet (mTup (mCons (mCB bTuple (mCons (mVar 4) mNil)) (mCons (mCB bTuple (mCons (mVar 6) mNil)) mNil))))))
def F__law_start : Fn := runF 7 4 M__law_start
def M__law_own_draws : MS :=
  (mSeq (mPar2 2 3 (mCons (mCB bSum (mCons (mLc (mRange1 (mCons (mCB bLen (mCons (mVar 0) mNil)) mNil)) (gtName 4) mYes (mBin fMul (mIdx (mVar 0) (mVar 4)) (mBin fAdd (mVar 4) (mC (.int 1)))) [4]) mNil)) (mCons (mNew mNil) mNil)))
  (mSeq (mFor (mRange1 (mCons (mVar 1) mNil)) (gtName 5)
  (mSeq (mAsg 2 (mBin fMod (mCB bInt (mCons (mBin fAdd (mBin fAdd (mBin fMul (mVar 2) (mC (.int 1103515245))) (mC (.int 12345))) (mIdx (mVar 0) (mBin fMod (mCB bInt (mCons (mVar 5) mNil)) (mCB bLen (mCons (mVar 0) mNil))))) mNil)) (mC (.int 2147483648))))
  (mDrop (mApp (mVar 3) (mBin fDiv (mVar 2) (mC (.int 65536)))))))
  (mRet (mCB bTuple (mCons (mVar 3) mNil)))))
def F__law_own_draws : Fn := runF 6 2 M__law_own_draws
def M__law_own_start : MS :=
  (mSeq (mPar3 2 3 4 (mCons (mCallP F__law_own_draws (mCons (mVar 0) (mCons (mBin fAdd (mBin fMul (mC (.int 2)) (mVar 1)) (mC (.int 2))) mNil))) (mCons (mNew mNil) (mCons (mNew mNil) mNil))))
  (mSeq (mFor (mRange1 (mCons (mBin fAdd (mVar 1) (mC (.int 1))) mNil)) (gtName 5)
  (mSeq (mDrop (mApp (mVar 3) (mCallP F__law_fr (mCons (mBin fSub (mBin fMod (mCB bInt (mCons (mIdx (mVar 2) (mBin fMul (mC (.int 2)) (mVar 5))) mNil)) (mC (.int 2001))) (mC (.int 1000))) (mCons (mC (.int 100)) mNil)))))
  (mDrop (mApp (mVar 4) (mCallP F__law_fr (mCons (mBin fMod (mCB bInt (mCons (mIdx (mVar 2) (mBin fAdd (mBin fMul (mC (.int 2)) (mVar 5)) (mC (.int 1)))) mNil)) (mC (.int 50))) (mCons (mC (.int 100)) mNil)))))))
  (mRet (mTup (mCons (mCB bTuple (mCons (mVar 3) mNil)) (mCons (mCB bTuple (mCons (mVar 4) mNil)) mNil))))))
def F__law_own_start : Fn := runF 6 2 M__law_own_start
def M__law_own_hand : MS :=
  (mSeq (mAsg 2 (mCallP F__law_own_draws (mCons (mVar 1) (mCons (mCB bLen (mCons (mIdx (mVar 0) (mC (.int 0))) mNil)) mNil))))
  (mRet (mCB bTuple (mCons (mLc (mRange1 (mCons (mCB bLen (mCons (mVar 2) mNil)) mNil)) (gtName 3) mYes (mCallP F__law_times (mCons (mIdx (mIdx (mVar 0) (mC (.int 1))) (mVar 3)) (mCons (mCallP F__law_fr (mCons (mBin fSub (mBin fMod (mCB bInt (mCons (mIdx (mVar 2) (mVar 3)) mNil)) (mC (.int 201))) (mC (.int 100))) (mCons (mC (.int 100)) mNil))) mNil))) [3]) mNil))))
def F__law_own_hand : Fn := runF 4 2 M__law_own_hand
def M__law_own_page : MS :=
  (mSeq (mAsg 2 (mCallP F__law_own_draws (mCons (mVar 0) (mCons (mBin fAdd (mBin fMul (mC (.int 2)) (mVar 1)) (mC (.int 4))) mNil))))
  (mRet (mTup (mCons (mCallP F__law_own_start (mCons (mVar 0) (mCons (mVar 1) mNil))) (mCons (mBin fSub (mBin fMod (mCB bInt (mCons (mIdx (mVar 2) (mBin fAdd (mBin fMul (mC (.int 2)) (mVar 1)) (mC (.int 2)))) mNil)) (mC (.int 21))) (mC (.int 10))) (mCons (mBin fAdd (mC (.int 5)) (mBin fMod (mCB bInt (mCons (mIdx (mVar 2) (mBin fAdd (mBin fMul (mC (.int 2)) (mVar 1)) (mC (.int 3)))) mNil)) (mC (.int 10)))) (mCons (mC (.int 0)) (mCons (mC (.str "up")) mNil))))))))
def F__law_own_page : Fn := runF 3 2 M__law_own_page
def M__law_numbers : MS :=
  (mRet (mCB bTuple (mCons (mLc (mRange1 (mCons (mCall F__law_pick (mCons (mVar 0) (mCons (mLst (mCons (mC (.int 1)) (mCons (mC (.int 2)) (mCons (mC (.int 3)) (mCons (mC (.int 4)) (mCons (mC (.int 60)) mNil)))))) mNil))) mNil)) (gtName 1) mYes (mBin fMul (mCall F__law_draw (mCons (mVar 0) (mCons (mC (.int 1000)) mNil))) (mCall F__law_pick (mCons (mVar 0) (mCons (mLst (mCons (mC (.int 1)) (mCons (mC (.int 1)) (mCons (mC (.int 977)) (mCons (mCallP F__law_ten (mCons (mC (.int 30)) mNil)) mNil))))) mNil)))) [1]) mNil)))
def F__law_numbers : Fn := runF 2 1 M__law_numbers
def M_law : MS :=
  (mSeq (mAsg 1 (mCall F__law_bag (mCons (mVar 0) mNil)))
  (mSeq (mFor (mRange1 (mCons (mC (.int 3)) mNil)) (gtName 2)
  (mSeq (mAsgG (gtTup 4 (gtCons (gtName 5) (gtCons (gtName 6) (gtCons (gtName 7) (gtCons (gtName 8) gtNil))))) (mTup (mCons (mCall F__law_numbers (mCons (mVar 1) mNil)) (mCons (mCall F__law_numbers (mCons (mVar 1) mNil)) (mCons (mCall F__law_draw (mCons (mVar 1) (mCons (mC (.int 7)) mNil))) (mCons (mCall F__law_draw (mCons (mVar 1) (mCons (mC (.int 41)) mNil))) mNil))))))
  (mSeq (mAsg 3 (mCallP F__law_own_draws (mCons (mVar 5) (mCons (mVar 8) mNil))))
  (mSeq (mIfS (mNot (mTru (mCallP (F__law_same 6) (mCons (mTup (mCons (mCallP F_draws (mCons (mVar 5) (mCons (mVar 8) mNil))) (mCons (mCallP F_draws (mPick [1, 0] 2 (mCons (mVar 8) (mCons (mVar 5) mNil)))) mNil))) (mCons (mTup (mCons (mVar 3) (mCons (mVar 3) mNil))) mNil)))))
  (mRet (mC (.bl false)))
  mSkip)
  (mSeq (mAsg 3 (mCallP F__law_own_start (mCons (mVar 5) (mCons (mVar 7) mNil))))
  (mSeq (mIfS (mNot (mTru (mCallP (F__law_same 6) (mCons (mTup (mCons (mCallP F_drawn_start (mCons (mVar 5) (mCons (mVar 7) mNil))) (mCons (mCallP F_drawn_start (mPick [1, 0] 2 (mCons (mVar 7) (mCons (mVar 5) mNil)))) mNil))) (mCons (mTup (mCons (mVar 3) (mCons (mVar 3) mNil))) mNil)))))
  (mRet (mC (.bl false)))
  mSkip)
  (mSeq (mAsg 4 (mIf (mBool (mBin fEq (mCall F__law_draw (mCons (mVar 1) (mCons (mC (.int 2)) mNil))) (mC (.int 0)))) (mVar 3) (mCall F__law_start (mCons (mVar 1) (mCons (mVar 7) (mCons (mC (.int 6)) (mCons (mC (.int 4)) mNil)))))))
  (mSeq (mAsg 3 (mCallP F__law_own_hand (mCons (mVar 4) (mCons (mVar 6) mNil))))
  (mSeq (mIfS (mOr (mNot (mTru (mCallP F__law_is_hand (mCons (mVar 4) (mCons (mVar 3) mNil))))) (mNot (mTru (mCallP (F__law_same 6) (mCons (mTup (mCons (mCallP F_drawn_hand (mCons (mVar 4) (mCons (mVar 6) mNil))) (mCons (mCallP F_drawn_hand (mPick [1, 0] 2 (mCons (mVar 6) (mCons (mVar 4) mNil)))) mNil))) (mCons (mTup (mCons (mVar 3) (mCons (mVar 3) mNil))) mNil))))))
  (mRet (mC (.bl false)))
  mSkip)
  (mSeq (mAsg 3 (mCallP F__law_own_page (mCons (mVar 5) (mCons (mVar 7) mNil))))
  (mIfS (mNot (mTru (mCallP (F__law_same 6) (mCons (mTup (mCons (mCallP F_drawn_page (mCons (mVar 5) (mCons (mVar 7) mNil))) (mCons (mCallP F_drawn_page (mPick [1, 0] 2 (mCons (mVar 7) (mCons (mVar 5) mNil)))) mNil))) (mCons (mTup (mCons (mVar 3) (mCons (mVar 3) mNil))) mNil)))))
  (mRet (mC (.bl false)))
  mSkip)))))))))))
  (mRet (mC (.bl true)))))
def F_law : Fn := runF 9 1 M_law
end K88

/-! K88W: the walk. -/
namespace K88
open PySem PySem.Spec PyProof.Rows L2 Lf
variable [Tabs]
def topS (i : Nat) : Stmt := PySem.Challenge.pw_lastfigure_k88_drawn_cases.main.body.getD i (.Pass ⟨0, 0, 0, 0⟩)
abbrev s_frac : Stmt := topS 2
abbrev s_times : Stmt := topS 3
abbrev s_Drawer___init__ : Stmt := inClass (topS 9) 0
abbrev s_Drawer_draw : Stmt := inClass (topS 9) 1
abbrev s_draws : Stmt := topS 10
abbrev s_start_by : Stmt := topS 11
abbrev s_drawn_start : Stmt := topS 12
abbrev s_drawn_hand : Stmt := topS 13
abbrev s_drawn_page : Stmt := topS 14
abbrev s__law_bag : Stmt := topS 16
abbrev s__law_draw : Stmt := topS 17
abbrev s__law_pick : Stmt := topS 18
abbrev s__law_same : Stmt := topS 19
abbrev s__law_gcd : Stmt := topS 20
abbrev s__law_fr : Stmt := topS 21
abbrev s__law_times : Stmt := topS 22
abbrev s__law_less : Stmt := topS 23
abbrev s__law_ten : Stmt := topS 24
abbrev s__law_is_whole : Stmt := topS 25
abbrev s__law_is_fraction : Stmt := topS 26
abbrev s__law_is_hand : Stmt := topS 27
abbrev s__law_half : Stmt := topS 28
abbrev s__law_start : Stmt := topS 29
abbrev s__law_own_draws : Stmt := topS 30
abbrev s__law_own_start : Stmt := topS 31
abbrev s__law_own_hand : Stmt := topS 32
abbrev s__law_own_page : Stmt := topS 33
abbrev s__law_numbers : Stmt := topS 34
abbrev s_law : Stmt := topS 35
structure Txt (P : Program) (w : World) (K : PySem.W.Frag) (mg : Str → Option Value) (base : Heap) (cc PP : Nat → Addr) : Prop where
  d_frac : FunAt K mg "frac" s_frac
  d_times : FunAt K mg "times" s_times
  d_Drawer___init__ : InitAt K mg 0 "Drawer" "Drawer.__init__" s_Drawer___init__ (cc 0)
  d_Drawer_draw : MethAt K 0 "draw" "Drawer.draw" s_Drawer_draw
  d_draws : FunAt K mg "draws" s_draws
  d_start_by : FunAt K mg "start_by" s_start_by
  d_drawn_start : FunAt K mg "drawn_start" s_drawn_start
  d_drawn_hand : FunAt K mg "drawn_hand" s_drawn_hand
  d_drawn_page : FunAt K mg "drawn_page" s_drawn_page
  d__law_bag : FunAt K mg "_law_bag" s__law_bag
  d__law_draw : FunAt K mg "_law_draw" s__law_draw
  d__law_pick : FunAt K mg "_law_pick" s__law_pick
  d__law_same : FunAt K mg "_law_same" s__law_same
  d__law_gcd : FunAt K mg "_law_gcd" s__law_gcd
  d__law_fr : FunAt K mg "_law_fr" s__law_fr
  d__law_times : FunAt K mg "_law_times" s__law_times
  d__law_less : FunAt K mg "_law_less" s__law_less
  d__law_ten : FunAt K mg "_law_ten" s__law_ten
  d__law_is_whole : FunAt K mg "_law_is_whole" s__law_is_whole
  d__law_is_fraction : FunAt K mg "_law_is_fraction" s__law_is_fraction
  d__law_is_hand : FunAt K mg "_law_is_hand" s__law_is_hand
  d__law_half : FunAt K mg "_law_half" s__law_half
  d__law_start : FunAt K mg "_law_start" s__law_start
  d__law_own_draws : FunAt K mg "_law_own_draws" s__law_own_draws
  d__law_own_start : FunAt K mg "_law_own_start" s__law_own_start
  d__law_own_hand : FunAt K mg "_law_own_hand" s__law_own_hand
  d__law_own_page : FunAt K mg "_law_own_page" s__law_own_page
  d__law_numbers : FunAt K mg "_law_numbers" s__law_numbers
  d_law : FunAt K mg "law" s_law
  b_abs : mg "abs" = none
  b_bool : mg "bool" = none
  b_enumerate : mg "enumerate" = none
  b_int : mg "int" = none
  b_isinstance : mg "isinstance" = none
  b_len : mg "len" = none
  b_range : mg "range" = none
  b_str : mg "str" = none
  b_sum : mg "sum" = none
  b_tuple : mg "tuple" = none
  i_gcd : mg "gcd" = some (.builtin "math.gcd")
  c_FACTOR : ∃ t, mg "FACTOR" = some (.int 1103515245 t)
  c_MORE : ∃ t, mg "MORE" = some (.int 12345 t)
  c_ROUND : ∃ t, mg "ROUND" = some (.int 2147483648 t)
  c_CUT : ∃ t, mg "CUT" = some (.int 65536 t)
  k_Drawer : Cls K (Tabs.C 0)
  n_Drawer_numbers : NoAttr K (Tabs.C 0) "numbers"
  n_Drawer_place : NoAttr K (Tabs.C 0) "place"
  n_Drawer_state : NoAttr K (Tabs.C 0) "state"
  t_0 : PP 0 ∈ Tabs.T
  tb_0 : GxR.TabB base mg (cc 0) (PP 0)
section
variable {P : Program} {w : World} {K : PySem.W.Frag} {mg : Str → Option Value} {base : Heap} {cc PP : Nat → Addr}
abbrev N_frac : List Str := ["above", "below", "by"]
theorem sc_frac : FnScope N_frac ["above", "below"] (defScope s_frac) := ⟨rfl, rfl, rfl, by decide +kernel, rfl, by decide +kernel, by decide +kernel⟩
theorem ok_frac (T : Txt P w K mg base cc PP) : Has P w K mg base "frac" s_frac 1 ["above", "below"] F_frac := by
  exact has_of (N := N_frac) (b := M_frac) fin_ok T.d_frac sc_frac rfl rfl (fun _ _ _ _ _ _ us hl => match us, hl with | [_, _], _ => rfl) fun f cdv A outer s H E hr =>
  (qs_cons (q_set (i := 2) (pm_gcd (fun _ => rfl) T.i_gcd (pl_cons (pm_var 0) (pl_cons (pm_var 1) pl_nil))))
  (qs_cons (q_if (pb_cp cr_lt (pm_var 1) pm_int)
  (qs_one (q_set (i := 2) (pm_neg (pm_var 2))))
  qs_nil)
  (qs_one (q_ret (pm_tup (pl_cons (pm_div (pm_var 0) (pm_var 2)) (pl_cons (pm_div (pm_var 1) (pm_var 2)) pl_nil)))))))
abbrev N_times : List Str := ["one", "other"]
theorem sc_times : FnScope N_times ["one", "other"] (defScope s_times) := ⟨rfl, rfl, rfl, by decide +kernel, rfl, by decide +kernel, by decide +kernel⟩
theorem ok_times (T : Txt P w K mg base cc PP) : Has P w K mg base "times" s_times 2 ["one", "other"] F_times := by
  have H_frac := ok_frac T
  exact has_of (N := N_times) (b := M_times) fin_ok T.d_times sc_times rfl rfl (fun _ _ _ _ _ _ us hl => match us, hl with | [_, _], _ => rfl) fun f cdv A outer s H E hr =>
  (qs_one (q_ret (pm_callP H_frac (Nat.le_of_ble_eq_true rfl) (fun _ => rfl) (pl_cons (pm_mul (pm_ix (pm_var 0) pm_int) (pm_ix (pm_var 1) pm_int)) (pl_cons (pm_mul (pm_ix (pm_var 0) pm_int) (pm_ix (pm_var 1) pm_int)) pl_nil)))))
abbrev N_Drawer___init__ : List Str := ["self", "numbers", "place", "number"]
theorem sc_Drawer___init__ : FnScope N_Drawer___init__ ["self", "numbers"] (defScope s_Drawer___init__) := ⟨rfl, rfl, rfl, by decide +kernel, rfl, by decide +kernel, by decide +kernel⟩
theorem ok_Drawer___init__ (T : Txt P w K mg base cc PP) : HasI P w K mg base 0 "Drawer" "Drawer.__init__" s_Drawer___init__ 1 ["self", "numbers"] F_Drawer___init__ := by
  exact has_ofI (N := N_Drawer___init__) (b := M_Drawer___init__) fin_ok T.d_Drawer___init__ sc_Drawer___init__ rfl rfl (fun _ _ _ _ _ _ us hl => match us, hl with | [_, _], _ => rfl) fun f cdv A outer s H E hr hc =>
  (qs_cons (q_setF T.k_Drawer T.n_Drawer_numbers (pm_var 0) (pm_var 1))
  (qs_cons (q_setF T.k_Drawer T.n_Drawer_place (pm_var 0) pm_int)
  (qs_one (q_setF T.k_Drawer T.n_Drawer_state (pm_var 0) (pm_sumE (xa := "place") (xb := "number") (T.t_0) (fun _ => rfl) T.b_sum T.tb_0 (fun _ => hc) (fun _ => genS2_of rfl rfl (by decide +kernel) rfl rfl rfl (by decide +kernel) (by decide +kernel)) (fun _ => rfl) T.b_enumerate (pm_var 1) (ge_mul (ge_b rfl rfl) (ge_add (ge_a rfl rfl) ge_c)))))))
abbrev N_Drawer_draw : List Str := ["self", "more"]
theorem sc_Drawer_draw : FnScope N_Drawer_draw ["self"] (defScope s_Drawer_draw) := ⟨rfl, rfl, rfl, by decide +kernel, rfl, by decide +kernel, by decide +kernel⟩
theorem ok_Drawer_draw (T : Txt P w K mg base cc PP) : HasM P w K mg base 0 "draw" "Drawer.draw" s_Drawer_draw 1 ["self"] F_Drawer_draw := by
  exact has_ofM (N := N_Drawer_draw) (b := M_Drawer_draw) fin_ok T.d_Drawer_draw sc_Drawer_draw rfl rfl (fun _ _ _ _ _ _ us hl => match us, hl with | [_], _ => rfl) fun f cdv A outer s H E hr =>
  (qs_cons (q_set (i := 1) (pm_ix (pm_fld T.k_Drawer T.n_Drawer_numbers (pm_var 0)) (pm_mod (pm_fld T.k_Drawer T.n_Drawer_place (pm_var 0)) (pm_len (fun _ => rfl) T.b_len (pl_cons (pm_fld T.k_Drawer T.n_Drawer_numbers (pm_var 0)) pl_nil)))))
  (qs_cons (q_setF T.k_Drawer T.n_Drawer_state (pm_var 0) (pm_mod (pm_add (pm_add (pm_mul (pm_fld T.k_Drawer T.n_Drawer_state (pm_var 0)) (pm_glob (v := .int 1103515245) (fun _ => rfl) T.c_FACTOR.choose_spec ⟨_, rfl⟩ (fun _ _ => .int _))) (pm_glob (v := .int 12345) (fun _ => rfl) T.c_MORE.choose_spec ⟨_, rfl⟩ (fun _ _ => .int _))) (pm_var 1)) (pm_glob (v := .int 2147483648) (fun _ => rfl) T.c_ROUND.choose_spec ⟨_, rfl⟩ (fun _ _ => .int _))))
  (qs_cons (q_augF T.k_Drawer T.n_Drawer_place (pm_var 0) pm_int)
  (qs_one (q_ret (pm_div (pm_fld T.k_Drawer T.n_Drawer_state (pm_var 0)) (pm_glob (v := .int 65536) (fun _ => rfl) T.c_CUT.choose_spec ⟨_, rfl⟩ (fun _ _ => .int _))))))))
abbrev N_draws : List Str := ["numbers", "many", "drawer", "_"]
theorem sc_draws : FnScope N_draws ["numbers", "many"] (defScope s_draws) := ⟨rfl, rfl, rfl, by decide +kernel, rfl, by decide +kernel, by decide +kernel⟩
theorem ok_draws (T : Txt P w K mg base cc PP) : Has P w K mg base "draws" s_draws 3 ["numbers", "many"] F_draws := by
  have H_Drawer___init__ := ok_Drawer___init__ T
  have H_Drawer_draw := ok_Drawer_draw T
  exact has_of (N := N_draws) (b := M_draws) fin_ok T.d_draws sc_draws rfl rfl (fun _ _ _ _ _ _ us hl => match us, hl with | [_, _], _ => rfl) fun f cdv A outer s H E hr =>
  (qs_cons (q_set (i := 2) (pm_make H_Drawer___init__ (Nat.le_of_ble_eq_true rfl) (fun _ => rfl) (pl_cons (pm_var 0) pl_nil)))
  (qs_one (q_ret (pm_tuple (fun _ => rfl) T.b_tuple (pl_cons (pm_lc (own := [("_", 3)]) (qi_range1 (fun _ => rfl) T.b_range (pl_cons (pm_var 1) pl_nil)) (fun _ => blkOk_by (own := [("_", 3)]) (N := N_draws) (sc := defScope s_draws) (by decide +kernel)) (qg_name (i := 3)) qt_nil (pm_meth0 T.k_Drawer H_Drawer_draw (Nat.le_of_ble_eq_true rfl) (pm_var 2))) pl_nil)))))
abbrev N_start_by : List Str := ["drawer", "d", "rows", "_", "worth", "row"]
theorem sc_start_by : FnScope N_start_by ["drawer", "d"] (defScope s_start_by) := ⟨rfl, rfl, rfl, by decide +kernel, rfl, by decide +kernel, by decide +kernel⟩
theorem ok_start_by (T : Txt P w K mg base cc PP) : Has P w K mg base "start_by" s_start_by 2 ["drawer", "d"] F_start_by := by
  have H_frac := ok_frac T
  have H_Drawer_draw := ok_Drawer_draw T
  exact has_of (N := N_start_by) (b := M_start_by) fin_ok T.d_start_by sc_start_by rfl rfl (fun _ _ _ _ _ _ us hl => match us, hl with | [_, _], _ => rfl) fun f cdv A outer s H E hr =>
  (qs_cons (q_set (i := 2) (pm_new pl_nil))
  (qs_cons (q_for (qi_range1 (fun _ => rfl) T.b_range (pl_cons (pm_add (pm_var 1) pm_int) pl_nil)) (qg_name (i := 3))
  (qs_cons (q_set (i := 4) (pm_callP H_frac (Nat.le_of_ble_eq_true rfl) (fun _ => rfl) (pl_cons (pm_sub (pm_mod (pm_meth0 T.k_Drawer H_Drawer_draw (Nat.le_of_ble_eq_true rfl) (pm_var 0)) pm_int) pm_int) (pl_cons pm_int pl_nil))))
  (qs_one (q_expr (pm_append (pm_var 2) (pm_tup (pl_cons (pm_var 4) (pl_cons (pm_callP H_frac (Nat.le_of_ble_eq_true rfl) (fun _ => rfl) (pl_cons (pm_mod (pm_meth0 T.k_Drawer H_Drawer_draw (Nat.le_of_ble_eq_true rfl) (pm_var 0)) pm_int) (pl_cons pm_int pl_nil))) pl_nil))))))) (fun _ => PassesOwn.never))
  (qs_frz 2 (qs_one (q_ret (pm_tup (pl_cons (pm_tuple (fun _ => rfl) T.b_tuple (pl_cons (pm_lc (own := [("row", 5)]) (qi_row (pm_var 2)) (fun _ => blkOk_by (own := [("row", 5)]) (N := N_start_by) (sc := defScope s_start_by) (by decide +kernel)) (qg_name (i := 5)) qt_nil (pm_ix (pm_var 5) pm_int)) pl_nil)) (pl_cons (pm_tuple (fun _ => rfl) T.b_tuple (pl_cons (pm_lc (own := [("row", 5)]) (qi_row (pm_var 2)) (fun _ => blkOk_by (own := [("row", 5)]) (N := N_start_by) (sc := defScope s_start_by) (by decide +kernel)) (qg_name (i := 5)) qt_nil (pm_ix (pm_var 5) pm_int)) pl_nil)) pl_nil))))))))
abbrev N_drawn_start : List Str := ["numbers", "d"]
theorem sc_drawn_start : FnScope N_drawn_start ["numbers", "d"] (defScope s_drawn_start) := ⟨rfl, rfl, rfl, by decide +kernel, rfl, by decide +kernel, by decide +kernel⟩
theorem ok_drawn_start (T : Txt P w K mg base cc PP) : Has P w K mg base "drawn_start" s_drawn_start 3 ["numbers", "d"] F_drawn_start := by
  have H_Drawer___init__ := ok_Drawer___init__ T
  have H_start_by := ok_start_by T
  exact has_of (N := N_drawn_start) (b := M_drawn_start) fin_ok T.d_drawn_start sc_drawn_start rfl rfl (fun _ _ _ _ _ _ us hl => match us, hl with | [_, _], _ => rfl) fun f cdv A outer s H E hr =>
  (qs_one (q_ret (pm_call H_start_by (Nat.le_of_ble_eq_true rfl) (fun _ => rfl) (pl_cons (pm_make H_Drawer___init__ (Nat.le_of_ble_eq_true rfl) (fun _ => rfl) (pl_cons (pm_var 0) pl_nil)) (pl_cons (pm_var 1) pl_nil)))))
abbrev N_drawn_hand : List Str := ["start", "numbers", "drawer", "unit"]
theorem sc_drawn_hand : FnScope N_drawn_hand ["start", "numbers"] (defScope s_drawn_hand) := ⟨rfl, rfl, rfl, by decide +kernel, rfl, by decide +kernel, by decide +kernel⟩
theorem ok_drawn_hand (T : Txt P w K mg base cc PP) : Has P w K mg base "drawn_hand" s_drawn_hand 3 ["start", "numbers"] F_drawn_hand := by
  have H_frac := ok_frac T
  have H_times := ok_times T
  have H_Drawer___init__ := ok_Drawer___init__ T
  have H_Drawer_draw := ok_Drawer_draw T
  exact has_of (N := N_drawn_hand) (b := M_drawn_hand) fin_ok T.d_drawn_hand sc_drawn_hand rfl rfl (fun _ _ _ _ _ _ us hl => match us, hl with | [_, _], _ => rfl) fun f cdv A outer s H E hr =>
  (qs_cons (q_set (i := 2) (pm_make H_Drawer___init__ (Nat.le_of_ble_eq_true rfl) (fun _ => rfl) (pl_cons (pm_var 1) pl_nil)))
  (qs_one (q_ret (pm_tuple (fun _ => rfl) T.b_tuple (pl_cons (pm_lc (own := [("unit", 3)]) (qi_row (pm_ix (pm_var 0) pm_int)) (fun _ => blkOk_by (own := [("unit", 3)]) (N := N_drawn_hand) (sc := defScope s_drawn_hand) (by decide +kernel)) (qg_name (i := 3)) qt_nil (pm_callP H_times (Nat.le_of_ble_eq_true rfl) (fun _ => rfl) (pl_cons (pm_var 3) (pl_cons (pm_callP H_frac (Nat.le_of_ble_eq_true rfl) (fun _ => rfl) (pl_cons (pm_sub (pm_mod (pm_meth0 T.k_Drawer H_Drawer_draw (Nat.le_of_ble_eq_true rfl) (pm_var 2)) pm_int) pm_int) (pl_cons pm_int pl_nil))) pl_nil)))) pl_nil)))))
abbrev N_drawn_page : List Str := ["numbers", "d", "drawer", "start", "first"]
theorem sc_drawn_page : FnScope N_drawn_page ["numbers", "d"] (defScope s_drawn_page) := ⟨rfl, rfl, rfl, by decide +kernel, rfl, by decide +kernel, by decide +kernel⟩
theorem ok_drawn_page (T : Txt P w K mg base cc PP) : Has P w K mg base "drawn_page" s_drawn_page 3 ["numbers", "d"] F_drawn_page := by
  have H_Drawer___init__ := ok_Drawer___init__ T
  have H_Drawer_draw := ok_Drawer_draw T
  have H_start_by := ok_start_by T
  exact has_of (N := N_drawn_page) (b := M_drawn_page) fin_ok T.d_drawn_page sc_drawn_page rfl rfl (fun _ _ _ _ _ _ us hl => match us, hl with | [_, _], _ => rfl) fun f cdv A outer s H E hr =>
  (qs_cons (q_set (i := 2) (pm_make H_Drawer___init__ (Nat.le_of_ble_eq_true rfl) (fun _ => rfl) (pl_cons (pm_var 0) pl_nil)))
  (qs_cons (q_set (i := 3) (pm_call H_start_by (Nat.le_of_ble_eq_true rfl) (fun _ => rfl) (pl_cons (pm_var 2) (pl_cons (pm_var 1) pl_nil))))
  (qs_cons (q_set (i := 4) (pm_sub (pm_mod (pm_meth0 T.k_Drawer H_Drawer_draw (Nat.le_of_ble_eq_true rfl) (pm_var 2)) pm_int) pm_int))
  (qs_one (q_ret (pm_tup (pl_cons (pm_var 3) (pl_cons (pm_var 4) (pl_cons (pm_add pm_int (pm_mod (pm_meth0 T.k_Drawer H_Drawer_draw (Nat.le_of_ble_eq_true rfl) (pm_var 2)) pm_int)) (pl_cons pm_int (pl_cons pm_str pl_nil)))))))))))
abbrev N__law_bag : List Str := ["script", "cells", "cell", "great"]
theorem sc__law_bag : FnScope N__law_bag ["script"] (defScope s__law_bag) := ⟨rfl, rfl, rfl, by decide +kernel, rfl, by decide +kernel, by decide +kernel⟩
theorem ok__law_bag (T : Txt P w K mg base cc PP) : Has P w K mg base "_law_bag" s__law_bag 1 ["script"] F__law_bag := by
  exact has_of (N := N__law_bag) (b := M__law_bag) finK_ok T.d__law_bag sc__law_bag rfl rfl (fun _ _ _ _ _ _ us hl => match us, hl with | [_], _ => rfl) fun f cdv A outer s H E hr =>
  (qs_cons (q_set (i := 1) (pm_add (pm_lc (own := [("cell", 2)]) (qi_row (pm_var 0)) (fun _ => blkOk_by (own := [("cell", 2)]) (N := N__law_bag) (sc := defScope s__law_bag) (by decide +kernel)) (qg_name (i := 2)) qt_nil (pm_abs (fun _ => rfl) T.b_abs (pl_cons (pm_intc (fun _ => rfl) T.b_int (pl_cons (pm_var 2) pl_nil)) pl_nil))) (pm_lst (pl_cons pm_int pl_nil))))
  (qs_cons (q_set (i := 3) (pm_new pl_nil))
  (qs_cons (q_if (pb_cp cr_eq (pm_mod (pm_intc (fun _ => rfl) T.b_int (pl_cons (pm_ix (pm_var 1) pm_int) pl_nil)) pm_int) pm_int)
  (qs_cons (q_setLcn (i := 3) (fun _ => rfl) (fun _ => rfl) (fun _ => sw_true rfl rfl rfl (by decide +kernel)) (own := [("cell", 2)]) (qi_row (pm_var 1)) (fun _ => blkOk_by (own := [("cell", 2)]) (N := N__law_bag) (sc := defScope s__law_bag) (by decide +kernel)) (qg_name (i := 2)) (qt_one (pb_cp cr_ge (pm_var 2) (pm_pow pm_int pm_int))) (pm_div (pm_var 2) pm_int))
  (qs_one (q_expr (pm_reverse (pm_var 3)))))
  qs_nil)
  (qs_one (q_ret (pm_new (pl_cons pm_int (pl_cons pm_int (pl_cons (pm_var 3) (pl_cons (pm_lc (own := [("cell", 2)]) (qi_row (pm_var 1)) (fun _ => blkOk_by (own := [("cell", 2)]) (N := N__law_bag) (sc := defScope s__law_bag) (by decide +kernel)) (qg_name (i := 2)) qt_nil (pm_mod (pm_intc (fun _ => rfl) T.b_int (pl_cons (pm_var 2) pl_nil)) pm_int)) pl_nil))))))))))
abbrev N__law_draw : List Str := ["bag", "many", "digit", "cell", "mixed"]
theorem sc__law_draw : FnScope N__law_draw ["bag", "many"] (defScope s__law_draw) := ⟨rfl, rfl, rfl, by decide +kernel, rfl, by decide +kernel, by decide +kernel⟩
theorem ok__law_draw (T : Txt P w K mg base cc PP) : Has P w K mg base "_law_draw" s__law_draw 1 ["bag", "many"] F__law_draw := by
  exact has_of (N := N__law_draw) (b := M__law_draw) fin_ok T.d__law_draw sc__law_draw rfl rfl (fun _ _ _ _ _ _ us hl => match us, hl with | [_, _], _ => rfl) fun f cdv A outer s H E hr =>
  (qs_cons (q_setI (pm_var 0) pm_int (pm_add (pm_ix (pm_var 0) pm_int) pm_int))
  (qs_cons (q_if (pb_of (bw_and (pb_cp cr_eq (pm_ix (pm_var 0) pm_int) pm_int) (bw_and1 (pb_cp cr_gt (pm_len (fun _ => rfl) T.b_len (pl_cons (pm_ix (pm_var 0) pm_int) pl_nil)) pm_int))))
  (qs_one (q_setI (pm_var 0) pm_int (pm_pop (pm_ix (pm_var 0) pm_int))))
  qs_nil)
  (qs_cons (q_if (pb_cp cr_gt (pm_ix (pm_var 0) pm_int) pm_int)
  (qs_cons (q_set (i := 2) (pm_mod (pm_intc (fun _ => rfl) T.b_int (pl_cons (pm_ix (pm_var 0) pm_int) pl_nil)) (pm_var 1)))
  (qs_cons (q_setI (pm_var 0) pm_int (pm_div (pm_ix (pm_var 0) pm_int) (pm_var 1)))
  (qs_one (q_ret (pm_var 2)))))
  qs_nil)
  (qs_cons (q_set (i := 3) (pm_ix (pm_ix (pm_var 0) pm_int) (pm_mod (pm_intc (fun _ => rfl) T.b_int (pl_cons (pm_ix (pm_var 0) pm_int) pl_nil)) (pm_len (fun _ => rfl) T.b_len (pl_cons (pm_ix (pm_var 0) pm_int) pl_nil)))))
  (qs_cons (q_set (i := 4) (pm_mod (pm_intc (fun _ => rfl) T.b_int (pl_cons (pm_add (pm_add (pm_mul (pm_var 3) pm_int) (pm_mul (pm_ix (pm_var 0) pm_int) pm_int)) pm_int) pl_nil)) pm_int))
  (qs_one (q_ret (pm_mod (pm_div (pm_mod (pm_intc (fun _ => rfl) T.b_int (pl_cons (pm_add (pm_add (pm_mul (pm_var 4) (pm_var 4)) (pm_mul (pm_var 4) pm_int)) (pm_mul (pm_ix (pm_var 0) pm_int) pm_int)) pl_nil)) pm_int) pm_int) (pm_var 1)))))))))
abbrev N__law_pick : List Str := ["bag", "some"]
theorem sc__law_pick : FnScope N__law_pick ["bag", "some"] (defScope s__law_pick) := ⟨rfl, rfl, rfl, by decide +kernel, rfl, by decide +kernel, by decide +kernel⟩
theorem ok__law_pick (T : Txt P w K mg base cc PP) : Has P w K mg base "_law_pick" s__law_pick 2 ["bag", "some"] F__law_pick := by
  have H__law_draw := ok__law_draw T
  exact has_of (N := N__law_pick) (b := M__law_pick) fin_ok T.d__law_pick sc__law_pick rfl rfl (fun _ _ _ _ _ _ us hl => match us, hl with | [_, _], _ => rfl) fun f cdv A outer s H E hr =>
  (qs_one (q_ret (pm_ix (pm_var 1) (pm_call H__law_draw (Nat.le_of_ble_eq_true rfl) (fun _ => rfl) (pl_cons (pm_var 0) (pl_cons (pm_len (fun _ => rfl) T.b_len (pl_cons (pm_var 1) pl_nil)) pl_nil))))))
abbrev N__law_same : List Str := ["found", "due", "k"]
theorem sc__law_same : FnScope N__law_same ["found", "due"] (defScope s__law_same) := ⟨rfl, rfl, rfl, by decide +kernel, rfl, by decide +kernel, by decide +kernel⟩
theorem ok__law_same (T : Txt P w K mg base cc PP) : ∀ n, Has P w K mg base "_law_same" s__law_same (0 + n) ["found", "due"] (F__law_same n)
  | 0 => has_none T.d__law_same (fun _ _ _ _ _ _ us hl => match us, hl with | [_, _], _ => rfl)
  | n + 1 => by
    have ih := ok__law_same T n
    exact has_of (N := N__law_same) (b := M__law_same (F__law_same n)) fin_ok T.d__law_same sc__law_same rfl rfl (fun _ _ _ _ _ _ us hl => match us, hl with | [_, _], _ => rfl) fun f cdv A outer s H E hr =>
  (qs_cons (q_if (pb_cp cr_isN (pm_var 1) pm_non)
  (qs_one (q_ret (pm_cp cr_isN (pm_var 0) pm_non)))
  qs_nil)
  (qs_cons (q_if (pb_of (bw_or (pb_tru (pm_isi it_bool (fun _ => rfl) T.b_isinstance (fun _ => rfl) T.b_bool (by decide +kernel) (pm_var 1))) (bw_or1 (pb_tru (pm_isi it_bool (fun _ => rfl) T.b_isinstance (fun _ => rfl) T.b_bool (by decide +kernel) (pm_var 0))))))
  (qs_one (q_ret (pm_and (pm_isi it_bool (fun _ => rfl) T.b_isinstance (fun _ => rfl) T.b_bool (by decide +kernel) (pm_var 1)) (pm_and (pm_isi it_bool (fun _ => rfl) T.b_isinstance (fun _ => rfl) T.b_bool (by decide +kernel) (pm_var 0)) (pm_one (pm_cp cr_eq (pm_var 0) (pm_var 1)))))))
  qs_nil)
  (qs_cons (q_if (pb_tru (pm_isi it_int (fun _ => rfl) T.b_isinstance (fun _ => rfl) T.b_int (by decide +kernel) (pm_var 1)))
  (qs_one (q_ret (pm_and (pm_isi it_int (fun _ => rfl) T.b_isinstance (fun _ => rfl) T.b_int (by decide +kernel) (pm_var 0)) (pm_one (pm_cp cr_eq (pm_var 0) (pm_var 1))))))
  qs_nil)
  (qs_cons (q_if (pb_tru (pm_isi it_str (fun _ => rfl) T.b_isinstance (fun _ => rfl) T.b_str (by decide +kernel) (pm_var 1)))
  (qs_one (q_ret (pm_and (pm_isi it_str (fun _ => rfl) T.b_isinstance (fun _ => rfl) T.b_str (by decide +kernel) (pm_var 0)) (pm_one (pm_cp cr_eq (pm_var 0) (pm_var 1))))))
  qs_nil)
  (qs_cons (q_if (pb_of (bw_or (pb_not (pb_tru (pm_isi it_tup (fun _ => rfl) T.b_isinstance (fun _ => rfl) T.b_tuple (by decide +kernel) (pm_var 1)))) (bw_or (pb_not (pb_tru (pm_isi it_tup (fun _ => rfl) T.b_isinstance (fun _ => rfl) T.b_tuple (by decide +kernel) (pm_var 0)))) (bw_or1 (pb_cp cr_ne (pm_len (fun _ => rfl) T.b_len (pl_cons (pm_var 0) pl_nil)) (pm_len (fun _ => rfl) T.b_len (pl_cons (pm_var 1) pl_nil)))))))
  (qs_one (q_ret pm_bl))
  qs_nil)
  (qs_cons (q_for (qi_range1 (fun _ => rfl) T.b_range (pl_cons (pm_len (fun _ => rfl) T.b_len (pl_cons (pm_var 1) pl_nil)) pl_nil)) (qg_name (i := 2))
  (qs_one (q_if (pb_not (pb_tru (pm_callP ih (Nat.le_refl _) (fun _ => rfl) (pl_cons (pm_ix (pm_var 0) (pm_var 2)) (pl_cons (pm_ix (pm_var 1) (pm_var 2)) pl_nil)))))
  (qs_one (q_ret pm_bl))
  qs_nil)) (fun _ => PassesOwn.never))
  (qs_one (q_ret pm_bl))))))))
abbrev N__law_gcd : List Str := ["a", "b"]
theorem sc__law_gcd : FnScope N__law_gcd ["a", "b"] (defScope s__law_gcd) := ⟨rfl, rfl, rfl, by decide +kernel, rfl, by decide +kernel, by decide +kernel⟩
theorem ok__law_gcd (T : Txt P w K mg base cc PP) : Has P w K mg base "_law_gcd" s__law_gcd 1 ["a", "b"] F__law_gcd := by
  exact has_of (N := N__law_gcd) (b := M__law_gcd) fin_ok T.d__law_gcd sc__law_gcd rfl rfl (fun _ _ _ _ _ _ us hl => match us, hl with | [_, _], _ => rfl) fun f cdv A outer s H E hr =>
  (qs_cons (q_par2 (i := 0) (j := 1) (fun _ => rfl) (fun _ => rfl) (by decide) (fun _ => rfl) (fun _ => rfl) (pl_cons (pm_abs (fun _ => rfl) T.b_abs (pl_cons (pm_var 0) pl_nil)) (pl_cons (pm_abs (fun _ => rfl) T.b_abs (pl_cons (pm_var 1) pl_nil)) pl_nil)) (fun _ => rfl))
  (qs_cons (q_while (pb_cp cr_ne (pm_var 1) pm_int)
  (qs_one (q_par2 (i := 0) (j := 1) (fun _ => rfl) (fun _ => rfl) (by decide) (fun _ => rfl) (fun _ => rfl) (pl_cons (pm_var 1) (pl_cons (pm_mod (pm_intc (fun _ => rfl) T.b_int (pl_cons (pm_var 0) pl_nil)) (pm_var 1)) pl_nil)) (fun _ => rfl))) (fun _ => PassesOwn.never))
  (qs_one (q_ret (pm_var 0)))))
abbrev N__law_fr : List Str := ["a", "b", "by"]
theorem sc__law_fr : FnScope N__law_fr ["a", "b"] (defScope s__law_fr) := ⟨rfl, rfl, rfl, by decide +kernel, rfl, by decide +kernel, by decide +kernel⟩
theorem ok__law_fr (T : Txt P w K mg base cc PP) : Has P w K mg base "_law_fr" s__law_fr 2 ["a", "b"] F__law_fr := by
  have H__law_gcd := ok__law_gcd T
  exact has_of (N := N__law_fr) (b := M__law_fr) fin_ok T.d__law_fr sc__law_fr rfl rfl (fun _ _ _ _ _ _ us hl => match us, hl with | [_, _], _ => rfl) fun f cdv A outer s H E hr =>
  (qs_cons (q_set (i := 2) (pm_callP H__law_gcd (Nat.le_of_ble_eq_true rfl) (fun _ => rfl) (pl_cons (pm_var 0) (pl_cons (pm_var 1) pl_nil))))
  (qs_one (q_ret (pm_tup (pl_cons (pm_div (pm_var 0) (pm_var 2)) (pl_cons (pm_div (pm_var 1) (pm_var 2)) pl_nil))))))
abbrev N__law_times : List Str := ["a", "b"]
theorem sc__law_times : FnScope N__law_times ["a", "b"] (defScope s__law_times) := ⟨rfl, rfl, rfl, by decide +kernel, rfl, by decide +kernel, by decide +kernel⟩
theorem ok__law_times (T : Txt P w K mg base cc PP) : Has P w K mg base "_law_times" s__law_times 3 ["a", "b"] F__law_times := by
  have H__law_fr := ok__law_fr T
  exact has_of (N := N__law_times) (b := M__law_times) fin_ok T.d__law_times sc__law_times rfl rfl (fun _ _ _ _ _ _ us hl => match us, hl with | [_, _], _ => rfl) fun f cdv A outer s H E hr =>
  (qs_one (q_ret (pm_callP H__law_fr (Nat.le_of_ble_eq_true rfl) (fun _ => rfl) (pl_cons (pm_mul (pm_ix (pm_var 0) pm_int) (pm_ix (pm_var 1) pm_int)) (pl_cons (pm_mul (pm_ix (pm_var 0) pm_int) (pm_ix (pm_var 1) pm_int)) pl_nil)))))
abbrev N__law_less : List Str := ["a", "b"]
theorem sc__law_less : FnScope N__law_less ["a", "b"] (defScope s__law_less) := ⟨rfl, rfl, rfl, by decide +kernel, rfl, by decide +kernel, by decide +kernel⟩
theorem ok__law_less (T : Txt P w K mg base cc PP) : Has P w K mg base "_law_less" s__law_less 1 ["a", "b"] F__law_less := by
  exact has_of (N := N__law_less) (b := M__law_less) fin_ok T.d__law_less sc__law_less rfl rfl (fun _ _ _ _ _ _ us hl => match us, hl with | [_, _], _ => rfl) fun f cdv A outer s H E hr =>
  (qs_one (q_ret (pm_cp cr_lt (pm_mul (pm_ix (pm_var 0) pm_int) (pm_ix (pm_var 1) pm_int)) (pm_mul (pm_ix (pm_var 1) pm_int) (pm_ix (pm_var 0) pm_int)))))
abbrev N__law_ten : List Str := ["k", "found", "j"]
theorem sc__law_ten : FnScope N__law_ten ["k"] (defScope s__law_ten) := ⟨rfl, rfl, rfl, by decide +kernel, rfl, by decide +kernel, by decide +kernel⟩
theorem ok__law_ten (T : Txt P w K mg base cc PP) : Has P w K mg base "_law_ten" s__law_ten 1 ["k"] F__law_ten := by
  exact has_of (N := N__law_ten) (b := M__law_ten) fin_ok T.d__law_ten sc__law_ten rfl rfl (fun _ _ _ _ _ _ us hl => match us, hl with | [_], _ => rfl) fun f cdv A outer s H E hr =>
  (qs_cons (q_set (i := 1) pm_int)
  (qs_cons (q_for (qi_range1 (fun _ => rfl) T.b_range (pl_cons (pm_var 0) pl_nil)) (qg_name (i := 2))
  (qs_one (q_set (i := 1) (pm_mul (pm_var 1) pm_int))) (fun _ => PassesOwn.never))
  (qs_one (q_ret (pm_var 1)))))
abbrev N__law_is_whole : List Str := ["value"]
theorem sc__law_is_whole : FnScope N__law_is_whole ["value"] (defScope s__law_is_whole) := ⟨rfl, rfl, rfl, by decide +kernel, rfl, by decide +kernel, by decide +kernel⟩
theorem ok__law_is_whole (T : Txt P w K mg base cc PP) : Has P w K mg base "_law_is_whole" s__law_is_whole 1 ["value"] F__law_is_whole := by
  exact has_of (N := N__law_is_whole) (b := M__law_is_whole) fin_ok T.d__law_is_whole sc__law_is_whole rfl rfl (fun _ _ _ _ _ _ us hl => match us, hl with | [_], _ => rfl) fun f cdv A outer s H E hr =>
  (qs_one (q_ret (pm_and (pm_isi it_int (fun _ => rfl) T.b_isinstance (fun _ => rfl) T.b_int (by decide +kernel) (pm_var 0)) (pm_one (pm_not (pm_isi it_bool (fun _ => rfl) T.b_isinstance (fun _ => rfl) T.b_bool (by decide +kernel) (pm_var 0)))))))
abbrev N__law_is_fraction : List Str := ["value"]
theorem sc__law_is_fraction : FnScope N__law_is_fraction ["value"] (defScope s__law_is_fraction) := ⟨rfl, rfl, rfl, by decide +kernel, rfl, by decide +kernel, by decide +kernel⟩
theorem ok__law_is_fraction (T : Txt P w K mg base cc PP) : Has P w K mg base "_law_is_fraction" s__law_is_fraction 2 ["value"] F__law_is_fraction := by
  have H__law_gcd := ok__law_gcd T
  have H__law_is_whole := ok__law_is_whole T
  exact has_of (N := N__law_is_fraction) (b := M__law_is_fraction) fin_ok T.d__law_is_fraction sc__law_is_fraction rfl rfl (fun _ _ _ _ _ _ us hl => match us, hl with | [_], _ => rfl) fun f cdv A outer s H E hr =>
  (qs_cons (q_if (pb_of (bw_or (pb_not (pb_tru (pm_isi it_tup (fun _ => rfl) T.b_isinstance (fun _ => rfl) T.b_tuple (by decide +kernel) (pm_var 0)))) (bw_or (pb_cp cr_ne (pm_len (fun _ => rfl) T.b_len (pl_cons (pm_var 0) pl_nil)) pm_int) (bw_or (pb_not (pb_tru (pm_callP H__law_is_whole (Nat.le_of_ble_eq_true rfl) (fun _ => rfl) (pl_cons (pm_ix (pm_var 0) pm_int) pl_nil)))) (bw_or (pb_not (pb_tru (pm_callP H__law_is_whole (Nat.le_of_ble_eq_true rfl) (fun _ => rfl) (pl_cons (pm_ix (pm_var 0) pm_int) pl_nil)))) (bw_or1 (pb_cp cr_lt (pm_ix (pm_var 0) pm_int) pm_int)))))))
  (qs_one (q_ret pm_bl))
  qs_nil)
  (qs_one (q_ret (pm_cp cr_eq (pm_callP H__law_gcd (Nat.le_of_ble_eq_true rfl) (fun _ => rfl) (pl_cons (pm_abs (fun _ => rfl) T.b_abs (pl_cons (pm_ix (pm_var 0) pm_int) pl_nil)) (pl_cons (pm_ix (pm_var 0) pm_int) pl_nil))) pm_int))))
abbrev N__law_is_hand : List Str := ["start", "value", "j"]
theorem sc__law_is_hand : FnScope N__law_is_hand ["start", "value"] (defScope s__law_is_hand) := ⟨rfl, rfl, rfl, by decide +kernel, rfl, by decide +kernel, by decide +kernel⟩
theorem ok__law_is_hand (T : Txt P w K mg base cc PP) : Has P w K mg base "_law_is_hand" s__law_is_hand 3 ["start", "value"] F__law_is_hand := by
  have H__law_less := ok__law_less T
  have H__law_is_fraction := ok__law_is_fraction T
  exact has_of (N := N__law_is_hand) (b := M__law_is_hand) fin_ok T.d__law_is_hand sc__law_is_hand rfl rfl (fun _ _ _ _ _ _ us hl => match us, hl with | [_, _], _ => rfl) fun f cdv A outer s H E hr =>
  (qs_cons (q_if (pb_of (bw_or (pb_not (pb_tru (pm_isi it_tup (fun _ => rfl) T.b_isinstance (fun _ => rfl) T.b_tuple (by decide +kernel) (pm_var 1)))) (bw_or1 (pb_cp cr_ne (pm_len (fun _ => rfl) T.b_len (pl_cons (pm_var 1) pl_nil)) (pm_len (fun _ => rfl) T.b_len (pl_cons (pm_ix (pm_var 0) pm_int) pl_nil))))))
  (qs_one (q_ret pm_bl))
  qs_nil)
  (qs_cons (q_for (qi_range1 (fun _ => rfl) T.b_range (pl_cons (pm_len (fun _ => rfl) T.b_len (pl_cons (pm_var 1) pl_nil)) pl_nil)) (qg_name (i := 2))
  (qs_one (q_if (pb_of (bw_or (pb_not (pb_tru (pm_callP H__law_is_fraction (Nat.le_of_ble_eq_true rfl) (fun _ => rfl) (pl_cons (pm_ix (pm_var 1) (pm_var 2)) pl_nil)))) (bw_or1 (pb_tru (pm_callP H__law_less (Nat.le_of_ble_eq_true rfl) (fun _ => rfl) (pl_cons (pm_ix (pm_ix (pm_var 0) pm_int) (pm_var 2)) (pl_cons (pm_tup (pl_cons (pm_abs (fun _ => rfl) T.b_abs (pl_cons (pm_ix (pm_ix (pm_var 1) (pm_var 2)) pm_int) pl_nil)) (pl_cons (pm_ix (pm_ix (pm_var 1) (pm_var 2)) pm_int) pl_nil))) pl_nil)))))))
  (qs_one (q_ret pm_bl))
  qs_nil)) (fun _ => PassesOwn.never))
  (qs_one (q_ret pm_bl))))
abbrev N__law_half : List Str := ["bag", "most", "below", "b"]
theorem sc__law_half : FnScope N__law_half ["bag", "most", "below"] (defScope s__law_half) := ⟨rfl, rfl, rfl, by decide +kernel, rfl, by decide +kernel, by decide +kernel⟩
theorem ok__law_half (T : Txt P w K mg base cc PP) : Has P w K mg base "_law_half" s__law_half 3 ["bag", "most", "below"] F__law_half := by
  have H__law_draw := ok__law_draw T
  have H__law_fr := ok__law_fr T
  exact has_of (N := N__law_half) (b := M__law_half) fin_ok T.d__law_half sc__law_half rfl rfl (fun _ _ _ _ _ _ us hl => match us, hl with | [_, _, _], _ => rfl) fun f cdv A outer s H E hr =>
  (qs_cons (q_set (i := 3) (pm_add pm_int (pm_call H__law_draw (Nat.le_of_ble_eq_true rfl) (fun _ => rfl) (pl_cons (pm_var 0) (pl_cons (pm_var 2) pl_nil)))))
  (qs_one (q_ret (pm_callP H__law_fr (Nat.le_of_ble_eq_true rfl) (fun _ => rfl) (pl_cons (pm_sub (pm_call H__law_draw (Nat.le_of_ble_eq_true rfl) (fun _ => rfl) (pl_cons (pm_var 0) (pl_cons (pm_add (pm_mul (pm_mul pm_int (pm_var 1)) (pm_var 3)) pm_int) pl_nil))) (pm_mul (pm_var 1) (pm_var 3))) (pl_cons (pm_var 3) pl_nil))))))
abbrev N__law_start : List Str := ["bag", "d", "most", "below", "values", "j", "units"]
theorem sc__law_start : FnScope N__law_start ["bag", "d", "most", "below"] (defScope s__law_start) := ⟨rfl, rfl, rfl, by decide +kernel, rfl, by decide +kernel, by decide +kernel⟩
theorem ok__law_start (T : Txt P w K mg base cc PP) : Has P w K mg base "_law_start" s__law_start 4 ["bag", "d", "most", "below"] F__law_start := by
  have H__law_pick := ok__law_pick T
  have H__law_half := ok__law_half T
  exact has_of (N := N__law_start) (b := M__law_start) fin_ok T.d__law_start sc__law_start rfl rfl (fun _ _ _ _ _ _ us hl => match us, hl with | [_, _, _, _], _ => rfl) fun f cdv A outer s H E hr =>
  (qs_cons (q_setLc (i := 4) (fun _ => rfl) (fun _ => rfl) (fun _ => sw_true rfl rfl rfl (by decide +kernel)) (own := [("j", 5)]) (qi_range1 (fun _ => rfl) T.b_range (pl_cons (pm_add (pm_var 1) pm_int) pl_nil)) (fun _ => blkOk_by (own := [("j", 5)]) (N := N__law_start) (sc := defScope s__law_start) (by decide +kernel)) (qg_name (i := 5)) qt_nil (pm_call H__law_half (Nat.le_of_ble_eq_true rfl) (fun _ => rfl) (pl_cons (pm_var 0) (pl_cons (pm_if (pb_cp cr_eq (pm_var 5) pm_int) (pm_var 2) pm_int) (pl_cons (pm_var 3) pl_nil)))))
  (qs_cons (q_setLc (i := 6) (fun _ => rfl) (fun _ => rfl) (fun _ => sw_true rfl rfl rfl (by decide +kernel)) (own := [("j", 5)]) (qi_range1 (fun _ => rfl) T.b_range (pl_cons (pm_add (pm_var 1) pm_int) pl_nil)) (fun _ => blkOk_by (own := [("j", 5)]) (N := N__law_start) (sc := defScope s__law_start) (by decide +kernel)) (qg_name (i := 5)) qt_nil (pm_if (pb_cp cr_eq (pm_var 5) pm_int) (pm_call H__law_pick (Nat.le_of_ble_eq_true rfl) (fun _ => rfl) (pl_cons (pm_var 0) (pl_cons (pm_lst (pl_cons (pm_tup (pl_cons pm_int (pl_cons pm_int pl_nil))) (pl_cons (pm_tup (pl_cons pm_int (pl_cons pm_int pl_nil))) (pl_cons (pm_tup (pl_cons pm_int (pl_cons pm_int pl_nil))) (pl_cons (pm_tup (pl_cons pm_int (pl_cons pm_int pl_nil))) (pl_cons (pm_tup (pl_cons pm_int (pl_cons pm_int pl_nil))) (pl_cons (pm_tup (pl_cons pm_int (pl_cons pm_int pl_nil))) pl_nil))))))) pl_nil))) (pm_call H__law_pick (Nat.le_of_ble_eq_true rfl) (fun _ => rfl) (pl_cons (pm_var 0) (pl_cons (pm_lst (pl_cons (pm_tup (pl_cons pm_int (pl_cons pm_int pl_nil))) (pl_cons (pm_tup (pl_cons pm_int (pl_cons pm_int pl_nil))) (pl_cons (pm_tup (pl_cons pm_int (pl_cons pm_int pl_nil))) (pl_cons (pm_tup (pl_cons pm_int (pl_cons pm_int pl_nil))) pl_nil))))) pl_nil)))))
  (qs_one (q_ret (pm_tup (pl_cons (pm_tuple (fun _ => rfl) T.b_tuple (pl_cons (pm_var 4) pl_nil)) (pl_cons (pm_tuple (fun _ => rfl) T.b_tuple (pl_cons (pm_var 6) pl_nil)) pl_nil)))))))
abbrev N__law_own_draws : List Str := ["numbers", "many", "x", "found", "i", "k"]
theorem sc__law_own_draws : FnScope N__law_own_draws ["numbers", "many"] (defScope s__law_own_draws) := ⟨rfl, rfl, rfl, by decide +kernel, rfl, by decide +kernel, by decide +kernel⟩
theorem ok__law_own_draws (T : Txt P w K mg base cc PP) : Has P w K mg base "_law_own_draws" s__law_own_draws 1 ["numbers", "many"] F__law_own_draws := by
  exact has_of (N := N__law_own_draws) (b := M__law_own_draws) fin_ok T.d__law_own_draws sc__law_own_draws rfl rfl (fun _ _ _ _ _ _ us hl => match us, hl with | [_, _], _ => rfl) fun f cdv A outer s H E hr =>
  (qs_cons (q_par2 (i := 2) (j := 3) (fun _ => rfl) (fun _ => rfl) (by decide) (fun _ => rfl) (fun _ => rfl) (pl_cons (pm_sum (fun _ => rfl) T.b_sum (pl_cons (pm_lc (own := [("i", 4)]) (qi_range1 (fun _ => rfl) T.b_range (pl_cons (pm_len (fun _ => rfl) T.b_len (pl_cons (pm_var 0) pl_nil)) pl_nil)) (fun _ => blkOk_by (own := [("i", 4)]) (N := N__law_own_draws) (sc := defScope s__law_own_draws) (by decide +kernel)) (qg_name (i := 4)) qt_nil (pm_mul (pm_ix (pm_var 0) (pm_var 4)) (pm_add (pm_var 4) pm_int))) pl_nil)) (pl_cons (pm_new pl_nil) pl_nil)) (fun _ => rfl))
  (qs_cons (q_for (qi_range1 (fun _ => rfl) T.b_range (pl_cons (pm_var 1) pl_nil)) (qg_name (i := 5))
  (qs_cons (q_set (i := 2) (pm_mod (pm_intc (fun _ => rfl) T.b_int (pl_cons (pm_add (pm_add (pm_mul (pm_var 2) pm_int) pm_int) (pm_ix (pm_var 0) (pm_mod (pm_intc (fun _ => rfl) T.b_int (pl_cons (pm_var 5) pl_nil)) (pm_len (fun _ => rfl) T.b_len (pl_cons (pm_var 0) pl_nil))))) pl_nil)) pm_int))
  (qs_one (q_expr (pm_append (pm_var 3) (pm_div (pm_var 2) pm_int))))) (fun _ => PassesOwn.never))
  (qs_one (q_ret (pm_tuple (fun _ => rfl) T.b_tuple (pl_cons (pm_var 3) pl_nil))))))
abbrev N__law_own_start : List Str := ["numbers", "d", "row", "values", "units", "j"]
theorem sc__law_own_start : FnScope N__law_own_start ["numbers", "d"] (defScope s__law_own_start) := ⟨rfl, rfl, rfl, by decide +kernel, rfl, by decide +kernel, by decide +kernel⟩
theorem ok__law_own_start (T : Txt P w K mg base cc PP) : Has P w K mg base "_law_own_start" s__law_own_start 3 ["numbers", "d"] F__law_own_start := by
  have H__law_fr := ok__law_fr T
  have H__law_own_draws := ok__law_own_draws T
  exact has_of (N := N__law_own_start) (b := M__law_own_start) fin_ok T.d__law_own_start sc__law_own_start rfl rfl (fun _ _ _ _ _ _ us hl => match us, hl with | [_, _], _ => rfl) fun f cdv A outer s H E hr =>
  (qs_cons (q_par3 (i := 2) (j := 3) (l := 4) (fun _ => rfl) (fun _ => rfl) (fun _ => rfl) (by decide) (by decide) (by decide) (fun _ => rfl) (fun _ => rfl) (fun _ => rfl) (pl_cons (pm_callP H__law_own_draws (Nat.le_of_ble_eq_true rfl) (fun _ => rfl) (pl_cons (pm_var 0) (pl_cons (pm_add (pm_mul pm_int (pm_var 1)) pm_int) pl_nil))) (pl_cons (pm_new pl_nil) (pl_cons (pm_new pl_nil) pl_nil))) (fun _ => rfl))
  (qs_cons (q_for (qi_range1 (fun _ => rfl) T.b_range (pl_cons (pm_add (pm_var 1) pm_int) pl_nil)) (qg_name (i := 5))
  (qs_cons (q_expr (pm_append (pm_var 3) (pm_callP H__law_fr (Nat.le_of_ble_eq_true rfl) (fun _ => rfl) (pl_cons (pm_sub (pm_mod (pm_intc (fun _ => rfl) T.b_int (pl_cons (pm_ix (pm_var 2) (pm_mul pm_int (pm_var 5))) pl_nil)) pm_int) pm_int) (pl_cons pm_int pl_nil)))))
  (qs_one (q_expr (pm_append (pm_var 4) (pm_callP H__law_fr (Nat.le_of_ble_eq_true rfl) (fun _ => rfl) (pl_cons (pm_mod (pm_intc (fun _ => rfl) T.b_int (pl_cons (pm_ix (pm_var 2) (pm_add (pm_mul pm_int (pm_var 5)) pm_int)) pl_nil)) pm_int) (pl_cons pm_int pl_nil))))))) (fun _ => PassesOwn.never))
  (qs_one (q_ret (pm_tup (pl_cons (pm_tuple (fun _ => rfl) T.b_tuple (pl_cons (pm_var 3) pl_nil)) (pl_cons (pm_tuple (fun _ => rfl) T.b_tuple (pl_cons (pm_var 4) pl_nil)) pl_nil)))))))
abbrev N__law_own_hand : List Str := ["start", "numbers", "row", "j"]
theorem sc__law_own_hand : FnScope N__law_own_hand ["start", "numbers"] (defScope s__law_own_hand) := ⟨rfl, rfl, rfl, by decide +kernel, rfl, by decide +kernel, by decide +kernel⟩
theorem ok__law_own_hand (T : Txt P w K mg base cc PP) : Has P w K mg base "_law_own_hand" s__law_own_hand 4 ["start", "numbers"] F__law_own_hand := by
  have H__law_fr := ok__law_fr T
  have H__law_times := ok__law_times T
  have H__law_own_draws := ok__law_own_draws T
  exact has_of (N := N__law_own_hand) (b := M__law_own_hand) fin_ok T.d__law_own_hand sc__law_own_hand rfl rfl (fun _ _ _ _ _ _ us hl => match us, hl with | [_, _], _ => rfl) fun f cdv A outer s H E hr =>
  (qs_cons (q_set (i := 2) (pm_callP H__law_own_draws (Nat.le_of_ble_eq_true rfl) (fun _ => rfl) (pl_cons (pm_var 1) (pl_cons (pm_len (fun _ => rfl) T.b_len (pl_cons (pm_ix (pm_var 0) pm_int) pl_nil)) pl_nil))))
  (qs_one (q_ret (pm_tuple (fun _ => rfl) T.b_tuple (pl_cons (pm_lc (own := [("j", 3)]) (qi_range1 (fun _ => rfl) T.b_range (pl_cons (pm_len (fun _ => rfl) T.b_len (pl_cons (pm_var 2) pl_nil)) pl_nil)) (fun _ => blkOk_by (own := [("j", 3)]) (N := N__law_own_hand) (sc := defScope s__law_own_hand) (by decide +kernel)) (qg_name (i := 3)) qt_nil (pm_callP H__law_times (Nat.le_of_ble_eq_true rfl) (fun _ => rfl) (pl_cons (pm_ix (pm_ix (pm_var 0) pm_int) (pm_var 3)) (pl_cons (pm_callP H__law_fr (Nat.le_of_ble_eq_true rfl) (fun _ => rfl) (pl_cons (pm_sub (pm_mod (pm_intc (fun _ => rfl) T.b_int (pl_cons (pm_ix (pm_var 2) (pm_var 3)) pl_nil)) pm_int) pm_int) (pl_cons pm_int pl_nil))) pl_nil)))) pl_nil)))))
abbrev N__law_own_page : List Str := ["numbers", "d", "row"]
theorem sc__law_own_page : FnScope N__law_own_page ["numbers", "d"] (defScope s__law_own_page) := ⟨rfl, rfl, rfl, by decide +kernel, rfl, by decide +kernel, by decide +kernel⟩
theorem ok__law_own_page (T : Txt P w K mg base cc PP) : Has P w K mg base "_law_own_page" s__law_own_page 4 ["numbers", "d"] F__law_own_page := by
  have H__law_own_draws := ok__law_own_draws T
  have H__law_own_start := ok__law_own_start T
  exact has_of (N := N__law_own_page) (b := M__law_own_page) fin_ok T.d__law_own_page sc__law_own_page rfl rfl (fun _ _ _ _ _ _ us hl => match us, hl with | [_, _], _ => rfl) fun f cdv A outer s H E hr =>
  (qs_cons (q_set (i := 2) (pm_callP H__law_own_draws (Nat.le_of_ble_eq_true rfl) (fun _ => rfl) (pl_cons (pm_var 0) (pl_cons (pm_add (pm_mul pm_int (pm_var 1)) pm_int) pl_nil))))
  (qs_one (q_ret (pm_tup (pl_cons (pm_callP H__law_own_start (Nat.le_of_ble_eq_true rfl) (fun _ => rfl) (pl_cons (pm_var 0) (pl_cons (pm_var 1) pl_nil))) (pl_cons (pm_sub (pm_mod (pm_intc (fun _ => rfl) T.b_int (pl_cons (pm_ix (pm_var 2) (pm_add (pm_mul pm_int (pm_var 1)) pm_int)) pl_nil)) pm_int) pm_int) (pl_cons (pm_add pm_int (pm_mod (pm_intc (fun _ => rfl) T.b_int (pl_cons (pm_ix (pm_var 2) (pm_add (pm_mul pm_int (pm_var 1)) pm_int)) pl_nil)) pm_int)) (pl_cons pm_int (pl_cons pm_str pl_nil)))))))))
abbrev N__law_numbers : List Str := ["bag", "k"]
theorem sc__law_numbers : FnScope N__law_numbers ["bag"] (defScope s__law_numbers) := ⟨rfl, rfl, rfl, by decide +kernel, rfl, by decide +kernel, by decide +kernel⟩
theorem ok__law_numbers (T : Txt P w K mg base cc PP) : Has P w K mg base "_law_numbers" s__law_numbers 3 ["bag"] F__law_numbers := by
  have H__law_draw := ok__law_draw T
  have H__law_pick := ok__law_pick T
  have H__law_ten := ok__law_ten T
  exact has_of (N := N__law_numbers) (b := M__law_numbers) fin_ok T.d__law_numbers sc__law_numbers rfl rfl (fun _ _ _ _ _ _ us hl => match us, hl with | [_], _ => rfl) fun f cdv A outer s H E hr =>
  (qs_one (q_ret (pm_tuple (fun _ => rfl) T.b_tuple (pl_cons (pm_lc (own := [("k", 1)]) (qi_range1 (fun _ => rfl) T.b_range (pl_cons (pm_call H__law_pick (Nat.le_of_ble_eq_true rfl) (fun _ => rfl) (pl_cons (pm_var 0) (pl_cons (pm_lst (pl_cons pm_int (pl_cons pm_int (pl_cons pm_int (pl_cons pm_int (pl_cons pm_int pl_nil)))))) pl_nil))) pl_nil)) (fun _ => blkOk_by (own := [("k", 1)]) (N := N__law_numbers) (sc := defScope s__law_numbers) (by decide +kernel)) (qg_name (i := 1)) qt_nil (pm_mul (pm_call H__law_draw (Nat.le_of_ble_eq_true rfl) (fun _ => rfl) (pl_cons (pm_var 0) (pl_cons pm_int pl_nil))) (pm_call H__law_pick (Nat.le_of_ble_eq_true rfl) (fun _ => rfl) (pl_cons (pm_var 0) (pl_cons (pm_lst (pl_cons pm_int (pl_cons pm_int (pl_cons pm_int (pl_cons (pm_callP H__law_ten (Nat.le_of_ble_eq_true rfl) (fun _ => rfl) (pl_cons pm_int pl_nil)) pl_nil))))) pl_nil))))) pl_nil))))
abbrev N_law : List Str := ["script", "bag", "turn", "due", "start", "numbers", "other", "d", "many"]
theorem sc_law : FnScope N_law ["script"] (defScope s_law) := ⟨rfl, rfl, rfl, by decide +kernel, rfl, by decide +kernel, by decide +kernel⟩
theorem ok_law (T : Txt P w K mg base cc PP) : Has P w K mg base "law" s_law 7 ["script"] F_law := by
  have H_draws := ok_draws T
  have H_drawn_start := ok_drawn_start T
  have H_drawn_hand := ok_drawn_hand T
  have H_drawn_page := ok_drawn_page T
  have H__law_bag := ok__law_bag T
  have H__law_draw := ok__law_draw T
  have H__law_same := ok__law_same T 6
  have H__law_is_hand := ok__law_is_hand T
  have H__law_start := ok__law_start T
  have H__law_own_draws := ok__law_own_draws T
  have H__law_own_start := ok__law_own_start T
  have H__law_own_hand := ok__law_own_hand T
  have H__law_own_page := ok__law_own_page T
  have H__law_numbers := ok__law_numbers T
  exact has_of (N := N_law) (b := M_law) fin_ok T.d_law sc_law rfl rfl (fun _ _ _ _ _ _ us hl => match us, hl with | [_], _ => rfl) fun f cdv A outer s H E hr =>
  (qs_cons (q_set (i := 1) (pm_call H__law_bag (Nat.le_of_ble_eq_true rfl) (fun _ => rfl) (pl_cons (pm_var 0) pl_nil)))
  (qs_cons (q_for (qi_range1 (fun _ => rfl) T.b_range (pl_cons pm_int pl_nil)) (qg_name (i := 2))
  (qs_cons (q_asg (pm_tup (pl_cons (pm_call H__law_numbers (Nat.le_of_ble_eq_true rfl) (fun _ => rfl) (pl_cons (pm_var 1) pl_nil)) (pl_cons (pm_call H__law_numbers (Nat.le_of_ble_eq_true rfl) (fun _ => rfl) (pl_cons (pm_var 1) pl_nil)) (pl_cons (pm_call H__law_draw (Nat.le_of_ble_eq_true rfl) (fun _ => rfl) (pl_cons (pm_var 1) (pl_cons pm_int pl_nil))) (pl_cons (pm_call H__law_draw (Nat.le_of_ble_eq_true rfl) (fun _ => rfl) (pl_cons (pm_var 1) (pl_cons pm_int pl_nil))) pl_nil))))) (qg_tup (qgs_cons (qg_name (i := 5)) (qgs_cons (qg_name (i := 6)) (qgs_cons (qg_name (i := 7)) (qgs_cons (qg_name (i := 8)) qgs_nil))))))
  (qs_cons (q_set (i := 3) (pm_callP H__law_own_draws (Nat.le_of_ble_eq_true rfl) (fun _ => rfl) (pl_cons (pm_var 5) (pl_cons (pm_var 8) pl_nil))))
  (qs_cons (q_if (pb_not (pb_tru (pm_callP H__law_same (Nat.le_of_ble_eq_true rfl) (fun _ => rfl) (pl_cons (pm_tup (pl_cons (pm_callP H_draws (Nat.le_of_ble_eq_true rfl) (fun _ => rfl) (pl_cons (pm_var 5) (pl_cons (pm_var 8) pl_nil))) (pl_cons (pm_callPK (ks := ["many", "numbers"]) (is := [1, 0]) H_draws (Nat.le_of_ble_eq_true rfl) (fun _ => rfl) (pk1 (pm_var 8) (pk1 (pm_var 5) pk0)) (fun _ _ _ _ _ _ ws hl => match ws, hl with | [_, _], _ => rfl)) pl_nil))) (pl_cons (pm_tup (pl_cons (pm_var 3) (pl_cons (pm_var 3) pl_nil))) pl_nil)))))
  (qs_one (q_ret pm_bl))
  qs_nil)
  (qs_cons (q_set (i := 3) (pm_callP H__law_own_start (Nat.le_of_ble_eq_true rfl) (fun _ => rfl) (pl_cons (pm_var 5) (pl_cons (pm_var 7) pl_nil))))
  (qs_cons (q_if (pb_not (pb_tru (pm_callP H__law_same (Nat.le_of_ble_eq_true rfl) (fun _ => rfl) (pl_cons (pm_tup (pl_cons (pm_callP H_drawn_start (Nat.le_of_ble_eq_true rfl) (fun _ => rfl) (pl_cons (pm_var 5) (pl_cons (pm_var 7) pl_nil))) (pl_cons (pm_callPK (ks := ["d", "numbers"]) (is := [1, 0]) H_drawn_start (Nat.le_of_ble_eq_true rfl) (fun _ => rfl) (pk1 (pm_var 7) (pk1 (pm_var 5) pk0)) (fun _ _ _ _ _ _ ws hl => match ws, hl with | [_, _], _ => rfl)) pl_nil))) (pl_cons (pm_tup (pl_cons (pm_var 3) (pl_cons (pm_var 3) pl_nil))) pl_nil)))))
  (qs_one (q_ret pm_bl))
  qs_nil)
  (qs_cons (q_set (i := 4) (pm_if (pb_cp cr_eq (pm_call H__law_draw (Nat.le_of_ble_eq_true rfl) (fun _ => rfl) (pl_cons (pm_var 1) (pl_cons pm_int pl_nil))) pm_int) (pm_var 3) (pm_call H__law_start (Nat.le_of_ble_eq_true rfl) (fun _ => rfl) (pl_cons (pm_var 1) (pl_cons (pm_var 7) (pl_cons pm_int (pl_cons pm_int pl_nil)))))))
  (qs_cons (q_set (i := 3) (pm_callP H__law_own_hand (Nat.le_of_ble_eq_true rfl) (fun _ => rfl) (pl_cons (pm_var 4) (pl_cons (pm_var 6) pl_nil))))
  (qs_cons (q_if (pb_of (bw_or (pb_not (pb_tru (pm_callP H__law_is_hand (Nat.le_of_ble_eq_true rfl) (fun _ => rfl) (pl_cons (pm_var 4) (pl_cons (pm_var 3) pl_nil))))) (bw_or1 (pb_not (pb_tru (pm_callP H__law_same (Nat.le_of_ble_eq_true rfl) (fun _ => rfl) (pl_cons (pm_tup (pl_cons (pm_callP H_drawn_hand (Nat.le_of_ble_eq_true rfl) (fun _ => rfl) (pl_cons (pm_var 4) (pl_cons (pm_var 6) pl_nil))) (pl_cons (pm_callPK (ks := ["numbers", "start"]) (is := [1, 0]) H_drawn_hand (Nat.le_of_ble_eq_true rfl) (fun _ => rfl) (pk1 (pm_var 6) (pk1 (pm_var 4) pk0)) (fun _ _ _ _ _ _ ws hl => match ws, hl with | [_, _], _ => rfl)) pl_nil))) (pl_cons (pm_tup (pl_cons (pm_var 3) (pl_cons (pm_var 3) pl_nil))) pl_nil))))))))
  (qs_one (q_ret pm_bl))
  qs_nil)
  (qs_cons (q_set (i := 3) (pm_callP H__law_own_page (Nat.le_of_ble_eq_true rfl) (fun _ => rfl) (pl_cons (pm_var 5) (pl_cons (pm_var 7) pl_nil))))
  (qs_one (q_if (pb_not (pb_tru (pm_callP H__law_same (Nat.le_of_ble_eq_true rfl) (fun _ => rfl) (pl_cons (pm_tup (pl_cons (pm_callP H_drawn_page (Nat.le_of_ble_eq_true rfl) (fun _ => rfl) (pl_cons (pm_var 5) (pl_cons (pm_var 7) pl_nil))) (pl_cons (pm_callPK (ks := ["d", "numbers"]) (is := [1, 0]) H_drawn_page (Nat.le_of_ble_eq_true rfl) (fun _ => rfl) (pk1 (pm_var 7) (pk1 (pm_var 5) pk0)) (fun _ _ _ _ _ _ ws hl => match ws, hl with | [_, _], _ => rfl)) pl_nil))) (pl_cons (pm_tup (pl_cons (pm_var 3) (pl_cons (pm_var 3) pl_nil))) pl_nil)))))
  (qs_one (q_ret pm_bl))
  qs_nil))))))))))) (fun _ => PassesOwn.never))
  (qs_one (q_ret pm_bl))))
end
/-- what the top has left gives the text's facts, then the law's promise -/
theorem law_at {P : Program} {w : World} {K : PySem.W.Frag} {mg : Str → Option Value} {base : Heap} {cc PP : Nat → Addr} (T : Txt P w K mg base cc PP) : Has P w K mg base "law" s_law 7 ["script"] F_law := ok_law T
end K88

namespace K88
open PySem PySem.Spec PyProof.Rows L2 Lf
variable [Tabs]
local macro_rules | `(tactic| walk_at "EV") => `(tactic| simp [runBody, runF, mSeq, mRet, mAsg, mCallP, mCons, mNil, mBin, mIdx, mVar, mC, mTup, mCB, mUn, mIfS, mBool, mPar2, mPar3, mSkip, mTru, truD, mNot, mAnd, mOr, mAndV, mAsgG, gtTup, gtCons, gtNil, gtName, mAug, mDrop, fIdx_tup, fIdx_lst, fIdx_frz, atI0, atI1, fMul_ii, fAdd_ii, fSub_ii, fDiv_ii, fMod_ii, fLt_ii, fLe_ii, fGt_ii, fGe_ii, fEq_ii, fNe_ii, fNeg_i, belowDs, belowD, fin0, fin00, szOk, *])
theorem frac_ev (a : Int) {b : Int} (hb : 0 < b) (h : divOk b = true) : F_frac [.int a, .int b] Sto.none = some (q2 (mkRat a b.toNat), Sto.none) := by
  have hg : 0 < (Nat.gcd a.natAbs b.natAbs : Nat) := Nat.gcd_pos_of_pos_right _ (by omega)
  have hle : ((Nat.gcd a.natAbs b.natAbs : Nat) : Int) ≤ b := by
    have := Nat.gcd_le_right (m := a.natAbs) (n := b.natAbs) (by omega)
    omega
  have hd := divOk_le (by omega) hle h
  have hn : ¬ b < 0 := by omega
  have e1 : a / ((Nat.gcd a.natAbs b.natAbs : Nat) : Int) = (mkRat a b.toNat).num := by
    rw [Rat.num_mkRat, if_neg (by omega), Nat.gcd_comm]
    have : b.natAbs = b.toNat := by omega
    rw [this]
  have e2 : b / ((Nat.gcd a.natAbs b.natAbs : Nat) : Int) = ((mkRat a b.toNat).den : Int) := by
    rw [Rat.den_mkRat, if_neg (by omega), Nat.gcd_comm]
    have : b.natAbs = b.toNat := by omega
    rw [this]
    have e3 : b = ((b.toNat : Nat) : Int) := by omega
    generalize b.toNat = c at *
    subst e3
    rfl
  unfold F_frac M_frac
  simp [runBody, mSeq, mAsg, mCB, mCons, mNil, mVar, mIfS, mBool, mBin, fLt_ii, mC, hn, mSkip, mRet, mTup, bGcd, fDiv_ii, hd, szOk, q2, e1, e2, fin00, belowD, belowDs]
theorem times_ev {p q : Rat} (hp : Sz p) (hq : Sz q) : F_times [q2 p, q2 q] Sto.none = some (q2 (p * q), Sto.none) := by
  have h1 := hp.mul1 hq
  have h3 := hp.mul3 hq
  have h4 := frac_ev (p.num * q.num) (by have h1 := p.den_pos; have h2 := q.den_pos; have : 0 < p.den * q.den := Nat.mul_pos h1 h2; omega) (hp.div hq)
  rw [show ((p.den : Int) * (q.den : Int)).toNat = p.den * q.den from rfl, ← Rat.mul_def'] at h4
  unfold F_times M_times
  have hb := below_q2 0 (p * q)
  unfold q2 at h4 hb ⊢
  walk_at "EV"
/-- Euclid's turns -/
theorem euclid : ∀ (k n : Nat) (a b : Nat), b < 2 ^ k → 2 * k + 1 < n →
    ∃ ρ' , whileN (mBool (mBin fNe (mVar 1) (mC (.int 0)))) (mPar2 0 1 (mCons (mVar 1) (mCons (mBin fMod (mCB bInt (mCons (mVar 0) mNil)) (mVar 1)) mNil))) n [some (.int (a : Int)), some (.int (b : Int))] Sto.none = some (.nx, ρ', Sto.none) ∧ ∃ y, ρ' = [some (.int ((Nat.gcd a b : Nat) : Int)), y] := by
  have turn : ∀ (n a b : Nat), 0 < b → whileN (mBool (mBin fNe (mVar 1) (mC (.int 0)))) (mPar2 0 1 (mCons (mVar 1) (mCons (mBin fMod (mCB bInt (mCons (mVar 0) mNil)) (mVar 1)) mNil))) (n + 1) [some (.int (a : Int)), some (.int (b : Int))] Sto.none =
      whileN (mBool (mBin fNe (mVar 1) (mC (.int 0)))) (mPar2 0 1 (mCons (mVar 1) (mCons (mBin fMod (mCB bInt (mCons (mVar 0) mNil)) (mVar 1)) mNil))) n [some (.int (b : Int)), some (.int ((a % b : Nat) : Int))] Sto.none := by
    intro n a b hb
    have h1 : ((b : Int) == 0) = false := by rw [beq_eq_false_iff_ne]; omega
    have h2 : (0 : Int) < (b : Int) := by omega
    conv => lhs; unfold whileN
    simp only [mBool, mBin, mVar, mC, List.getElem?_cons_zero, List.getElem?_cons_succ, Option.bind_some, fNe_ii, h1, Bool.not_false, if_true, mPar2, mCons, mNil, mCB, bInt, fMod_ii h2, List.set_cons_zero, List.set_cons_succ]
    rw [Int.natCast_emod]
  have stop : ∀ (n a : Nat), whileN (mBool (mBin fNe (mVar 1) (mC (.int 0)))) (mPar2 0 1 (mCons (mVar 1) (mCons (mBin fMod (mCB bInt (mCons (mVar 0) mNil)) (mVar 1)) mNil))) (n + 1) [some (.int (a : Int)), some (.int ((0 : Nat) : Int))] Sto.none = some (.nx, [some (.int (a : Int)), some (.int ((0 : Nat) : Int))], Sto.none) := by
    intro n a
    rfl
  intro k
  induction k with
  | zero =>
    intro n a b hb hn
    have : b = 0 := by simpa using hb
    subst this
    obtain ⟨m, rfl⟩ : ∃ m, n = m + 1 := ⟨n - 1, by omega⟩
    exact ⟨_, stop m a, _, by rw [Nat.gcd_zero_right]⟩
  | succ k ih =>
    intro n a b hb hn
    obtain ⟨m, rfl⟩ : ∃ m, n = m + 1 + 1 := ⟨n - 2, by omega⟩
    by_cases h0 : b = 0
    · subst h0
      exact ⟨_, stop _ a, _, by rw [Nat.gcd_zero_right]⟩
    · rw [turn (m + 1) a b (by omega)]
      by_cases h1 : a % b = 0
      · rw [h1]
        refine ⟨_, stop m b, some (.int ((0 : Nat) : Int)), ?_⟩
        rw [Nat.gcd_comm, Nat.gcd_rec, h1, Nat.gcd_zero_left]
      · rw [turn m b (a % b) (by omega)]
        have hlt : b % (a % b) < 2 ^ k := by
          have h2 : a % b < b := Nat.mod_lt _ (by omega)
          have h3 : b % (a % b) < a % b := Nat.mod_lt _ (by omega)
          have h4 : b % (a % b) ≤ b - a % b := by
            have h5 := Nat.mod_add_div b (a % b)
            have h6 : 1 ≤ b / (a % b) := (Nat.one_le_div_iff (by omega)).mpr (by omega)
            have h7 : (a % b) * 1 ≤ (a % b) * (b / (a % b)) := Nat.mul_le_mul_left _ h6
            omega
          have h8 : 2 ^ (k + 1) = 2 * 2 ^ k := by rw [Nat.pow_succ]; omega
          omega
        obtain ⟨ρ', e, y, ey⟩ := ih m (a % b) (b % (a % b)) hlt (by omega)
        refine ⟨ρ', e, y, ?_⟩
        rw [ey]
        have : Nat.gcd (a % b) (b % (a % b)) = Nat.gcd a b := by
          rw [Nat.gcd_comm (a % b) (b % (a % b)), ← Nat.gcd_rec, Nat.gcd_comm a b, Nat.gcd_rec b a]
        rw [this]
theorem lgcd_ev (a b : Int) (hb : b.natAbs < 2 ^ 100000) : F__law_gcd [.int a, .int b] Sto.none = some (.int ((Nat.gcd a.natAbs b.natAbs : Nat) : Int), Sto.none) := by
  have abs : ∀ i : Int, (if i < 0 then -i else i) = ((i.natAbs : Nat) : Int) := fun i => by split <;> omega
  obtain ⟨ρ', e, y, rfl⟩ := euclid 100000 fuel a.natAbs b.natAbs hb (by unfold fuel; omega)
  unfold F__law_gcd
  refine run_body (ρ' := [some (.int ((Nat.gcd a.natAbs b.natAbs : Nat) : Int)), y]) (G' := Sto.none) rfl ?_ rfl
  unfold M__law_gcd
  refine seq_run (ρ1 := [some (.int ((a.natAbs : Nat) : Int)), some (.int ((b.natAbs : Nat) : Int))]) (G1 := Sto.none) ?_ (seq_run e rfl)
  simp [mPar2, mCons, mNil, mCB, mVar, bAbs, abs]
theorem lfr_ev (a : Int) {b : Int} (hb : 0 < b) (h : divOk b = true) : F__law_fr [.int a, .int b] Sto.none = some (q2 (mkRat a b.toNat), Sto.none) := by
  have hg : 0 < (Nat.gcd a.natAbs b.natAbs : Nat) := Nat.gcd_pos_of_pos_right _ (by omega)
  have hle : ((Nat.gcd a.natAbs b.natAbs : Nat) : Int) ≤ b := by
    have := Nat.gcd_le_right (m := a.natAbs) (n := b.natAbs) (by omega)
    omega
  have hd := divOk_le (by omega) hle h
  have hbl : b.natAbs < 2 ^ 100000 := by
    unfold divOk at h
    rw [Bool.and_eq_true] at h
    have h1 : b.natAbs.log2 < 9000 := of_decide_eq_true h.2
    have h2 := (Nat.log2_lt (show b.natAbs ≠ 0 by omega)).mp h1
    exact Nat.lt_of_lt_of_le h2 (Nat.pow_le_pow_right (by omega) (by omega))
  have e1 : a / ((Nat.gcd a.natAbs b.natAbs : Nat) : Int) = (mkRat a b.toNat).num := by
    rw [Rat.num_mkRat, if_neg (by omega), Nat.gcd_comm]
    have : b.natAbs = b.toNat := by omega
    rw [this]
  have e2 : b / ((Nat.gcd a.natAbs b.natAbs : Nat) : Int) = ((mkRat a b.toNat).den : Int) := by
    rw [Rat.den_mkRat, if_neg (by omega), Nat.gcd_comm]
    have : b.natAbs = b.toNat := by omega
    rw [this]
    have e3 : b = ((b.toNat : Nat) : Int) := by omega
    generalize b.toNat = c at *
    subst e3
    rfl
  have hc := lgcd_ev a b hbl
  unfold F__law_fr M__law_fr
  simp [runBody, mSeq, mAsg, mCallP, hc, mCons, mNil, mVar, mBin, mRet, mTup, fDiv_ii, hd, szOk, q2, e1, e2, fin00, belowD, belowDs]
theorem ltimes_ev {p q : Rat} (hp : Sz p) (hq : Sz q) : F__law_times [q2 p, q2 q] Sto.none = some (q2 (p * q), Sto.none) := by
  have h1 := hp.mul1 hq
  have h3 := hp.mul3 hq
  have h4 := lfr_ev (p.num * q.num) (by have h1 := p.den_pos; have h2 := q.den_pos; have : 0 < p.den * q.den := Nat.mul_pos h1 h2; omega) (hp.div hq)
  rw [show ((p.den : Int) * (q.den : Int)).toNat = p.den * q.den from rfl, ← Rat.mul_def'] at h4
  unfold F__law_times M__law_times
  have hb := below_q2 0 (p * q)
  unfold q2 at h4 hb ⊢
  walk_at "EV"
/-! ### the bag of draws: at b; its great cells at g; n draws may come -/
structure Bag (cs : List Cell) (b g n : Nat) : Prop where
  ex : ∃ (x0 x1 : Int) (cells : List Int), cs[b]? = some (.lst [.int x0, .int x1, .loc g, .lst (cells.map .int)]) ∧ 0 ≤ x0 ∧ 0 ≤ x1 ∧ x1 + n < 2 ^ 64 ∧ cells ≠ [] ∧ cells.length ≤ 1000 ∧ ∀ c ∈ cells, 0 ≤ c ∧ c < 2147483647
  gr : ∃ great : List Int, cs[g]? = some (.lst (great.map .int)) ∧ (∀ z ∈ great, 0 ≤ z) ∧ great.length ≤ 1000
  ne : g ≠ b
  wf : ∀ c ∈ cs, belowC cs.length c = true
theorem Bag.mono {cs : List Cell} {b g n m : Nat} (h : Bag cs b g n) (hm : m ≤ n) : Bag cs b g m := by
  obtain ⟨⟨x0, x1, cells, h1, h2, h3, h4, h5⟩, h6, h7, h8⟩ := h
  exact ⟨⟨x0, x1, cells, h1, h2, h3, by omega, h5⟩, h6, h7, h8⟩
theorem get_at {ρ : Evn} {G : Sto} {b : Nat} {ds : List D} {k : Int} {d : D} (h0 : ρ[0]? = some (some (.loc b))) (h : G.cs[b]? = some (.lst ds)) (hk : L2.atI ds k = some d) : mIdx (mVar 0) (mC (.int k)) ρ G = some (d, G) := by
  unfold mIdx mVar mC
  rw [h0]
  show ((seqOf G (.loc b)).bind fun ds => L2.atI ds k).bind _ = _
  rw [seqOf_at h]
  show (L2.atI ds k).bind _ = _
  rw [hk]
  rfl
theorem set_at {ρ : Evn} {G G1 : Sto} {b j : Nat} {ds : List D} {k : Int} {d : D} {e : M D} (h0 : ρ[0]? = some (some (.loc b))) (he : e ρ G = some (d, G1)) (h : G1.cs[b]? = some (.lst ds)) (hk : L2.ixN ds.length k = some j) : mSetI (mVar 0) (mC (.int k)) e ρ G = some (.nx, ρ, G1.set b (.lst (ds.set j d))) := by
  unfold mSetI mVar mC
  rw [he]
  show ((match ρ[0]? with | some (some d) => some (d, G1) | _ => none).bind _) = _
  rw [h0]
  show ((cellL G1 (.loc b)).bind _) = _
  rw [cellL_at h]
  show ((L2.ixN ds.length k).bind _) = _
  rw [hk]
  rfl
theorem belowC_ints (n : Nat) (xs : List Int) : belowC n (.lst (xs.map .int)) = true := belowDs_ints n xs
theorem mem_set_wf {cs : List Cell} {b : Nat} {c0 : Cell} (h : ∀ c ∈ cs, belowC cs.length c = true) (h0 : belowC cs.length c0 = true) : ∀ c ∈ cs.set b c0, belowC (cs.set b c0).length c = true := fun c hc => by
  rw [List.length_set]
  rcases List.mem_or_eq_of_mem_set hc with hc | hc
  · exact h c hc
  · rw [hc]; exact h0
/-- a draw: what comes back, and what becomes of the cells -/
theorem draw_ev {cs : List Cell} {b g n k : Nat} {many : Int} (B : Bag cs b g (n + 1)) (h0 : 0 < many) (hm : divOk many = true) :
    ∃ (r : Int) (cs' : List Cell), F__law_draw [.loc b, .int many] ⟨k, cs⟩ = some (.int r, ⟨k, cs'⟩) ∧ 0 ≤ r ∧ r < many ∧ Bag cs' b g n ∧ cs'.length = cs.length ∧ ∀ j, j ≠ b → j ≠ g → cs'[j]? = cs[j]? := by
  obtain ⟨⟨x0, x1, cells, hb, hx0, hx1, hn, hc0, hcl, hcs⟩, ⟨great, hg, hgr, hgl⟩, hne, hwf⟩ := B
  have hbl : b < cs.length := (List.getElem?_eq_some_iff.mp hb).1
  have hgl2 : g < cs.length := (List.getElem?_eq_some_iff.mp hg).1
  have cl : ∀ (y0 y1 : Int), belowC cs.length (.lst [.int y0, .int y1, .loc g, .lst (cells.map .int)]) = true := fun y0 y1 => by
    show (true && (true && (decide (g < cs.length) && (belowDs cs.length (cells.map .int) && true)))) = true
    rw [belowDs_ints, decide_eq_true hgl2]; rfl
  -- the count
  have e1 : mSetI (mVar 0) (mC (.int 1)) (mBin fAdd (mIdx (mVar 0) (mC (.int 1))) (mC (.int 1))) [some (.loc b), some (.int many), none, none, none] ⟨cs.length, cs⟩ = some (.nx, [some (.loc b), some (.int many), none, none, none], ⟨cs.length, cs.set b (.lst [.int x0, .int (x1 + 1), .loc g, .lst (cells.map .int)])⟩) := by
    refine set_at (j := 1) (ds := [.int x0, .int x1, .loc g, .lst (cells.map .int)]) (G1 := ⟨cs.length, cs⟩) rfl ?_ hb rfl
    unfold mBin
    rw [get_at rfl hb rfl]
    rfl
  -- the first figure of a great one
  obtain ⟨y0, cs2, e2, hy0, hb2, hg2, hl2, hj2, hw2⟩ : ∃ (y0 : Int) (cs2 : List Cell), mIfS (mAnd (mBool (mBin fEq (mIdx (mVar 0) (mC (.int 0))) (mC (.int 0)))) (mBool (mBin fGt (mCB bLen (mCons (mIdx (mVar 0) (mC (.int 2))) mNil)) (mC (.int 0)))))
      (mSetI (mVar 0) (mC (.int 0)) (mPop (mIdx (mVar 0) (mC (.int 2))))) mSkip [some (.loc b), some (.int many), none, none, none] ⟨cs.length, cs.set b (.lst [.int x0, .int (x1 + 1), .loc g, .lst (cells.map .int)])⟩ = some (.nx, [some (.loc b), some (.int many), none, none, none], ⟨cs.length, cs2⟩) ∧ 0 ≤ y0 ∧
      cs2[b]? = some (.lst [.int y0, .int (x1 + 1), .loc g, .lst (cells.map .int)]) ∧ (∃ gr : List Int, cs2[g]? = some (.lst (gr.map .int)) ∧ (∀ z ∈ gr, 0 ≤ z) ∧ gr.length ≤ 1000) ∧ cs2.length = cs.length ∧ (∀ j, j ≠ b → j ≠ g → cs2[j]? = cs[j]?) ∧ ∀ c ∈ cs2, belowC cs2.length c = true := by
    generalize hcs1 : cs.set b (.lst [.int x0, .int (x1 + 1), .loc g, .lst (cells.map .int)]) = cs1
    have l1 : cs1.length = cs.length := by rw [← hcs1, List.length_set]
    have hb1 : cs1[b]? = some (.lst [.int x0, .int (x1 + 1), .loc g, .lst (cells.map .int)]) := by rw [← hcs1, List.getElem?_set_self hbl]
    have hg1 : cs1[g]? = some (.lst (great.map .int)) := by rw [← hcs1, List.getElem?_set_ne (Ne.symm hne)]; exact hg
    have hj1 : ∀ j, j ≠ b → j ≠ g → cs1[j]? = cs[j]? := fun j hj _ => by rw [← hcs1, List.getElem?_set_ne (Ne.symm hj)]
    have hw1 : ∀ c ∈ cs1, belowC cs1.length c = true := by rw [← hcs1]; exact mem_set_wf hwf (cl _ _)
    have t1 : mBool (mBin fEq (mIdx (mVar 0) (mC (.int 0))) (mC (.int 0))) [some (.loc b), some (.int many), none, none, none] ⟨cs.length, cs1⟩ = some (x0 == 0, ⟨cs.length, cs1⟩) := by
      unfold mBool mBin
      rw [get_at rfl hb1 rfl]
      rfl
    have t2 : mBool (mBin fGt (mCB bLen (mCons (mIdx (mVar 0) (mC (.int 2))) mNil)) (mC (.int 0))) [some (.loc b), some (.int many), none, none, none] ⟨cs.length, cs1⟩ = some (decide ((0 : Int) < (great.length : Nat)), ⟨cs.length, cs1⟩) := by
      have hlen : bLen ⟨cs.length, cs1⟩ [.loc g] = some (.int (great.length : Nat)) := by
        have := bLen_of (G := ⟨cs.length, cs1⟩) (d := .loc g) (ds := great.map .int) (seqOf_at hg1)
        rwa [List.length_map] at this
      unfold mBool mBin mCB mCons
      rw [get_at rfl hb1 rfl]
      simp [mNil, hlen, mC, fGt_ii]
    by_cases hc : x0 = 0 ∧ 0 < great.length
    · obtain ⟨rfl, hgp⟩ := hc
      have hlast : great[great.length - 1]? = some (great[great.length - 1]'(by omega)) := List.getElem?_eq_getElem _
      generalize hz : great[great.length - 1]'(by omega) = z at hlast
      have hz0 : 0 ≤ z := hgr z (List.mem_of_getElem? hlast)
      refine ⟨z, (cs1.set g (.lst ((great.dropLast).map .int))).set b (.lst [.int z, .int (x1 + 1), .loc g, .lst (cells.map .int)]), ?_, hz0, ?_, ⟨great.dropLast, ?_, fun w hw => hgr w (List.dropLast_subset _ hw), by rw [List.length_dropLast]; omega⟩, by rw [List.length_set, List.length_set, l1], fun j h1 h2 => by rw [List.getElem?_set_ne (Ne.symm h1), List.getElem?_set_ne (Ne.symm h2)]; exact hj1 j h1 h2, ?_⟩
      · have hpop : mPop (mIdx (mVar 0) (mC (.int 2))) [some (.loc b), some (.int many), none, none, none] ⟨cs.length, cs1⟩ = some (.int z, ⟨cs.length, cs1.set g (.lst ((great.dropLast).map .int))⟩) := by
          unfold mPop
          rw [get_at rfl hb1 rfl]
          show ((cellL ⟨cs.length, cs1⟩ (.loc g)).bind _) = _
          rw [cellL_at (G := ⟨cs.length, cs1⟩) hg1]
          show (((great.map D.int)[(great.map D.int).length - 1]?).bind _) = _
          rw [List.length_map, List.getElem?_map, hlast, List.map_dropLast]
          rfl
        unfold mIfS mAnd
        rw [t1]
        simp only [beq_self_eq_true, Option.bind_some, if_true]
        rw [t2]
        have : decide ((0 : Int) < (great.length : Nat)) = true := decide_eq_true (by omega)
        rw [this]
        simp only [Option.bind_some, if_true]
        refine set_at (j := 0) (ds := [.int 0, .int (x1 + 1), .loc g, .lst (cells.map .int)]) (G1 := ⟨cs.length, cs1.set g (.lst ((great.dropLast).map .int))⟩) rfl hpop ?_ rfl
        show (cs1.set g _)[b]? = _
        rw [List.getElem?_set_ne hne]; exact hb1
      · rw [List.getElem?_set_self (by rw [List.length_set, l1]; exact hbl)]
      · rw [List.getElem?_set_ne (Ne.symm hne), List.getElem?_set_self (by rw [l1]; exact hgl2)]
      · refine mem_set_wf (mem_set_wf hw1 (belowC_ints _ _)) ?_
        rw [List.length_set, l1]; exact cl _ _
    · refine ⟨x0, cs1, ?_, hx0, hb1, ⟨great, hg1, hgr, hgl⟩, l1, hj1, hw1⟩
      unfold mIfS mAnd
      rw [t1]
      by_cases hx : x0 = 0
      · subst hx
        simp only [beq_self_eq_true, Option.bind_some, if_true]
        rw [t2]
        have : decide ((0 : Int) < (great.length : Nat)) = false := decide_eq_false (by omega)
        rw [this]
        rfl
      · have : (x0 == 0) = false := beq_eq_false_iff_ne.mpr hx
        rw [this]
        rfl
  have cl2 : ∀ (y : Int), belowC cs2.length (.lst [.int y, .int (x1 + 1), .loc g, .lst (cells.map .int)]) = true := fun y => by rw [hl2]; exact cl _ _
  have hbl2 : b < cs2.length := by rw [hl2]; exact hbl
  have hp : (0 : Int) < 2147483647 := by decide
  have hB2 : ∀ (cs3 : List Cell) (y : Int), cs3 = cs2.set b (.lst [.int y, .int (x1 + 1), .loc g, .lst (cells.map .int)]) → 0 ≤ y → Bag cs3 b g n := fun cs3 y e hy => by
    subst e
    obtain ⟨gr, h1, h2, h3⟩ := hg2
    exact ⟨⟨y, x1 + 1, cells, by rw [List.getElem?_set_self hbl2], hy, by omega, by omega, hc0, hcl, hcs⟩, ⟨gr, by rw [List.getElem?_set_ne (Ne.symm hne)]; exact h1, h2, h3⟩, hne, mem_set_wf hw2 (cl2 y)⟩
  have finish : ∀ (cs3 : List Cell) (r : Int), cs3.length = cs.length → (∀ c ∈ cs3, belowC cs3.length c = true) → Lf.fin ⟨k, cs⟩ (D.int r) ⟨cs.length, cs3⟩ = some (D.int r, ⟨k, cs3⟩) := fun cs3 r hl hw => by
    unfold Lf.fin
    have e : cs3.take cs.length = cs3 := by rw [← hl]; exact List.take_length
    have ha : cs3.all (belowC cs.length) = true := List.all_eq_true.mpr fun c hc => by rw [← hl]; exact hw c hc
    show (if belowD cs.length (D.int r) && (cs3.take cs.length).all (belowC cs.length) then some (D.int r, (⟨k, cs3.take cs.length⟩ : Sto)) else none) = _
    rw [e, ha]
    rfl
  have body : ∀ (r : Int) (ρ' : Evn) (cs3 : List Cell), M__law_draw [some (.loc b), some (.int many), none, none, none] ⟨cs.length, cs⟩ = some (.rt (.int r), ρ', ⟨cs.length, cs3⟩) → cs3.length = cs.length → (∀ c ∈ cs3, belowC cs3.length c = true) → F__law_draw [.loc b, .int many] ⟨k, cs⟩ = some (.int r, ⟨k, cs3⟩) := fun r ρ' cs3 e hl hw => by
    unfold F__law_draw runF runBody
    rw [if_pos (show [D.loc b, D.int many].length = 2 from rfl)]
    show (M__law_draw [some (.loc b), some (.int many), none, none, none] ⟨cs.length, cs⟩).bind _ = _
    rw [e]
    exact finish cs3 r hl hw
  by_cases hpos : 0 < y0
  · refine ⟨y0 % many, cs2.set b (.lst [.int (y0 / many), .int (x1 + 1), .loc g, .lst (cells.map .int)]), body _ [some (.loc b), some (.int many), some (.int (y0 % many)), none, none] _ ?_ (by rw [List.length_set, hl2]) (mem_set_wf hw2 (cl2 _)), Int.emod_nonneg _ (by omega), Int.emod_lt_of_pos _ h0, hB2 _ _ rfl (Int.ediv_nonneg (by omega) (by omega)), by rw [List.length_set, hl2], fun j h1 h2 => by rw [List.getElem?_set_ne (Ne.symm h1)]; exact hj2 j h1 h2⟩
    unfold M__law_draw
    have g0 := get_at (ρ := [some (.loc b), some (.int many), none, none, none]) (G := ⟨cs.length, cs2⟩) (k := 0) rfl hb2 rfl
    have g0' := get_at (ρ := [some (.loc b), some (.int many), some (.int (y0 % many)), none, none]) (G := ⟨cs.length, cs2⟩) (k := 0) rfl hb2 rfl
    refine seq_run e1 (seq_run e2 (seq_rt (ifS_true (bool_run (bin_run g0 rfl (by rw [fGt_ii, decide_eq_true hpos]))) ?_)))
    exact seq_run (asg_run (bin_run (cb_run (one_run g0) rfl) rfl (fMod_ii h0))) (seq_run (set_at (j := 0) (ds := [.int y0, .int (x1 + 1), .loc g, .lst (cells.map .int)]) (G1 := ⟨cs.length, cs2⟩) rfl (bin_run g0' rfl (fDiv_ii hm)) hb2 rfl) (ret_run rfl))
  · have hy : y0 = 0 := by omega
    have hlen : (0 : Int) < (cells.length : Nat) := by
      cases cells with
      | nil => exact absurd rfl hc0
      | cons c r => simp
    obtain ⟨ci, hci⟩ : ∃ ci, cells[((x1 + 1) % (cells.length : Nat)).toNat]? = some ci := by
      have h1 := Int.emod_lt_of_pos (x1 + 1) hlen
      have h2 := Int.emod_nonneg (x1 + 1) (show ((cells.length : Nat) : Int) ≠ 0 by omega)
      exact ⟨_, List.getElem?_eq_getElem (by omega)⟩
    have hcr := hcs ci (List.mem_of_getElem? hci)
    have hgb : (0 : Int) < 2147483629 := by decide
    have bits : ∀ {z : Int} {m : Nat}, 0 ≤ z → z < 2 ^ m → z.natAbs < 2 ^ m := fun {z m} h1 h2 => by
      have : (z.natAbs : Int) < ((2 ^ m : Nat) : Int) := by rw [Int.natAbs_of_nonneg h1]; push_cast; exact h2
      omega
    have m1 : mulOk ci 48271 = true := mulOk_of (m := 64) (n := 64) (by omega) (by decide) (by omega)
    have m2 : mulOk (x1 + 1) 69621 = true := mulOk_of (m := 65) (n := 64) (by omega) (by decide) (by omega)
    have m3 : ∀ z : Int, mulOk (z % 2147483647) (z % 2147483647) = true := fun z => by
      have := Int.emod_nonneg z (show (2147483647 : Int) ≠ 0 by decide)
      have := Int.emod_lt_of_pos z hp
      exact mulOk_of (m := 64) (n := 64) (by omega) (by omega) (by omega)
    have m4 : ∀ z : Int, mulOk (z % 2147483647) 16807 = true := fun z => by
      have := Int.emod_nonneg z (show (2147483647 : Int) ≠ 0 by decide)
      have := Int.emod_lt_of_pos z hp
      exact mulOk_of (m := 64) (n := 64) (by omega) (by decide) (by omega)
    have m5 : mulOk (x1 + 1) 40014 = true := mulOk_of (m := 65) (n := 64) (by omega) (by decide) (by omega)
    have d32 : divOk 32 = true := by decide
    generalize hmx : (ci * 48271 + (x1 + 1) * 69621 + 1) = mx
    refine ⟨(mx % 2147483647 * (mx % 2147483647) + mx % 2147483647 * 16807 + (x1 + 1) * 40014) % 2147483629 / 32 % many, cs2, body _ [some (.loc b), some (.int many), none, some (.int ci), some (.int (mx % 2147483647))] _ ?_ hl2 hw2, Int.emod_nonneg _ (by omega), Int.emod_lt_of_pos _ h0, ?_, hl2, hj2⟩
    · unfold M__law_draw
      have g1 := get_at (ρ := [some (.loc b), some (.int many), none, none, none]) (G := ⟨cs.length, cs2⟩) (k := 1) rfl hb2 rfl
      have g3 := get_at (ρ := [some (.loc b), some (.int many), none, none, none]) (G := ⟨cs.length, cs2⟩) (k := 3) rfl hb2 rfl
      have g1' := get_at (ρ := [some (.loc b), some (.int many), none, some (.int ci), none]) (G := ⟨cs.length, cs2⟩) (k := 1) rfl hb2 rfl
      have g1'' := get_at (ρ := [some (.loc b), some (.int many), none, some (.int ci), some (.int (mx % 2147483647))]) (G := ⟨cs.length, cs2⟩) (k := 1) rfl hb2 rfl
      refine seq_run e1 (seq_run e2 (seq_run (ρ1 := [some (.loc b), some (.int many), none, none, none]) (G1 := ⟨cs.length, cs2⟩) ?_ (seq_run (asg_run (d := .int ci) (G1 := ⟨cs.length, cs2⟩) ?_) (seq_run (asg_run (d := .int (mx % 2147483647)) (G1 := ⟨cs.length, cs2⟩) ?_) (ret_run ?_)))))
      · exact ifS_false (bool_run (bin_run (get_at rfl hb2 rfl) rfl (by rw [fGt_ii, decide_eq_false hpos]))) rfl
      · have ha : L2.atI (cells.map D.int) ((x1 + 1) % (cells.length : Nat)) = some (.int ci) := atI_nn (Int.emod_nonneg _ (by omega)) (by rw [List.getElem?_map, hci]; rfl)
        have hlen2 : bLen ⟨cs.length, cs2⟩ [.lst (cells.map .int)] = some (.int (cells.length : Nat)) := by
          have := bLen_of (G := ⟨cs.length, cs2⟩) (d := .lst (cells.map .int)) rfl
          rwa [List.length_map] at this
        exact idx_run g3 (bin_run (cb_run (one_run g1) rfl) (cb_run (one_run g3) hlen2) (fMod_ii hlen)) ha
      · refine bin_run (cb_run (one_run (bin_run (bin_run (bin_run rfl rfl (fMul_ii m1)) (bin_run g1' rfl (fMul_ii m2)) rfl) rfl rfl)) rfl) rfl ?_
        rw [hmx]
        exact fMod_ii hp
      · exact bin_run (bin_run (bin_run (cb_run (one_run (bin_run (bin_run (bin_run rfl rfl (fMul_ii (m3 mx))) (bin_run rfl rfl (fMul_ii (m4 mx))) rfl) (bin_run g1'' rfl (fMul_ii m5)) rfl)) rfl) rfl (fMod_ii hgb)) rfl (fDiv_ii d32)) rfl (fMod_ii h0)
    · have : cs2 = cs2.set b (.lst [.int 0, .int (x1 + 1), .loc g, .lst (cells.map .int)]) := by
        refine (List.ext_getElem? fun i => ?_)
        by_cases hi : b = i
        · subst hi
          rw [List.getElem?_set_self hbl2, hb2, hy]
        · rw [List.getElem?_set_ne hi]
      exact hB2 cs2 0 this (by omega)
theorem lcL_filter {f : Tgt} {c : M Bool} {e : M D} {ρ : Evn} {G : Sto} (P : D → Prop) : ∀ {items : List D}, (∀ d ∈ items, ∃ ρ1 b, f d ρ = some ρ1 ∧ c ρ1 G = some (b, G) ∧ (b = true → ∃ o, e ρ1 G = some (o, G) ∧ P o)) → ∃ outs, lcL f c e ρ items G = some (outs, G) ∧ (∀ o ∈ outs, P o) ∧ outs.length ≤ items.length
  | [], _ => ⟨[], rfl, fun _ h => by simp at h, Nat.le_refl _⟩
  | d :: ds, h => by
    obtain ⟨ρ1, b, e1, e2, e3⟩ := h d List.mem_cons_self
    obtain ⟨outs, e4, p, hl⟩ := lcL_filter P (items := ds) fun x hx => h x (List.mem_cons_of_mem _ hx)
    cases b with
    | false =>
      refine ⟨outs, ?_, p, by rw [List.length_cons]; omega⟩
      show (f d ρ).bind _ = _
      rw [e1, Option.bind_some, e2]
      exact e4
    | true =>
      obtain ⟨o, e5, po⟩ := e3 rfl
      refine ⟨o :: outs, ?_, fun x hx => ?_, by rw [List.length_cons, List.length_cons]; omega⟩
      · show (f d ρ).bind _ = _
        rw [e1, Option.bind_some, e2, Option.bind_some]
        show (e ρ1 G).bind _ = _
        rw [e5, Option.bind_some, e4]
        rfl
      · rcases List.mem_cons.mp hx with hx | hx
        · rw [hx]; exact po
        · exact p x hx
theorem ints_of {outs : List D} {P : Int → Prop} (h : ∀ o ∈ outs, ∃ z : Int, o = .int z ∧ P z) : ∃ zs : List Int, outs = zs.map .int ∧ (∀ z ∈ zs, P z) ∧ zs.length = outs.length := by
  induction outs with
  | nil => exact ⟨[], rfl, fun _ h => by simp at h, rfl⟩
  | cons o os ih =>
    obtain ⟨z, rfl, pz⟩ := h o List.mem_cons_self
    obtain ⟨zs, rfl, pzs, hl⟩ := ih fun x hx => h x (List.mem_cons_of_mem _ hx)
    refine ⟨z :: zs, rfl, fun w hw => ?_, by rw [List.length_cons, List.length_cons, hl]⟩
    rcases List.mem_cons.mp hw with hw | hw
    · rw [hw]; exact pz
    · exact pzs w hw
theorem bag_ev (ns : List Int) (hn : ns.length ≤ 63) : ∃ (b g : Nat) (cs : List Cell), F__law_bag [.frz (ns.map .int)] Sto.none = some (.loc b, ⟨0, cs⟩) ∧ Bag cs b g 1000000000 := by
  generalize hcl : ns.map (fun z => ((z.natAbs : Nat) : Int)) ++ [7] = cl
  have hcl0 : ∀ z ∈ cl, (0 : Int) ≤ z := fun z hz => by
    rw [← hcl] at hz
    rcases List.mem_append.mp hz with hz | hz
    · obtain ⟨w, _, rfl⟩ := List.mem_map.mp hz; omega
    · have : z = 7 := by simpa using hz
      omega
  have hclen : cl.length ≤ 64 := by rw [← hcl, List.length_append, List.length_map]; simp; omega
  have hcne : cl ≠ [] := by rw [← hcl]; simp
  have habs : ∀ i : Int, (if i < 0 then -i else i) = ((i.natAbs : Nat) : Int) := fun i => by split <;> omega
  -- the cells
  have e1 : mBin fAdd (mLc (mRow (mVar 0)) (gtName 2) mYes (mCB bAbs (mCons (mCB bInt (mCons (mVar 2) mNil)) mNil)) [2]) (mLst (mCons (mC (.int 7)) mNil)) [some (.frz (ns.map .int)), none, none, none] Sto.none = some (.lst (cl.map .int), Sto.none) := by
    refine bin_run (x := .lst ((ns.map (fun z => ((z.natAbs : Nat) : Int))).map .int)) (y := .lst [.int 7]) (G1 := Sto.none) ?_ rfl ?_
    · refine mLc_run (items := ns.map .int) (G1 := Sto.none) rfl (lcL_run (by simp) fun i d o hd ho => ?_) (by simp; omega)
      rw [List.getElem?_map] at hd
      obtain ⟨z, hz, rfl⟩ := Option.map_eq_some_iff.mp hd
      rw [List.getElem?_map, List.getElem?_map, hz] at ho
      cases ho
      refine ⟨_, rfl, rfl, cb_run (one_run (cb_run (one_run rfl) rfl)) ?_⟩
      show some (D.int (if z < 0 then -z else z)) = _
      rw [habs]
    · have : szOk ((ns.map (fun z => ((z.natAbs : Nat) : Int))).map D.int).length = true := decide_eq_true (by simp; omega)
      show (if szOk (((ns.map (fun z => ((z.natAbs : Nat) : Int))).map D.int).length + [D.int 7].length) = true then some (D.lst (((ns.map (fun z => ((z.natAbs : Nat) : Int))).map D.int) ++ [D.int 7])) else none) = _
      rw [if_pos (show szOk _ = true from decide_eq_true (by simp; omega)), ← hcl, List.map_append]
      rfl
  have hp : (0 : Int) < 2147483647 := by decide
  have e4 : ∀ (ρ : Evn) (G : Sto), ρ[1]? = some (some (.lst (cl.map .int))) → ρ.length = 4 → mLc (mRow (mVar 1)) (gtName 2) mYes (mBin fMod (mCB bInt (mCons (mVar 2) mNil)) (mC (.int 2147483647))) [2] ρ G = some (.lst ((cl.map (· % 2147483647)).map .int), G) := by
    intro ρ G hρ hlen
    refine mLc_run (items := cl.map .int) (G1 := G) ?_ (lcL_run (by simp) fun i d o hd ho => ?_) (by simp; omega)
    · unfold mRow mVar
      rw [hρ]
      rfl
    · rw [List.getElem?_map] at hd
      obtain ⟨z, hz, rfl⟩ := Option.map_eq_some_iff.mp hd
      rw [List.getElem?_map, List.getElem?_map, hz] at ho
      cases ho
      refine ⟨_, rfl, rfl, bin_run (x := .int z) (cb_run (one_run (x := .int z) ?_) rfl) rfl (fMod_ii hp)⟩
      unfold mVar
      rw [List.getElem?_set_self (by show 2 < (ρ.set 2 none).length; rw [List.length_set]; omega)]
  have fin' : ∀ (cs : List Cell) (g : Nat) (great : List Int), g < cs.length → (∀ c ∈ cs, belowC cs.length c = true) → cs[g]? = some (.lst (great.map .int)) → (∀ z ∈ great, 0 ≤ z) → great.length ≤ 1000 → Bag (cs ++ [.lst [.int 0, .int 0, .loc g, .lst ((cl.map (· % 2147483647)).map .int)]]) cs.length g 1000000000 := by
    intro cs g great hg hw he hgr hgl
    have hmod : ∀ c ∈ cl.map (· % 2147483647), (0 : Int) ≤ c ∧ c < 2147483647 := fun c hc => by
      obtain ⟨z, _, rfl⟩ := List.mem_map.mp hc
      exact ⟨Int.emod_nonneg _ (by decide), Int.emod_lt_of_pos _ hp⟩
    refine ⟨⟨0, 0, cl.map (· % 2147483647), by rw [List.getElem?_append_right (Nat.le_refl _), Nat.sub_self]; rfl, by decide, by decide, by decide, by simpa using hcne, by rw [List.length_map]; omega, hmod⟩, ⟨great, by rw [List.getElem?_append_left hg]; exact he, hgr, hgl⟩, by omega, fun c hc => ?_⟩
    rw [List.length_append]
    rcases List.mem_append.mp hc with hc | hc
    · exact belowC_mono (by omega) (hw c hc)
    · have : c = .lst [.int 0, .int 0, .loc g, .lst ((cl.map (· % 2147483647)).map .int)] := by simpa using hc
      subst this
      show (true && (true && (decide (g < _) && (belowDs _ ((cl.map (· % 2147483647)).map .int) && true)))) = true
      rw [belowDs_ints, decide_eq_true (by simp; omega)]
      rfl
  generalize hcm : (cl.map (· % 2147483647)).map D.int = cm at e4 fin'
  have bodyF : ∀ (r : D) (ρ' : Evn) (cs' : List Cell), M__law_bag [some (.frz (ns.map .int)), none, none, none] ⟨0, []⟩ = some (.rt r, ρ', ⟨0, cs'⟩) → F__law_bag [.frz (ns.map .int)] Sto.none = some (r, ⟨0, cs'⟩) := fun r ρ' cs' e => by
    unfold F__law_bag runK runBody
    rw [if_pos (show [D.frz (ns.map .int)].length = 1 from rfl)]
    show (M__law_bag [some (.frz (ns.map .int)), none, none, none] ⟨0, []⟩).bind _ = _
    rw [e]
    rfl
  have last : ∀ (g : Nat) (cs : List Cell) (x : Option D), mRet (mNew (mCons (mC (.int 0)) (mCons (mC (.int 0)) (mCons (mVar 3) (mCons (mLc (mRow (mVar 1)) (gtName 2) mYes (mBin fMod (mCB bInt (mCons (mVar 2) mNil)) (mC (.int 2147483647))) [2]) mNil))))) [some (.frz (ns.map .int)), some (.lst (cl.map .int)), x, some (.loc g)] ⟨0, cs⟩ = some (.rt (.loc cs.length), [some (.frz (ns.map .int)), some (.lst (cl.map .int)), x, some (.loc g)], ⟨0, cs ++ [.lst [.int 0, .int 0, .loc g, .lst cm]]⟩) := fun g cs x =>
    ret_run (new_run (G1 := ⟨0, cs⟩) (ds := [.int 0, .int 0, .loc g, .lst cm]) (cons_run rfl (cons_run rfl (cons_run rfl (one_run (e4 _ _ rfl rfl))))) (by show 4 ≤ 16777216; omega))
  obtain ⟨c0, cr, hc⟩ : ∃ c0 cr, cl = c0 :: cr := by
    cases cl with
    | nil => exact absurd rfl hcne
    | cons c r => exact ⟨c, r, rfl⟩
  have t0 : ∀ (G : Sto) (x : Option D), mBool (mBin fEq (mBin fMod (mCB bInt (mCons (mIdx (mVar 1) (mC (.int 0))) mNil)) (mC (.int 2))) (mC (.int 0))) [some (.frz (ns.map .int)), some (.lst (cl.map .int)), x, some (.loc 0)] G = some (c0 % 2 == 0, G) := fun G x => by
    refine bool_run (bin_run (bin_run (cb_run (one_run (idx_run rfl rfl (z := .int c0) ?_)) rfl) rfl (fMod_ii (by decide))) rfl rfl)
    rw [hc]
    exact atI0 _ _
  cases hev : (c0 % 2 == 0) with
  | false =>
    refine ⟨1, 0, [.lst []] ++ [.lst [.int 0, .int 0, .loc 0, .lst cm]], bodyF _ [some (.frz (ns.map .int)), some (.lst (cl.map .int)), none, some (.loc 0)] _ ?_, fin' [.lst []] 0 [] (by decide) (fun c hc => by simp at hc; subst hc; rfl) rfl (fun z hz => by simp at hz) (by decide)⟩
    unfold M__law_bag
    refine seq_run (asg_run e1) (seq_run (asg_run (new_run (ds := []) rfl (by simp))) (seq_run (ρ1 := [some (.frz (ns.map .int)), some (.lst (cl.map .int)), none, some (.loc 0)]) (G1 := ⟨0, [.lst []]⟩) (ifS_false ?_ rfl) (last 0 [.lst []] none)))
    rw [← hev]
    exact t0 _ _
  | true =>
    obtain ⟨outs, e5, e6, e7⟩ := lcL_filter (f := gtName 2) (c := mBool (mBin fGe (mVar 2) (mBin fPow (mC (.int 10)) (mC (.int 18))))) (e := mBin fDiv (mVar 2) (mC (.int 2))) (ρ := [some (.frz (ns.map .int)), some (.lst (cl.map .int)), none, some (.loc 0)]) (G := ⟨0, [.lst []]⟩) (fun o => ∃ z : Int, o = .int z ∧ 0 ≤ z) (items := cl.map .int) fun d hd => by
      obtain ⟨z, hz, rfl⟩ := List.mem_map.mp hd
      have hz0 := hcl0 z hz
      refine ⟨_, decide ((10 : Int) ^ 18 ≤ z), rfl, bool_run (bin_run rfl (bin_run (z := .int (10 ^ 18)) rfl rfl rfl) rfl), fun _ => ⟨.int (z / 2), bin_run rfl rfl (fDiv_ii rfl), z / 2, rfl, by omega⟩⟩
    obtain ⟨zs, rfl, hzs, hzl⟩ := ints_of (P := fun z => 0 ≤ z) e6
    rw [List.length_map, List.length_map] at e7
    refine ⟨2, 1, [.lst [], .lst (zs.reverse.map .int)] ++ [.lst [.int 0, .int 0, .loc 1, .lst cm]], bodyF _ [some (.frz (ns.map .int)), some (.lst (cl.map .int)), none, some (.loc 1)] _ ?_, fin' [.lst [], .lst (zs.reverse.map .int)] 1 zs.reverse (by show 1 < 2; omega) (fun c hc => ?_) rfl (fun z hz => hzs z (List.mem_reverse.mp hz)) (by rw [List.length_reverse]; omega)⟩
    · unfold M__law_bag
      refine seq_run (asg_run e1) (seq_run (asg_run (new_run (ds := []) rfl (by simp))) (seq_run (ρ1 := [some (.frz (ns.map .int)), some (.lst (cl.map .int)), none, some (.loc 1)]) (G1 := ⟨0, [.lst [], .lst (zs.reverse.map .int)]⟩) (ifS_true (by rw [← hev]; exact t0 _ _) ?_) (last 1 [.lst [], .lst (zs.reverse.map .int)] none)))
      refine seq_run (ρ1 := [some (.frz (ns.map .int)), some (.lst (cl.map .int)), none, some (.loc 1)]) (G1 := ⟨0, [.lst [], .lst (zs.map .int)]⟩) (asg_run (d := .loc 1) (ρ := [some (.frz (ns.map .int)), some (.lst (cl.map .int)), none, some (.loc 0)]) ?_) (drop_run (d := .non) ?_)
      · unfold mLcN mLcR
        show ((((lcL _ _ _ _ (cl.map .int) _)).bind _).bind _) = _
        rw [show wipeD [some (.frz (ns.map .int)), some (.lst (cl.map .int)), none, some (.loc 0)] [2] = [some (.frz (ns.map .int)), some (.lst (cl.map .int)), none, some (.loc 0)] from rfl]
        erw [e5]
        have : szOk (zs.map D.int).length = true := decide_eq_true (by omega)
        simp only [Option.bind_some, this, if_true]
        rfl
      · unfold mRev
        show some (D.non, (⟨0, [.lst [], .lst ((zs.map D.int).reverse)]⟩ : Sto)) = _
        rw [List.map_reverse]
    · rcases List.mem_cons.mp hc with hc | hc
      · subst hc; rfl
      · have : c = .lst (zs.reverse.map .int) := by simpa using hc
        subst this
        exact belowC_ints _ _
/-- one of a row is picked -/
theorem pick_ev {cs : List Cell} {b g n k : Nat} {xs : List D} (B : Bag cs b g (n + 1)) (h0 : xs ≠ []) (h1 : xs.length ≤ 1000) (hx : ∀ x ∈ xs, belowD cs.length x = true) :
    ∃ (x : D) (cs' : List Cell), F__law_pick [.loc b, .lst xs] ⟨k, cs⟩ = some (x, ⟨k, cs'⟩) ∧ x ∈ xs ∧ Bag cs' b g n ∧ cs'.length = cs.length ∧ ∀ j, j ≠ b → j ≠ g → cs'[j]? = cs[j]? := by
  obtain ⟨r, cs', e, h2, h3, B', hl, hj⟩ := draw_ev (k := cs.length) (many := (xs.length : Nat)) B (by have := List.length_pos_iff.mpr h0; omega) (divOk_of (n := 64) (by have := List.length_pos_iff.mpr h0; omega) (by omega) (by omega))
  have hr : xs[r.toNat]? = some (xs[r.toNat]'(by omega)) := List.getElem?_eq_getElem _
  refine ⟨_, cs', ?_, List.getElem_mem (n := r.toNat) (by omega), B', hl, hj⟩
  unfold F__law_pick
  exact runF_run (b := M__law_pick) (ρ' := [some (.loc b), some (.lst xs)]) rfl (ret_run (idx_run (x := .lst xs) (y := .int r) (G1 := ⟨cs.length, cs⟩) rfl (call_run (G1 := ⟨cs.length, cs⟩) (two_run (G1 := ⟨cs.length, cs⟩) rfl (cb_run (one_run rfl) (bLen_of (ds := xs) rfl))) e) (show L2.atI xs r = _ from atI_nn h2 hr))) hl B'.wf (hx _ (List.getElem_mem _))
theorem lten_ev (n : Nat) (hn : n ≤ 1000) : F__law_ten [.int (n : Int)] Sto.none = some (.int (10 ^ n), Sto.none) := by
  have pw : ∀ k : Nat, (10 : Int) ^ k = ((10 ^ k : Nat) : Int) := fun k => by rw [Int.natCast_pow]; rfl
  obtain ⟨ρ', G', e, x, rfl, rfl⟩ := forL_run (f := gtName 2) (b := mAsg 1 (mBin fMul (mVar 1) (mC (.int 10)))) (items := rangeD 0 n) (fun i ρ G => ∃ x : Option D, ρ = [some (.int (n : Int)), some (.int (10 ^ i)), x] ∧ G = Sto.none) (ρ := [some (.int (n : Int)), some (.int 1), none]) (G := Sto.none) ⟨none, rfl, rfl⟩ (by
    rintro i d ρ G hd ⟨x, rfl, rfl⟩
    have hi : i < n := by
      have := (List.getElem?_eq_some_iff.mp hd).1
      rwa [rangeD_length] at this
    refine ⟨_, [some (.int (n : Int)), some (.int (10 ^ (i + 1))), some d], Sto.none, rfl, asg_run (d := .int (10 ^ (i + 1))) (bin_run (x := .int (10 ^ i)) (y := .int 10) rfl rfl ?_), _, rfl, rfl⟩
    rw [fMul_ii, Int.pow_succ]
    refine mulOk_of (m := 4 * i + 1) (n := 4) ?_ (by decide) (by omega)
    rw [pw, Int.natAbs_natCast, Nat.pow_succ, Nat.pow_mul]
    have h1 : 10 ^ i ≤ (2 ^ 4) ^ i := Nat.pow_le_pow_left (by decide) i
    have h2 : 0 < (2 ^ 4) ^ i := Nat.pow_pos (by decide)
    omega)
  rw [rangeD_length] at e
  refine run_body (ρ' := [some (.int (n : Int)), some (.int (10 ^ n)), x]) (G' := Sto.none) rfl ?_ rfl
  show M__law_ten [some (.int (n : Int)), none, none] Sto.none = _
  unfold M__law_ten
  refine seq_run (asg_run (d := .int 1) rfl) (seq_run (for_run (range1_run (one_run rfl) (by omega)) e) (ret_run ?_))
  rfl
theorem same_int (k : Nat) (i : Int) : F__law_same (k + 1) [.int i, .int i] Sto.none = some (.bl true, Sto.none) := by
  have h : ∀ r : Fn, M__law_same r [some (.int i), some (.int i), none] Sto.none = some (.rt (.bl true), [some (.int i), some (.int i), none], Sto.none) := fun r => by
    have e : fEq (.int i) (.int i) = some (.bl true) := by rw [fEq_ii]; simp
    have e1 : mBin fEq (mVar 0) (mVar 1) [some (.int i), some (.int i), none] Sto.none = some (.bl true, Sto.none) := bin_run rfl rfl e
    unfold M__law_same
    refine seq_run (ifS_false rfl rfl) (seq_run (ifS_false rfl rfl) (seq_rt (ifS_true rfl (ret_run ?_))))
    unfold mAndV
    exact e1
  show runF 3 2 (M__law_same (F__law_same k)) _ _ = _
  exact run_body (ρ' := [some (.int i), some (.int i), none]) (G' := Sto.none) rfl (h _) rfl
theorem same_tup {k : Nat} {ds : List D} (h : ∀ d ∈ ds, F__law_same k [d, d] Sto.none = some (.bl true, Sto.none)) (hb : belowDs 0 ds = true) (hl : ds.length ≤ 1000000) : F__law_same (k + 1) [.tup ds, .tup ds] Sto.none = some (.bl true, Sto.none) := by
  have hmem : ∀ {ds : List D} {d : D}, d ∈ ds → belowDs 0 ds = true → belowD 0 d = true := by
    intro ds d hd hb
    induction ds with
    | nil => cases hd
    | cons x xs ih =>
      unfold belowDs at hb
      rw [Bool.and_eq_true] at hb
      rcases List.mem_cons.mp hd with hd | hd
      · rw [hd]; exact hb.1
      · exact ih hd hb.2
  have hlen : bLen Sto.none [.tup ds] = some (.int (ds.length : Nat)) := bLen_of rfl
  obtain ⟨ρ', G', e, x, rfl, rfl⟩ := forL_run (f := gtName 2) (b := mIfS (mNot (mTru (mCallP (F__law_same k) (mCons (mIdx (mVar 0) (mVar 2)) (mCons (mIdx (mVar 1) (mVar 2)) mNil))))) (mRet (mC (.bl false))) mSkip) (items := rangeD 0 ds.length) (fun _ ρ G => ∃ x : Option D, ρ = [some (.tup ds), some (.tup ds), x] ∧ G = Sto.none) (ρ := [some (.tup ds), some (.tup ds), none]) (G := Sto.none) ⟨none, rfl, rfl⟩ (by
    rintro i d ρ G hd ⟨x, rfl, rfl⟩
    have hi : i < ds.length := by
      have := (List.getElem?_eq_some_iff.mp hd).1
      rwa [rangeD_length] at this
    rw [rangeD_get hi] at hd
    cases hd
    have hx : ds[i]? = some ds[i] := List.getElem?_eq_getElem hi
    have hix : L2.atI ds (0 + (i : Int)) = some ds[i] := by rw [Int.zero_add]; exact atI_n hx
    have hm : ds[i] ∈ ds := List.getElem_mem hi
    have h2 := hmem hm hb
    refine ⟨_, [some (.tup ds), some (.tup ds), some (.int (0 + (i : Int)))], Sto.none, rfl, ifS_false (b := mSkip) (not_run (b := true) (tru_run (callP (ds := [ds[i], ds[i]]) (two_run (idx_run rfl rfl hix) (idx_run rfl rfl hix)) ?_ (h _ hm) rfl) rfl)) rfl, _, rfl, rfl⟩
    unfold belowDs belowDs belowDs
    rw [h2]; rfl)
  show runF 3 2 (M__law_same (F__law_same k)) _ _ = _
  refine run_body (ρ' := [some (.tup ds), some (.tup ds), x]) (G' := Sto.none) rfl ?_ rfl
  show M__law_same (F__law_same k) [some (.tup ds), some (.tup ds), none] Sto.none = _
  unfold M__law_same
  refine seq_run (ifS_false rfl rfl) (seq_run (ifS_false rfl rfl) (seq_run (ifS_false rfl rfl) (seq_run (ifS_false rfl rfl) (seq_run (ifS_false ?_ rfl) (seq_run (for_run (range1_run (one_run (cb_run (one_run rfl) hlen)) hl) e) (ret_run rfl))))))
  refine or_false (not_run (b := true) rfl) (or_false (not_run (b := true) rfl) (bool_run (bin_run (cb_run (one_run rfl) hlen) (cb_run (one_run rfl) hlen) ?_)))
  rw [fNe_ii]
  simp
theorem same_q2 (k : Nat) (q : Rat) : F__law_same (k + 2) [q2 q, q2 q] Sto.none = some (.bl true, Sto.none) := same_tup (fun d hd => by
  rcases List.mem_cons.mp hd with hd | hd
  · subst hd; exact same_int _ _
  · have : d = .int q.den := by simpa using hd
    subst this; exact same_int _ _) rfl (by show 2 ≤ 1000000; omega)
theorem same_q2s (k : Nat) (qs : List Rat) (hl : qs.length ≤ 1000000) : F__law_same (k + 3) [.tup (qs.map q2), .tup (qs.map q2)] Sto.none = some (.bl true, Sto.none) := same_tup (fun d hd => by
  obtain ⟨q, _, rfl⟩ := List.mem_map.mp hd
  exact same_q2 k q) (belowDs_q2 0 qs) (by rw [List.length_map]; exact hl)
end K88

namespace K88
open PySem PySem.Spec PyProof.Rows L2 Lf
variable [Tabs]
/-! ### the numbers that are drawn -/
def gf : Int → Int → Option Int := eMul eB (eAdd eA (eC 1))
def x0 (ns : List Int) : Int := preSum (genVal gf ns) ns.length
def num (ns : List Int) (k : Nat) : Int := ns[k % ns.length]?.getD 0
def stt (ns : List Int) : Nat → Int
  | 0 => x0 ns
  | k + 1 => (stt ns k * 1103515245 + 12345 + num ns k) % 2147483648
def outp (ns : List Int) (k : Nat) : Int := stt ns (k + 1) / 65536
structure Ok (ns : List Int) : Prop where
  ne : 0 < ns.length
  le : ns.length ≤ 60
  bd : ∀ z ∈ ns, 0 ≤ z ∧ z < 2 ^ 120
theorem nat_lt {z : Int} {m : Nat} (h1 : 0 ≤ z) (h2 : z < 2 ^ m) : z.natAbs < 2 ^ m := by
  have : (z.natAbs : Int) < ((2 ^ m : Nat) : Int) := by rw [Int.natAbs_of_nonneg h1]; push_cast; exact h2
  omega
section
variable {ns : List Int} (O : Ok ns)
include O
theorem gf_at {i : Nat} {j : Int} (h : ns[i]? = some j) : gf i j = some (j * ((i : Int) + 1)) := by
  have hj := O.bd j (List.mem_of_getElem? h)
  have hi : i < ns.length := (List.getElem?_eq_some_iff.mp h).1
  have hle := O.le
  have hm : mulOk j ((i : Int) + 1) = true := mulOk_of (m := 120) (n := 64) (nat_lt hj.1 hj.2) (by omega) (by omega)
  show (if mulOk j ((i : Int) + 1) then some (j * ((i : Int) + 1)) else none) = _
  rw [if_pos hm]
theorem gv_at {i : Nat} {j : Int} (h : ns[i]? = some j) : genVal gf ns i = j * ((i : Int) + 1) := by
  unfold genVal
  rw [h, Option.bind_some, gf_at O h]
  rfl
theorem sum_ok : sumOk gf ns = true := by
  unfold sumOk
  rw [List.all_eq_true]
  intro i hi
  have hi := List.mem_range.mp hi
  rw [List.getElem?_eq_getElem hi, Option.bind_some, gf_at O (List.getElem?_eq_getElem hi)]
  rfl
theorem pre_bd : ∀ n : Nat, n ≤ ns.length → 0 ≤ preSum (genVal gf ns) n ∧ preSum (genVal gf ns) n ≤ (n : Int) * 2 ^ 126
  | 0, _ => ⟨Int.le_refl _, by simp [preSum]⟩
  | n + 1, h => by
    obtain ⟨h1, h2⟩ := pre_bd n (by omega)
    have e := gv_at O (List.getElem?_eq_getElem (show n < ns.length by omega))
    have hj := O.bd ns[n] (List.getElem_mem (show n < ns.length by omega))
    have hle := O.le
    show 0 ≤ preSum (genVal gf ns) n + genVal gf ns n ∧ preSum (genVal gf ns) n + genVal gf ns n ≤ ((n + 1 : Nat) : Int) * 2 ^ 126
    rw [e]
    have b1 : 0 ≤ ns[n] * ((n : Int) + 1) := Int.mul_nonneg hj.1 (by omega)
    have b2 : ns[n] * ((n : Int) + 1) ≤ 2 ^ 120 * 64 := Int.mul_le_mul (by omega) (by omega) (by omega) (by decide)
    have b3 : (2 : Int) ^ 120 * 64 = 2 ^ 126 := by decide
    have b4 : ((n + 1 : Nat) : Int) * 2 ^ 126 = (n : Int) * 2 ^ 126 + 2 ^ 126 := by
      rw [show ((n + 1 : Nat) : Int) = (n : Int) + 1 from rfl, Int.add_mul, Int.one_mul]
    omega
theorem stt_bd (k : Nat) : 0 ≤ stt ns k ∧ stt ns k < 2 ^ 140 := by
  cases k with
  | zero =>
    obtain ⟨h1, h2⟩ := pre_bd O ns.length (Nat.le_refl _)
    refine ⟨h1, ?_⟩
    have : ((ns.length : Nat) : Int) * 2 ^ 126 ≤ 60 * 2 ^ 126 := Int.mul_le_mul_of_nonneg_right (by have := O.le; omega) (by decide)
    have h3 : (60 : Int) * 2 ^ 126 < 2 ^ 140 := by decide
    have h4 : stt ns 0 ≤ ((ns.length : Nat) : Int) * 2 ^ 126 := h2
    omega
  | succ k =>
    have h1 := Int.emod_nonneg (stt ns k * 1103515245 + 12345 + num ns k) (show (2147483648 : Int) ≠ 0 by decide)
    have h2 := Int.emod_lt_of_pos (stt ns k * 1103515245 + 12345 + num ns k) (show (0 : Int) < 2147483648 by decide)
    have h3 : (2147483648 : Int) < 2 ^ 140 := by decide
    exact ⟨h1, Int.lt_trans h2 h3⟩
theorem num_at (k : Nat) : L2.atI (ns.map D.int) ((k : Int) % (ns.length : Nat)) = some (.int (num ns k)) := by
  have hl := O.ne
  have hk : k % ns.length < ns.length := Nat.mod_lt _ hl
  rw [← Int.natCast_emod]
  refine atI_n ?_
  rw [List.getElem?_map]
  unfold num
  rw [List.getElem?_eq_getElem hk]
  rfl
theorem out_bd (k : Nat) : 0 ≤ outp ns k ∧ outp ns k < 2 ^ 31 := by
  have h1 := Int.emod_nonneg (stt ns k * 1103515245 + 12345 + num ns k) (show (2147483648 : Int) ≠ 0 by decide)
  have h2 := Int.emod_lt_of_pos (stt ns k * 1103515245 + 12345 + num ns k) (show (0 : Int) < 2147483648 by decide)
  have e : outp ns k = ((stt ns k * 1103515245 + 12345 + num ns k) % 2147483648) / 65536 := rfl
  have h3 : (2 : Int) ^ 31 = 2147483648 := by decide
  omega
end
/-- the drawer's fields -/
abbrev fds3 (x a b : D) : List (Str × D) := [("numbers", x), ("place", a), ("state", b)]
abbrev fds2 (x a : D) : List (Str × D) := [("numbers", x), ("place", a)]
abbrev fds1 (x : D) : List (Str × D) := [("numbers", x)]
/-- the drawer's cell -/
def drw (ns : List Int) (k : Nat) : Cell := .ins 0 (fds3 (.tup (ns.map .int)) (.int (k : Nat)) (.int (stt ns k)))
theorem belowC_drw (n : Nat) (ns : List Int) (k : Nat) : belowC n (drw ns k) = true := by
  show (belowDs n (ns.map D.int) && (true && (true && true))) = true
  rw [belowDs_ints]; rfl
theorem lk_numbers (x a b : D) : (fds3 x a b).lookup ("numbers" : Str) = some x := List.lookup_cons_self
theorem lk_place (x a b : D) : (fds3 x a b).lookup ("place" : Str) = some a := by
  unfold fds3
  rw [List.lookup_cons, show (("place" : Str) == "numbers") = false from by decide +kernel]
  exact List.lookup_cons_self
theorem lk_state (x a b : D) : (fds3 x a b).lookup ("state" : Str) = some b := by
  unfold fds3
  rw [List.lookup_cons, show (("state" : Str) == "numbers") = false from by decide +kernel]
  dsimp only
  rw [List.lookup_cons, show (("state" : Str) == "place") = false from by decide +kernel]
  exact List.lookup_cons_self
theorem lk_draw (x a b : D) : (fds3 x a b).lookup ("draw" : Str) = none := by
  unfold fds3
  rw [List.lookup_cons, show (("draw" : Str) == "numbers") = false from by decide +kernel]
  dsimp only
  rw [List.lookup_cons, show (("draw" : Str) == "place") = false from by decide +kernel]
  dsimp only
  rw [List.lookup_cons, show (("draw" : Str) == "state") = false from by decide +kernel]
  rfl
theorem pf_state (x a b c : D) : putFD "state" c (fds3 x a b) = fds3 x a c := by
  show (if ("numbers" : Str) = "state" then _ else (("numbers" : Str), x) :: (if ("place" : Str) = "state" then _ else (("place" : Str), a) :: (if ("state" : Str) = "state" then _ else _))) = _
  rw [if_neg (by decide +kernel), if_neg (by decide +kernel), if_pos rfl]
theorem pf_place (x a b c : D) : putFD "place" c (fds3 x a b) = fds3 x c b := by
  show (if ("numbers" : Str) = "place" then _ else (("numbers" : Str), x) :: (if ("place" : Str) = "place" then _ else _)) = _
  rw [if_neg (by decide +kernel), if_pos rfl]
theorem pf0 (x : D) : putFD "numbers" x [] = fds1 x := rfl
theorem pf1 (x a : D) : putFD "place" a (fds1 x) = fds2 x a := by
  show (if ("numbers" : Str) = "place" then _ else (("numbers" : Str), x) :: putFD "place" a []) = _
  rw [if_neg (by decide +kernel)]
  rfl
theorem pf2 (x a b : D) : putFD "state" b (fds2 x a) = fds3 x a b := by
  show (if ("numbers" : Str) = "state" then _ else (("numbers" : Str), x) :: (if ("place" : Str) = "state" then _ else (("place" : Str), a) :: putFD "state" b [])) = _
  rw [if_neg (by decide +kernel), if_neg (by decide +kernel)]
  rfl
/-- Drawer(numbers) -/
theorem make_ev {ns : List Int} (O : Ok ns) {ρ : Evn} {ms : M (List D)} (h : ms ρ Sto.none = some ([.tup (ns.map .int)], Sto.none)) : mMake 0 F_Drawer___init__ ms ρ Sto.none = some (.loc 0, ⟨0, [drw ns 0]⟩) := by
  have e : F_Drawer___init__ [.loc 0, .tup (ns.map .int)] ⟨1, [.ins 0 []]⟩ = some (.non, ⟨1, [drw ns 0]⟩) := by
    have hs : mSumE gf (mVar 1) [some (.loc 0), some (.tup (ns.map .int)), none, none] ⟨1, [.ins 0 (fds2 (.tup (ns.map .int)) (.int 0))]⟩ = some (.int (x0 ns), ⟨1, [.ins 0 (fds2 (.tup (ns.map .int)) (.int 0))]⟩) := by
      show ((intsOf (ns.map D.int)).bind fun js => if sumOk gf js then some (D.int (preSum (genVal gf js) js.length), _) else none) = _
      rw [intsOf_map, Option.bind_some, if_pos (sum_ok O)]
      rfl
    have hb : M_Drawer___init__ [some (.loc 0), some (.tup (ns.map .int)), none, none] ⟨1, [.ins 0 []]⟩ = some (.nx, [some (.loc 0), some (.tup (ns.map .int)), none, none], ⟨1, [drw ns 0]⟩) := by
      unfold M_Drawer___init__
      refine seq_run (ρ1 := [some (.loc 0), some (.tup (ns.map .int)), none, none]) (G1 := ⟨1, [.ins 0 (fds1 (.tup (ns.map .int)))]⟩) ((setF_run (fs := []) (l := 0) (d := .tup (ns.map .int)) (G1 := ⟨1, [.ins 0 []]⟩) (G2 := ⟨1, [.ins 0 []]⟩) rfl rfl rfl (by show 0 < 1000; omega)).trans rfl) ?_
      refine seq_run (ρ1 := [some (.loc 0), some (.tup (ns.map .int)), none, none]) (G1 := ⟨1, [.ins 0 (fds2 (.tup (ns.map .int)) (.int 0))]⟩) ((setF_run (fs := (fds1 (.tup (ns.map .int)))) (d := .int 0) rfl rfl rfl (by show 1 < 1000; omega)).trans ?_) ?_
      · rw [pf1]; rfl
      · refine (setF_run (fs := (fds2 (.tup (ns.map .int)) (.int 0))) (l := 0) hs rfl rfl (by show 2 < 1000; omega)).trans ?_
        rw [pf2]; rfl
    unfold F_Drawer___init__ runF runBody
    rw [if_pos (show [D.loc 0, D.tup (ns.map .int)].length = 2 from rfl)]
    show (M_Drawer___init__ [some (.loc 0), some (.tup (ns.map .int)), none, none] ⟨1, [.ins 0 []]⟩).bind _ = _
    rw [hb]
    show fin ⟨1, [.ins 0 []]⟩ .non ⟨1, [drw ns 0]⟩ = _
    unfold fin
    show (if true && ([drw ns 0].all (belowC 1)) then some (D.non, (⟨1, [drw ns 0]⟩ : Sto)) else none) = _
    rw [if_pos]
    show (true && (belowC 1 (drw ns 0) && true)) = true
    rw [belowC_drw]; rfl
  unfold mMake
  rw [h]
  show ((F_Drawer___init__ [.loc 0, .tup (ns.map .int)] ⟨1, [.ins 0 []]⟩).bind _) = _
  rw [e]
  rfl
/-- drawer.draw() -/
theorem dr_ev {ns : List Int} (O : Ok ns) {k n : Nat} {cs : List Cell} (h0 : cs[0]? = some (drw ns k)) (hw : ∀ c ∈ cs, belowC cs.length c = true) : F_Drawer_draw [.loc 0] ⟨n, cs⟩ = some (.int (outp ns k), ⟨n, cs.set 0 (drw ns (k + 1))⟩) := by
  have hl : 0 < cs.length := (List.getElem?_eq_some_iff.mp h0).1
  have hs := stt_bd O k
  have hlen : bLen ⟨cs.length, cs⟩ [.tup (ns.map .int)] = some (.int (ns.length : Nat)) := by
    have := bLen_of (G := ⟨cs.length, cs⟩) (d := .tup (ns.map .int)) rfl
    rwa [List.length_map] at this
  have hne := O.ne
  have f1 : ∀ {ρ : Evn} , ρ[0]? = some (some (.loc 0)) → mVar 0 ρ ⟨cs.length, cs⟩ = some (.loc 0, ⟨cs.length, cs⟩) := fun {ρ} h => by unfold mVar; rw [h]
  generalize hc1 : cs.set 0 (.ins 0 (fds3 (.tup (ns.map .int)) (.int (k : Nat)) (.int (stt ns (k + 1))))) = cs1
  have hl1 : cs1.length = cs.length := by rw [← hc1, List.length_set]
  have h1 : cs1[0]? = some (.ins 0 (fds3 (.tup (ns.map .int)) (.int (k : Nat)) (.int (stt ns (k + 1))))) := by rw [← hc1, List.getElem?_set_self hl]
  have hc2 : cs1.set 0 (drw ns (k + 1)) = cs.set 0 (drw ns (k + 1)) := by rw [← hc1, List.set_set]
  have h2 : (cs.set 0 (drw ns (k + 1)))[0]? = some (drw ns (k + 1)) := List.getElem?_set_self hl
  unfold F_Drawer_draw
  refine runF_run (b := M_Drawer_draw) (ρ' := [some (.loc 0), some (.int (num ns k))]) rfl ?_ (by rw [List.length_set]) (mem_set_wf hw (by exact belowC_drw _ _ _)) rfl
  show M_Drawer_draw [some (.loc 0), none] ⟨cs.length, cs⟩ = _
  unfold M_Drawer_draw
  refine seq_run (ρ1 := [some (.loc 0), some (.int (num ns k))]) (G1 := ⟨cs.length, cs⟩) (asg_run (idx_run (x := .tup (ns.map .int)) (y := .int ((k : Int) % (ns.length : Nat))) (fld_run (f1 rfl) h0 (lk_numbers _ _ _)) (bin_run (x := .int (k : Nat)) (y := .int (ns.length : Nat)) (fld_run (f1 rfl) h0 (lk_place _ _ _)) (cb_run (one_run (fld_run (f1 rfl) h0 (lk_numbers _ _ _))) hlen) (fMod_ii (by omega))) (num_at O k))) ?_
  refine seq_run (ρ1 := [some (.loc 0), some (.int (num ns k))]) (G1 := ⟨cs.length, cs1⟩) ((setF_run (l := 0) (cl := 0) (d := .int (stt ns (k + 1))) (G1 := ⟨cs.length, cs⟩) (bin_run (bin_run (bin_run (x := .int (stt ns k * 1103515245)) (y := .int 12345) (bin_run (x := .int (stt ns k)) (y := .int 1103515245) (fld_run (f1 rfl) h0 (lk_state _ _ _)) rfl (fMul_ii (mulOk_of (m := 140) (n := 64) (nat_lt hs.1 hs.2) (by decide) (by omega)))) rfl rfl) rfl rfl) rfl (fMod_ii (by decide))) (f1 rfl) h0 (by show 3 < 1000; omega)).trans ?_) ?_
  · rw [pf_state, ← hc1]
  refine seq_run (ρ1 := [some (.loc 0), some (.int (num ns k))]) (G1 := ⟨cs.length, cs.set 0 (drw ns (k + 1))⟩) ((augF_run (l := 0) (cl := 0) (G1 := ⟨cs.length, cs1⟩) (v := .int (k : Nat)) (d := .int 1) (z := .int ((k + 1 : Nat) : Int)) rfl h1 (lk_place _ _ _) rfl rfl h1 (by show 3 < 1000; omega)).trans ?_) ?_
  · rw [pf_place, ← hc2]
    rfl
  exact ret_run (bin_run (x := .int (stt ns (k + 1))) (y := .int 65536) (fld_run (l := 0) (G1 := ⟨cs.length, cs.set 0 (drw ns (k + 1))⟩) rfl h2 (lk_state _ _ _)) rfl (fDiv_ii (by decide)))
/-- as an expression -/
theorem dr_run {ns : List Int} (O : Ok ns) {i k : Nat} {ρ : Evn} {G : Sto} (h : ρ[i]? = some (some (.loc 0))) (h0 : G.cs[0]? = some (drw ns k)) (hw : ∀ c ∈ G.cs, belowC G.cs.length c = true) : mMeth 0 "draw" F_Drawer_draw (mVar i) mNil ρ G = some (.int (outp ns k), ⟨G.n0, G.cs.set 0 (drw ns (k + 1))⟩) := by
  have e := dr_ev O (n := G.cs.length) h0 hw
  exact meth_run (l := 0) (G1 := G) (G2 := G) (ds := []) (by unfold mVar; rw [h]) h0 (lk_draw _ _ _) rfl e
end K88

namespace K88
open PySem PySem.Spec PyProof.Rows L2 Lf
variable [Tabs]
def outs (ns : List Int) (n : Nat) : List D := (List.range n).map fun k => .int (outp ns k)
theorem outs_len (ns : List Int) (n : Nat) : (outs ns n).length = n := by unfold outs; rw [List.length_map, List.length_range]
theorem outs_get {ns : List Int} {n k : Nat} (h : k < n) : (outs ns n)[k]? = some (.int (outp ns k)) := by
  unfold outs; rw [List.getElem?_map, List.getElem?_range h]; rfl
theorem outs_at {ns : List Int} {n k : Nat} (h : k < n) : L2.atI (outs ns n) (k : Int) = some (.int (outp ns k)) := atI_n (outs_get h)
theorem belowDs_outs (m : Nat) (ns : List Int) (n : Nat) : belowDs m (outs ns n) = true := by
  have : outs ns n = ((List.range n).map fun k => outp ns k).map D.int := by unfold outs; rw [List.map_map]; rfl
  rw [this]; exact belowDs_ints _ _
theorem wf1 (ns : List Int) (k : Nat) : ∀ c ∈ [drw ns k], belowC [drw ns k].length c = true := fun c hc => by
  have : c = drw ns k := by simpa using hc
  subst this
  exact belowC_drw _ _ _
theorem draws_ev {ns : List Int} (O : Ok ns) (n : Nat) (hn : n ≤ 1000) : F_draws [.tup (ns.map .int), .int (n : Nat)] Sto.none = some (.tup (outs ns n), Sto.none) := by
  generalize hv : D.tup (ns.map .int) = v
  have hmk : mMake 0 F_Drawer___init__ (mCons (mVar 0) mNil) [some v, some (.int (n : Nat)), none, none] Sto.none = some (.loc 0, ⟨0, [drw ns 0]⟩) := make_ev O (by subst hv; rfl)
  have hlc := lcL_det (f := gtName 3) (c := mYes) (e := mMeth 0 "draw" F_Drawer_draw (mVar 2) mNil) (ρ := [some v, some (.int (n : Nat)), some (.loc 0), none]) (items := rangeD 0 n) (outs := outs ns n) (fun i => ⟨0, [drw ns i]⟩) (by rw [rangeD_length, outs_len]) (fun i d o hd ho => by
    have hi : i < n := by
      have := (List.getElem?_eq_some_iff.mp hd).1
      rwa [rangeD_length] at this
    rw [outs_get hi] at ho
    cases ho
    exact ⟨_, rfl, rfl, dr_run O (i := 2) rfl rfl (wf1 ns i)⟩)
  rw [rangeD_length] at hlc
  unfold F_draws
  refine run_body (ρ' := [some v, some (.int (n : Nat)), some (.loc 0), none]) (G' := ⟨0, [drw ns n]⟩) rfl ?_ (belowDs_outs 0 ns n)
  show M_draws [some v, some (.int (n : Nat)), none, none] Sto.none = _
  unfold M_draws
  exact seq_run (asg_run hmk) (ret_run (cb_run (one_run (mLc_runS (G1 := ⟨0, [drw ns 0]⟩) (range1_run (one_run rfl) (by omega)) hlc (by rw [outs_len]; omega))) rfl))
theorem presum_sum (v : Nat → Int) : ∀ n : Nat, preSum v n = ((List.range n).map v).sum
  | 0 => rfl
  | n + 1 => by
    rw [List.range_succ, List.map_append, List.sum_append]
    show preSum v n + v n = _
    rw [presum_sum v n]
    simp
theorem own_draws_ev {ns : List Int} (O : Ok ns) (n : Nat) (hn : n ≤ 1000) : F__law_own_draws [.tup (ns.map .int), .int (n : Nat)] Sto.none = some (.tup (outs ns n), Sto.none) := by
  have hle := O.le
  have hne := O.ne
  have hlen : ∀ G, bLen G [.tup (ns.map .int)] = some (.int (ns.length : Nat)) := fun G => by
    have := bLen_of (G := G) (d := .tup (ns.map .int)) rfl
    rwa [List.length_map] at this
  have hnum := num_at O
  have hix : ∀ i, i < ns.length → L2.atI (ns.map D.int) (i : Int) = some (.int ns[i]!) := fun i hi => atI_n (by rw [List.getElem?_map, List.getElem?_eq_getElem hi, getElem!_pos ns i hi]; rfl)
  generalize hpd : ns.map D.int = pd at *
  have hsum : mCB bSum (mCons (mLc (mRange1 (mCons (mCB bLen (mCons (mVar 0) mNil)) mNil)) (gtName 4) mYes (mBin fMul (mIdx (mVar 0) (mVar 4)) (mBin fAdd (mVar 4) (mC (.int 1)))) [4]) mNil) [some (.tup pd), some (.int (n : Nat)), none, none, none, none] Sto.none = some (.int (x0 ns), Sto.none) := by
    refine cb_run (one_run (mLc_range (n := ns.length) (lo := 0) (outs := ((List.range ns.length).map (genVal gf ns)).map D.int) (range1_run (one_run (cb_run (one_run rfl) (hlen _))) (by omega)) (by rw [List.length_map, List.length_map, List.length_range]) (fun k o hk ho => ?_) (by omega))) ?_
    · rw [List.getElem?_map, List.getElem?_map, List.getElem?_range hk] at ho
      cases ho
      rw [Int.zero_add]
      have hz := O.bd ns[k] (List.getElem_mem hk)
      refine bin_run (x := .int ns[k]) (y := .int ((k : Int) + 1)) (idx_run (x := .tup pd) (y := .int (k : Nat)) rfl rfl ?_) (bin_run (x := .int (k : Nat)) (y := .int 1) rfl rfl rfl) ?_
      · have := hix k hk
        rwa [getElem!_pos ns k hk] at this
      · rw [fMul_ii (mulOk_of (m := 120) (n := 64) (nat_lt hz.1 hz.2) (by omega) (by omega)), gv_at O (List.getElem?_eq_getElem hk)]
    · show (intsOf (((List.range ns.length).map (genVal gf ns)).map D.int)).map (fun js => D.int js.sum) = _
      rw [intsOf_map]
      show some (D.int ((List.range ns.length).map (genVal gf ns)).sum) = _
      rw [← presum_sum]
      rfl
  obtain ⟨ρ', G', e, x, rfl, rfl⟩ := forL_run (f := gtName 5) (b := (mSeq (mAsg 2 (mBin fMod (mCB bInt (mCons (mBin fAdd (mBin fAdd (mBin fMul (mVar 2) (mC (.int 1103515245))) (mC (.int 12345))) (mIdx (mVar 0) (mBin fMod (mCB bInt (mCons (mVar 5) mNil)) (mCB bLen (mCons (mVar 0) mNil))))) mNil)) (mC (.int 2147483648))))
  (mDrop (mApp (mVar 3) (mBin fDiv (mVar 2) (mC (.int 65536))))))) (items := rangeD 0 n) (fun i ρ G => ∃ x : Option D, ρ = [some (.tup pd), some (.int (n : Nat)), some (.int (stt ns i)), some (.loc 0), none, x] ∧ G = ⟨0, [.lst (outs ns i)]⟩) (ρ := [some (.tup pd), some (.int (n : Nat)), some (.int (x0 ns)), some (.loc 0), none, none]) (G := ⟨0, [.lst []]⟩) ⟨none, rfl, rfl⟩ (by
    rintro i d ρ G hd ⟨x, rfl, rfl⟩
    have hi : i < n := by
      have := (List.getElem?_eq_some_iff.mp hd).1
      rwa [rangeD_length] at this
    rw [rangeD_get hi, Int.zero_add] at hd
    cases hd
    have hs := stt_bd O i
    refine ⟨_, [some (.tup pd), some (.int (n : Nat)), some (.int (stt ns (i + 1))), some (.loc 0), none, some (.int (i : Nat))], ⟨0, [.lst (outs ns (i + 1))]⟩, rfl, ?_, _, rfl, rfl⟩
    refine seq_run (ρ1 := [some (.tup pd), some (.int (n : Nat)), some (.int (stt ns (i + 1))), some (.loc 0), none, some (.int (i : Nat))]) (G1 := ⟨0, [.lst (outs ns i)]⟩) (asg_run (bin_run (x := .int (stt ns i * 1103515245 + 12345 + num ns i)) (y := .int 2147483648) (cb_run (one_run (bin_run (x := .int (stt ns i * 1103515245 + 12345)) (y := .int (num ns i)) (bin_run (x := .int (stt ns i * 1103515245)) (y := .int 12345) (bin_run (x := .int (stt ns i)) (y := .int 1103515245) rfl rfl (fMul_ii (mulOk_of (m := 140) (n := 64) (nat_lt hs.1 hs.2) (by decide) (by omega)))) rfl rfl) (idx_run (x := .tup pd) (y := .int ((i : Int) % (ns.length : Nat))) rfl (bin_run (x := .int (i : Nat)) (y := .int (ns.length : Nat)) (cb_run (one_run rfl) rfl) (cb_run (one_run rfl) (hlen _)) (fMod_ii (by omega))) (hnum i)) rfl)) rfl) rfl (fMod_ii (by decide)))) (drop_run (d := .non) ?_)
    have e1 := app_run (ρ := [some (.tup pd), some (.int (n : Nat)), some (.int (stt ns (i + 1))), some (.loc 0), none, some (.int (i : Nat))]) (G := ⟨0, [.lst (outs ns i)]⟩) (G1 := ⟨0, [.lst (outs ns i)]⟩) (G2 := ⟨0, [.lst (outs ns i)]⟩) (o := mVar 3) (e := mBin fDiv (mVar 2) (mC (.int 65536))) (l := 0) (y := .int (outp ns i)) rfl rfl (bin_run (x := .int (stt ns (i + 1))) (y := .int 65536) rfl rfl (fDiv_ii (by decide))) rfl (by rw [outs_len]; omega)
    refine e1.trans ?_
    have : outs ns i ++ [.int (outp ns i)] = outs ns (i + 1) := by
      unfold outs
      rw [List.range_succ, List.map_append]
      rfl
    rw [this]
    rfl)
  rw [rangeD_length] at e
  unfold F__law_own_draws
  refine run_body (ρ' := [some (.tup pd), some (.int (n : Nat)), some (.int (stt ns n)), some (.loc 0), none, x]) (G' := ⟨0, [.lst (outs ns n)]⟩) rfl ?_ (belowDs_outs 0 ns n)
  show M__law_own_draws [some (.tup pd), some (.int (n : Nat)), none, none, none, none] Sto.none = _
  unfold M__law_own_draws
  refine seq_run (ρ1 := [some (.tup pd), some (.int (n : Nat)), some (.int (x0 ns)), some (.loc 0), none, none]) (G1 := ⟨0, [.lst []]⟩) (par2_run (two_run hsum rfl)) (seq_run (for_run (range1_run (one_run rfl) (by omega)) e) (ret_run (cb_run (one_run rfl) rfl)))
/-! ### starts -/
def vq (ns : List Int) (j : Nat) : Rat := mkRat (outp ns (2 * j) % 2001 - 1000) 100
def uq (ns : List Int) (j : Nat) : Rat := mkRat (outp ns (2 * j + 1) % 50) 100
def hq (ns : List Int) (j : Nat) : Rat := mkRat (outp ns j % 201 - 100) 100
def tabN (n : Nat) (f : Nat → Rat) : List Rat := (List.range n).map f
theorem tabN_len (n : Nat) (f : Nat → Rat) : (tabN n f).length = n := by unfold tabN; rw [List.length_map, List.length_range]
theorem tabN_get {n k : Nat} {f : Nat → Rat} (h : k < n) : (tabN n f)[k]? = some (f k) := by
  unfold tabN; rw [List.getElem?_map, List.getElem?_range h]; rfl
theorem tabN_succ (n : Nat) (f : Nat → Rat) : (tabN n f).map q2 ++ [q2 (f n)] = (tabN (n + 1) f).map q2 := by
  unfold tabN; rw [List.range_succ, List.map_append, List.map_append]; rfl
def startD (vs us : List Rat) : D := .tup [.tup (vs.map q2), .tup (us.map q2)]
theorem below_start (n : Nat) (vs us : List Rat) : belowD n (startD vs us) = true := by
  show (belowDs n (vs.map q2) && (belowDs n (us.map q2) && true)) = true
  rw [belowDs_q2, belowDs_q2]; rfl
theorem own_start_ev {ns : List Int} (O : Ok ns) (d : Nat) (hd : d ≤ 100) : F__law_own_start [.tup (ns.map .int), .int (d : Nat)] Sto.none = some (startD (tabN (d + 1) (vq ns)) (tabN (d + 1) (uq ns)), Sto.none) := by
  have hod := own_draws_ev O (2 * d + 2) (by omega)
  have bp : belowDs 0 [.tup (ns.map .int), .int ((2 * d + 2 : Nat) : Int)] = true := by
    show (belowDs 0 (ns.map D.int) && true) = true
    rw [belowDs_ints]; rfl
  generalize D.tup (ns.map .int) = v at *
  have d100 : divOk 100 = true := by decide
  obtain ⟨ρ', G', e, x, rfl, rfl⟩ := forL_run (f := gtName 5) (b := (mSeq (mDrop (mApp (mVar 3) (mCallP F__law_fr (mCons (mBin fSub (mBin fMod (mCB bInt (mCons (mIdx (mVar 2) (mBin fMul (mC (.int 2)) (mVar 5))) mNil)) (mC (.int 2001))) (mC (.int 1000))) (mCons (mC (.int 100)) mNil)))))
  (mDrop (mApp (mVar 4) (mCallP F__law_fr (mCons (mBin fMod (mCB bInt (mCons (mIdx (mVar 2) (mBin fAdd (mBin fMul (mC (.int 2)) (mVar 5)) (mC (.int 1)))) mNil)) (mC (.int 50))) (mCons (mC (.int 100)) mNil))))))) (items := rangeD 0 (d + 1)) (fun i ρ G => ∃ x : Option D, ρ = [some v, some (.int (d : Nat)), some (.tup (outs ns (2 * d + 2))), some (.loc 0), some (.loc 1), x] ∧ G = ⟨0, [.lst ((tabN i (vq ns)).map q2), .lst ((tabN i (uq ns)).map q2)]⟩) (ρ := [some v, some (.int (d : Nat)), some (.tup (outs ns (2 * d + 2))), some (.loc 0), some (.loc 1), none]) (G := ⟨0, [.lst [], .lst []]⟩) ⟨none, rfl, rfl⟩ (by
    rintro i dd ρ G hdd ⟨x, rfl, rfl⟩
    have hi : i < d + 1 := by
      have := (List.getElem?_eq_some_iff.mp hdd).1
      rwa [rangeD_length] at this
    rw [rangeD_get hi, Int.zero_add] at hdd
    cases hdd
    have a1 := outs_at (ns := ns) (n := 2 * d + 2) (k := 2 * i) (by omega)
    have a2 := outs_at (ns := ns) (n := 2 * d + 2) (k := 2 * i + 1) (by omega)
    have f1 := lfr_ev (outp ns (2 * i) % 2001 - 1000) (b := 100) (by omega) d100
    have f2 := lfr_ev (outp ns (2 * i + 1) % 50) (b := 100) (by omega) d100
    have hm2 : fMul (.int 2) (.int (i : Nat)) = some (.int ((2 * i : Nat) : Int)) := fMul_ii (mulOk_of (m := 2) (n := 64) (by decide) (by omega) (by omega))
    refine ⟨_, [some v, some (.int (d : Nat)), some (.tup (outs ns (2 * d + 2))), some (.loc 0), some (.loc 1), some (.int (i : Nat))], ⟨0, [.lst ((tabN (i + 1) (vq ns)).map q2), .lst ((tabN (i + 1) (uq ns)).map q2)]⟩, rfl, ?_, _, rfl, rfl⟩
    have e1 := app_run (ρ := [some v, some (.int (d : Nat)), some (.tup (outs ns (2 * d + 2))), some (.loc 0), some (.loc 1), some (.int (i : Nat))]) (G := ⟨0, [.lst ((tabN i (vq ns)).map q2), .lst ((tabN i (uq ns)).map q2)]⟩) (G1 := ⟨0, [.lst ((tabN i (vq ns)).map q2), .lst ((tabN i (uq ns)).map q2)]⟩) (G2 := ⟨0, [.lst ((tabN i (vq ns)).map q2), .lst ((tabN i (uq ns)).map q2)]⟩) (o := mVar 3) (e := (mCallP F__law_fr (mCons (mBin fSub (mBin fMod (mCB bInt (mCons (mIdx (mVar 2) (mBin fMul (mC (.int 2)) (mVar 5))) mNil)) (mC (.int 2001))) (mC (.int 1000))) (mCons (mC (.int 100)) mNil)))) (l := 0) (y := q2 (vq ns i)) rfl rfl (callP (ds := [.int (outp ns (2 * i) % 2001 - 1000), .int 100]) (two_run (bin_run (x := .int (outp ns (2 * i) % 2001)) (y := .int 1000) (bin_run (x := .int (outp ns (2 * i))) (y := .int 2001) (cb_run (one_run (idx_run (y := .int ((2 * i : Nat) : Int)) rfl (bin_run (x := .int 2) (y := .int (i : Nat)) rfl rfl hm2) a1)) rfl) rfl (fMod_ii (by decide))) rfl rfl) rfl) rfl f1 (below_q2 0 _)) rfl (by rw [List.length_map, tabN_len]; omega)
    have e2 := app_run (ρ := [some v, some (.int (d : Nat)), some (.tup (outs ns (2 * d + 2))), some (.loc 0), some (.loc 1), some (.int (i : Nat))]) (G := ⟨0, [.lst ((tabN (i + 1) (vq ns)).map q2), .lst ((tabN i (uq ns)).map q2)]⟩) (G1 := ⟨0, [.lst ((tabN (i + 1) (vq ns)).map q2), .lst ((tabN i (uq ns)).map q2)]⟩) (G2 := ⟨0, [.lst ((tabN (i + 1) (vq ns)).map q2), .lst ((tabN i (uq ns)).map q2)]⟩) (o := mVar 4) (e := (mCallP F__law_fr (mCons (mBin fMod (mCB bInt (mCons (mIdx (mVar 2) (mBin fAdd (mBin fMul (mC (.int 2)) (mVar 5)) (mC (.int 1)))) mNil)) (mC (.int 50))) (mCons (mC (.int 100)) mNil)))) (l := 1) (y := q2 (uq ns i)) rfl rfl (callP (ds := [.int (outp ns (2 * i + 1) % 50), .int 100]) (two_run (bin_run (x := .int (outp ns (2 * i + 1))) (y := .int 50) (cb_run (one_run (idx_run (y := .int ((2 * i + 1 : Nat) : Int)) rfl (bin_run (x := .int ((2 * i : Nat) : Int)) (y := .int 1) (bin_run (x := .int 2) (y := .int (i : Nat)) rfl rfl hm2) rfl rfl) a2)) rfl) rfl (fMod_ii (by decide))) rfl) rfl f2 (below_q2 0 _)) rfl (by rw [List.length_map, tabN_len]; omega)
    rw [tabN_succ] at e1 e2
    exact seq_run (drop_run e1) (drop_run e2))
  rw [rangeD_length] at e
  have hm : fMul (.int 2) (.int (d : Nat)) = some (.int ((2 * d : Nat) : Int)) := fMul_ii (mulOk_of (m := 2) (n := 64) (by decide) (by omega) (by omega))
  unfold F__law_own_start
  refine run_body (ρ' := [some v, some (.int (d : Nat)), some (.tup (outs ns (2 * d + 2))), some (.loc 0), some (.loc 1), x]) (G' := ⟨0, [.lst ((tabN (d + 1) (vq ns)).map q2), .lst ((tabN (d + 1) (uq ns)).map q2)]⟩) rfl ?_ (below_start 0 _ _)
  show M__law_own_start [some v, some (.int (d : Nat)), none, none, none, none] Sto.none = _
  unfold M__law_own_start
  refine seq_run (ρ1 := [some v, some (.int (d : Nat)), some (.tup (outs ns (2 * d + 2))), some (.loc 0), some (.loc 1), none]) (G1 := ⟨0, [.lst [], .lst []]⟩) ?_ (seq_run (for_run (range1_run (n := d + 1) (one_run (bin_run (x := .int (d : Nat)) (y := .int 1) rfl rfl rfl)) (by omega)) e) (ret_run (tup_run (two_run (cb_run (one_run rfl) rfl) (cb_run (one_run rfl) rfl)) (by show 2 ≤ 16777216; omega))))
  have hms : mCons (mCallP F__law_own_draws (mCons (mVar 0) (mCons (mBin fAdd (mBin fMul (mC (.int 2)) (mVar 1)) (mC (.int 2))) mNil))) (mCons (mNew mNil) (mCons (mNew mNil) mNil)) [some v, some (.int (d : Nat)), none, none, none, none] Sto.none = some ([.tup (outs ns (2 * d + 2)), .loc 0, .loc 1], ⟨0, [.lst [], .lst []]⟩) :=
    cons_run (callP (ds := [v, .int ((2 * d + 2 : Nat) : Int)]) (two_run rfl (bin_run (x := .int ((2 * d : Nat) : Int)) (y := .int 2) (bin_run (x := .int 2) (y := .int (d : Nat)) rfl rfl hm) rfl rfl)) bp hod (belowDs_outs 0 _ _)) (two_run (G1 := ⟨0, [.lst []]⟩) rfl rfl)
  unfold mPar3
  rw [hms]
  rfl
end K88

namespace K88
open PySem PySem.Spec PyProof.Rows L2 Lf
variable [Tabs]
theorem st0 (G : Sto) (vs us : List Rat) : fIdx G (startD vs us) (.int 0) = some (.tup (vs.map q2)) := by
  show L2.atI [D.tup (vs.map q2), D.tup (us.map q2)] 0 = _
  exact atI0 _ _
theorem st1 (G : Sto) (vs us : List Rat) : fIdx G (startD vs us) (.int 1) = some (.tup (us.map q2)) := by
  show L2.atI [D.tup (vs.map q2), D.tup (us.map q2)] 1 = _
  exact atI1 _ _ _
def rowD (ns : List Int) (n : Nat) : List D := (List.range n).map fun j => .tup [q2 (vq ns j), q2 (uq ns j)]
theorem rowD_len (ns : List Int) (n : Nat) : (rowD ns n).length = n := by unfold rowD; rw [List.length_map, List.length_range]
theorem rowD_get {ns : List Int} {n k : Nat} (h : k < n) : (rowD ns n)[k]? = some (.tup [q2 (vq ns k), q2 (uq ns k)]) := by
  unfold rowD; rw [List.getElem?_map, List.getElem?_range h]; rfl
theorem belowDs_row (m : Nat) (ns : List Int) (n : Nat) : belowDs m (rowD ns n) = true := by
  have : ∀ l : List Nat, belowDs m (l.map fun j => .tup [q2 (vq ns j), q2 (uq ns j)]) = true := fun l => by
    induction l with
    | nil => rfl
    | cons j l ih => rw [List.map_cons]; unfold belowDs; rw [ih]; rfl
  exact this _
theorem wf2 (ns : List Int) (k : Nat) (n : Nat) : ∀ c ∈ [drw ns k, .lst (rowD ns n)], belowC [drw ns k, Cell.lst (rowD ns n)].length c = true := fun c hc => by
  rcases List.mem_cons.mp hc with hc | hc
  · subst hc; exact belowC_drw _ _ _
  · have : c = .lst (rowD ns n) := by simpa using hc
    subst this
    exact belowDs_row _ _ _
theorem start_by_ev {ns : List Int} (O : Ok ns) (d k : Nat) (hd : d ≤ 100) : F_start_by [.loc 0, .int (d : Nat)] ⟨k, [drw ns 0]⟩ = some (startD (tabN (d + 1) (vq ns)) (tabN (d + 1) (uq ns)), ⟨k, [drw ns (2 * (d + 1))]⟩) := by
  have d100 : divOk 100 = true := by decide
  obtain ⟨ρ', G', e, x, y, rfl, rfl⟩ := forL_run (f := gtName 3) (b := (mSeq (mAsg 4 (mCallP F_frac (mCons (mBin fSub (mBin fMod (mMeth 0 "draw" F_Drawer_draw (mVar 0) mNil) (mC (.int 2001))) (mC (.int 1000))) (mCons (mC (.int 100)) mNil))))
  (mDrop (mApp (mVar 2) (mTup (mCons (mVar 4) (mCons (mCallP F_frac (mCons (mBin fMod (mMeth 0 "draw" F_Drawer_draw (mVar 0) mNil) (mC (.int 50))) (mCons (mC (.int 100)) mNil))) mNil))))))) (items := rangeD 0 (d + 1)) (fun i ρ G => ∃ x y : Option D, ρ = [some (.loc 0), some (.int (d : Nat)), some (.loc 1), x, y, none] ∧ G = ⟨1, [drw ns (2 * i), .lst (rowD ns i)]⟩) (ρ := [some (.loc 0), some (.int (d : Nat)), some (.loc 1), none, none, none]) (G := ⟨1, [drw ns 0, .lst []]⟩) ⟨none, none, rfl, rfl⟩ (by
    rintro i dd ρ G hdd ⟨x, y, rfl, rfl⟩
    have hi : i < d + 1 := by
      have := (List.getElem?_eq_some_iff.mp hdd).1
      rwa [rangeD_length] at this
    rw [rangeD_get hi, Int.zero_add] at hdd
    cases hdd
    have f1 := frac_ev (outp ns (2 * i) % 2001 - 1000) (b := 100) (by omega) d100
    have f2 := frac_ev (outp ns (2 * i + 1) % 50) (b := 100) (by omega) d100
    have r1 := dr_run O (i := 0) (k := 2 * i) (ρ := [some (.loc 0), some (.int (d : Nat)), some (.loc 1), some (.int (i : Nat)), y, none]) (G := ⟨1, [drw ns (2 * i), .lst (rowD ns i)]⟩) rfl rfl (wf2 _ _ _)
    have r2 := dr_run O (i := 0) (k := 2 * i + 1) (ρ := [some (.loc 0), some (.int (d : Nat)), some (.loc 1), some (.int (i : Nat)), some (q2 (vq ns i)), none]) (G := ⟨1, [drw ns (2 * i + 1), .lst (rowD ns i)]⟩) rfl rfl (wf2 _ _ _)
    refine ⟨_, [some (.loc 0), some (.int (d : Nat)), some (.loc 1), some (.int (i : Nat)), some (q2 (vq ns i)), none], ⟨1, [drw ns (2 * (i + 1)), .lst (rowD ns (i + 1))]⟩, rfl, ?_, _, _, rfl, rfl⟩
    refine seq_run (ρ1 := [some (.loc 0), some (.int (d : Nat)), some (.loc 1), some (.int (i : Nat)), some (q2 (vq ns i)), none]) (G1 := ⟨1, [drw ns (2 * i + 1), .lst (rowD ns i)]⟩) (asg_run (callP (ds := [.int (outp ns (2 * i) % 2001 - 1000), .int 100]) (two_run (bin_run (x := .int (outp ns (2 * i) % 2001)) (y := .int 1000) (bin_run (x := .int (outp ns (2 * i))) (y := .int 2001) r1 rfl (fMod_ii (by decide))) rfl rfl) rfl) rfl f1 (below_q2 0 _))) ?_
    have e1 := app_run (ρ := [some (.loc 0), some (.int (d : Nat)), some (.loc 1), some (.int (i : Nat)), some (q2 (vq ns i)), none]) (G := ⟨1, [drw ns (2 * i + 1), .lst (rowD ns i)]⟩) (G1 := ⟨1, [drw ns (2 * i + 1), .lst (rowD ns i)]⟩) (G2 := ⟨1, [drw ns (2 * i + 1 + 1), .lst (rowD ns i)]⟩) (o := mVar 2) (e := (mTup (mCons (mVar 4) (mCons (mCallP F_frac (mCons (mBin fMod (mMeth 0 "draw" F_Drawer_draw (mVar 0) mNil) (mC (.int 50))) (mCons (mC (.int 100)) mNil))) mNil)))) (l := 1) (y := .tup [q2 (vq ns i), q2 (uq ns i)]) rfl rfl (tup_run (two_run rfl (callP (ds := [.int (outp ns (2 * i + 1) % 50), .int 100]) (two_run (bin_run (x := .int (outp ns (2 * i + 1))) (y := .int 50) r2 rfl (fMod_ii (by decide))) rfl) rfl f2 (below_q2 0 _))) (by show 2 ≤ 16777216; omega)) rfl (by rw [rowD_len]; omega)
    refine drop_run (d := .non) (e1.trans ?_)
    have : rowD ns i ++ [.tup [q2 (vq ns i), q2 (uq ns i)]] = rowD ns (i + 1) := by
      unfold rowD
      rw [List.range_succ, List.map_append]
      rfl
    rw [this]
    rfl)
  rw [rangeD_length] at e
  have lc : ∀ (i : Nat) (f : Nat → Rat), i < 2 → (∀ j, L2.atI [q2 (vq ns j), q2 (uq ns j)] (i : Nat) = some (q2 (f j))) → mLc (mRow (mVar 2)) (gtName 5) mYes (mIdx (mVar 5) (mC (.int (i : Nat)))) [5] [some (.loc 0), some (.int (d : Nat)), some (.lst (rowD ns (d + 1))), x, y, none] ⟨1, [drw ns (2 * (d + 1)), .dead]⟩ = some (.lst ((tabN (d + 1) f).map q2), ⟨1, [drw ns (2 * (d + 1)), .dead]⟩) := fun i f _ hf => by
    refine mLc_run (items := rowD ns (d + 1)) (G1 := ⟨1, [drw ns (2 * (d + 1)), .dead]⟩) rfl (lcL_run (by rw [rowD_len, List.length_map, tabN_len]) fun j a b ha hb => ?_) (by rw [List.length_map, tabN_len]; omega)
    have hj : j < d + 1 := by
      have := (List.getElem?_eq_some_iff.mp ha).1
      rwa [rowD_len] at this
    rw [rowD_get hj] at ha
    cases ha
    rw [List.getElem?_map, tabN_get hj] at hb
    cases hb
    exact ⟨_, rfl, rfl, idx_run rfl rfl (hf j)⟩
  have l0 := lc 0 (vq ns) (by omega) fun j => atI0 _ _
  have l1 := lc 1 (uq ns) (by omega) fun j => atI1 _ _ _
  have hbody : M_start_by [some (.loc 0), some (.int (d : Nat)), none, none, none, none] ⟨1, [drw ns 0]⟩ = some (.rt (startD (tabN (d + 1) (vq ns)) (tabN (d + 1) (uq ns))), [some (.loc 0), some (.int (d : Nat)), some (.lst (rowD ns (d + 1))), x, y, none], ⟨1, [drw ns (2 * (d + 1)), .dead]⟩) := by
    unfold M_start_by
    refine seq_run (ρ1 := [some (.loc 0), some (.int (d : Nat)), some (.loc 1), none, none, none]) (G1 := ⟨1, [drw ns 0, .lst []]⟩) rfl (seq_run (for_run (range1_run (n := d + 1) (one_run (bin_run (x := .int (d : Nat)) (y := .int 1) rfl rfl rfl)) (by omega)) e) (frz_run (l := 1) rfl (Nat.le_refl _) rfl (ret_run ?_)))
    exact tup_run (two_run (cb_run (one_run l0) rfl) (cb_run (one_run l1) rfl)) (by show 2 ≤ 16777216; omega)
  unfold F_start_by runF runBody
  rw [if_pos (show [D.loc 0, D.int (d : Nat)].length = 2 from rfl)]
  show (M_start_by [some (.loc 0), some (.int (d : Nat)), none, none, none, none] ⟨1, [drw ns 0]⟩).bind _ = _
  rw [hbody]
  show fin ⟨k, [drw ns 0]⟩ (startD (tabN (d + 1) (vq ns)) (tabN (d + 1) (uq ns))) ⟨1, [drw ns (2 * (d + 1)), .dead]⟩ = _
  unfold fin
  show (if belowD 1 (startD (tabN (d + 1) (vq ns)) (tabN (d + 1) (uq ns))) && ([drw ns (2 * (d + 1))].all (belowC 1)) then some (startD (tabN (d + 1) (vq ns)) (tabN (d + 1) (uq ns)), (⟨k, [drw ns (2 * (d + 1))]⟩ : Sto)) else none) = _
  rw [below_start, if_pos]
  show (true && (belowC 1 (drw ns (2 * (d + 1))) && true)) = true
  rw [belowC_drw]; rfl
theorem drawn_start_ev {ns : List Int} (O : Ok ns) (d : Nat) (hd : d ≤ 100) : F_drawn_start [.tup (ns.map .int), .int (d : Nat)] Sto.none = some (startD (tabN (d + 1) (vq ns)) (tabN (d + 1) (uq ns)), Sto.none) := by
  generalize hv : D.tup (ns.map .int) = v
  have hmk : mMake 0 F_Drawer___init__ (mCons (mVar 0) mNil) [some v, some (.int (d : Nat))] Sto.none = some (.loc 0, ⟨0, [drw ns 0]⟩) := make_ev O (by subst hv; rfl)
  unfold F_drawn_start
  refine run_body (ρ' := [some v, some (.int (d : Nat))]) (G' := ⟨0, [drw ns (2 * (d + 1))]⟩) rfl ?_ (below_start 0 _ _)
  show M_drawn_start [some v, some (.int (d : Nat))] Sto.none = _
  unfold M_drawn_start
  exact ret_run (call_run (G1 := ⟨0, [drw ns 0]⟩) (ds := [.loc 0, .int (d : Nat)]) (two_run hmk rfl) (start_by_ev O d 1 hd))
theorem sz100 (a : Int) (h : a.natAbs ≤ 10000) : Sz (mkRat a 100) := by
  have hb : Bd 100 10000 (mkRat a 100) := ⟨a, by rw [Rat.mkRat_eq_div, Rat.div_mul_cancel (by decide)], by omega⟩
  exact hb.sz (by omega) (Nat.lt_of_le_of_lt (show 100 ≤ 2 ^ 40 by decide) (Nat.pow_lt_pow_right (by omega) (by omega))) (Nat.lt_of_le_of_lt (show 10000 * 100 ≤ 2 ^ 40 by decide) (Nat.pow_lt_pow_right (by omega) (by omega)))
theorem hq_bd {ns : List Int} (O : Ok ns) (j : Nat) : (outp ns j % 201 - 100).natAbs ≤ 100 := by
  have := Int.emod_nonneg (outp ns j) (show (201 : Int) ≠ 0 by decide)
  have := Int.emod_lt_of_pos (outp ns j) (show (0 : Int) < 201 by decide)
  omega
def handQ (us : List Rat) (ns : List Int) : List Rat := (List.range us.length).map fun j => us[j]! * hq ns j
theorem handQ_len (us : List Rat) (ns : List Int) : (handQ us ns).length = us.length := by unfold handQ; rw [List.length_map, List.length_range]
theorem handQ_get {us : List Rat} {ns : List Int} {k : Nat} (h : k < us.length) : (handQ us ns)[k]? = some (us[k] * hq ns k) := by
  unfold handQ; rw [List.getElem?_map, List.getElem?_range h, ← getElem!_pos us k h]; rfl
theorem drawn_hand_ev {ns : List Int} (O : Ok ns) {vs us : List Rat} (hl : us.length ≤ 1000) (hu : ∀ u ∈ us, Sz u) : F_drawn_hand [startD vs us, .tup (ns.map .int)] Sto.none = some (.tup ((handQ us ns).map q2), Sto.none) := by
  have d100 : divOk 100 = true := by decide
  generalize hv : D.tup (ns.map .int) = v
  have hmk : mMake 0 F_Drawer___init__ (mCons (mVar 1) mNil) [some (startD vs us), some v, none, none] Sto.none = some (.loc 0, ⟨0, [drw ns 0]⟩) := make_ev O (by subst hv; rfl)
  have hlc := lcL_det (f := gtName 3) (c := mYes) (e := mCallP F_times (mCons (mVar 3) (mCons (mCallP F_frac (mCons (mBin fSub (mBin fMod (mMeth 0 "draw" F_Drawer_draw (mVar 2) mNil) (mC (.int 201))) (mC (.int 100))) (mCons (mC (.int 100)) mNil))) mNil))) (ρ := [some (startD vs us), some v, some (.loc 0), none]) (items := us.map q2) (outs := (handQ us ns).map q2) (fun i => ⟨0, [drw ns i]⟩) (by rw [List.length_map, List.length_map, handQ_len]) (fun i d o hd ho => by
    have hi : i < us.length := by
      have := (List.getElem?_eq_some_iff.mp hd).1
      rwa [List.length_map] at this
    rw [List.getElem?_map, List.getElem?_eq_getElem hi] at hd
    cases hd
    rw [List.getElem?_map, handQ_get hi] at ho
    cases ho
    have f1 := frac_ev (outp ns i % 201 - 100) (b := 100) (by omega) d100
    have t1 := times_ev (hu us[i] (List.getElem_mem hi)) (sz100 _ (Nat.le_trans (hq_bd O i) (by omega)))
    exact ⟨_, rfl, rfl, callP (ds := [q2 us[i], q2 (hq ns i)]) (two_run rfl (callP (ds := [.int (outp ns i % 201 - 100), .int 100]) (two_run (bin_run (x := .int (outp ns i % 201)) (y := .int 100) (bin_run (x := .int (outp ns i)) (y := .int 201) (dr_run O (i := 2) rfl rfl (wf1 ns i)) rfl (fMod_ii (by decide))) rfl rfl) rfl) rfl f1 (below_q2 0 _))) rfl t1 (below_q2 0 _)⟩)
  rw [List.length_map] at hlc
  unfold F_drawn_hand
  refine run_body (ρ' := [some (startD vs us), some v, some (.loc 0), none]) (G' := ⟨0, [drw ns us.length]⟩) rfl ?_ (belowDs_q2 0 _)
  show M_drawn_hand [some (startD vs us), some v, none, none] Sto.none = _
  unfold M_drawn_hand
  exact seq_run (asg_run hmk) (ret_run (cb_run (one_run (mLc_runS (G1 := ⟨0, [drw ns 0]⟩) (by rfl) hlc (by rw [List.length_map, handQ_len]; omega))) rfl))
theorem own_hand_ev {ns : List Int} (O : Ok ns) {vs us : List Rat} (hl : us.length ≤ 1000) (hvl : vs.length = us.length) (hu : ∀ u ∈ us, Sz u) : F__law_own_hand [startD vs us, .tup (ns.map .int)] Sto.none = some (.tup ((handQ us ns).map q2), Sto.none) := by
  have d100 : divOk 100 = true := by decide
  have hod := own_draws_ev O us.length hl
  have bp : belowDs 0 [.tup (ns.map .int), .int ((us.length : Nat) : Int)] = true := by
    show (belowDs 0 (ns.map D.int) && true) = true
    rw [belowDs_ints]; rfl
  generalize D.tup (ns.map .int) = v at *
  have hlen : bLen Sto.none [.tup (vs.map q2)] = some (.int (us.length : Nat)) := by
    have := bLen_of (G := Sto.none) (d := .tup (vs.map q2)) rfl
    rwa [List.length_map, hvl] at this
  have hlen2 : bLen Sto.none [.tup (outs ns us.length)] = some (.int (us.length : Nat)) := by
    have := bLen_of (G := Sto.none) (d := .tup (outs ns us.length)) rfl
    rwa [outs_len] at this
  unfold F__law_own_hand
  refine run_body (ρ' := [some (startD vs us), some v, some (.tup (outs ns us.length)), none]) (G' := Sto.none) rfl ?_ (belowDs_q2 0 _)
  show M__law_own_hand [some (startD vs us), some v, none, none] Sto.none = _
  unfold M__law_own_hand
  refine seq_run (asg_run (callP (ds := [v, .int ((us.length : Nat) : Int)]) (two_run rfl (cb_run (one_run (idx_run (z := .tup (vs.map q2)) rfl rfl (st0 _ _ _))) hlen)) bp hod (belowDs_outs 0 _ _))) (ret_run (cb_run (one_run (mLc_range (n := us.length) (lo := 0) (outs := (handQ us ns).map q2) (range1_run (one_run (cb_run (one_run rfl) hlen2)) (by omega)) (by rw [List.length_map, handQ_len]) (fun k o hk ho => ?_) (by omega))) rfl))
  rw [List.getElem?_map, handQ_get hk] at ho
  cases ho
  rw [Int.zero_add]
  have f1 := lfr_ev (outp ns k % 201 - 100) (b := 100) (by omega) d100
  have t1 := ltimes_ev (hu us[k] (List.getElem_mem hk)) (sz100 _ (Nat.le_trans (hq_bd O k) (by omega)))
  refine callP (ds := [q2 us[k], q2 (hq ns k)]) (two_run (idx_run (x := .tup (us.map q2)) (y := .int (k : Nat)) (idx_run (z := .tup (us.map q2)) rfl rfl (st1 _ _ _)) rfl (map_at (List.getElem?_eq_getElem hk))) (callP (ds := [.int (outp ns k % 201 - 100), .int 100]) (two_run (bin_run (x := .int (outp ns k % 201)) (y := .int 100) (bin_run (x := .int (outp ns k)) (y := .int 201) (cb_run (one_run (idx_run (y := .int (k : Nat)) rfl rfl (outs_at hk))) rfl) rfl (fMod_ii (by decide))) rfl rfl) rfl) rfl f1 (below_q2 0 _))) rfl t1 (below_q2 0 _)
end K88

namespace K88
open PySem PySem.Spec PyProof.Rows L2 Lf
variable [Tabs]
theorem qx0 (G : Sto) (q : Rat) : fIdx G (q2 q) (.int 0) = some (.int q.num) := by
  show L2.atI [D.int q.num, D.int q.den] 0 = _
  exact atI0 _ _
theorem qx1 (G : Sto) (q : Rat) : fIdx G (q2 q) (.int 1) = some (.int q.den) := by
  show L2.atI [D.int q.num, D.int q.den] 1 = _
  exact atI1 _ _ _
theorem tx0 (G : Sto) (x : D) (xs : List D) : fIdx G (.tup (x :: xs)) (.int 0) = some x := atI0 x xs
theorem tx1 (G : Sto) (x y : D) (xs : List D) : fIdx G (.tup (x :: y :: xs)) (.int 1) = some y := atI1 x y xs
def pageD (ns : List Int) (d : Nat) : D := .tup [startD (tabN (d + 1) (vq ns)) (tabN (d + 1) (uq ns)), .int (outp ns (2 * (d + 1)) % 21 - 10), .int (5 + outp ns (2 * (d + 1) + 1) % 10), .int 0, .str "up"]
theorem below_page (n : Nat) (ns : List Int) (d : Nat) : belowD n (pageD ns d) = true := by
  show (belowD n (startD _ _) && true) = true
  rw [below_start]; rfl
theorem drawn_page_ev {ns : List Int} (O : Ok ns) (d : Nat) (hd : d ≤ 100) : F_drawn_page [.tup (ns.map .int), .int (d : Nat)] Sto.none = some (pageD ns d, Sto.none) := by
  generalize hv : D.tup (ns.map .int) = v
  have hmk : mMake 0 F_Drawer___init__ (mCons (mVar 0) mNil) [some v, some (.int (d : Nat)), none, none, none] Sto.none = some (.loc 0, ⟨0, [drw ns 0]⟩) := make_ev O (by subst hv; rfl)
  have hsb := start_by_ev O d 1 hd
  have hbp := below_page 0 ns d
  unfold pageD at hbp ⊢
  generalize startD (tabN (d + 1) (vq ns)) (tabN (d + 1) (uq ns)) = s at *
  unfold F_drawn_page
  refine run_body (ρ' := [some v, some (.int (d : Nat)), some (.loc 0), some s, some (.int (outp ns (2 * (d + 1)) % 21 - 10))]) (G' := ⟨0, [drw ns (2 * (d + 1) + 1 + 1)]⟩) rfl ?_ hbp
  show M_drawn_page [some v, some (.int (d : Nat)), none, none, none] Sto.none = _
  unfold M_drawn_page
  refine seq_run (asg_run hmk) (seq_run (ρ1 := [some v, some (.int (d : Nat)), some (.loc 0), some s, none]) (G1 := ⟨0, [drw ns (2 * (d + 1))]⟩) (asg_run (call_run (G1 := ⟨0, [drw ns 0]⟩) (ds := [.loc 0, .int (d : Nat)]) rfl hsb)) (seq_run (ρ1 := [some v, some (.int (d : Nat)), some (.loc 0), some s, some (.int (outp ns (2 * (d + 1)) % 21 - 10))]) (G1 := ⟨0, [drw ns (2 * (d + 1) + 1)]⟩) (asg_run (bin_run (x := .int (outp ns (2 * (d + 1)) % 21)) (y := .int 10) (bin_run (x := .int (outp ns (2 * (d + 1)))) (y := .int 21) (dr_run O (i := 2) (k := 2 * (d + 1)) rfl rfl (wf1 ns _)) rfl (fMod_ii (by decide))) rfl rfl)) (ret_run (tup_run (cons_run rfl (cons_run rfl (cons_run (bin_run (x := .int 5) (y := .int (outp ns (2 * (d + 1) + 1) % 10)) rfl (bin_run (x := .int (outp ns (2 * (d + 1) + 1))) (y := .int 10) (dr_run O (i := 2) (k := 2 * (d + 1) + 1) rfl rfl (wf1 ns _)) rfl (fMod_ii (by decide))) rfl) (two_run rfl rfl)))) (by show 5 ≤ 16777216; omega)))))
theorem own_page_ev {ns : List Int} (O : Ok ns) (d : Nat) (hd : d ≤ 100) : F__law_own_page [.tup (ns.map .int), .int (d : Nat)] Sto.none = some (pageD ns d, Sto.none) := by
  have hod := own_draws_ev O (2 * d + 4) (by omega)
  have hos := own_start_ev O d hd
  have bp : ∀ i : Int, belowDs 0 [.tup (ns.map .int), .int i] = true := fun i => by
    show (belowDs 0 (ns.map D.int) && true) = true
    rw [belowDs_ints]; rfl
  generalize D.tup (ns.map .int) = v at *
  have hbp := below_page 0 ns d
  have hbs := below_start 0 (tabN (d + 1) (vq ns)) (tabN (d + 1) (uq ns))
  unfold pageD at hbp ⊢
  generalize startD (tabN (d + 1) (vq ns)) (tabN (d + 1) (uq ns)) = s at *
  have hm : fMul (.int 2) (.int (d : Nat)) = some (.int ((2 * d : Nat) : Int)) := fMul_ii (mulOk_of (m := 2) (n := 64) (by decide) (by omega) (by omega))
  have a1 := outs_at (ns := ns) (n := 2 * d + 4) (k := 2 * (d + 1)) (by omega)
  have a2 := outs_at (ns := ns) (n := 2 * d + 4) (k := 2 * (d + 1) + 1) (by omega)
  have j1 : fAdd (.int ((2 * d : Nat) : Int)) (.int 2) = some (.int ((2 * (d + 1) : Nat) : Int)) := by rw [fAdd_ii]; congr 2
  have j2 : fAdd (.int ((2 * d : Nat) : Int)) (.int 3) = some (.int ((2 * (d + 1) + 1 : Nat) : Int)) := by rw [fAdd_ii]; congr 2
  have j3 : fAdd (.int ((2 * d : Nat) : Int)) (.int 4) = some (.int ((2 * d + 4 : Nat) : Int)) := rfl
  unfold F__law_own_page
  refine run_body (ρ' := [some v, some (.int (d : Nat)), some (.tup (outs ns (2 * d + 4)))]) (G' := Sto.none) rfl ?_ hbp
  show M__law_own_page [some v, some (.int (d : Nat)), none] Sto.none = _
  unfold M__law_own_page
  refine seq_run (asg_run (callP (ds := [v, .int ((2 * d + 4 : Nat) : Int)]) (two_run rfl (bin_run (x := .int ((2 * d : Nat) : Int)) (y := .int 4) (bin_run (x := .int 2) (y := .int (d : Nat)) rfl rfl hm) rfl j3)) (bp _) hod (belowDs_outs 0 _ _))) (ret_run (tup_run (cons_run (callP (ds := [v, .int (d : Nat)]) rfl (bp _) hos hbs) (cons_run (bin_run (x := .int (outp ns (2 * (d + 1)) % 21)) (y := .int 10) (bin_run (x := .int (outp ns (2 * (d + 1)))) (y := .int 21) (cb_run (one_run (idx_run (y := .int ((2 * (d + 1) : Nat) : Int)) rfl (bin_run (x := .int ((2 * d : Nat) : Int)) (y := .int 2) (bin_run (x := .int 2) (y := .int (d : Nat)) rfl rfl hm) rfl j1) a1)) rfl) rfl (fMod_ii (by decide))) rfl rfl) (cons_run (bin_run (x := .int 5) (y := .int (outp ns (2 * (d + 1) + 1) % 10)) rfl (bin_run (x := .int (outp ns (2 * (d + 1) + 1))) (y := .int 10) (cb_run (one_run (idx_run (y := .int ((2 * (d + 1) + 1 : Nat) : Int)) rfl (bin_run (x := .int ((2 * d : Nat) : Int)) (y := .int 3) (bin_run (x := .int 2) (y := .int (d : Nat)) rfl rfl hm) rfl j2) a2)) rfl) rfl (fMod_ii (by decide))) rfl) (two_run rfl rfl)))) (by show 5 ≤ 16777216; omega)))
/-! ### same -/
theorem same_str (k : Nat) (s : Str) : F__law_same (k + 1) [.str s, .str s] Sto.none = some (.bl true, Sto.none) := by
  have h : ∀ r : Fn, M__law_same r [some (.str s), some (.str s), none] Sto.none = some (.rt (.bl true), [some (.str s), some (.str s), none], Sto.none) := fun r => by
    have e : fEq (.str s) (.str s) = some (.bl true) := by
      show (some (s == s)).map D.bl = _
      simp
    have e1 : mBin fEq (mVar 0) (mVar 1) [some (.str s), some (.str s), none] Sto.none = some (.bl true, Sto.none) := bin_run rfl rfl e
    unfold M__law_same
    refine seq_run (ifS_false rfl rfl) (seq_run (ifS_false rfl rfl) (seq_run (ifS_false rfl rfl) (seq_rt (ifS_true rfl (ret_run ?_)))))
    unfold mAndV
    exact e1
  show runF 3 2 (M__law_same (F__law_same k)) _ _ = _
  exact run_body (ρ' := [some (.str s), some (.str s), none]) (G' := Sto.none) rfl (h _) rfl
theorem same_start (k : Nat) (vs us : List Rat) (h1 : vs.length ≤ 1000000) (h2 : us.length ≤ 1000000) : F__law_same (k + 4) [startD vs us, startD vs us] Sto.none = some (.bl true, Sto.none) := same_tup (fun d hd => by
  rcases List.mem_cons.mp hd with hd | hd
  · subst hd; exact same_q2s k vs h1
  · have : d = .tup (us.map q2) := by simpa using hd
    subst this; exact same_q2s k us h2) (by
    show (belowDs 0 (vs.map q2) && (belowDs 0 (us.map q2) && true)) = true
    rw [belowDs_q2, belowDs_q2]; rfl) (by show 2 ≤ 1000000; omega)
theorem same_page (ns : List Int) (d : Nat) (hd : d ≤ 100) : F__law_same 5 [pageD ns d, pageD ns d] Sto.none = some (.bl true, Sto.none) := same_tup (fun x hx => by
  rcases List.mem_cons.mp hx with hx | hx
  · subst hx; exact same_start 0 _ _ (by rw [tabN_len]; omega) (by rw [tabN_len]; omega)
  · rcases List.mem_cons.mp hx with hx | hx
    · subst hx; exact same_int _ _
    · rcases List.mem_cons.mp hx with hx | hx
      · subst hx; exact same_int _ _
      · rcases List.mem_cons.mp hx with hx | hx
        · subst hx; exact same_int _ _
        · have : x = .str "up" := by simpa using hx
          subst this; exact same_str _ _) (by
    show (belowD 0 (startD _ _) && true) = true
    rw [below_start]; rfl) (by show 5 ≤ 1000000; omega)
theorem same_outs (k : Nat) (ns : List Int) (n : Nat) (hn : n ≤ 1000) : F__law_same (k + 2) [.tup (outs ns n), .tup (outs ns n)] Sto.none = some (.bl true, Sto.none) := same_tup (fun d hd => by
  obtain ⟨j, _, rfl⟩ := List.mem_map.mp hd
  exact same_int _ _) (belowDs_outs 0 ns n) (by rw [outs_len]; omega)
theorem same_pair {k : Nat} {d : D} (h : F__law_same k [d, d] Sto.none = some (.bl true, Sto.none)) (hb : belowD 0 d = true) : F__law_same (k + 1) [.tup [d, d], .tup [d, d]] Sto.none = some (.bl true, Sto.none) := same_tup (fun x hx => by
  have : x = d := by simpa using hx
  subst this; exact h) (by
    show (belowD 0 d && (belowD 0 d && true)) = true
    rw [hb]; rfl) (by show 2 ≤ 1000000; omega)
/-! ### hands -/
theorem whole_ok (i : Int) : F__law_is_whole [.int i] Sto.none = some (.bl true, Sto.none) := rfl
theorem fraction_ok {q : Rat} (hq : Sz q) : F__law_is_fraction [q2 q] Sto.none = some (.bl true, Sto.none) := by
  have hden : ¬ ((q.den : Int) < 1) := by have := q.den_pos; omega
  have hg := lgcd_ev (if q.num < 0 then -q.num else q.num) (q.den : Int) (by rw [Int.natAbs_natCast]; exact Nat.lt_of_lt_of_le hq.d (Nat.pow_le_pow_right (by omega) (by omega)))
  have h1 : Nat.gcd (if q.num < 0 then -q.num else q.num).natAbs ((q.den : Int)).natAbs = 1 := by
    have : (if q.num < 0 then -q.num else q.num).natAbs = q.num.natAbs := by split <;> omega
    rw [this, Int.natAbs_natCast]
    exact q.reduced
  rw [h1] at hg
  unfold F__law_is_fraction
  refine run_body (ρ' := [some (q2 q)]) (G' := Sto.none) rfl ?_ rfl
  show M__law_is_fraction [some (q2 q)] Sto.none = _
  unfold M__law_is_fraction
  have i0 : mIdx (mVar 0) (mC (.int 0)) [some (q2 q)] Sto.none = some (.int q.num, Sto.none) := idx_run (x := q2 q) (y := .int 0) rfl rfl (qx0 _ _)
  have i1 : mIdx (mVar 0) (mC (.int 1)) [some (q2 q)] Sto.none = some (.int q.den, Sto.none) := idx_run (x := q2 q) (y := .int 1) rfl rfl (qx1 _ _)
  refine seq_run (ifS_false (Lf.or_false (not_run (b := true) rfl) (Lf.or_false (bool_run (bin_run (x := .int 2) (y := .int 2) rfl rfl rfl)) (or_false (not_run (b := true) (tru_run (x := .bl true) (callP (one_run i0) rfl (whole_ok _) rfl) rfl)) (or_false (not_run (b := true) (tru_run (x := .bl true) (callP (one_run i1) rfl (whole_ok _) rfl) rfl)) (bool_run (bin_run (x := .int q.den) (y := .int 1) i1 rfl (by rw [fLt_ii, decide_eq_false hden]))))))) rfl) (ret_run (bin_run (x := .int 1) (y := .int 1) (callP (ds := [.int (if q.num < 0 then -q.num else q.num), .int q.den]) (two_run (cb_run (one_run i0) rfl) i1) rfl hg rfl) rfl rfl))
theorem abs_le {u h : Rat} (h1 : h ≤ u) (h2 : -h ≤ u) : ¬ (u.num * (h.den : Int) < (if h.num < 0 then -h.num else h.num) * (u.den : Int)) := by
  split
  · have := (Rat.le_iff _ _).mp h2
    rw [Rat.neg_num] at this
    exact Int.not_lt.mpr this
  · have := (Rat.le_iff _ _).mp h1
    exact Int.not_lt.mpr this
theorem is_hand_ok {ns : List Int} (O : Ok ns) {vs us : List Rat} (hl : us.length ≤ 1000) (hvl : vs.length = us.length) (hu : ∀ u ∈ us, Sz u ∧ 0 ≤ u) (hs : ∀ q ∈ handQ us ns, Sz q) : F__law_is_hand [startD vs us, .tup ((handQ us ns).map q2)] Sto.none = some (.bl true, Sto.none) := by
  have hlen : bLen Sto.none [.tup (vs.map q2)] = some (.int (us.length : Nat)) := by
    have := bLen_of (G := Sto.none) (d := .tup (vs.map q2)) rfl
    rwa [List.length_map, hvl] at this
  have hlen2 : bLen Sto.none [.tup ((handQ us ns).map q2)] = some (.int (us.length : Nat)) := by
    have := bLen_of (G := Sto.none) (d := .tup ((handQ us ns).map q2)) rfl
    rwa [List.length_map, handQ_len] at this
  obtain ⟨ρ', G', e, x, rfl, rfl⟩ := forL_run (f := gtName 2) (b := (mIfS (mOr (mNot (mTru (mCallP F__law_is_fraction (mCons (mIdx (mVar 1) (mVar 2)) mNil)))) (mTru (mCallP F__law_less (mCons (mIdx (mIdx (mVar 0) (mC (.int 1))) (mVar 2)) (mCons (mTup (mCons (mCB bAbs (mCons (mIdx (mIdx (mVar 1) (mVar 2)) (mC (.int 0))) mNil)) (mCons (mIdx (mIdx (mVar 1) (mVar 2)) (mC (.int 1))) mNil))) mNil)))))
  (mRet (mC (.bl false)))
  mSkip)) (items := rangeD 0 us.length) (fun _ ρ G => ∃ x : Option D, ρ = [some (startD vs us), some (.tup ((handQ us ns).map q2)), x] ∧ G = Sto.none) (ρ := [some (startD vs us), some (.tup ((handQ us ns).map q2)), none]) (G := Sto.none) ⟨none, rfl, rfl⟩ (by
    rintro i d ρ G hd ⟨x, rfl, rfl⟩
    have hi : i < us.length := by
      have := (List.getElem?_eq_some_iff.mp hd).1
      rwa [rangeD_length] at this
    rw [rangeD_get hi, Int.zero_add] at hd
    cases hd
    have hg := handQ_get (ns := ns) hi
    generalize hh : us[i] * hq ns i = h at hg
    have hhS := hs h (List.mem_of_getElem? hg)
    obtain ⟨huS, hu0⟩ := hu us[i] (List.getElem_mem hi)
    have iv : mIdx (mVar 1) (mVar 2) [some (startD vs us), some (.tup ((handQ us ns).map q2)), some (.int (i : Nat))] Sto.none = some (q2 h, Sto.none) := idx_run (x := .tup ((handQ us ns).map q2)) (y := .int (i : Nat)) rfl rfl (map_at hg)
    have iu : mIdx (mIdx (mVar 0) (mC (.int 1))) (mVar 2) [some (startD vs us), some (.tup ((handQ us ns).map q2)), some (.int (i : Nat))] Sto.none = some (q2 us[i], Sto.none) := idx_run (x := .tup (us.map q2)) (y := .int (i : Nat)) (idx_run (z := .tup (us.map q2)) rfl rfl (st1 _ _ _)) rfl (map_at (List.getElem?_eq_getElem hi))
    have t1 : hq ns i ≤ 1 ∧ -1 ≤ hq ns i := by
      have hb := hq_bd O i
      have e1 : hq ns i = ((outp ns i % 201 - 100 : Int) : Rat) / ((100 : Nat) : Rat) := by unfold hq; rw [Rat.mkRat_eq_div]
      generalize outp ns i % 201 - 100 = a at hb e1
      have e2 : hq ns i * 100 = (a : Rat) := by rw [e1]; exact Rat.div_mul_cancel (by decide)
      have b1 : (a : Rat) ≤ ((100 : Int) : Rat) := Rat.intCast_le_intCast.mpr (by omega)
      have b2 : (((-100 : Int)) : Rat) ≤ (a : Rat) := Rat.intCast_le_intCast.mpr (by omega)
      have c1 : ((100 : Int) : Rat) = 100 := rfl
      have c2 : ((-100 : Int) : Rat) = -100 := rfl
      constructor <;> grind
    have habs : ¬ (us[i].num * (h.den : Int) < (if h.num < 0 then -h.num else h.num) * (us[i].den : Int)) := by
      refine abs_le ?_ ?_
      · have := Rat.mul_le_mul_of_nonneg_left t1.1 hu0
        rw [hh] at this
        grind
      · have := Rat.mul_le_mul_of_nonneg_left t1.2 hu0
        rw [hh] at this
        grind
    have hless : F__law_less [q2 us[i], .tup [.int (if h.num < 0 then -h.num else h.num), .int h.den]] Sto.none = some (.bl false, Sto.none) := by
      have m1 : mulOk us[i].num h.den = true := huS.mul2 hhS
      have m2 : mulOk (if h.num < 0 then -h.num else h.num) us[i].den = true := mulOk_of (m := 2000) (n := 2000) (by have := hhS.n; split <;> omega) (by rw [Int.natAbs_natCast]; exact huS.d) (by omega)
      unfold F__law_less
      refine run_body (ρ' := [some (q2 us[i]), some (.tup [.int (if h.num < 0 then -h.num else h.num), .int h.den])]) (G' := Sto.none) rfl ?_ rfl
      show M__law_less [some (q2 us[i]), some (.tup [.int (if h.num < 0 then -h.num else h.num), .int h.den])] Sto.none = _
      unfold M__law_less
      exact ret_run (bin_run (bin_run (idx_run (x := q2 us[i]) (y := .int 0) rfl rfl (qx0 _ _)) (idx_run (y := .int 1) rfl rfl (tx1 _ _ _ _)) (fMul_ii m1)) (bin_run (idx_run (y := .int 0) rfl rfl (tx0 _ _ _)) (idx_run (x := q2 us[i]) (y := .int 1) rfl rfl (qx1 _ _)) (fMul_ii m2)) (by rw [fLt_ii, decide_eq_false habs]))
    refine ⟨_, [some (startD vs us), some (.tup ((handQ us ns).map q2)), some (.int (i : Nat))], Sto.none, rfl, ifS_false (Lf.or_false (not_run (b := true) (tru_run (x := .bl true) (callP (one_run iv) rfl (fraction_ok hhS) rfl) rfl)) (tru_run (x := .bl false) (callP (ds := [q2 us[i], .tup [.int (if h.num < 0 then -h.num else h.num), .int h.den]]) (two_run iu (tup_run (two_run (cb_run (one_run (idx_run (x := q2 h) (y := .int 0) iv rfl (qx0 _ _))) rfl) (idx_run (x := q2 h) (y := .int 1) iv rfl (qx1 _ _))) (by show 2 ≤ 16777216; omega))) rfl hless rfl) rfl)) rfl, _, rfl, rfl⟩)
  unfold F__law_is_hand
  refine run_body (ρ' := [some (startD vs us), some (.tup ((handQ us ns).map q2)), x]) (G' := Sto.none) rfl ?_ rfl
  show M__law_is_hand [some (startD vs us), some (.tup ((handQ us ns).map q2)), none] Sto.none = _
  unfold M__law_is_hand
  refine seq_run (ifS_false (Lf.or_false (not_run (b := true) rfl) (bool_run (bin_run (x := .int (us.length : Nat)) (y := .int (us.length : Nat)) (cb_run (one_run rfl) hlen2) (cb_run (one_run (idx_run (z := .tup (vs.map q2)) rfl rfl (st0 _ _ _))) hlen) (by rw [fNe_ii]; simp)))) rfl) (seq_run (for_run (range1_run (one_run (cb_run (one_run rfl) hlen2)) (by omega)) e) (ret_run rfl))
end K88

namespace K88
open PySem PySem.Spec PyProof.Rows L2 Lf
variable [Tabs]
theorem cast_ne0 {b : Nat} (h : b ≠ 0) : (b : Rat) ≠ 0 := by
  intro z
  have : (b : Rat) = ((0 : Nat) : Rat) := by simpa using z
  exact h (Rat.natCast_inj.mp this)
theorem half_ev {cs : List Cell} {b g n k : Nat} {most : Int} (B : Bag cs b g (n + 2)) (h0 : 0 ≤ most) (h1 : most ≤ 10) :
    ∃ (q : Rat) (cs' : List Cell), F__law_half [.loc b, .int most, .int 4] ⟨k, cs⟩ = some (q2 q, ⟨k, cs'⟩) ∧ Bag cs' b g n ∧ cs'.length = cs.length := by
  obtain ⟨r, cs1, e1, hr0, hr1, B1, l1, -⟩ := draw_ev (k := cs.length) (many := 4) (B.mono (show n + 1 + 1 ≤ n + 2 by omega)) (by decide) (by decide)
  have hm0 : 0 ≤ 2 * most * (1 + r) := Int.mul_nonneg (by omega) (by omega)
  have hm1 : 2 * most * (1 + r) ≤ 20 * 4 := Int.mul_le_mul (by omega) (by omega) (by omega) (by omega)
  obtain ⟨t, cs2, e2, ht0, ht1, B2, l2, -⟩ := draw_ev (k := cs1.length) (many := 2 * most * (1 + r) + 1) B1 (by omega) (divOk_of (n := 64) (by omega) (by omega) (by omega))
  have f1 := lfr_ev (t - most * (1 + r)) (b := 1 + r) (by omega) (divOk_of (n := 64) (by omega) (by omega) (by omega))
  have mm1 : mulOk 2 most = true := mulOk_of (m := 2) (n := 64) (by decide) (by omega) (by omega)
  have mm2 : mulOk (2 * most) (1 + r) = true := mulOk_of (m := 64) (n := 64) (by omega) (by omega) (by omega)
  have mm3 : mulOk most (1 + r) = true := mulOk_of (m := 64) (n := 64) (by omega) (by omega) (by omega)
  refine ⟨mkRat (t - most * (1 + r)) (1 + r).toNat, cs2, ?_, B2, by rw [l2, l1]⟩
  unfold F__law_half
  refine runF_run (b := M__law_half) (ρ' := [some (.loc b), some (.int most), some (.int 4), some (.int (1 + r))]) rfl ?_ (by rw [l2, l1]) B2.wf (below_q2 _ _)
  show M__law_half [some (.loc b), some (.int most), some (.int 4), none] ⟨cs.length, cs⟩ = _
  unfold M__law_half
  rw [← l1] at e1
  refine seq_run (ρ1 := [some (.loc b), some (.int most), some (.int 4), some (.int (1 + r))]) (G1 := ⟨cs.length, cs1⟩) (asg_run (bin_run (x := .int 1) (y := .int r) rfl (call_run (G1 := ⟨cs.length, cs⟩) (ds := [.loc b, .int 4]) (k := cs1.length) rfl (by rw [l1] at e1 ⊢; exact e1)) rfl)) (ret_run (callP (ds := [.int (t - most * (1 + r)), .int (1 + r)]) (two_run (G1 := ⟨cs.length, cs2⟩) (bin_run (x := .int t) (y := .int (most * (1 + r))) (call_run (G1 := ⟨cs.length, cs1⟩) (ds := [.loc b, .int (2 * most * (1 + r) + 1)]) (k := cs1.length) (two_run rfl (bin_run (x := .int (2 * most * (1 + r))) (y := .int 1) (bin_run (x := .int (2 * most)) (y := .int (1 + r)) (bin_run (x := .int 2) (y := .int most) rfl rfl (fMul_ii mm1)) rfl (fMul_ii mm2)) rfl rfl)) e2) (bin_run (x := .int most) (y := .int (1 + r)) rfl rfl (fMul_ii mm3)) rfl) rfl) rfl f1 (below_q2 0 _)))
theorem rats_of {outs : List D} {P : Rat → Prop} (h : ∀ o ∈ outs, ∃ q : Rat, o = q2 q ∧ P q) : ∃ qs : List Rat, outs = qs.map q2 ∧ (∀ q ∈ qs, P q) ∧ qs.length = outs.length := by
  induction outs with
  | nil => exact ⟨[], rfl, fun _ h => by simp at h, rfl⟩
  | cons o os ih =>
    obtain ⟨q, rfl, pq⟩ := h o List.mem_cons_self
    obtain ⟨qs, rfl, pqs, hl⟩ := ih fun x hx => h x (List.mem_cons_of_mem _ hx)
    refine ⟨q :: qs, rfl, fun w hw => ?_, by rw [List.length_cons, List.length_cons, hl]⟩
    rcases List.mem_cons.mp hw with hw | hw
    · rw [hw]; exact pq
    · exact pqs w hw
theorem q2_of (a : Int) (b : Nat) (hb : b ≠ 0) (h : a.natAbs.gcd b = 1) : q2 (mkRat a b) = .tup [.int a, .int b] := by
  unfold q2
  rw [Rat.num_mkRat, Rat.den_mkRat, if_neg hb, if_neg hb, Nat.gcd_comm, h]
  simp
theorem mk_bd {a : Int} {b B : Nat} (hb : b ≠ 0) (ha : a.natAbs ≤ B * b) : Bd b B (mkRat a b) := by
  refine ⟨a, ?_, ha⟩
  have := cast_ne0 hb
  rw [Rat.mkRat_eq_div, Rat.div_mul_cancel this]
theorem bd_sz {L : Nat} {q : Rat} (h : Bd L 1 q) (h0 : 0 < L) (h1 : L ≤ 10000) : Sz q :=
  h.sz h0 (Nat.lt_of_le_of_lt (show L ≤ 2 ^ 14 by omega) (Nat.pow_lt_pow_right (by omega) (by omega))) (Nat.lt_of_le_of_lt (show 1 * L ≤ 2 ^ 14 by omega) (Nat.pow_lt_pow_right (by omega) (by omega)))
theorem unit_ok (a b : Nat) (hb : b ≠ 0) (h : a.gcd b = 1) (ha : a ≤ b) (hb2 : b ∣ 100) : ∃ q : Rat, D.tup [.int (a : Nat), .int (b : Nat)] = q2 q ∧ (Bd 100 1 q ∧ 0 ≤ q) := by
  refine ⟨mkRat a b, (q2_of a b hb h).symm, (mk_bd (B := 1) hb (by omega)).mono hb2 (Nat.le_refl _), ?_⟩
  rw [Rat.le_iff, Rat.num_mkRat, if_neg hb]
  show (0 : Int) * _ ≤ _ * (1 : Int)
  rw [Int.zero_mul, Int.mul_one]
  exact Int.ediv_nonneg (by omega) (by omega)
theorem law_start_ev {cs : List Cell} {b g n k : Nat} (B : Bag cs b g (n + 100)) (d : Nat) (hd : d ≤ 10) :
    ∃ (vs us : List Rat) (cs' : List Cell), F__law_start [.loc b, .int (d : Nat), .int 6, .int 4] ⟨k, cs⟩ = some (startD vs us, ⟨k, cs'⟩) ∧ vs.length = d + 1 ∧ us.length = d + 1 ∧ (∀ u ∈ us, Bd 100 1 u ∧ 0 ≤ u) ∧ Bag cs' b g n ∧ cs'.length = cs.length := by
  obtain ⟨o1, G1, e1, hl1, hq1, cs1, rfl, B1, l1⟩ := lcL_eff (f := gtName 5) (c := mYes) (e := mCall F__law_half (mCons (mVar 0) (mCons (mIf (mBool (mBin fEq (mVar 5) (mC (.int 0)))) (mVar 2) (mC (.int 2))) (mCons (mVar 3) mNil)))) (ρ := [some (.loc b), some (.int (d : Nat)), some (.int 6), some (.int 4), none, none, none]) (items := rangeD 0 (d + 1)) (fun i G => ∃ cs', G = ⟨cs.length, cs'⟩ ∧ Bag cs' b g (n + 100 - 2 * i) ∧ cs'.length = cs.length) (fun o => ∃ q : Rat, o = q2 q ∧ True) (G := ⟨cs.length, cs⟩) ⟨cs, rfl, B, rfl⟩ (by
    rintro i dd G hdd ⟨cs', rfl, B', l'⟩
    have hi : i < d + 1 := by
      have := (List.getElem?_eq_some_iff.mp hdd).1
      rwa [rangeD_length] at this
    rw [rangeD_get hi, Int.zero_add] at hdd
    cases hdd
    have key : ∀ most : Int, 0 ≤ most → most ≤ 10 → mIf (mBool (mBin fEq (mVar 5) (mC (.int 0)))) (mVar 2) (mC (.int 2)) [some (.loc b), some (.int (d : Nat)), some (.int 6), some (.int 4), none, some (.int (i : Nat)), none] ⟨cs.length, cs'⟩ = some (.int most, ⟨cs.length, cs'⟩) → ∃ ρ1 o G', gtName 5 (.int (i : Nat)) [some (.loc b), some (.int (d : Nat)), some (.int 6), some (.int 4), none, none, none] = some ρ1 ∧ mYes ρ1 ⟨cs.length, cs'⟩ = some (true, ⟨cs.length, cs'⟩) ∧ mCall F__law_half (mCons (mVar 0) (mCons (mIf (mBool (mBin fEq (mVar 5) (mC (.int 0)))) (mVar 2) (mC (.int 2))) (mCons (mVar 3) mNil))) ρ1 ⟨cs.length, cs'⟩ = some (o, G') ∧ (∃ q : Rat, o = q2 q ∧ True) ∧ ∃ cs'', G' = ⟨cs.length, cs''⟩ ∧ Bag cs'' b g (n + 100 - 2 * (i + 1)) ∧ cs''.length = cs.length := fun most h0 h1 hm => by
      obtain ⟨q, cs'', e, B'', l''⟩ := half_ev (k := cs'.length) (B'.mono (show n + 100 - 2 * (i + 1) + 2 ≤ n + 100 - 2 * i by omega)) h0 h1
      exact ⟨_, q2 q, ⟨cs.length, cs''⟩, rfl, rfl, call_run (G1 := ⟨cs.length, cs'⟩) (ds := [.loc b, .int most, .int 4]) (cons_run rfl (two_run hm rfl)) e, ⟨q, rfl, trivial⟩, cs'', rfl, B'', by rw [l'', l']⟩
    by_cases h0 : i = 0
    · subst h0
      exact key 6 (by decide) (by decide) rfl
    · exact key 2 (by decide) (by decide) (if_false_run (bool_run (bin_run (x := .int (i : Nat)) (y := .int 0) rfl rfl (by rw [fEq_ii, beq_eq_false_iff_ne.mpr (show (i : Int) ≠ 0 by omega)]))) rfl))
  rw [rangeD_length] at hl1 B1
  obtain ⟨vs, rfl, -, hvl⟩ := rats_of hq1
  rw [hl1] at hvl
  have pk : ∀ (cs2 : List Cell) (m : Nat) (l : List D), Bag cs2 b g (m + 1) → l ≠ [] → l.length ≤ 10 → (∀ x ∈ l, ∃ q : Rat, x = q2 q ∧ (Bd 100 1 q ∧ 0 ≤ q)) → ∃ (q : Rat) (cs3 : List Cell), F__law_pick [.loc b, .lst l] ⟨cs2.length, cs2⟩ = some (q2 q, ⟨cs2.length, cs3⟩) ∧ (Bd 100 1 q ∧ 0 ≤ q) ∧ Bag cs3 b g m ∧ cs3.length = cs2.length := fun cs2 m l Bm hne hle hx => by
    obtain ⟨x, cs3, e, hm, B3, l3, -⟩ := pick_ev (k := cs2.length) Bm hne (by omega) (fun x hx2 => by
      obtain ⟨q, rfl, _⟩ := hx x hx2
      exact below_q2 _ _)
    obtain ⟨q, rfl, hq⟩ := hx x hm
    exact ⟨q, cs3, e, hq, B3, l3⟩
  have u0 := unit_ok 0 1 (by decide) (by decide) (by decide) (by decide)
  have u1 := unit_ok 1 2 (by decide) (by decide) (by decide) (by decide)
  have u2 := unit_ok 1 4 (by decide) (by decide) (by decide) (by decide)
  have u3 := unit_ok 1 10 (by decide) (by decide) (by decide) (by decide)
  have u4 := unit_ok 1 1 (by decide) (by decide) (by decide) (by decide)
  have u5 := unit_ok 1 20 (by decide) (by decide) (by decide) (by decide)
  obtain ⟨o2, G2, e2, hl2, hq2, cs2, rfl, B2, l2⟩ := lcL_eff (f := gtName 5) (c := mYes) (e := (mIf (mBool (mBin fEq (mVar 5) (mC (.int 0)))) (mCall F__law_pick (mCons (mVar 0) (mCons (mLst (mCons (mTup (mCons (mC (.int 0)) (mCons (mC (.int 1)) mNil))) (mCons (mTup (mCons (mC (.int 1)) (mCons (mC (.int 2)) mNil))) (mCons (mTup (mCons (mC (.int 1)) (mCons (mC (.int 4)) mNil))) (mCons (mTup (mCons (mC (.int 1)) (mCons (mC (.int 10)) mNil))) (mCons (mTup (mCons (mC (.int 1)) (mCons (mC (.int 1)) mNil))) (mCons (mTup (mCons (mC (.int 1)) (mCons (mC (.int 20)) mNil))) mNil))))))) mNil))) (mCall F__law_pick (mCons (mVar 0) (mCons (mLst (mCons (mTup (mCons (mC (.int 0)) (mCons (mC (.int 1)) mNil))) (mCons (mTup (mCons (mC (.int 1)) (mCons (mC (.int 20)) mNil))) (mCons (mTup (mCons (mC (.int 1)) (mCons (mC (.int 4)) mNil))) (mCons (mTup (mCons (mC (.int 1)) (mCons (mC (.int 10)) mNil))) mNil))))) mNil))))) (ρ := [some (.loc b), some (.int (d : Nat)), some (.int 6), some (.int 4), some (.lst (vs.map q2)), none, none]) (items := rangeD 0 (d + 1)) (fun i G => ∃ cs', G = ⟨cs.length, cs'⟩ ∧ Bag cs' b g (n + 50 - i) ∧ cs'.length = cs.length) (fun o => ∃ q : Rat, o = q2 q ∧ (Bd 100 1 q ∧ 0 ≤ q)) (G := ⟨cs.length, cs1⟩) ⟨cs1, rfl, B1.mono (by omega), l1⟩ (by
    rintro i dd G hdd ⟨cs', rfl, B', l'⟩
    have hi : i < d + 1 := by
      have := (List.getElem?_eq_some_iff.mp hdd).1
      rwa [rangeD_length] at this
    rw [rangeD_get hi, Int.zero_add] at hdd
    cases hdd
    by_cases h0 : i = 0
    · subst h0
      obtain ⟨q, cs3, e, hq, B3, l3⟩ := pk cs' (n + 50 - (0 + 1)) [.tup [.int 0, .int 1], .tup [.int 1, .int 2], .tup [.int 1, .int 4], .tup [.int 1, .int 10], .tup [.int 1, .int 1], .tup [.int 1, .int 20]] (B'.mono (by omega)) (by simp) (by show 6 ≤ 10; omega) (fun x hx => by
        simp only [List.mem_cons, List.not_mem_nil, _root_.or_false] at hx
        rcases hx with rfl | rfl | rfl | rfl | rfl | rfl
        · exact u0
        · exact u1
        · exact u2
        · exact u3
        · exact u4
        · exact u5)
      exact ⟨_, q2 q, ⟨cs.length, cs3⟩, rfl, rfl, if_true_run (G1 := ⟨cs.length, cs'⟩) rfl (call_run (G1 := ⟨cs.length, cs'⟩) rfl e), ⟨q, rfl, hq⟩, cs3, rfl, B3, by rw [l3, l']⟩
    · obtain ⟨q, cs3, e, hq, B3, l3⟩ := pk cs' (n + 50 - (i + 1)) [.tup [.int 0, .int 1], .tup [.int 1, .int 20], .tup [.int 1, .int 4], .tup [.int 1, .int 10]] (B'.mono (by omega)) (by simp) (by show 4 ≤ 10; omega) (fun x hx => by
        simp only [List.mem_cons, List.not_mem_nil, _root_.or_false] at hx
        rcases hx with rfl | rfl | rfl | rfl
        · exact u0
        · exact u5
        · exact u2
        · exact u3)
      exact ⟨_, q2 q, ⟨cs.length, cs3⟩, rfl, rfl, if_false_run (G1 := ⟨cs.length, cs'⟩) (bool_run (bin_run (x := .int (i : Nat)) (y := .int 0) rfl rfl (by rw [fEq_ii, beq_eq_false_iff_ne.mpr (show (i : Int) ≠ 0 by omega)]))) (call_run (G1 := ⟨cs.length, cs'⟩) rfl e), ⟨q, rfl, hq⟩, cs3, rfl, B3, by rw [l3, l']⟩)
  rw [rangeD_length] at hl2 B2
  obtain ⟨us, rfl, hus, hul⟩ := rats_of hq2
  rw [hl2] at hul
  refine ⟨vs, us, cs2, ?_, hvl, hul, hus, B2.mono (by omega), l2⟩
  have hd1 : ∀ G, mRange1 (mCons (mBin fAdd (mVar 1) (mC (.int 1))) mNil) [some (.loc b), some (.int (d : Nat)), some (.int 6), some (.int 4), none, none, none] G = some (rangeD 0 (d + 1), G) := fun G => range1_run (n := d + 1) (one_run (bin_run (x := .int (d : Nat)) (y := .int 1) rfl rfl rfl)) (by omega)
  have hd2 : ∀ G x, mRange1 (mCons (mBin fAdd (mVar 1) (mC (.int 1))) mNil) [some (.loc b), some (.int (d : Nat)), some (.int 6), some (.int 4), some x, none, none] G = some (rangeD 0 (d + 1), G) := fun G x => range1_run (n := d + 1) (one_run (bin_run (x := .int (d : Nat)) (y := .int 1) rfl rfl rfl)) (by omega)
  unfold F__law_start
  refine runF_run (b := M__law_start) (ρ' := [some (.loc b), some (.int (d : Nat)), some (.int 6), some (.int 4), some (.lst (vs.map q2)), none, some (.lst (us.map q2))]) rfl ?_ l2 B2.wf (below_start _ _ _)
  show M__law_start [some (.loc b), some (.int (d : Nat)), some (.int 6), some (.int 4), none, none, none] ⟨cs.length, cs⟩ = _
  unfold M__law_start
  exact seq_run (ρ1 := [some (.loc b), some (.int (d : Nat)), some (.int 6), some (.int 4), some (.lst (vs.map q2)), none, none]) (G1 := ⟨cs.length, cs1⟩) (asg_run (mLc_runS (hd1 _) e1 (by rw [List.length_map, hvl]; omega))) (seq_run (ρ1 := [some (.loc b), some (.int (d : Nat)), some (.int 6), some (.int 4), some (.lst (vs.map q2)), none, some (.lst (us.map q2))]) (G1 := ⟨cs.length, cs2⟩) (asg_run (mLc_runS (hd2 _ _) e2 (by rw [List.length_map, hul]; omega))) (ret_run (tup_run (two_run (cb_run (one_run rfl) rfl) (cb_run (one_run rfl) rfl)) (by show 2 ≤ 16777216; omega))))
/-- the numbers of a turn -/
theorem numbers_ev {cs : List Cell} {b g n k : Nat} (B : Bag cs b g (n + 200)) : ∃ (ns : List Int) (cs' : List Cell), F__law_numbers [.loc b] ⟨k, cs⟩ = some (.tup (ns.map .int), ⟨k, cs'⟩) ∧ Ok ns ∧ Bag cs' b g n ∧ cs'.length = cs.length := by
  obtain ⟨x, cs1, e1, hm, B1, l1, -⟩ := pick_ev (k := cs.length) (xs := [.int 1, .int 2, .int 3, .int 4, .int 60]) (B.mono (show n + 199 + 1 ≤ n + 200 by omega)) (by simp) (by show 5 ≤ 1000; omega) (fun x hx => by
    simp only [List.mem_cons, List.not_mem_nil, _root_.or_false] at hx
    rcases hx with rfl | rfl | rfl | rfl | rfl <;> rfl)
  obtain ⟨L, rfl, hL1, hL2⟩ : ∃ L : Nat, x = .int (L : Nat) ∧ 1 ≤ L ∧ L ≤ 60 := by
    simp only [List.mem_cons, List.not_mem_nil, _root_.or_false] at hm
    rcases hm with rfl | rfl | rfl | rfl | rfl
    · exact ⟨1, rfl, by decide, by decide⟩
    · exact ⟨2, rfl, by decide, by decide⟩
    · exact ⟨3, rfl, by decide, by decide⟩
    · exact ⟨4, rfl, by decide, by decide⟩
    · exact ⟨60, rfl, by decide, by decide⟩
  obtain ⟨o2, G2, e2, hl2, hq2, cs2, rfl, B2, l2⟩ := lcL_eff (f := gtName 1) (c := mYes) (e := (mBin fMul (mCall F__law_draw (mCons (mVar 0) (mCons (mC (.int 1000)) mNil))) (mCall F__law_pick (mCons (mVar 0) (mCons (mLst (mCons (mC (.int 1)) (mCons (mC (.int 1)) (mCons (mC (.int 977)) (mCons (mCallP F__law_ten (mCons (mC (.int 30)) mNil)) mNil))))) mNil))))) (ρ := [some (.loc b), none]) (items := rangeD 0 L) (fun i G => ∃ cs', G = ⟨cs.length, cs'⟩ ∧ Bag cs' b g (n + 199 - 2 * i) ∧ cs'.length = cs.length) (fun o => ∃ z : Int, o = .int z ∧ (0 ≤ z ∧ z < 2 ^ 120)) (G := ⟨cs.length, cs1⟩) ⟨cs1, rfl, B1, l1⟩ (by
    rintro i dd G hdd ⟨cs', rfl, B', l'⟩
    have hi : i < L := by
      have := (List.getElem?_eq_some_iff.mp hdd).1
      rwa [rangeD_length] at this
    obtain ⟨r, cs3, e3, hr0, hr1, B3, l3, -⟩ := draw_ev (k := cs'.length) (many := 1000) (B'.mono (show n + 199 - 2 * (i + 1) + 1 + 1 ≤ n + 199 - 2 * i by omega)) (by decide) (by decide)
    obtain ⟨y, cs4, e4, hm4, B4, l4, -⟩ := pick_ev (k := cs3.length) (xs := [.int 1, .int 1, .int 977, .int (10 ^ 30)]) B3 (by simp) (by show 4 ≤ 1000; omega) (fun x hx => by
      simp only [List.mem_cons, List.not_mem_nil, _root_.or_false] at hx
      rcases hx with rfl | rfl | rfl | rfl <;> rfl)
    obtain ⟨p, rfl, hp0, hp1⟩ : ∃ p : Int, y = .int p ∧ 0 ≤ p ∧ p ≤ 10 ^ 30 := by
      simp only [List.mem_cons, List.not_mem_nil, _root_.or_false] at hm4
      rcases hm4 with rfl | rfl | rfl | rfl
      · exact ⟨1, rfl, by decide, by decide⟩
      · exact ⟨1, rfl, by decide, by decide⟩
      · exact ⟨977, rfl, by decide, by decide⟩
      · exact ⟨10 ^ 30, rfl, by decide, by decide⟩
    have hpb : p < 2 ^ 100 := by
      have : (10 : Int) ^ 30 < 2 ^ 100 := by decide
      omega
    have hz0 : 0 ≤ r * p := Int.mul_nonneg hr0 hp0
    have hz1 : r * p ≤ 1000 * 10 ^ 30 := Int.mul_le_mul (by omega) hp1 hp0 (by decide)
    have hz2 : (1000 : Int) * 10 ^ 30 < 2 ^ 120 := by decide
    exact ⟨_, .int (r * p), ⟨cs.length, cs4⟩, rfl, rfl, bin_run (x := .int r) (y := .int p) (G1 := ⟨cs.length, cs3⟩) (call_run (G1 := ⟨cs.length, cs'⟩) (ds := [.loc b, .int 1000]) rfl e3) (call_run (G1 := ⟨cs.length, cs3⟩) (two_run rfl (lst_run (cons_run rfl (cons_run rfl (cons_run rfl (one_run (callP (ds := [.int 30]) rfl rfl (lten_ev 30 (by omega)) rfl))))) (by show 4 ≤ 16777216; omega))) e4) (fMul_ii (mulOk_of (m := 64) (n := 100) (by omega) (nat_lt hp0 hpb) (by omega))), ⟨r * p, rfl, hz0, by omega⟩, cs4, rfl, B4, by rw [l4, l3, l']⟩)
  rw [rangeD_length] at hl2 B2
  obtain ⟨ns, rfl, hns, hnl⟩ := ints_of (P := fun z => 0 ≤ z ∧ z < 2 ^ 120) hq2
  rw [hl2] at hnl
  refine ⟨ns, cs2, ?_, ⟨by omega, by omega, hns⟩, B2.mono (by omega), l2⟩
  unfold F__law_numbers
  refine runF_run (b := M__law_numbers) (ρ' := [some (.loc b), none]) rfl ?_ l2 B2.wf (belowDs_ints _ _)
  show M__law_numbers [some (.loc b), none] ⟨cs.length, cs⟩ = _
  unfold M__law_numbers
  exact ret_run (cb_run (one_run (mLc_runS (G1 := ⟨cs.length, cs1⟩) (range1_run (n := L) (one_run (call_run (G1 := ⟨cs.length, cs⟩) rfl e1)) (by omega)) e2 (by rw [List.length_map, hnl]; omega))) rfl)
end K88

namespace K88
open PySem PySem.Spec PyProof.Rows L2 Lf
variable [Tabs]
theorem uq_ok {ns : List Int} (O : Ok ns) (j : Nat) : Bd 100 1 (uq ns j) ∧ 0 ≤ uq ns j := by
  have h1 := Int.emod_nonneg (outp ns (2 * j + 1)) (show (50 : Int) ≠ 0 by decide)
  have h2 := Int.emod_lt_of_pos (outp ns (2 * j + 1)) (show (0 : Int) < 50 by decide)
  refine ⟨mk_bd (by decide) (by omega), ?_⟩
  unfold uq
  rw [Rat.le_iff, Rat.num_mkRat, if_neg (by decide)]
  show (0 : Int) * _ ≤ _ * (1 : Int)
  rw [Int.zero_mul, Int.mul_one]
  exact Int.ediv_nonneg h1 (by omega)
theorem one_turn {script : D} {b g : Nat} {cs : List Cell} {n : Nat} (B : Bag cs b g (n + 1000)) (x2 x3 x4 x5 x6 x7 x8 : Option D) :
    ∃ cs' y3 y4 y5 y6 y7 y8, (mSeq (mAsgG (gtTup 4 (gtCons (gtName 5) (gtCons (gtName 6) (gtCons (gtName 7) (gtCons (gtName 8) gtNil))))) (mTup (mCons (mCall F__law_numbers (mCons (mVar 1) mNil)) (mCons (mCall F__law_numbers (mCons (mVar 1) mNil)) (mCons (mCall F__law_draw (mCons (mVar 1) (mCons (mC (.int 7)) mNil))) (mCons (mCall F__law_draw (mCons (mVar 1) (mCons (mC (.int 41)) mNil))) mNil))))))
  (mSeq (mAsg 3 (mCallP F__law_own_draws (mCons (mVar 5) (mCons (mVar 8) mNil))))
  (mSeq (mIfS (mNot (mTru (mCallP (F__law_same 6) (mCons (mTup (mCons (mCallP F_draws (mCons (mVar 5) (mCons (mVar 8) mNil))) (mCons (mCallP F_draws (mPick [1, 0] 2 (mCons (mVar 8) (mCons (mVar 5) mNil)))) mNil))) (mCons (mTup (mCons (mVar 3) (mCons (mVar 3) mNil))) mNil)))))
  (mRet (mC (.bl false)))
  mSkip)
  (mSeq (mAsg 3 (mCallP F__law_own_start (mCons (mVar 5) (mCons (mVar 7) mNil))))
  (mSeq (mIfS (mNot (mTru (mCallP (F__law_same 6) (mCons (mTup (mCons (mCallP F_drawn_start (mCons (mVar 5) (mCons (mVar 7) mNil))) (mCons (mCallP F_drawn_start (mPick [1, 0] 2 (mCons (mVar 7) (mCons (mVar 5) mNil)))) mNil))) (mCons (mTup (mCons (mVar 3) (mCons (mVar 3) mNil))) mNil)))))
  (mRet (mC (.bl false)))
  mSkip)
  (mSeq (mAsg 4 (mIf (mBool (mBin fEq (mCall F__law_draw (mCons (mVar 1) (mCons (mC (.int 2)) mNil))) (mC (.int 0)))) (mVar 3) (mCall F__law_start (mCons (mVar 1) (mCons (mVar 7) (mCons (mC (.int 6)) (mCons (mC (.int 4)) mNil)))))))
  (mSeq (mAsg 3 (mCallP F__law_own_hand (mCons (mVar 4) (mCons (mVar 6) mNil))))
  (mSeq (mIfS (mOr (mNot (mTru (mCallP F__law_is_hand (mCons (mVar 4) (mCons (mVar 3) mNil))))) (mNot (mTru (mCallP (F__law_same 6) (mCons (mTup (mCons (mCallP F_drawn_hand (mCons (mVar 4) (mCons (mVar 6) mNil))) (mCons (mCallP F_drawn_hand (mPick [1, 0] 2 (mCons (mVar 6) (mCons (mVar 4) mNil)))) mNil))) (mCons (mTup (mCons (mVar 3) (mCons (mVar 3) mNil))) mNil))))))
  (mRet (mC (.bl false)))
  mSkip)
  (mSeq (mAsg 3 (mCallP F__law_own_page (mCons (mVar 5) (mCons (mVar 7) mNil))))
  (mIfS (mNot (mTru (mCallP (F__law_same 6) (mCons (mTup (mCons (mCallP F_drawn_page (mCons (mVar 5) (mCons (mVar 7) mNil))) (mCons (mCallP F_drawn_page (mPick [1, 0] 2 (mCons (mVar 7) (mCons (mVar 5) mNil)))) mNil))) (mCons (mTup (mCons (mVar 3) (mCons (mVar 3) mNil))) mNil)))))
  (mRet (mC (.bl false)))
  mSkip)))))))))) [some script, some (.loc b), x2, x3, x4, x5, x6, x7, x8] ⟨0, cs⟩ = some (.nx, [some script, some (.loc b), x2, y3, y4, y5, y6, y7, y8], ⟨0, cs'⟩) ∧ Bag cs' b g n := by
  obtain ⟨ns, cs1, e1, O, B1, l1⟩ := numbers_ev (k := cs.length) (B.mono (show n + 800 + 200 ≤ n + 1000 by omega))
  obtain ⟨os, cs2, e2, O2, B2, l2⟩ := numbers_ev (k := cs1.length) (B1.mono (show n + 600 + 200 ≤ n + 800 by omega))
  obtain ⟨d, cs3, e3, hd0, hd1, B3, l3, -⟩ := draw_ev (k := cs2.length) (many := 7) (B2.mono (show n + 500 + 1 ≤ n + 600 by omega)) (by decide) (by decide)
  obtain ⟨m, cs4, e4, hm0, hm1, B4, l4, -⟩ := draw_ev (k := cs3.length) (many := 41) (B3.mono (show n + 400 + 1 ≤ n + 500 by omega)) (by decide) (by decide)
  obtain ⟨c, cs5, e5, hc0, hc1, B5, l5, -⟩ := draw_ev (k := cs4.length) (many := 2) (B4.mono (show n + 300 + 1 ≤ n + 400 by omega)) (by decide) (by decide)
  obtain ⟨d, rfl⟩ : ∃ k : Nat, d = (k : Int) := ⟨d.toNat, by omega⟩
  obtain ⟨m, rfl⟩ : ∃ k : Nat, m = (k : Int) := ⟨m.toNat, by omega⟩
  have hd2 : d ≤ 6 := by omega
  have hm2 : m ≤ 40 := by omega
  -- the start
  obtain ⟨vs, us, cs6, e6, hvl, hul, hus, B6⟩ : ∃ (vs us : List Rat) (cs6 : List Cell), (∀ y4 : Option D, mIf (mBool (mBin fEq (mCall F__law_draw (mCons (mVar 1) (mCons (mC (.int 2)) mNil))) (mC (.int 0)))) (mVar 3) (mCall F__law_start (mCons (mVar 1) (mCons (mVar 7) (mCons (mC (.int 6)) (mCons (mC (.int 4)) mNil))))) [some script, some (.loc b), x2, some (startD (tabN (d + 1) (vq ns)) (tabN (d + 1) (uq ns))), y4, some (.tup (ns.map .int)), some (.tup (os.map .int)), some (.int (d : Nat)), some (.int (m : Nat))] ⟨0, cs4⟩ = some (startD vs us, ⟨0, cs6⟩)) ∧ vs.length = d + 1 ∧ us.length = d + 1 ∧ (∀ u ∈ us, Bd 100 1 u ∧ 0 ≤ u) ∧ Bag cs6 b g n := by
    by_cases hc : c = 0
    · subst hc
      exact ⟨tabN (d + 1) (vq ns), tabN (d + 1) (uq ns), cs5, fun y4 => if_true_run (bool_run (bin_run (x := .int 0) (y := .int 0) (call_run (G1 := ⟨0, cs4⟩) (ds := [.loc b, .int 2]) rfl e5) rfl rfl)) rfl, tabN_len _ _, tabN_len _ _, fun u hu => by
        obtain ⟨j, _, rfl⟩ := List.mem_map.mp hu
        exact uq_ok O j, B5.mono (by omega)⟩
    · obtain ⟨vs, us, cs6, e6, h1, h2, h3, B6, l6⟩ := law_start_ev (k := cs5.length) (B5.mono (show n + 100 + 100 ≤ n + 300 by omega)) d (by omega)
      exact ⟨vs, us, cs6, fun y4 => if_false_run (G1 := ⟨0, cs5⟩) (bool_run (bin_run (x := .int c) (y := .int 0) (call_run (G1 := ⟨0, cs4⟩) (ds := [.loc b, .int 2]) rfl e5) rfl (by rw [fEq_ii, beq_eq_false_iff_ne.mpr hc]))) (call_run (G1 := ⟨0, cs5⟩) (ds := [.loc b, .int (d : Nat), .int 6, .int 4]) rfl e6), h1, h2, h3, B6.mono (by omega)⟩
  have husz : ∀ u ∈ us, Sz u := fun u hu => bd_sz (hus u hu).1 (by omega) (by omega)
  have hhsz : ∀ q ∈ handQ us os, Sz q := fun q hqm => by
    obtain ⟨j, hj, rfl⟩ := List.mem_map.mp hqm
    have hj := List.mem_range.mp hj
    have hu : Bd 100 1 us[j]! := by
      rw [getElem!_pos us j hj]
      exact (hus _ (List.getElem_mem hj)).1
    have hh : Bd 100 1 (hq os j) := mk_bd (by decide) (by have := hq_bd O2 j; omega)
    exact bd_sz (hu.mul hh) (by omega) (by omega)
  have q1 := own_draws_ev O m (by omega)
  have q2' := draws_ev O m (by omega)
  have q3 := own_start_ev O d (by omega)
  have q4 := drawn_start_ev O d (by omega)
  have q5 := own_hand_ev O2 (vs := vs) (us := us) (by omega) (by omega) husz
  have q6 := drawn_hand_ev O2 (vs := vs) (us := us) (by omega) husz
  have q7 := is_hand_ok O2 (vs := vs) (us := us) (by omega) (by omega) (fun u hu => ⟨husz u hu, (hus u hu).2⟩) hhsz
  have q8 := own_page_ev O d (by omega)
  have q9 := drawn_page_ev O d (by omega)
  have b1 : belowD 0 (.tup (outs ns m)) = true := belowDs_outs 0 ns m
  have b2 := below_start 0 (tabN (d + 1) (vq ns)) (tabN (d + 1) (uq ns))
  have b3 : belowD 0 (.tup ((handQ us os).map q2)) = true := belowDs_q2 0 _
  have b4 := below_page 0 ns d
  have b5 := below_start 0 vs us
  have s1 := same_pair (k := 5) (d := .tup (outs ns m)) (same_outs 3 ns m (by omega)) b1
  have s2 := same_pair (k := 5) (d := startD (tabN (d + 1) (vq ns)) (tabN (d + 1) (uq ns))) (same_start 1 _ _ (by rw [tabN_len]; omega) (by rw [tabN_len]; omega)) b2
  have s3 := same_pair (k := 5) (d := .tup ((handQ us os).map q2)) (same_q2s 2 _ (by rw [handQ_len]; omega)) b3
  have s4 := same_pair (k := 5) (same_page ns d (by omega)) b4
  have bn : belowD 0 (.tup (ns.map .int)) = true := belowDs_ints 0 _
  have bo : belowD 0 (.tup (os.map .int)) = true := belowDs_ints 0 _
  generalize D.tup (ns.map .int) = N at *
  generalize D.tup (os.map .int) = W at *
  generalize D.tup (outs ns m) = r1 at *
  generalize startD (tabN (d + 1) (vq ns)) (tabN (d + 1) (uq ns)) = r2 at *
  generalize D.tup ((handQ us os).map q2) = r3 at *
  generalize pageD ns d = r4 at *
  generalize startD vs us = S at *
  have two : ∀ (x y : D), belowD 0 x = true → belowD 0 y = true → belowDs 0 [x, y] = true := fun x y hx hy => by
    show (belowD 0 x && (belowD 0 y && true)) = true
    rw [hx, hy]; rfl
  have pr : ∀ x : D, belowD 0 x = true → belowDs 0 [.tup [x, x], .tup [x, x]] = true := fun x hx => by
    show ((belowD 0 x && (belowD 0 x && true)) && ((belowD 0 x && (belowD 0 x && true)) && true)) = true
    rw [hx]; rfl
  refine ⟨cs6, some r4, some S, some N, some W, some (.int (d : Nat)), some (.int (m : Nat)), ?_, B6⟩
  refine seq_run (ρ1 := [some script, some (.loc b), x2, x3, x4, some N, some W, some (.int (d : Nat)), some (.int (m : Nat))]) (G1 := ⟨0, cs4⟩) (asgG_run (tup_run (ds := [N, W, .int (d : Nat), .int (m : Nat)]) (cons_run (call_run (G1 := ⟨0, cs⟩) (ds := [.loc b]) rfl e1) (cons_run (call_run (G1 := ⟨0, cs1⟩) (ds := [.loc b]) rfl e2) (cons_run (call_run (G1 := ⟨0, cs2⟩) (ds := [.loc b, .int 7]) rfl e3) (one_run (call_run (G1 := ⟨0, cs3⟩) (ds := [.loc b, .int 41]) rfl e4))))) (by show 4 ≤ 16777216; omega)) rfl) ?_
  refine seq_run (asg_run (callP (ds := [N, .int (m : Nat)]) rfl (two _ _ bn rfl) q1 b1)) ?_
  refine seq_run (ρ1 := [some script, some (.loc b), x2, some r1, x4, some N, some W, some (.int (d : Nat)), some (.int (m : Nat))]) (G1 := ⟨0, cs4⟩) (ifS_false (not_run (b := true) (tru_run (x := .bl true) (callP (two_run (tup_run (two_run (callP (ds := [N, .int (m : Nat)]) rfl (two _ _ bn rfl) q2' b1) (callP (ds := [N, .int (m : Nat)]) rfl (two _ _ bn rfl) q2' b1)) (by show 2 ≤ 16777216; omega)) rfl) (pr _ b1) s1 rfl) rfl)) rfl) ?_
  refine seq_run (asg_run (callP (ds := [N, .int (d : Nat)]) rfl (two _ _ bn rfl) q3 b2)) ?_
  refine seq_run (ρ1 := [some script, some (.loc b), x2, some r2, x4, some N, some W, some (.int (d : Nat)), some (.int (m : Nat))]) (G1 := ⟨0, cs4⟩) (ifS_false (not_run (b := true) (tru_run (x := .bl true) (callP (two_run (tup_run (two_run (callP (ds := [N, .int (d : Nat)]) rfl (two _ _ bn rfl) q4 b2) (callP (ds := [N, .int (d : Nat)]) rfl (two _ _ bn rfl) q4 b2)) (by show 2 ≤ 16777216; omega)) rfl) (pr _ b2) s2 rfl) rfl)) rfl) ?_
  refine seq_run (ρ1 := [some script, some (.loc b), x2, some r2, some S, some N, some W, some (.int (d : Nat)), some (.int (m : Nat))]) (G1 := ⟨0, cs6⟩) (asg_run (e6 x4)) ?_
  refine seq_run (ρ1 := [some script, some (.loc b), x2, some r3, some S, some N, some W, some (.int (d : Nat)), some (.int (m : Nat))]) (G1 := ⟨0, cs6⟩) (asg_run (callP (ds := [S, W]) rfl (two _ _ b5 bo) q5 b3)) ?_
  refine seq_run (ρ1 := [some script, some (.loc b), x2, some r3, some S, some N, some W, some (.int (d : Nat)), some (.int (m : Nat))]) (G1 := ⟨0, cs6⟩) (ifS_false (Lf.or_false (not_run (b := true) (tru_run (x := .bl true) (callP (ds := [S, r3]) rfl (two _ _ b5 b3) q7 rfl) rfl)) (not_run (b := true) (tru_run (x := .bl true) (callP (two_run (tup_run (two_run (callP (ds := [S, W]) rfl (two _ _ b5 bo) q6 b3) (callP (ds := [S, W]) rfl (two _ _ b5 bo) q6 b3)) (by show 2 ≤ 16777216; omega)) rfl) (pr _ b3) s3 rfl) rfl))) rfl) ?_
  refine seq_run (ρ1 := [some script, some (.loc b), x2, some r4, some S, some N, some W, some (.int (d : Nat)), some (.int (m : Nat))]) (G1 := ⟨0, cs6⟩) (asg_run (callP (ds := [N, .int (d : Nat)]) rfl (two _ _ bn rfl) q8 b4)) ?_
  exact ifS_false (not_run (b := true) (tru_run (x := .bl true) (callP (two_run (tup_run (two_run (callP (ds := [N, .int (d : Nat)]) rfl (two _ _ bn rfl) q9 b4) (callP (ds := [N, .int (d : Nat)]) rfl (two _ _ bn rfl) q9 b4)) (by show 2 ≤ 16777216; omega)) rfl) (pr _ b4) s4 rfl) rfl)) rfl
theorem plain (ns : List Int) (h : ns.length ≤ 63) : ∃ G', F_law [.frz (ns.map .int)] Sto.none = some (.bl true, G') := by
  obtain ⟨b, g, cs, e0, B⟩ := bag_ev ns h
  generalize D.frz (ns.map .int) = script at *
  refine ⟨Sto.none, ?_⟩
  unfold F_law
  have key := fun (b' : MS) (hb : ∀ (n : Nat) (cs : List Cell) (x2 x3 x4 x5 x6 x7 x8 : Option D), Bag cs b g (n + 1000) → ∃ cs' y3 y4 y5 y6 y7 y8, b' [some script, some (.loc b), x2, x3, x4, x5, x6, x7, x8] ⟨0, cs⟩ = some (.nx, [some script, some (.loc b), x2, y3, y4, y5, y6, y7, y8], ⟨0, cs'⟩) ∧ Bag cs' b g n) =>
    forL_run (f := gtName 2) (b := b') (items := rangeD 0 3) (fun i ρ G => ∃ cs x2 x3 x4 x5 x6 x7 x8, ρ = [some script, some (.loc b), x2, x3, x4, x5, x6, x7, x8] ∧ G = ⟨0, cs⟩ ∧ Bag cs b g (10000 - 1000 * i)) (ρ := [some script, some (.loc b), none, none, none, none, none, none, none]) (G := ⟨0, cs⟩) ⟨cs, _, _, _, _, _, _, _, rfl, rfl, B.mono (by omega)⟩ (by
      rintro i d ρ G hd ⟨cs, x2, x3, x4, x5, x6, x7, x8, rfl, rfl, B⟩
      have hi : i < 3 := (List.getElem?_eq_some_iff.mp hd).1
      obtain ⟨cs', y3, y4, y5, y6, y7, y8, e, B'⟩ := hb (10000 - 1000 * (i + 1)) cs (some d) x3 x4 x5 x6 x7 x8 (B.mono (by omega))
      exact ⟨[some script, some (.loc b), some d, x3, x4, x5, x6, x7, x8], _, _, rfl, e, cs', some d, y3, y4, y5, y6, y7, y8, rfl, rfl, B'⟩)
  obtain ⟨ρ', G', e, -⟩ := key _ (fun n cs x2 x3 x4 x5 x6 x7 x8 B => one_turn B x2 x3 x4 x5 x6 x7 x8)
  refine run_body (ρ' := ρ') (G' := G') rfl ?_ rfl
  show M_law [some script, none, none, none, none, none, none, none, none] Sto.none = _
  unfold M_law
  exact seq_run (asg_run (call_run (G1 := Sto.none) (ds := [script]) rfl e0)) (seq_run (for_run (range1_run (n := 3) (one_run rfl) (by omega)) e) (ret_run rfl))
end K88

namespace K88
open PySem PySem.Spec PyProof.Rows L2 Lf
def fn : List He.DefD := [Lf.ddOf ("frac", none) "frac" "frac" s_frac,
  Lf.ddOf ("times", none) "times" "times" s_times,
  Lf.ddOf ("Drawer", some "__init__") "__init__" "Drawer.__init__" s_Drawer___init__,
  Lf.ddOf ("Drawer", some "draw") "draw" "Drawer.draw" s_Drawer_draw,
  Lf.ddOf ("draws", none) "draws" "draws" s_draws,
  Lf.ddOf ("start_by", none) "start_by" "start_by" s_start_by,
  Lf.ddOf ("drawn_start", none) "drawn_start" "drawn_start" s_drawn_start,
  Lf.ddOf ("drawn_hand", none) "drawn_hand" "drawn_hand" s_drawn_hand,
  Lf.ddOf ("drawn_page", none) "drawn_page" "drawn_page" s_drawn_page,
  Lf.ddOf ("_law_bag", none) "_law_bag" "_law_bag" s__law_bag,
  Lf.ddOf ("_law_draw", none) "_law_draw" "_law_draw" s__law_draw,
  Lf.ddOf ("_law_pick", none) "_law_pick" "_law_pick" s__law_pick,
  Lf.ddOf ("_law_same", none) "_law_same" "_law_same" s__law_same,
  Lf.ddOf ("_law_gcd", none) "_law_gcd" "_law_gcd" s__law_gcd,
  Lf.ddOf ("_law_fr", none) "_law_fr" "_law_fr" s__law_fr,
  Lf.ddOf ("_law_times", none) "_law_times" "_law_times" s__law_times,
  Lf.ddOf ("_law_less", none) "_law_less" "_law_less" s__law_less,
  Lf.ddOf ("_law_ten", none) "_law_ten" "_law_ten" s__law_ten,
  Lf.ddOf ("_law_is_whole", none) "_law_is_whole" "_law_is_whole" s__law_is_whole,
  Lf.ddOf ("_law_is_fraction", none) "_law_is_fraction" "_law_is_fraction" s__law_is_fraction,
  Lf.ddOf ("_law_is_hand", none) "_law_is_hand" "_law_is_hand" s__law_is_hand,
  Lf.ddOf ("_law_half", none) "_law_half" "_law_half" s__law_half,
  Lf.ddOf ("_law_start", none) "_law_start" "_law_start" s__law_start,
  Lf.ddOf ("_law_own_draws", none) "_law_own_draws" "_law_own_draws" s__law_own_draws,
  Lf.ddOf ("_law_own_start", none) "_law_own_start" "_law_own_start" s__law_own_start,
  Lf.ddOf ("_law_own_hand", none) "_law_own_hand" "_law_own_hand" s__law_own_hand,
  Lf.ddOf ("_law_own_page", none) "_law_own_page" "_law_own_page" s__law_own_page,
  Lf.ddOf ("_law_numbers", none) "_law_numbers" "_law_numbers" s__law_numbers,
  Lf.ddOf ("law", none) "law" "law" s_law]
def fa : List He.Fa := [.glo "frac",
  .glo "times",
  .glo "Drawer",
  .mkr "Drawer",
  .meth "Drawer" "draw",
  .glo "draws",
  .glo "start_by",
  .glo "drawn_start",
  .glo "drawn_hand",
  .glo "drawn_page",
  .glo "_law_bag",
  .glo "_law_draw",
  .glo "_law_pick",
  .glo "_law_same",
  .glo "_law_gcd",
  .glo "_law_fr",
  .glo "_law_times",
  .glo "_law_less",
  .glo "_law_ten",
  .glo "_law_is_whole",
  .glo "_law_is_fraction",
  .glo "_law_is_hand",
  .glo "_law_half",
  .glo "_law_start",
  .glo "_law_own_draws",
  .glo "_law_own_start",
  .glo "_law_own_hand",
  .glo "_law_own_page",
  .glo "_law_numbers",
  .glo "law",
  .free "abs",
  .free "bool",
  .free "enumerate",
  .free "int",
  .free "isinstance",
  .free "len",
  .free "range",
  .free "str",
  .free "sum",
  .free "tuple",
  .int "FACTOR" 1103515245,
  .int "MORE" 12345,
  .int "ROUND" 2147483648,
  .int "CUT" 65536,
  .cls "Drawer",
  .noat "Drawer" "numbers",
  .noat "Drawer" "place",
  .noat "Drawer" "state"]
def tf : List He.Defn := [("Drawer", some "__init__")]
def ex (K : PySem.W.Frag) : Bool := He.eqO (PySem.W.nsIn K mainGlobals "gcd") (some (some (.builtin "math.gcd")))
abbrev R : PySem.W.OpenRow := PySem.W.OpenLaw.row PySem.Challenge.rw_lastfigure_k88_drawn_cases
abbrev qv : Program := PySem.W.view R.prog [0, 35]
def loose : List Str := ["FACTOR", "MORE", "ROUND", "CUT", "frac", "times", "draws", "start_by", "drawn_start", "drawn_hand", "drawn_page", "_law_bag", "_law_draw", "_law_pick", "_law_same", "_law_gcd", "_law_fr", "_law_times", "_law_less", "_law_ten", "_law_is_whole", "_law_is_fraction", "_law_is_hand", "_law_half", "_law_start", "_law_own_draws", "_law_own_start", "_law_own_hand", "_law_own_page", "_law_numbers", "Drawer"]
abbrev hk : PySem.W.Hook := He.hookX 6 fa fn [] tf ex
def ob (s : PySem.W.SharedT) : He.AlX := He.obsX 6 fa fn [] tf ex (HandSHeadRun.getT s)
theorem ob_eq (s : PySem.W.SharedT) : ob s = hk.obs s.abs := He.obsX_eq (HandSHeadRun.getT_eq s)
set_option maxHeartbeats 0 in
theorem run (w : World) : HandSHeadRun.RunEqI R qv hk ob 20000 loose w := by
  unfold HandSHeadRun.RunEqI
  kernel_rfl
theorem facts [Tabs] {w : World} {K : PySem.W.Frag} {mg : Str → Option Value} {h base : Heap} (hcl : (Tabs.C : Nat → Addr) = fun i => He.ga K (if i = 0 then "Drawer" else "")) (hts : Tabs.T = tf.map fun p => (He.cT K p).2) (X : K.In h) (G : h.Ns mainGlobals mg) (c : He.SaysD fa fn K) (hx : ex K = true)
    (tb : ∀ p ∈ tf.map (He.cT K), GxR.TabB base mg p.1 p.2) : Txt R.prog w K mg base (fun j => (He.cT K (tf.getD j default)).1) (fun j => (He.cT K (tf.getD j default)).2) := by
  exact ⟨funAt_i X G c 0 0 rfl rfl,
    funAt_i X G c 1 1 rfl rfl,
    initAt_i X G c (C := "Drawer") (t := 0) (by rw [hcl]; rfl) 2 3 2 rfl rfl rfl,
    methAt_i c (C := "Drawer") (t := 0) (by rw [hcl]; rfl) 4 3 rfl rfl,
    funAt_i X G c 5 4 rfl rfl,
    funAt_i X G c 6 5 rfl rfl,
    funAt_i X G c 7 6 rfl rfl,
    funAt_i X G c 8 7 rfl rfl,
    funAt_i X G c 9 8 rfl rfl,
    funAt_i X G c 10 9 rfl rfl,
    funAt_i X G c 11 10 rfl rfl,
    funAt_i X G c 12 11 rfl rfl,
    funAt_i X G c 13 12 rfl rfl,
    funAt_i X G c 14 13 rfl rfl,
    funAt_i X G c 15 14 rfl rfl,
    funAt_i X G c 16 15 rfl rfl,
    funAt_i X G c 17 16 rfl rfl,
    funAt_i X G c 18 17 rfl rfl,
    funAt_i X G c 19 18 rfl rfl,
    funAt_i X G c 20 19 rfl rfl,
    funAt_i X G c 21 20 rfl rfl,
    funAt_i X G c 22 21 rfl rfl,
    funAt_i X G c 23 22 rfl rfl,
    funAt_i X G c 24 23 rfl rfl,
    funAt_i X G c 25 24 rfl rfl,
    funAt_i X G c 26 25 rfl rfl,
    funAt_i X G c 27 26 rfl rfl,
    funAt_i X G c 28 27 rfl rfl,
    funAt_i X G c 29 28 rfl rfl,
    free_i X G c 30 rfl,
    free_i X G c 31 rfl,
    free_i X G c 32 rfl,
    free_i X G c 33 rfl,
    free_i X G c 34 rfl,
    free_i X G c 35 rfl,
    free_i X G c 36 rfl,
    free_i X G c 37 rfl,
    free_i X G c 38 rfl,
    free_i X G c 39 rfl,
    PySem.W.mg_of X G (He.eqO_ok hx),
    int_i X G c 40 rfl,
    int_i X G c 41 rfl,
    int_i X G c 42 rfl,
    int_i X G c 43 rfl,
    cls_i c (C := "Drawer") (t := 0) (by rw [hcl]; rfl) 44 rfl,
    noat_i c (C := "Drawer") (t := 0) (by rw [hcl]; rfl) 45 rfl,
    noat_i c (C := "Drawer") (t := 0) (by rw [hcl]; rfl) 46 rfl,
    noat_i c (C := "Drawer") (t := 0) (by rw [hcl]; rfl) 47 rfl,
    by rw [hts]; exact List.mem_map.mpr ⟨tf.getD 0 default, by simp [tf], rfl⟩,
    tb _ (List.mem_map.mpr ⟨tf.getD 0 default, by simp [tf], rfl⟩)⟩
end K88
open PySem PySem.W PySem.Calls PyProof.Rows
set_option maxHeartbeats 0 in
theorem PySem.Challenge.cw_lastfigure_k88_drawn_cases_holds : PySem.Challenge.rw_lastfigure_k88_drawn_cases.Holds := by
  w_on; o_law
  refine HandSHeadRun.head_imp (r := OpenLaw.row PySem.Challenge.rw_lastfigure_k88_drawn_cases) (q := K88.qv) (H := K88.hk) (ob := K88.ob) (M := 20000) (loose := K88.loose) (d := HandSHeadRun.topDef (OpenLaw.row PySem.Challenge.rw_lastfigure_k88_drawn_cases).prog 35) (kwd := []) K88.ob_eq
    K88.run (by kernel_rfl) (by kernel_rfl) (by kernel_rfl) (by rfl) (by first | assumption | decide +kernel) (by decide +kernel) ⟨rfl, rfl, rfl, rfl, rfl, by decide +kernel⟩ ?hw ?hc
  case hw => w_witness2
  case hc =>
    refine LamX.walk_ofTsE (l := PySem.Challenge.rw_lastfigure_k88_drawn_cases) (n := 63) (k := 7) (x := "script") (CX := fun _ => L2.CX0) rfl (by decide) (by kernel_rfl) ⟨rfl, by decide, by decide⟩ ?F (fun _ _ _ _ _ z => z)
    intro w mg fa h Y G hmg0
    obtain ⟨K, KX, c⟩ := Y
    have hmg : mg ("law" : PySem.Str) = some (.ref fa) := by
      have e : (HandSHeadRun.topDef (OpenLaw.row PySem.Challenge.rw_lastfigure_k88_drawn_cases).prog 35).name = ("law" : PySem.Str) := by kernel_rfl
      rw [← e]
      exact hmg0
    letI T : Lf.Tabs := ⟨K88.tf.map fun p => (He.cT K p).2, fun i => He.ga K (if i = 0 then "Drawer" else "")⟩
    refine ⟨K, KX, Lf.law_end (cs := K88.tf.map (He.cT K)) (st := K88.s_law) (f := K88.F_law) (by show _ = _; rw [List.map_map]; rfl) (fun p hp => ?_) (fun p hp => ?_) (fun p hp => ?_) hmg ?_ (fun _ _ _ _ _ _ us hl => match us, hl with | [_], _ => rfl) K88.plain fun base Kb Gb tb => K88.law_at (K88.facts rfl rfl KX G c.t.d c.more tb)⟩
    · obtain ⟨q, hq, rfl⟩ := List.mem_map.mp hp
      exact c.empty q hq
    · obtain ⟨q, hq, rfl⟩ := List.mem_map.mp hp
      exact c.out q hq
    · obtain ⟨q, hq, rfl⟩ := List.mem_map.mp hp
      exact PySem.W.codeHd_of_K KX (c.hd q hq)
    · exact Lf.funAt_i KX G c.t.d 29 28 rfl rfl
