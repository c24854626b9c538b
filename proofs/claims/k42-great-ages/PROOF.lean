import PyProof.Rows.All
import Wide.All
import OpenK.AllK
import Wide.FinOn
import HandS.ForMost
import HandS.Walk
import HandS.Evl
import HandS.IsInst
import HandS.Wide
import HandS.Conv
import HandS.More
import HandS.Defaults
import PyProof.ListStr
import PySem.Challenge.RW_linegrow_k42_whole_ties_at_great_ages
set_option Elab.async false
set_option linter.all false
set_option maxRecDepth 100000
set_option maxHeartbeats 4000000
/-! Typed slots over the hand layer: contexts, what a reading gives, statements. -/
namespace Lg
open PySem PySem.Spec PyProof.Rows L2
open Evl (Ex)
/-! ### what is known of a value, of an object -/
structure VP where
  is : V → Hp → Prop
  up : ∀ {v : V} {L L' : Hp}, Ex L L' → is v L → is v L'
structure OP where
  is : HO → Hp → Prop
  up : ∀ {o : HO} {L L' : Hp}, Ex L L' → is o L → is o L'
/-- just this value -/
def pC (u : V) : VP := ⟨fun v _ => v = u, fun _ h => h⟩
abbrev pI (i : Int) : VP := pC (.int i)
abbrev pS (s : Str) : VP := pC (.str s)
abbrev pB (b : Bool) : VP := pC (.bl b)
def pX {α : Type} (c : α → Prop) (P : α → VP) : VP := ⟨fun v L => ∃ a, c a ∧ (P a).is v L, fun e ⟨a, h, q⟩ => ⟨a, h, (P a).up e q⟩⟩
def oX {α : Type} (c : α → Prop) (O : α → OP) : OP := ⟨fun o L => ∃ a, c a ∧ (O a).is o L, fun e ⟨a, h, q⟩ => ⟨a, h, (O a).up e q⟩⟩
def OP.vp (O : OP) : VP := ⟨fun v L => ∃ p o, v = .ref p ∧ L p = some o ∧ O.is o L, fun e ⟨p, o, h1, h2, h3⟩ => ⟨p, o, h1, e p o h2, O.up e h3⟩⟩
theorem pair_up {α : Type} {f : α → VP} {L L' : Hp} (e : Ex L L') : ∀ {vs : List V} {l : List α}, Paired (fun v x => (f x).is v L) vs l → Paired (fun v x => (f x).is v L') vs l
  | _, _, .nil => .nil
  | _, _, .cons r t => .cons ((f _).up e r) (pair_up e t)
def oL {α : Type} (f : α → VP) (l : List α) : OP := ⟨fun o L => ∃ vs, o = .lst vs ∧ Paired (fun v x => (f x).is v L) vs l, fun e ⟨vs, h, q⟩ => ⟨vs, h, pair_up e q⟩⟩
def oT {α : Type} (f : α → VP) (l : List α) : OP := ⟨fun o L => ∃ vs, o = .tup vs ∧ Paired (fun v x => (f x).is v L) vs l, fun e ⟨vs, h, q⟩ => ⟨vs, h, pair_up e q⟩⟩
abbrev pL {α : Type} (f : α → VP) (l : List α) : VP := (oL f l).vp
abbrev pT {α : Type} (f : α → VP) (l : List α) : VP := (oT f l).vp
/-- a tuple of things of unlike kinds -/
abbrev pTu (l : List VP) : VP := (oT id l).vp
theorem pair_len {α β : Type} {F : α → β → Prop} : ∀ {vs : List α} {l : List β}, Paired F vs l → vs.length = l.length
  | _, _, .nil => rfl
  | _, _, .cons _ t => by simp [pair_len t]
theorem pair_get {α β : Type} {F : α → β → Prop} : ∀ {vs : List α} {l : List β} {i : Nat} {x : β}, Paired F vs l → l[i]? = some x → ∃ v, vs[i]? = some v ∧ F v x
  | _, _, _, _, .nil, e => by simp at e
  | _, _, 0, _, .cons r _, e => by simp at e; subst e; exact ⟨_, rfl, r⟩
  | _, _, i + 1, x, .cons _ t, e => by
    obtain ⟨u, h1, h2⟩ := pair_get (i := i) (x := x) t (by simpa using e)
    exact ⟨u, by simpa using h1, h2⟩
theorem pair_get' {α β : Type} {F : α → β → Prop} : ∀ {vs : List α} {l : List β} {i : Nat} {v : α}, Paired F vs l → vs[i]? = some v → ∃ x, l[i]? = some x ∧ F v x
  | _, _, _, _, .nil, e => by simp at e
  | _, _, 0, _, .cons r _, e => by simp at e; subst e; exact ⟨_, rfl, r⟩
  | _, _, i + 1, x, .cons _ t, e => by
    obtain ⟨u, h1, h2⟩ := pair_get' (i := i) (v := x) t (by simpa using e)
    exact ⟨u, by simpa using h1, h2⟩
theorem pair_app {α β : Type} {F : α → β → Prop} : ∀ {vs us : List α} {l m : List β}, Paired F vs l → Paired F us m → Paired F (vs ++ us) (l ++ m)
  | _, _, _, _, .nil, s => s
  | _, _, _, _, .cons r t, s => .cons r (pair_app t s)
theorem pair_set {α β : Type} {F : α → β → Prop} {v : α} {x : β} (h : F v x) : ∀ {vs : List α} {l : List β} (j : Nat), Paired F vs l → Paired F (vs.set j v) (l.set j x)
  | _, _, _, .nil => .nil
  | _, _, 0, .cons _ t => .cons h t
  | _, _, j + 1, .cons r t => .cons r (pair_set h j t)
theorem pair_take {α β : Type} {F : α → β → Prop} : ∀ {vs : List α} {l : List β} (n : Nat), Paired F vs l → Paired F (vs.take n) (l.take n)
  | _, _, 0, _ => .nil
  | _, _, _ + 1, .nil => .nil
  | _, _, n + 1, .cons r t => .cons r (pair_take n t)
theorem pair_drop {α β : Type} {F : α → β → Prop} : ∀ {vs : List α} {l : List β} (n : Nat), Paired F vs l → Paired F (vs.drop n) (l.drop n)
  | _, _, 0, r => r
  | _, _, _ + 1, .nil => .nil
  | _, _, n + 1, .cons _ t => pair_drop n t
theorem pair_erase {α β : Type} {F : α → β → Prop} : ∀ {vs : List α} {l : List β} (n : Nat), Paired F vs l → Paired F (vs.eraseIdx n) (l.eraseIdx n)
  | _, _, _, .nil => .nil
  | _, _, 0, .cons _ t => t
  | _, _, n + 1, .cons r t => .cons r (pair_erase n t)
theorem pair_pC {α : Type} {g : α → V} {L : Hp} : ∀ {vs : List V} {l : List α}, Paired (fun v x => (pC (g x)).is v L) vs l → vs = l.map g
  | _, _, .nil => rfl
  | _, _, .cons r t => by
    have e := pair_pC t
    rw [e, show _ = _ from r, List.map_cons]
theorem pC_pair {α : Type} {g : α → V} {L : Hp} : ∀ (l : List α), Paired (fun v x => (pC (g x)).is v L) (l.map g) l
  | [] => .nil
  | x :: r => .cons rfl (pC_pair r)
theorem pair_of {α : Type} {F : V → α → Prop} : ∀ {vs : List V} {l : List α}, vs.length = l.length → (∀ (i : Nat) v x, vs[i]? = some v → l[i]? = some x → F v x) → Paired F vs l
  | [], [], _, _ => .nil
  | v :: vs, x :: l, hl, h => .cons (h 0 v x rfl rfl) (pair_of (by simpa using hl) fun i a b ha hb => h (i + 1) a b (by simpa using ha) (by simpa using hb))
  | [], _ :: _, hl, _ => by simp at hl
  | _ :: _, [], hl, _ => by simp at hl
/-! ### contexts -/
inductive Ent where
  | no | val (P : VP) | own (p : Addr) (O : OP)
abbrev Cxt := List Ent
/-- the frame: what the caller does not show stays as it is, but for X -/
def Fr (X : Addr → Prop) (L H L' H' : Hp) : Prop := Ex L L' ∧ ∀ q o, L q = none → ¬ X q → H q = some o → L' q = none ∧ H' q = some o
theorem Fr.refl {X : Addr → Prop} {L H : Hp} : Fr X L H L H := ⟨Ex.refl L, fun _ _ h _ h' => ⟨h, h'⟩⟩
theorem Fr.trans {X : Addr → Prop} {L H L1 H1 L2 H2 : Hp} (a : Fr X L H L1 H1) (b : Fr X L1 H1 L2 H2) : Fr X L H L2 H2 :=
  ⟨a.1.trans b.1, fun q o h1 h2 h3 => let ⟨x, y⟩ := a.2 q o h1 h2 h3; b.2 q o x h2 y⟩
theorem Fr.mono {X Y : Addr → Prop} {L H L' H' : Hp} (a : Fr X L H L' H') (h : ∀ q, X q → Y q) : Fr Y L H L' H' := ⟨a.1, fun q o h1 h2 h3 => a.2 q o h1 (fun z => h2 (h q z)) h3⟩
structure Wd where
  X : Addr → Prop
  L : Hp
  H : Hp
  hX : ∀ p, H p = none → X p
structure Has (W : Wd) (Γ : Cxt) (σ : L2.St) (L H : Hp) : Prop where
  ex : Ex L H
  fr : Fr W.X W.L W.H L H
  len : Γ.length = σ.length
  val : ∀ (i : Nat) (P : VP), Γ[i]? = some (Ent.val P) → ∃ v, σ[i]? = some (some v) ∧ P.is v L
  own : ∀ (i : Nat) (p : Addr) (O : OP), Γ[i]? = some (Ent.own p O) → σ[i]? = some (some (V.ref p)) ∧ W.X p ∧ L p = none ∧ ∃ o, H p = some o ∧ O.is o L
  dis : ∀ (i j : Nat) (p : Addr) (O O' : OP), Γ[i]? = some (Ent.own p O) → Γ[j]? = some (Ent.own p O') → i = j
section
variable {W : Wd} {Γ : Cxt} {σ : L2.St} {L H : Hp}
theorem Has.fresh (h : Has W Γ σ L H) {p : Addr} (hp : H p = none) : L p = none ∧ W.X p := by
  refine ⟨Evl.fresh_back h.ex hp, ?_⟩
  by_cases x : W.X p
  · exact x
  · cases e : W.H p with
    | none => exact W.hX p e
    | some o =>
      cases e2 : W.L p with
      | none =>
        have z := (h.fr.2 p o e2 x e).2
        rw [hp] at z
        cases z
      | some u =>
        have z := h.ex p u (h.fr.1 p u e2)
        rw [hp] at z
        cases z
/-- a new object, not shown -/
theorem Has.alloc (h : Has W Γ σ L H) {p : Addr} (hp : H p = none) (o : HO) : Has W Γ σ L (upd H p o) := by
  have hl := (h.fresh hp).1
  have hx := (h.fresh hp).2
  refine ⟨fun a u e => ?_, ⟨h.fr.1, fun q u h1 h2 h3 => ?_⟩, h.len, h.val, fun i q O e => ?_, h.dis⟩
  · rw [upd_ne (ne_of_none (h.ex a u e) hp)]
    exact h.ex a u e
  · obtain ⟨a, b⟩ := h.fr.2 q u h1 h2 h3
    refine ⟨a, ?_⟩
    rw [upd_ne (ne_of_none b hp)]
    exact b
  · obtain ⟨a, b, c, u, d, f⟩ := h.own i q O e
    refine ⟨a, b, c, u, ?_, f⟩
    rw [upd_ne (ne_of_none d hp)]
    exact d
/-- it is shown -/
theorem Has.show (h : Has W Γ σ L H) {p : Addr} {o : HO} (hl : L p = none) (hx : W.X p) (ho : H p = some o) (hn : ∀ (i : Nat) (q : Addr) (O : OP), Γ[i]? = some (Ent.own q O) → q ≠ p) : Has W Γ σ (upd L p o) H := by
  have e0 : Ex L (upd L p o) := Ex.new hl
  refine ⟨fun a u e => ?_, ⟨h.fr.1.trans e0, fun q u h1 h2 h3 => ?_⟩, h.len, fun i P e => ?_, fun i q O e => ?_, h.dis⟩
  · by_cases z : a = p
    · subst z
      rw [upd_same] at e
      cases e
      exact ho
    · rw [upd_ne z] at e
      exact h.ex a u e
  · obtain ⟨a, b⟩ := h.fr.2 q u h1 h2 h3
    refine ⟨?_, b⟩
    rw [upd_ne (fun z => h2 (by rw [z]; exact hx))]
    exact a
  · obtain ⟨v, a, b⟩ := h.val i P e
    exact ⟨v, a, P.up e0 b⟩
  · obtain ⟨a, b, c, u, d, f⟩ := h.own i q O e
    refine ⟨a, b, ?_, u, d, O.up e0 f⟩
    rw [upd_ne (hn i q O e)]
    exact c
theorem Has.ownNe (h : Has W Γ σ L H) {p : Addr} (hp : H p = none) : ∀ (i : Nat) (q : Addr) (O : OP), Γ[i]? = some (Ent.own q O) → q ≠ p := fun i q O e z => by
  obtain ⟨a, b, c, u, d, f⟩ := h.own i q O e
  rw [z, hp] at d
  cases d
theorem set_get {α : Type} {l : List α} {i j : Nat} {x y : α} (h : (l.set j x)[i]? = some y) : (i = j ∧ y = x) ∨ (i ≠ j ∧ l[i]? = some y) := by
  by_cases e : i = j
  · subst e
    by_cases hl : i < l.length
    · rw [List.getElem?_set_self hl] at h
      exact .inl ⟨rfl, (Option.some.inj h).symm⟩
    · rw [List.getElem?_eq_none (by simpa using hl)] at h
      cases h
  · rw [List.getElem?_set_ne (fun z => e z.symm)] at h
    exact .inr ⟨e, h⟩
theorem Has.setV (h : Has W Γ σ L H) {v : V} {P : VP} (hv : P.is v L) (j : Nat) : Has W (Γ.set j (.val P)) (σ.set j (some v)) L H := by
  refine ⟨h.ex, h.fr, by rw [List.length_set, List.length_set, h.len], fun i P' e => ?_, fun i q O e => ?_, fun i k p O O' e e' => ?_⟩
  · by_cases z : i = j
    · subst z
      have hl : i < Γ.length := by
        have := (List.getElem?_eq_some_iff.mp e).1
        simpa using this
      rcases set_get e with ⟨_, e⟩ | ⟨e, _⟩
      · cases e
        exact ⟨v, by rw [List.getElem?_set_self (by rw [← h.len]; exact hl)], hv⟩
      · exact absurd rfl e
    · rw [List.getElem?_set_ne (fun y => z y.symm)] at e ⊢
      exact h.val i P' e
  · rcases set_get e with ⟨_, e⟩ | ⟨z, e⟩
    · cases e
    · rw [List.getElem?_set_ne (fun y => z y.symm)]
      exact h.own i q O e
  · rcases set_get e with ⟨_, e⟩ | ⟨z, e⟩
    · cases e
    · rcases set_get e' with ⟨_, e'⟩ | ⟨z', e'⟩
      · cases e'
      · exact h.dis i k p O O' e e'
theorem Has.setO (h : Has W Γ σ L H) {p : Addr} {o : HO} {O : OP} (hx : W.X p) (hl : L p = none) (ho : H p = some o) (hO : O.is o L) (hn : ∀ (i : Nat) (q : Addr) (O : OP), Γ[i]? = some (Ent.own q O) → q ≠ p) (j : Nat) :
    Has W (Γ.set j (.own p O)) (σ.set j (some (.ref p))) L H := by
  refine ⟨h.ex, h.fr, by rw [List.length_set, List.length_set, h.len], fun i P' e => ?_, fun i q O' e => ?_, fun i k q O1 O2 e e' => ?_⟩
  · rcases set_get e with ⟨_, e⟩ | ⟨z, e⟩
    · cases e
    · rw [List.getElem?_set_ne (fun y => z y.symm)]
      exact h.val i P' e
  · by_cases z : i = j
    · subst z
      have hl' : i < Γ.length := by
        have := (List.getElem?_eq_some_iff.mp e).1
        simpa using this
      rcases set_get e with ⟨_, e⟩ | ⟨e, _⟩
      · cases e
        exact ⟨by rw [List.getElem?_set_self (by rw [← h.len]; exact hl')], hx, hl, o, ho, hO⟩
      · exact absurd rfl e
    · rw [List.getElem?_set_ne (fun y => z y.symm)] at e ⊢
      exact h.own i q O' e
  · rcases set_get e with ⟨z, e⟩ | ⟨z, e⟩
    · rcases set_get e' with ⟨z', e'⟩ | ⟨z', e'⟩
      · rw [z, z']
      · cases e
        exact absurd rfl (hn k _ _ e')
    · rcases set_get e' with ⟨z', e'⟩ | ⟨z', e'⟩
      · cases e'
        exact absurd rfl (hn i _ _ e)
      · exact h.dis i k q O1 O2 e e'
/-- the owned object is changed -/
theorem Has.mut (h : Has W Γ σ L H) {i : Nat} {p : Addr} {O O' : OP} {o : HO} (e : Γ[i]? = some (Ent.own p O)) (hO : O'.is o L) : Has W (Γ.set i (.own p O')) σ L (upd H p o) := by
  obtain ⟨a, b, c, u, d, f⟩ := h.own i p O e
  refine ⟨fun x y z => ?_, ⟨h.fr.1, fun q y h1 h2 h3 => ?_⟩, by rw [List.length_set, h.len], fun k P z => ?_, fun k q O1 z => ?_, fun k m q O1 O2 z z' => ?_⟩
  · rw [upd_ne (ne_of_none z c)]
    exact h.ex x y z
  · obtain ⟨x, z⟩ := h.fr.2 q y h1 h2 h3
    refine ⟨x, ?_⟩
    rw [upd_ne (fun w => h2 (by rw [w]; exact b))]
    exact z
  · rcases set_get z with ⟨_, z⟩ | ⟨_, z⟩
    · cases z
    · exact h.val k P z
  · rcases set_get z with ⟨y, z2⟩ | ⟨y, z2⟩
    · cases z2
      rw [y]
      exact ⟨a, b, c, o, upd_same, hO⟩
    · obtain ⟨a', b', c', u', d', f'⟩ := h.own k q O1 z2
      refine ⟨a', b', c', u', ?_, f'⟩
      rw [upd_ne]
      · exact d'
      · intro w
        subst w
        exact y (h.dis k i _ _ _ z2 e)
  · have key : ∀ (n : Nat) (O3 : OP), (Γ.set i (.own p O'))[n]? = some (.own q O3) → ∃ O4, Γ[n]? = some (.own q O4) := fun n O3 y => by
      rcases set_get y with ⟨y1, y2⟩ | ⟨y1, y2⟩
      · cases y2
        exact ⟨O, by rw [y1]; exact e⟩
      · exact ⟨O3, y2⟩
    obtain ⟨O4, z⟩ := key k O1 z
    obtain ⟨O5, z'⟩ := key m O2 z'
    exact h.dis k m q O4 O5 z z'
/-- owned no more: shown -/
theorem Has.pub (h : Has W Γ σ L H) {i : Nat} {p : Addr} {O : OP} (e : Γ[i]? = some (Ent.own p O)) : ∃ L', Ex L L' ∧ Has W (Γ.set i (.val O.vp)) σ L' H := by
  obtain ⟨a, b, c, u, d, f⟩ := h.own i p O e
  have e0 : Ex L (upd L p u) := Ex.new c
  refine ⟨upd L p u, e0, fun x y z => ?_, ⟨h.fr.1.trans e0, fun q y h1 h2 h3 => ?_⟩, by rw [List.length_set, h.len], fun k P z => ?_, fun k q O1 z => ?_, fun k m q O1 O2 z z' => ?_⟩
  · by_cases w : x = p
    · subst w
      rw [upd_same] at z
      cases z
      exact d
    · rw [upd_ne w] at z
      exact h.ex x y z
  · obtain ⟨x, z⟩ := h.fr.2 q y h1 h2 h3
    refine ⟨?_, z⟩
    rw [upd_ne (fun w => h2 (by rw [w]; exact b))]
    exact x
  · rcases set_get z with ⟨y, z⟩ | ⟨_, z⟩
    · cases z
      rw [y]
      exact ⟨.ref p, a, p, u, rfl, upd_same, O.up e0 f⟩
    · obtain ⟨v, x, y⟩ := h.val k P z
      exact ⟨v, x, P.up e0 y⟩
  · rcases set_get z with ⟨y, z2⟩ | ⟨y, z2⟩
    · cases z2
    · obtain ⟨a', b', c', u', d', f'⟩ := h.own k q O1 z2
      refine ⟨a', b', ?_, u', d', O1.up e0 f'⟩
      rw [upd_ne]
      · exact c'
      · intro w
        subst w
        exact y (h.dis k i _ _ _ z2 e)
  · rcases set_get z with ⟨_, z⟩ | ⟨_, z⟩
    · cases z
    · rcases set_get z' with ⟨_, z'⟩ | ⟨_, z'⟩
      · cases z'
      · exact h.dis k m q O1 O2 z z'
/-- what a def that keeps the frame leaves -/
theorem Has.step (h : Has W Γ σ L H) {L' H' : Hp} (e : Ex L' H') (f : Fr (fun _ => False) L H L' H') : Has W Γ σ L' H' := by
  refine ⟨e, h.fr.trans (f.mono fun _ z => z.elim), h.len, fun i P z => ?_, fun i p O z => ?_, h.dis⟩
  · obtain ⟨v, a, b⟩ := h.val i P z
    exact ⟨v, a, P.up f.1 b⟩
  · obtain ⟨a, b, c, u, d, g⟩ := h.own i p O z
    obtain ⟨x, y⟩ := f.2 p u c (fun z => z) d
    exact ⟨a, b, x, u, y, O.up f.1 g⟩
/-- less is known -/
theorem Has.weak (h : Has W Γ σ L H) {Γ' : Cxt} (hl : Γ'.length = Γ.length) (hw : ∀ (i : Nat) (e : Ent), Γ'[i]? = some e → e = Ent.no ∨ Γ[i]? = some e) : Has W Γ' σ L H := by
  refine ⟨h.ex, h.fr, by rw [hl, h.len], fun i P e => ?_, fun i p O e => ?_, fun i j p O O' e e' => ?_⟩
  · rcases hw i _ e with z | z
    · cases z
    · exact h.val i P z
  · rcases hw i _ e with z | z
    · cases z
    · exact h.own i p O z
  · rcases hw i _ e with z | z
    · cases z
    · rcases hw j _ e' with z' | z'
      · cases z'
      · exact h.dis i j p O O' z z'
end
inductive Wk : Cxt → Cxt → Prop where
  | nil : Wk [] []
  | same {e : Ent} {a b : Cxt} (h : Wk a b) : Wk (e :: a) (e :: b)
  | no {e : Ent} {a b : Cxt} (h : Wk a b) : Wk (e :: a) (.no :: b)
theorem Wk.len : ∀ {a b : Cxt}, Wk a b → b.length = a.length
  | _, _, .nil => rfl
  | _, _, .same h => by simp [h.len]
  | _, _, .no h => by simp [h.len]
theorem Wk.get : ∀ {a b : Cxt}, Wk a b → ∀ (i : Nat) e, b[i]? = some e → e = Ent.no ∨ a[i]? = some e
  | _, _, .nil, i, e, h => by simp at h
  | _, _, .same h, 0, e, z => .inr z
  | _, _, .no h, 0, e, z => .inl (Option.some.inj z).symm
  | _, _, .same h, i + 1, e, z => by
    rcases h.get i e (by simpa using z) with q | q
    · exact .inl q
    · exact .inr (by simpa using q)
  | _, _, .no h, i + 1, e, z => by
    rcases h.get i e (by simpa using z) with q | q
    · exact .inl q
    · exact .inr (by simpa using q)
/-! ### what a reading gives -/
def Ev (W : Wd) (te : TE) (Γ : Cxt) (P : VP) (Γ' : Cxt) : Prop := ∀ σ L H, Has W Γ σ L H → ∀ Q : VK, (∀ v L' H', Ex L L' → P.is v L' → Has W Γ' σ L' H' → Q v H') → te σ H Q
def EvN (W : Wd) (te : TE) (Γ : Cxt) (O : OP) (Γ' : Cxt) : Prop := ∀ σ L H, Has W Γ σ L H → ∀ Q : VK, (∀ p o L' H', Ex L L' → W.X p → L' p = none → H' p = some o → O.is o L' → (∀ (i : Nat) (q : Addr) (O' : OP), Γ'[i]? = some (Ent.own q O') → q ≠ p) → Has W Γ' σ L' H' → Q (.ref p) H') → te σ H Q
def EvT (W : Wd) (tt : TT) (Γ : Cxt) (b : Bool) (Γ' : Cxt) : Prop := ∀ σ L H, Has W Γ σ L H → ∀ Q : Bool → Hp → Prop, (∀ L' H', Ex L L' → Has W Γ' σ L' H' → Q b H') → tt σ H Q
def EvA (W : Wd) (ta : TA) (Γ : Cxt) (Ps : List VP) (Γ' : Cxt) : Prop := ∀ σ L H, Has W Γ σ L H → ∀ Q : List V → Hp → Prop, (∀ vs L' H', Ex L L' → Paired (fun v P => P.is v L') vs Ps → Has W Γ' σ L' H' → Q vs H') → ta σ H Q
theorem pairP_up {L L' : Hp} (e : Ex L L') {vs : List V} {Ps : List VP} (h : Paired (fun v (P : VP) => P.is v L) vs Ps) : Paired (fun v (P : VP) => P.is v L') vs Ps := pair_up (f := id) e h
section
variable {W : Wd} {K : PySem.W.Frag} {Γ Γ0 Γ1 Γ2 : Cxt} {P R : VP} {O : OP} {te ta tb : TE}
theorem EvN.ev (h : EvN W te Γ O Γ1) : Ev W te Γ O.vp Γ1 := fun σ L H hs Q q => h σ L H hs Q fun p o L' H' e hx hl ho hO hn h' =>
  q (.ref p) (upd L' p o) H' (e.trans (Ex.new hl)) ⟨p, o, rfl, upd_same, O.up (Ex.new hl) hO⟩ (h'.show hl hx ho hn)
theorem Ev.imp {P' : VP} (h : Ev W te Γ P Γ1) (i : ∀ v L, P.is v L → P'.is v L) : Ev W te Γ P' Γ1 := fun σ L H hs Q q => h σ L H hs Q fun v L' H' e p h' => q v L' H' e (i v L' p) h'
theorem EvN.imp {O' : OP} (h : EvN W te Γ O Γ1) (i : ∀ v L, O.is v L → O'.is v L) : EvN W te Γ O' Γ1 := fun σ L H hs Q q => h σ L H hs Q fun p o L' H' e hx hl ho hO hn h' => q p o L' H' e hx hl ho (i o L' hO) hn h'
theorem ev_var {i : Nat} (h : Γ[i]? = some (Ent.val P)) : Ev W (tVar i) Γ P Γ := fun σ L H hs Q q => by
  obtain ⟨v, a, b⟩ := hs.val i P h
  exact ⟨v, a, q v L H (Ex.refl L) b hs⟩
theorem ev_c {v : V} : Ev W (tC v) Γ (pC v) Γ := fun σ L H hs Q q => q v L H (Ex.refl L) rfl hs
/-- what is done with two values gives a value at once -/
def Rv (r : VK → Prop) (R : VP) (L H : Hp) : Prop := ∃ z, R.is z L ∧ ∀ Q : VK, Q z H → r Q
/-- .. a new object -/
def Rn (r : VK → Prop) (O : OP) (L H : Hp) : Prop := ∃ o, O.is o L ∧ ∀ Q : VK, (∀ p, H p = none → Q (.ref p) (upd H p o)) → r Q
theorem Rv.fin {r : VK → Prop} {σ : L2.St} {L H : Hp} (h : Rv r R L H) (hs : Has W Γ σ L H) {Q : VK} (q : ∀ v L' H', Ex L L' → R.is v L' → Has W Γ σ L' H' → Q v H') : r Q := by
  obtain ⟨z, a, b⟩ := h
  exact b Q (q z L H (Ex.refl L) a hs)
theorem Rn.fin {r : VK → Prop} {σ : L2.St} {L H : Hp} (h : Rn r O L H) (hs : Has W Γ σ L H) {Q : VK} (q : ∀ p o L' H', Ex L L' → W.X p → L' p = none → H' p = some o → O.is o L' → (∀ (i : Nat) (q : Addr) (O' : OP), Γ[i]? = some (Ent.own q O') → q ≠ p) → Has W Γ σ L' H' → Q (.ref p) H') : r Q := by
  obtain ⟨o, a, b⟩ := h
  exact b Q fun p hp => q p o L (upd H p o) (Ex.refl L) (hs.fresh hp).2 (hs.fresh hp).1 upd_same a (hs.ownNe hp) (hs.alloc hp o)
theorem ev_op {r : R2} {Pa Pb : VP} (ha : Ev W ta Γ Pa Γ1) (hb : Ev W tb Γ1 Pb Γ2) (hr : ∀ x y L H, Ex L H → Pa.is x L → Pb.is y L → Rv (r x y H) R L H) : Ev W (tOp r ta tb) Γ R Γ2 := fun σ L H hs Q q =>
  ha σ L H hs _ fun x L1 H1 e1 px h1 => hb σ L1 H1 h1 _ fun y L2 H2 e2 py h2 => (hr x y L2 H2 h2.ex (Pa.up e2 px) py).fin h2 fun v L' H' e p h => q v L' H' ((e1.trans e2).trans e) p h
theorem evn_op {r : R2} {Pa Pb : VP} (ha : Ev W ta Γ Pa Γ1) (hb : Ev W tb Γ1 Pb Γ2) (hr : ∀ x y L H, Ex L H → Pa.is x L → Pb.is y L → Rn (r x y H) O L H) : EvN W (tOp r ta tb) Γ O Γ2 := fun σ L H hs Q q =>
  ha σ L H hs _ fun x L1 H1 e1 px h1 => hb σ L1 H1 h1 _ fun y L2 H2 e2 py h2 => (hr x y L2 H2 h2.ex (Pa.up e2 px) py).fin h2 fun p o L' H' e hx hl ho hO hn h => q p o L' H' ((e1.trans e2).trans e) hx hl ho hO hn h
theorem ev_un {r : V → Hp → VK → Prop} {Pa : VP} (ha : Ev W ta Γ Pa Γ1) (hr : ∀ x L H, Ex L H → Pa.is x L → Rv (r x H) R L H) : Ev W (tUn r ta) Γ R Γ1 := fun σ L H hs Q q =>
  ha σ L H hs _ fun x L1 H1 e1 px h1 => (hr x L1 H1 h1.ex px).fin h1 fun v L' H' e p h => q v L' H' (e1.trans e) p h
theorem ea_nil : EvA W tNil Γ [] Γ := fun σ L H hs Q q => q [] L H (Ex.refl L) .nil hs
theorem ea_cons {Ps : List VP} {tr : TA} (ha : Ev W ta Γ P Γ1) (hr : EvA W tr Γ1 Ps Γ2) : EvA W (tCons ta tr) Γ (P :: Ps) Γ2 := fun σ L H hs Q q =>
  ha σ L H hs _ fun x L1 H1 e1 px h1 => hr σ L1 H1 h1 _ fun vs L2 H2 e2 pv h2 => q (x :: vs) L2 H2 (e1.trans e2) (.cons (P.up e2 px) pv) h2
theorem ea_one (ha : Ev W ta Γ P Γ1) : EvA W (tCons ta tNil) Γ [P] Γ1 := ea_cons ha ea_nil
theorem ev_cb {r : List V → Hp → VK → Prop} {tr : TA} {Ps : List VP} (ha : EvA W tr Γ Ps Γ1) (hr : ∀ vs L H, Ex L H → Paired (fun v P => P.is v L) vs Ps → Rv (r vs H) R L H) : Ev W (tCB r tr) Γ R Γ1 := fun σ L H hs Q q =>
  ha σ L H hs _ fun vs L1 H1 e1 pv h1 => (hr vs L1 H1 h1.ex pv).fin h1 fun v L' H' e p h => q v L' H' (e1.trans e) p h
theorem evn_cb {r : List V → Hp → VK → Prop} {tr : TA} {Ps : List VP} (ha : EvA W tr Γ Ps Γ1) (hr : ∀ vs L H, Ex L H → Paired (fun v P => P.is v L) vs Ps → Rn (r vs H) O L H) : EvN W (tCB r tr) Γ O Γ1 := fun σ L H hs Q q =>
  ha σ L H hs _ fun vs L1 H1 e1 pv h1 => (hr vs L1 H1 h1.ex pv).fin h1 fun p o L' H' e hx hl ho hO hn h => q p o L' H' (e1.trans e) hx hl ho hO hn h
theorem pair1 {L : Hp} {vs : List V} {P : VP} (h : Paired (fun v (P : VP) => P.is v L) vs [P]) : ∃ v, vs = [v] ∧ P.is v L := by
  cases h with
  | cons r t => cases t; exact ⟨_, rfl, r⟩
theorem pair2 {L : Hp} {vs : List V} {P R : VP} (h : Paired (fun v (P : VP) => P.is v L) vs [P, R]) : ∃ v u, vs = [v, u] ∧ P.is v L ∧ R.is u L := by
  cases h with
  | cons r t => cases t with | cons r' t' => cases t'; exact ⟨_, _, rfl, r, r'⟩
/-! ints -/
theorem ev_I0 {g : Int → Int → V} {i j : Int} (ha : Ev W ta Γ (pI i) Γ1) (hb : Ev W tb Γ1 (pI j) Γ2) : Ev W (tOp (rI0 g) ta tb) Γ (pC (g i j)) Γ2 := ev_op ha hb fun x y L H e h1 h2 => ⟨g i j, rfl, fun Q q => ⟨i, j, h1, h2, q⟩⟩
theorem ev_I {C : Int → Int → Prop} {g : Int → Int → V} {i j : Int} (ha : Ev W ta Γ (pI i) Γ1) (hb : Ev W tb Γ1 (pI j) Γ2) (hc : C i j) : Ev W (tOp (rI C g) ta tb) Γ (pC (g i j)) Γ2 := ev_op ha hb fun x y L H e h1 h2 => ⟨g i j, rfl, fun Q q => ⟨i, j, h1, h2, hc, q⟩⟩
theorem ev_neg {i : Int} (ha : Ev W ta Γ (pI i) Γ1) : Ev W (tUn (rU fun i => .int (-i)) ta) Γ (pI (-i)) Γ1 := ev_un ha fun x L H e h => ⟨_, rfl, fun Q q => ⟨i, h, q⟩⟩
theorem ev_is (h : Ev W te Γ P Γ1) (e : P = R) : Ev W te Γ R Γ1 := e ▸ h
theorem ev_eq {x y : V} (ha : Ev W ta Γ (pC x) Γ1) (hb : Ev W tb Γ1 (pC y) Γ2) (h : scal x y = true) : Ev W (tOp rEq ta tb) Γ (pB (decide (x = y))) Γ2 := ev_op ha hb fun a b L H e h1 h2 => ⟨_, rfl, fun Q q => by
  have e1 : a = x := h1
  have e2 : b = y := h2
  subst e1 e2
  exact ⟨h, q⟩⟩
theorem ev_ne {x y : V} (ha : Ev W ta Γ (pC x) Γ1) (hb : Ev W tb Γ1 (pC y) Γ2) (h : scal x y = true) : Ev W (tOp rNe ta tb) Γ (pB (!decide (x = y))) Γ2 := ev_op ha hb fun a b L H e h1 h2 => ⟨_, rfl, fun Q q => by
  have e1 : a = x := h1
  have e2 : b = y := h2
  subst e1 e2
  exact ⟨h, q⟩⟩
/-! tests -/
variable {b c : Bool} {tt tu : TT}
theorem et_test (h : Ev W te Γ (pB b) Γ1) : EvT W (tTest te) Γ b Γ1 := fun σ L H hs Q q => h σ L H hs _ fun v L' H' e p h' => ⟨b, p, q L' H' e h'⟩
theorem et_B (h : Ev W te Γ (pB b) Γ1) : EvT W (tB te) Γ b Γ1 := fun σ L H hs Q q => h σ L H hs _ fun v L' H' e p h' => ⟨b, p, q L' H' e h'⟩
theorem et_not (h : EvT W tt Γ b Γ1) : EvT W (tNot tt) Γ (!b) Γ1 := fun σ L H hs Q q => h σ L H hs _ fun L' H' e h' => q L' H' e h'
theorem et_is (h : EvT W tt Γ b Γ1) (e : b = c) : EvT W tt Γ c Γ1 := e ▸ h
theorem et_and (h : EvT W tt Γ b Γ1) (k : b = true → EvT W tu Γ1 c Γ1) : EvT W (tAnd tt tu) Γ (b && c) Γ1 := fun σ L H hs Q q => h σ L H hs _ fun L' H' e h' => by
  cases b with
  | true =>
    show tu σ H' Q
    exact k rfl σ L' H' h' Q fun L2 H2 e2 h2 => q L2 H2 (e.trans e2) h2
  | false => exact q L' H' e h'
theorem et_or (h : EvT W tt Γ b Γ1) (k : b = false → EvT W tu Γ1 c Γ1) : EvT W (tOr tt tu) Γ (b || c) Γ1 := fun σ L H hs Q q => h σ L H hs _ fun L' H' e h' => by
  cases b with
  | false =>
    show tu σ H' Q
    exact k rfl σ L' H' h' Q fun L2 H2 e2 h2 => q L2 H2 (e.trans e2) h2
  | true => exact q L' H' e h'
theorem ev_andV (h : Ev W ta Γ (pB b) Γ1) (k : b = true → Ev W tb Γ1 (pB c) Γ1) : Ev W (tAndV ta tb) Γ (pB (b && c)) Γ1 := fun σ L H hs Q q => h σ L H hs _ fun v L' H' e p h' => ⟨b, p, by
  cases b with
  | true =>
    show tb σ H' Q
    exact k rfl σ L' H' h' Q fun v L2 H2 e2 p2 h2 => q v L2 H2 (e.trans e2) p2 h2
  | false => exact q (.bl false) L' H' e rfl h'⟩
theorem ev_notV (h : Ev W ta Γ (pB b) Γ1) : Ev W (tNotV ta) Γ (pB (!b)) Γ1 := fun σ L H hs Q q => h σ L H hs _ fun v L' H' e p h' => ⟨b, p, q (.bl (!b)) L' H' e rfl h'⟩
end
/-! ### statements -/
def Go (W : Wd) (k : L2.St → Hp → Prop) (Γ : Cxt) : Prop := ∀ σ L H, Has W Γ σ L H → k σ H
def RetOk (W : Wd) (Q : VK) (P : VP) (Γ : Cxt) : Prop := ∀ σ v L H, Has W Γ σ L H → P.is v L → Q v H
section
variable {W : Wd} {K : PySem.W.Frag} {Γ Γ0 Γ1 Γ2 : Cxt} {P R : VP} {O : OP} {te ta tb : TE} {k : L2.St → Hp → Prop} {D : Ends} {t u : TS} {b : Bool} {tc : TT}
theorem go_seq (h : Go W (t { D with nx := u D }) Γ) : Go W (tSeq t u D) Γ := h
theorem go_next (h : Go W D.nx Γ) : Go W (tNext D) Γ := h
theorem go_asg {i : Nat} (h : Ev W te Γ P Γ1) (g : Go W D.nx (Γ1.set i (.val P))) : Go W (tAsg te (gName i) D) Γ := fun σ L H hs => h σ L H hs _ fun v L' H' e p h' => g _ L' H' (h'.setV p i)
theorem go_new {i : Nat} (h : EvN W te Γ O Γ1) (g : ∀ p, Go W D.nx (Γ1.set i (.own p O))) : Go W (tAsg te (gName i) D) Γ := fun σ L H hs => h σ L H hs _ fun p o L' H' e hx hl ho hO hn h' => g p _ L' H' (h'.setO hx hl ho hO hn i)
theorem go_drop (h : Ev W te Γ P Γ1) (g : Go W D.nx Γ1) : Go W (tDrop te D) Γ := fun σ L H hs => h σ L H hs _ fun v L' H' e p h' => g _ L' H' h'
theorem go_ret (h : Ev W te Γ P Γ1) (g : RetOk W D.rt P Γ1) : Go W (tRet te D) Γ := fun σ L H hs => h σ L H hs _ fun v L' H' e p h' => g σ v L' H' h' p
theorem go_if (h : EvT W tc Γ b Γ1) (h1 : b = true → Go W (t D) Γ1) (h2 : b = false → Go W (u D) Γ1) : Go W (tIfS tc t u D) Γ := fun σ L H hs => h σ L H hs _ fun L' H' e h' => by
  cases b with
  | true => exact h1 rfl σ L' H' h'
  | false => exact h2 rfl σ L' H' h'
theorem go_par {i j : Nat} {tr : TA} (h : EvA W tr Γ [P, R] Γ1) (g : Go W D.nx ((Γ1.set i (.val P)).set j (.val R))) : Go W (tPar i j tr D) Γ := fun σ L H hs => h σ L H hs _ fun vs L' H' e pv h' => by
  obtain ⟨v, u, rfl, p1, p2⟩ := pair2 pv
  exact ⟨v, u, rfl, g _ L' H' ((h'.setV p1 i).setV p2 j)⟩
theorem go_pub {i : Nat} {p : Addr} (e : Γ[i]? = some (Ent.own p O)) (g : Go W k (Γ.set i (.val O.vp))) : Go W k Γ := fun σ L H hs => by
  obtain ⟨L', _, h'⟩ := hs.pub e
  exact g σ L' H h'
theorem go_weak {Γ' : Cxt} (h : Wk Γ Γ') (g : Go W k Γ') : Go W k Γ := fun σ L H hs => g σ L H (hs.weak h.len h.get)
theorem go_ex {α : Type} {i : Nat} {c : α → Prop} {F : α → VP} (e : Γ[i]? = some (Ent.val (pX c F))) (g : ∀ a, c a → Go W k (Γ.set i (.val (F a)))) : Go W k Γ := fun σ L H hs => by
  obtain ⟨v, h1, a, ha, h2⟩ := hs.val i _ e
  have z := hs.setV h2 i
  have e2 : σ.set i (some v) = σ := by
    apply List.ext_getElem?
    intro n
    by_cases hn : i = n
    · subst hn
      obtain ⟨hl, _⟩ := List.getElem?_eq_some_iff.mp h1
      rw [List.getElem?_set_self hl, h1]
    · rw [List.getElem?_set_ne hn]
  rw [e2] at z
  exact g a ha σ L H z
theorem go_cast {Γ' : Cxt} (g : Go W k Γ') (e : Γ = Γ') : Go W k Γ := e ▸ g
end
end Lg
namespace Lg
open PySem PySem.Spec PyProof.Rows L2
open Evl (Ex)
/-! ### iterators -/
def StepA (L H L' H' : Hp) : Prop := (L' = L ∧ H' = H) ∨ ∃ T o, H T = none ∧ L' = upd L T o ∧ H' = upd H T o
section
variable {W : Wd} {Γ Γ' : Cxt} {σ : L2.St} {L H L' H' : Hp}
theorem Has.stepA (h : Has W Γ σ L H) (s : StepA L H L' H') : Has W Γ σ L' H' ∧ Ex L L' := by
  rcases s with ⟨rfl, rfl⟩ | ⟨T, o, hT, rfl, rfl⟩
  · exact ⟨h, Ex.refl _⟩
  · have hl := (h.fresh hT).1
    exact ⟨(h.alloc hT o).show hl (h.fresh hT).2 upd_same (h.ownNe hT), Ex.new hl⟩
theorem StepA.at (s : StepA L H L' H') {D : Addr} {o : HO} (hl : L D = none) (ho : H D = some o) : L' D = none ∧ H' D = some o := by
  rcases s with ⟨rfl, rfl⟩ | ⟨T, u, hT, rfl, rfl⟩
  · exact ⟨hl, ho⟩
  · have ne : D ≠ T := ne_of_none ho hT
    rw [upd_ne ne, upd_ne ne]
    exact ⟨hl, ho⟩
/-- something hidden that no slot owns is changed -/
theorem Has.mutX (h : Has W Γ σ L H) {D : Addr} {o : HO} (hl : L D = none) (hx : W.X D) (hn : ∀ (i : Nat) (q : Addr) (O : OP), Γ[i]? = some (Ent.own q O) → q ≠ D) : Has W Γ σ L (upd H D o) := by
  refine ⟨fun x y z => ?_, ⟨h.fr.1, fun q y h1 h2 h3 => ?_⟩, h.len, h.val, fun k q O1 z => ?_, h.dis⟩
  · rw [upd_ne (ne_of_none z hl)]
    exact h.ex x y z
  · obtain ⟨x, z⟩ := h.fr.2 q y h1 h2 h3
    refine ⟨x, ?_⟩
    rw [upd_ne (fun w => h2 (by rw [w]; exact hx))]
    exact z
  · obtain ⟨a', b', c', u', d', f'⟩ := h.own k q O1 z
    refine ⟨a', b', c', u', ?_, f'⟩
    rw [upd_ne (hn k q O1 z)]
    exact d'
theorem Has.setN (h : Has W Γ σ L H) (j : Nat) : Has W (Γ.set j .no) (σ.set j none) L H := by
  refine ⟨h.ex, h.fr, by rw [List.length_set, List.length_set, h.len], fun i P' e => ?_, fun i q O e => ?_, fun i k p O O' e e' => ?_⟩
  · rcases set_get e with ⟨_, e⟩ | ⟨z, e⟩
    · cases e
    · rw [List.getElem?_set_ne (fun y => z y.symm)]
      exact h.val i P' e
  · rcases set_get e with ⟨_, e⟩ | ⟨z, e⟩
    · cases e
    · rw [List.getElem?_set_ne (fun y => z y.symm)]
      exact h.own i q O e
  · rcases set_get e with ⟨_, e⟩ | ⟨z, e⟩
    · cases e
    · rcases set_get e' with ⟨_, e'⟩ | ⟨z', e'⟩
      · cases e'
      · exact h.dis i k p O O' e e'
def wipeC (Γ : Cxt) : List Nat → Cxt
  | [] => Γ
  | v :: vs => (wipeC Γ vs).set v .no
theorem Has.wipe (h : Has W Γ σ L H) : ∀ vs : List Nat, Has W (wipeC Γ vs) (L2.wipe σ vs) L H
  | [] => h
  | v :: vs => (h.wipe vs).setN v
theorem wipeC_out {i : Nat} : ∀ {vs : List Nat}, i ∉ vs → (wipeC Γ vs)[i]? = Γ[i]?
  | [], _ => rfl
  | v :: vs, h => by
    have h' : i ≠ v ∧ i ∉ vs := by simpa using h
    show ((wipeC Γ vs).set v .no)[i]? = _
    rw [List.getElem?_set_ne (fun e => h'.1 e.symm), wipeC_out h'.2]
theorem wipe_eq {σ2 : L2.St} : ∀ {vs : List Nat}, (L2.wipe σ vs).length = σ2.length → (∀ i, i ∉ vs → σ2[i]? = (L2.wipe σ vs)[i]?) → L2.wipe σ2 vs = L2.wipe σ vs := by
  intro vs hl h
  have hN : ∀ (τ : L2.St) (vs : List Nat) (i : Nat), i ∈ vs → i < τ.length → (L2.wipe τ vs)[i]? = some none := by
    intro τ vs
    induction vs with
    | nil => intro i hi; cases hi
    | cons v vs ih =>
      intro i hi hlt
      show ((L2.wipe τ vs).set v none)[i]? = some none
      by_cases e : v = i
      · subst e
        rw [List.getElem?_set_self (by rw [wipe_length]; exact hlt)]
      · rw [List.getElem?_set_ne e]
        rcases List.mem_cons.mp hi with q | q
        · exact absurd q.symm e
        · exact ih i q hlt
  apply List.ext_getElem?
  intro i
  have hl' : σ.length = σ2.length := by rw [← hl, wipe_length]
  by_cases hi : i ∈ vs
  · by_cases hlt : i < σ.length
    · rw [hN σ2 vs i hi (by omega), hN σ vs i hi hlt]
    · rw [List.getElem?_eq_none (by rw [wipe_length]; omega), List.getElem?_eq_none (by rw [wipe_length]; omega)]
  · rw [wipe_out hi, h i hi]
end
structure IterOk {α : Type} (J : It) (n : Nat) (c : Nat → α → Prop) (f : α → VP) (L1 : Hp) : Prop where
  goes : ∀ i L H, i < n → Ex L1 L → Ex L H → J.go i H
  stops : ∀ L H, Ex L1 L → Ex L H → J.stop n H
  yields : ∀ i L H v H', i < n → Ex L1 L → Ex L H → J.yld i H v H' → ∃ L' x, StepA L H L' H' ∧ c i x ∧ (f x).is v L'
def EvI {α : Type} (W : Wd) (wi : TI) (Γ : Cxt) (n : Nat) (c : Nat → α → Prop) (f : α → VP) (Γ' : Cxt) : Prop :=
  ∀ σ L H, Has W Γ σ L H → ∀ R : It → Hp → Prop, (∀ J L' H', Ex L L' → Has W Γ' σ L' H' → IterOk J n c f L' → R J H') → wi σ H R
section
variable {W : Wd} {K : PySem.W.Frag} {Γ Γ0 Γ1 Γ2 : Cxt} {α β : Type} {f : α → VP} {g : β → VP} {l : List α} {m : List β} {tl : TE} {ta : TA}
theorem pL_at {L : Hp} {v : V} (h : (pL f l).is v L) : ∃ a vs, v = .ref a ∧ L a = some (.lst vs) ∧ Paired (fun v x => (f x).is v L) vs l := by
  obtain ⟨a, o, rfl, h1, vs, rfl, h2⟩ := h
  exact ⟨a, vs, rfl, h1, h2⟩
theorem pT_at {L : Hp} {v : V} (h : (pT f l).is v L) : ∃ a vs, v = .ref a ∧ L a = some (.tup vs) ∧ Paired (fun v x => (f x).is v L) vs l := by
  obtain ⟨a, o, rfl, h1, vs, rfl, h2⟩ := h
  exact ⟨a, vs, rfl, h1, h2⟩
theorem ei_list (h : Ev W tl Γ (pL f l) Γ1) : EvI W (iList K tl) Γ l.length (fun i x => l[i]? = some x) f Γ1 := fun σ L H hs R r => h σ L H hs _ fun v L1 H1 e p h1 => by
  obtain ⟨a, vs, rfl, hL, hp⟩ := pL_at p
  have hlen := pair_len hp
  have w : Walk (Itl K a) vs.length (fun H => SqL K H a vs) (YAt vs) := walk_list
  have sq : ∀ L H, Ex L1 L → Ex L H → SqL K H a vs := fun L H e1 e2 => SqL.of (e2 a _ (e1 a _ hL))
  refine ⟨a, rfl, ⟨vs, SqL.of (h1.ex a _ hL)⟩, r _ L1 H1 e h1 ⟨fun i L H hi e1 e2 => w.goes i H (by omega) (sq L H e1 e2), fun L H e1 e2 => ?_, fun i L H v H' hi e1 e2 y => ?_⟩⟩
  · rw [← hlen]
    exact w.stops H (sq L H e1 e2)
  · obtain ⟨rfl, hv⟩ := w.yields i H v H' (by omega) (sq L H e1 e2) y
    obtain ⟨x, hx, px⟩ := pair_get' hp hv
    exact ⟨L, x, .inl ⟨rfl, rfl⟩, hx, (f x).up e1 px⟩
theorem ei_tup (h : Ev W tl Γ (pT f l) Γ1) : EvI W (iTup K tl) Γ l.length (fun i x => l[i]? = some x) f Γ1 := fun σ L H hs R r => h σ L H hs _ fun v L1 H1 e p h1 => by
  obtain ⟨a, vs, rfl, hL, hp⟩ := pT_at p
  have hlen := pair_len hp
  have w : Walk (Itt K a) vs.length (fun H => SqT K H a vs) (YAt vs) := walk_tup
  have sq : ∀ L H, Ex L1 L → Ex L H → SqT K H a vs := fun L H e1 e2 => SqT.of (e2 a _ (e1 a _ hL))
  refine ⟨a, rfl, ⟨vs, SqT.of (h1.ex a _ hL)⟩, r _ L1 H1 e h1 ⟨fun i L H hi e1 e2 => w.goes i H (by omega) (sq L H e1 e2), fun L H e1 e2 => ?_, fun i L H v H' hi e1 e2 y => ?_⟩⟩
  · rw [← hlen]
    exact w.stops H (sq L H e1 e2)
  · obtain ⟨rfl, hv⟩ := w.yields i H v H' (by omega) (sq L H e1 e2) y
    obtain ⟨x, hx, px⟩ := pair_get' hp hv
    exact ⟨L, x, .inl ⟨rfl, rfl⟩, hx, (f x).up e1 px⟩
theorem ei_enum (h : EvA W ta Γ [pL f l] Γ1) : EvI W (iEnum K ta) Γ l.length (fun i (x : Nat × α) => x.1 = i ∧ l[i]? = some x.2) (fun x => pTu [pI x.1, f x.2]) Γ1 := fun σ L H hs R r => h σ L H hs _ fun vs0 L1 H1 e p h1 => by
  obtain ⟨v, rfl, p1⟩ := pair1 p
  obtain ⟨a, vs, rfl, hL, hp⟩ := pL_at p1
  have hlen := pair_len hp
  have w : Walk (Ite K a) vs.length (fun H => SqL K H a vs) _ := walk_enum
  have sq : ∀ L H, Ex L1 L → Ex L H → SqL K H a vs := fun L H e1 e2 => SqL.of (e2 a _ (e1 a _ hL))
  refine ⟨a, vs, rfl, SqL.of (h1.ex a _ hL), r _ L1 H1 e h1 ⟨fun i L H hi e1 e2 => w.goes i H (by omega) (sq L H e1 e2), fun L H e1 e2 => ?_, fun i L H v H' hi e1 e2 y => ?_⟩⟩
  · rw [← hlen]
    exact w.stops H (sq L H e1 e2)
  · obtain ⟨T, u, z, rfl, hT, rfl, h5, h6⟩ := w.yields i H v H' (by omega) (sq L H e1 e2) y
    obtain ⟨x, hx, px⟩ := pair_get' hp h6
    cases h5
    have hl : L T = none := Evl.fresh_back e2 hT
    exact ⟨upd L T _, (i, x), .inr ⟨T, _, hT, rfl, rfl⟩, ⟨rfl, hx⟩, T, _, rfl, upd_same, _, rfl, .cons rfl (.cons ((f x).up (e1.trans (Ex.new hl)) px) .nil)⟩
theorem ei_zip (h : EvA W ta Γ [pL f l, pL g m] Γ1) {n : Nat} (hn : n = min l.length m.length) : EvI W (iZip K ta) Γ n (fun i (x : α × β) => l[i]? = some x.1 ∧ m[i]? = some x.2) (fun x => pTu [f x.1, g x.2]) Γ1 := fun σ L H hs R r => h σ L H hs _ fun vs0 L1 H1 e p h1 => by
  obtain ⟨v, u, rfl, p1, q1⟩ := pair2 p
  obtain ⟨a, vs, rfl, hL, hp⟩ := pL_at p1
  obtain ⟨b, us, rfl, hM, hq⟩ := pL_at q1
  have hlen := pair_len hp
  have hlen2 := pair_len hq
  have w : Walk (Itz K a b) n (fun H => SqL K H a vs ∧ SqL K H b us) _ := walk_zip (by rw [hlen, hlen2]; exact hn)
  have sq : ∀ L H, Ex L1 L → Ex L H → SqL K H a vs ∧ SqL K H b us := fun L H e1 e2 => ⟨SqL.of (e2 a _ (e1 a _ hL)), SqL.of (e2 b _ (e1 b _ hM))⟩
  refine ⟨a, b, vs, us, rfl, SqL.of (h1.ex a _ hL), SqL.of (h1.ex b _ hM), r _ L1 H1 e h1 ⟨fun i L H hi e1 e2 => w.goes i H hi (sq L H e1 e2), fun L H e1 e2 => w.stops H (sq L H e1 e2), fun i L H v H' hi e1 e2 y => ?_⟩⟩
  obtain ⟨T, u, z, rfl, hT, rfl, h5, h6⟩ := w.yields i H v H' hi (sq L H e1 e2) y
  obtain ⟨x, hx, px⟩ := pair_get' hp h5
  obtain ⟨y, hy, py⟩ := pair_get' hq h6
  have hl : L T = none := Evl.fresh_back e2 hT
  have ee := e1.trans (Ex.new (o := HO.tup [u, z]) hl)
  exact ⟨upd L T _, (x, y), .inr ⟨T, _, hT, rfl, rfl⟩, ⟨hx, hy⟩, T, _, rfl, upd_same, _, rfl, .cons ((f x).up ee px) (.cons ((g y).up ee py) .nil)⟩
theorem ei_rng1 {j : Int} (h : EvA W ta Γ [pI j] Γ1) (h1 : -(2 ^ 62) ≤ j) (h2 : j < 2 ^ 62) : EvI W (iRng1 ta) Γ j.toNat (fun i (x : Nat) => x = i) (fun x => pI x) Γ1 := fun σ L H hs R r => h σ L H hs _ fun vs0 L1 H1 e p h3 => by
  obtain ⟨v, rfl, p1⟩ := pair1 p
  have p2 : v = .int j := p1
  subst p2
  have w : Walk (Itr 0 j.toNat) j.toNat (fun _ => True) _ := walk_range
  refine ⟨j, rfl, h1, h2, r _ L1 H1 e h3 ⟨fun i L H hi e1 e2 => w.goes i H hi trivial, fun L H e1 e2 => w.stops H trivial, fun i L H v H' hi e1 e2 y => ?_⟩⟩
  obtain ⟨rfl, q⟩ := w.yields i H v H' hi trivial y
  refine ⟨L, i, .inl ⟨rfl, rfl⟩, rfl, ?_⟩
  show v = .int i
  rw [q]
  show V.int (0 + (i : Int)) = V.int (i : Int)
  rw [Int.zero_add]
theorem ei_rev (h : EvA W ta Γ [pL f l] Γ1) : EvI W (iRev K ta) Γ l.length (fun i x => l.reverse[i]? = some x) f Γ1 := fun σ L H hs R r => h σ L H hs _ fun vs0 L1 H1 e p h1 => by
  obtain ⟨v, rfl, p1⟩ := pair1 p
  obtain ⟨a, vs, rfl, hL, hp⟩ := pL_at p1
  have hlen := pair_len hp
  have w : Walk (Itv K a vs.length) vs.length (fun H => SqL K H a vs) _ := walk_rev
  have sq : ∀ L H, Ex L1 L → Ex L H → SqL K H a vs := fun L H e1 e2 => SqL.of (e2 a _ (e1 a _ hL))
  refine ⟨a, vs, rfl, SqL.of (h1.ex a _ hL), r _ L1 H1 e h1 ⟨fun i L H hi e1 e2 => w.goes i H (by omega) (sq L H e1 e2), fun L H e1 e2 => ?_, fun i L H v H' hi e1 e2 y => ?_⟩⟩
  · rw [← hlen]
    exact w.stops H (sq L H e1 e2)
  · obtain ⟨rfl, hv⟩ := w.yields i H v H' (by omega) (sq L H e1 e2) y
    obtain ⟨x, hx, px⟩ := pair_get' hp hv
    refine ⟨L, x, .inl ⟨rfl, rfl⟩, ?_, (f x).up e1 px⟩
    rw [List.getElem?_reverse hi, ← hlen]
    exact hx
theorem ei_str {z : Str} {te : TE} (h : Ev W te Γ (pS z) Γ1) : EvI W (iStr te) Γ z.cps.size (fun i (x : Nat) => z.cps[i]? = some x) (fun x => pS ⟨#[x]⟩) Γ1 := fun σ L H hs R r => h σ L H hs _ fun v L1 H1 e p h1 => by
  have w : Walk (Its z) z.cps.size (fun _ => True) _ := walk_str
  refine ⟨z, p, r _ L1 H1 e h1 ⟨fun i L H hi e1 e2 => w.goes i H hi trivial, fun L H e1 e2 => w.stops H trivial, fun i L H v H' hi e1 e2 y => ?_⟩⟩
  obtain ⟨rfl, x, hx, q⟩ := w.yields i H v H' hi trivial y
  exact ⟨L, x, .inl ⟨rfl, rfl⟩, hx, q⟩
theorem EvI.imp {c c' : Nat → α → Prop} {wi : TI} {n : Nat} (h : EvI W wi Γ n c f Γ1) (i : ∀ k x, c k x → c' k x) : EvI W wi Γ n c' f Γ1 := fun σ L H hs R r => h σ L H hs R fun J L' H' e h' it =>
  r J L' H' e h' ⟨it.goes, it.stops, fun k L H v H' hk e1 e2 y => by
    obtain ⟨L2, x, a, b, d⟩ := it.yields k L H v H' hk e1 e2 y
    exact ⟨L2, x, a, i k x b, d⟩⟩
end
/-! ### targets -/
structure Tg (g : TG) (P : VP) (js : List Nat) (up : Cxt → Cxt) : Prop where
  run : ∀ (W : Wd) (Δ : Cxt) (σ : L2.St) (L H : Hp) (v : V) (k : L2.St → Hp → Prop), Has W Δ σ L H → P.is v L → (∀ σ2, Has W (up Δ) σ2 L H → σ2.length = σ.length → (∀ i, i ∉ js → σ2[i]? = σ[i]?) → k σ2 H) → g v σ H k
  keep : ∀ (Δ : Cxt) (i : Nat), i ∉ js → (up Δ)[i]? = Δ[i]?
theorem tg_name {P : VP} (j : Nat) : Tg (gName j) P [j] (fun Δ => Δ.set j (.val P)) where
  run := fun W Δ σ L H v k hs p q => q _ (hs.setV p j) (List.length_set ..) fun i hi => by rw [List.getElem?_set_ne (fun e => hi (by rw [e]; exact List.mem_singleton.mpr rfl))]
  keep := fun Δ i hi => by rw [List.getElem?_set_ne (fun e => hi (by rw [e]; exact List.mem_singleton.mpr rfl))]
theorem tg_pair {K : PySem.W.Frag} {P R : VP} (i j : Nat) : Tg (gTup K 2 (gCons (gName i) (gCons (gName j) gNil))) (pTu [P, R]) [i, j] (fun Δ => (Δ.set i (.val P)).set j (.val R)) where
  run := fun W Δ σ L H v k hs p q => by
    obtain ⟨a, vs, rfl, h1, h2⟩ := pT_at p
    obtain ⟨x, y, rfl, p1, p2⟩ := pair2 h2
    refine ⟨a, [x, y], rfl, SqT.of (hs.ex a _ h1), rfl, x, [y], rfl, y, [], rfl, rfl, q _ ((hs.setV p1 i).setV p2 j) ?_ fun n hn => ?_⟩
    · rw [List.length_set, List.length_set]
    · have hn' : n ≠ i ∧ n ≠ j := by simpa using hn
      rw [List.getElem?_set_ne (fun e => hn'.2 e.symm), List.getElem?_set_ne (fun e => hn'.1 e.symm)]
  keep := fun Δ n hn => by
    have hn' : n ≠ i ∧ n ≠ j := by simpa using hn
    rw [List.getElem?_set_ne (fun e => hn'.2 e.symm), List.getElem?_set_ne (fun e => hn'.1 e.symm)]
/-! ### loops -/
def Sub (W1 W : Wd) : Prop := ∀ Γ σ L H, Has W1 Γ σ L H → Has W Γ σ L H
theorem sub_of {W : Wd} {Γ : Cxt} {σ : L2.St} {L1 H1 : Hp} (h : Has W Γ σ L1 H1) {X1 : Addr → Prop} (hX : ∀ p, H1 p = none → X1 p) (hs : ∀ q, X1 q → W.X q) : Sub ⟨X1, L1, H1, hX⟩ W := fun Γ' σ' L H h' =>
  ⟨h'.ex, h.fr.trans (h'.fr.mono hs), h'.len, h'.val, fun i p O e => let ⟨a, b, c⟩ := h'.own i p O e; ⟨a, hs p b, c⟩, h'.dis⟩
theorem Go.sub {W1 W : Wd} {k : L2.St → Hp → Prop} {Γ : Cxt} (s : Sub W1 W) (h : Go W k Γ) : Go W1 k Γ := fun σ L H hs => h σ L H (s _ _ _ _ hs)
theorem RetOk.sub {W1 W : Wd} {Q : VK} {P : VP} {Γ : Cxt} (s : Sub W1 W) (h : RetOk W Q P Γ) : RetOk W1 Q P Γ := fun σ v L H hs p => h σ v L H (s _ _ _ _ hs) p
section
variable {W : Wd} {K : PySem.W.Frag} {Γ Γ0 Γ1 Γ2 : Cxt} {α β : Type} {c : Nat → α → Prop} {f : α → VP} {n : Nat} {wi : TI} {g : TG} {tb : TS} {D : Ends} {js : List Nat} {up : α → Cxt → Cxt}
theorem go_for (hi : EvI W wi Γ n c f Γ0) (hg : ∀ x, Tg g (f x) js (up x)) (I : Nat → Cxt → Prop) (h0 : I 0 Γ0)
    (hs : ∀ (W1 : Wd) (N : L2.St → Hp → Prop) (i : Nat) (x : α) (Δ : Cxt), Sub W1 W → i < n → c i x → I i Δ → (∀ Δ', I (i + 1) Δ' → Go W1 N Δ') → Go W1 (tb { D with nx := N, ct := N, bk := D.nx }) (up x Δ))
    (hd : ∀ Δ, I n Δ → Go W D.nx Δ) : Go W (tFor wi g tb D) Γ := fun σ L H h => hi σ L H h _ fun J L1 H1 e h1 it => by
  have sb : Sub ⟨W.X, L1, H1, fun p hp => (h1.fresh hp).2⟩ W := sub_of h1 _ fun _ z => z
  have h1' : Has ⟨W.X, L1, H1, fun p hp => (h1.fresh hp).2⟩ Γ0 σ L1 H1 := ⟨h1.ex, Fr.refl, h1.len, h1.val, h1.own, h1.dis⟩
  generalize hW1 : (⟨W.X, L1, H1, fun p hp => (h1.fresh hp).2⟩ : Wd) = W1 at sb h1'
  have hL : W1.L = L1 := by rw [← hW1]
  refine ⟨fun i m σ H => m = n - i ∧ i ≤ n ∧ ∃ Δ L, I i Δ ∧ Has W1 Δ σ L H, ⟨n, by simp, Nat.zero_le _, Γ0, L1, h0, h1'⟩, ?_⟩
  rintro i m σ' H' ⟨rfl, hle, Δ, L', hI, h'⟩
  have e1 : Ex L1 L' := by
    have z := h'.fr.1
    rw [hL] at z
    exact z
  by_cases hlt : i < n
  · refine .inr ⟨it.goes i L' H' hlt e1 h'.ex, fun σ2 H2 => ∃ Δ L, I (i + 1) Δ ∧ Has W1 Δ σ2 L H2, fun σ2 H2 q => ⟨n - (i + 1), by omega, rfl, hlt, q⟩, fun v H2 y => ?_⟩
    obtain ⟨L2, x, st, hc, hv⟩ := it.yields i L' H' v H2 hlt e1 h'.ex y
    obtain ⟨h2, e2⟩ := h'.stepA st
    exact (hg x).run W1 Δ σ' L2 H2 v _ h2 hv fun σ2 h3 _ _ => hs W1 _ i x Δ sb hlt hc hI (fun Δ' hI' σ4 L4 H4 h4 => ⟨Δ', L4, hI', h4⟩) σ2 L2 H2 h3
  · have e : i = n := by omega
    subst e
    exact .inl ⟨it.stops L' H' e1 h'.ex, hd Δ hI σ' L' H' (sb _ _ _ _ h')⟩
theorem go_while {tc : TT} {I : Nat → Cxt → Prop} (m0 : Nat) (h0 : I m0 Γ)
    (hs : ∀ m Δ, I m Δ → ∃ b Δ1, EvT W tc Δ b Δ1 ∧ (b = true → ∀ N : L2.St → Hp → Prop, (∀ m' Δ', m' < m → I m' Δ' → Go W N Δ') → Go W (tb { D with nx := N, ct := N, bk := D.nx }) Δ1) ∧ (b = false → Go W D.nx Δ1)) : Go W (tWhile tc tb D) Γ := fun σ L H h => by
  refine ⟨fun m σ H => ∃ Δ L, I m Δ ∧ Has W Δ σ L H, ⟨m0, Γ, L, h0, h⟩, ?_⟩
  rintro m σ' H' ⟨Δ, L', hI, h'⟩
  obtain ⟨b, Δ1, ht, hy, hn⟩ := hs m Δ hI
  refine ht σ' L' H' h' _ fun L2 H2 e2 h2 => ?_
  cases b with
  | true => exact ⟨fun σ4 H4 => ∃ m', m' < m ∧ ∃ Δ L, I m' Δ ∧ Has W Δ σ4 L H4, fun σ4 H4 q => q, hy rfl _ (fun m' Δ' hm hI' σ4 L4 H4 h4 => ⟨m', hm, Δ', L4, hI', h4⟩) σ' L2 H2 h2⟩
  | false => exact hn rfl σ' L2 H2 h2
/-! ### comprehensions -/
theorem evn_lc0 {te : TE} {vs : List Nat} (hi : EvI W wi Γ n c f Γ0) (hg : ∀ x, Tg g (f x) js (up x)) (hjs : ∀ j ∈ js, j ∈ vs) (hz : n ≤ 100000)
    (Γs : Nat → Cxt) (h0 : Γs 0 = Γ0) (hv : ∀ (i k : Nat) (P : VP), (Γs (i + 1))[k]? = some (Ent.val P) → (Γs i)[k]? = some (Ent.val P))
    (ho : ∀ (i k : Nat) (p : Addr) (O : OP), (Γs (i + 1))[k]? = some (Ent.own p O) → ∃ O', (Γs i)[k]? = some (Ent.own p O')) (hw : ∀ (k : Nat) (p : Addr) (O : OP), Γ0[k]? = some (Ent.own p O) → k ∉ vs) (hlen : ∀ i, (Γs (i + 1)).length = (Γs i).length)
    (A : Nat → List V → Hp → Prop) (hA : ∀ i acc L L', Ex L L' → A i acc L → A i acc L') (a0 : ∀ L, A 0 [] L) (R : Nat → VP) (hR : ∀ i acc y L, acc.length = i → A i acc L → (R i).is y L → A (i + 1) (acc ++ [y]) L)
    (he : ∀ (W1 : Wd) (i : Nat) (x : α), i < n → c i x → Ev W1 te (up x (wipeC (Γs i) vs)) (R i) (up x (wipeC (Γs (i + 1)) vs)))
    (O : OP) (hO : ∀ acc L, acc.length = n → A n acc L → O.is (.lst acc) L) : EvN W (tLc wi g tYes te vs) Γ O (Γs n) := fun σ L H h Q q => hi σ L H h _ fun J L1 H1 e h1 it D hD => by
  have hl1 := (h1.fresh hD).1
  have hx := (h1.fresh hD).2
  have own0 : ∀ (i k : Nat) (p : Addr) (O : OP), (Γs i)[k]? = some (Ent.own p O) → ∃ O', Γ0[k]? = some (Ent.own p O') := by
    intro i
    induction i with
    | zero => intro k p O z; rw [h0] at z; exact ⟨O, z⟩
    | succ i ih =>
      intro k p O z
      obtain ⟨O', z'⟩ := ho i k p O z
      exact ih k p O' z'
  have ownD : ∀ (i k : Nat) (p : Addr) (O : OP), (Γs i)[k]? = some (Ent.own p O) → p ≠ D := fun i k p O z => by
    obtain ⟨O', z'⟩ := own0 i k p O z
    exact h1.ownNe hD k p O' z'
  have ownV : ∀ (i k : Nat) (p : Addr) (O : OP), (Γs i)[k]? = some (Ent.own p O) → k ∉ vs := fun i k p O z => by
    obtain ⟨O', z'⟩ := own0 i k p O z
    exact hw k p O' z'
  refine ⟨fun i m H' => m = n - i ∧ i ≤ n ∧ ∃ L' acc, Ex L1 L' ∧ Has W (Γs i) σ L' H' ∧ L' D = none ∧ H' D = some (.lst acc) ∧ acc.length = i ∧ A i acc L', ⟨n, by simp, Nat.zero_le _, L1, [], Ex.refl _, ?_, hl1, upd_same, rfl, a0 L1⟩, ?_⟩
  · rw [h0]
    exact h1.alloc hD _
  rintro i m H' ⟨rfl, hle, L', acc, e1, h', hlD, hD', hacc, hAi⟩
  by_cases hlt : i < n
  · refine .inr ⟨it.goes i L' H' hlt e1 h'.ex, _, fun H2 q => ⟨n - (i + 1), by omega, rfl, hlt, q⟩, fun v H2 y => ?_⟩
    obtain ⟨L2, x, st, hc, hvx⟩ := it.yields i L' H' v H2 hlt e1 h'.ex y
    obtain ⟨h2, e2⟩ := h'.stepA st
    obtain ⟨hl2, hD2⟩ := st.at hlD hD'
    -- the turn's world: the list at D is not to be changed
    have hX1 : ∀ p, H2 p = none → (W.X p ∧ p ≠ D) := fun p hp => ⟨(h2.fresh hp).2, fun z => by rw [z, hD2] at hp; cases hp⟩
    have h3 : Has ⟨fun q => W.X q ∧ q ≠ D, L2, H2, hX1⟩ (Γs i) σ L2 H2 := ⟨h2.ex, Fr.refl, h2.len, h2.val, fun k p O z => let ⟨a, b, r⟩ := h2.own k p O z; ⟨a, ⟨b, ownD i k p O z⟩, r⟩, h2.dis⟩
    have sb : Sub ⟨fun q => W.X q ∧ q ≠ D, L2, H2, hX1⟩ W := sub_of h2 _ fun _ z => z.1
    refine (hg x).run _ _ _ L2 H2 v _ (h3.wipe vs) hvx fun σ2 h4 hl4 ag => ?_
    have we : _root_.L2.wipe σ2 vs = _root_.L2.wipe σ vs := wipe_eq hl4.symm fun k hk => ag k fun z => hk (hjs k z)
    refine ⟨we, ?_⟩
    show te σ2 H2 _
    refine he _ i x hlt hc σ2 L2 H2 h4 _ fun y L4 H4 e4 hy h5 => ?_
    obtain ⟨hl5, hD5⟩ := h5.fr.2 D _ hl2 (fun z => z.2 rfl) hD2
    refine ⟨acc, hD5, by rw [hacc]; exact Nat.lt_of_lt_of_le (Nat.lt_of_lt_of_le hlt hz) (by decide), L4, acc ++ [y], (e1.trans e2).trans e4, ?_, hl5, upd_same, by simp [hacc], hR i acc y L4 hacc (hA i acc _ _ (e2.trans e4) hAi) hy⟩
    have back : Has W (Γs (i + 1)) σ L4 H4 := by
      have h6 := sb _ _ _ _ h5
      have kp : ∀ k, k ∉ vs → (up x (wipeC (Γs (i + 1)) vs))[k]? = (Γs (i + 1))[k]? ∧ σ2[k]? = σ[k]? := fun k hk => by
        rw [(hg x).keep _ _ (fun z => hk (hjs k z)), wipeC_out hk, ag k (fun z => hk (hjs k z)), wipe_out hk]
        exact ⟨rfl, rfl⟩
      refine ⟨h6.ex, h6.fr, by rw [hlen, h2.len], fun k P z => ?_, fun k p O z => ?_, fun k k' p O O' z z' => ?_⟩
      · obtain ⟨u, a, b⟩ := h2.val k P (hv i k P z)
        exact ⟨u, a, P.up e4 b⟩
      · obtain ⟨a, b⟩ := kp k (ownV _ k p O z)
        have w := h6.own k p O (by rw [a]; exact z)
        rw [b] at w
        exact w
      · obtain ⟨a, b⟩ := kp k (ownV _ k p O z)
        obtain ⟨a', b'⟩ := kp k' (ownV _ k' p O' z')
        exact h6.dis k k' p O O' (by rw [a]; exact z) (by rw [a']; exact z')
    exact back.mutX hl5 hx (ownD (i + 1))
  · have ei : i = n := by omega
    subst ei
    exact .inl ⟨it.stops L' H' e1 h'.ex, q D (.lst acc) L' H' (e.trans e1) hx hlD hD' (hO acc L' hacc hAi) (ownD i) h'⟩
def ownOut (Γ : Cxt) (vs : List Nat) : Bool := vs.all fun k => match Γ[k]? with | some (.own _ _) => false | _ => true
theorem ownOut_of {Γ : Cxt} {vs : List Nat} (h : ownOut Γ vs = true) : ∀ (k : Nat) (p : Addr) (O : OP), Γ[k]? = some (Ent.own p O) → k ∉ vs := fun k p O e hk => by
  have z := List.all_eq_true.mp h k hk
  rw [e] at z
  cases z
/-- nothing owned changes; what is made is told item by item -/
theorem evn_lc {te : TE} {vs : List Nat} {out : List β} {r : β → VP} (hi : EvI W wi Γ n c f Γ0) (hg : ∀ x, Tg g (f x) js (up x)) (hjs : ∀ j ∈ js, j ∈ vs) (hz : n ≤ 100000) (ho : ownOut Γ0 vs = true) (hn : out.length = n)
    (he : ∀ (W1 : Wd) (i : Nat) (x : α) (y : β), i < n → c i x → out[i]? = some y → Ev W1 te (up x (wipeC Γ0 vs)) (r y) (up x (wipeC Γ0 vs))) : EvN W (tLc wi g tYes te vs) Γ (oL r out) Γ0 := by
  refine evn_lc0 hi hg hjs hz (fun _ => Γ0) rfl (fun _ _ _ z => z) (fun _ _ _ O z => ⟨O, z⟩) (ownOut_of ho) (fun _ => rfl) (fun i acc L => Paired (fun v x => (r x).is v L) acc (out.take i)) (fun i acc L L' e p => pair_up e p) (fun L => .nil)
    (fun i => pX (fun y => out[i]? = some y) r) (fun i acc y L hl p ⟨z, h1, h2⟩ => ?_) (fun W1 i x hi hc => ?_) _ (fun acc L hl p => ⟨acc, rfl, ?_⟩)
  · rw [List.take_add_one, h1]
    exact pair_app p (.cons h2 .nil)
  · obtain ⟨y, hy⟩ : ∃ y, out[i]? = some y := ⟨out[i], List.getElem?_eq_getElem (by omega)⟩
    exact (he W1 i x y hi hc hy).imp fun v L p => ⟨y, hy, p⟩
  · rw [List.take_of_length_le (by omega)] at p
    exact p
end
end Lg
namespace Lg
open PySem PySem.Spec PyProof.Rows L2
open Evl (Ex)
/-! ### promises -/
def spF {α : Type} (Pre : α → Prop) (As : α → List VP) (R : α → VP) : Sp := fun vs H Q _ => ∃ (a : α) (L : Hp), Pre a ∧ Ex L H ∧ Paired (fun v (P : VP) => P.is v L) vs (As a) ∧
  ∀ v L' H', Ex L' H' → Fr (fun _ => False) L H L' H' → (R a).is v L' → Q v H'
/-- the first argument is an object of the caller's own that the def changes -/
def spP {α : Type} (Pre : α → Prop) (O : α → OP) (As : α → List VP) (R : α → VP) (O' : α → OP) : Sp := fun vs H Q _ => ∃ (a : α) (L : Hp) (p : Addr) (ws : List V), vs = .ref p :: ws ∧ Pre a ∧ Ex L H ∧ L p = none ∧ (∃ o, H p = some o ∧ (O a).is o L) ∧
  Paired (fun v (P : VP) => P.is v L) ws (As a) ∧ ∀ v L' H', Ex L' H' → Fr (fun q => q = p) L H L' H' → L' p = none → (∃ o, H' p = some o ∧ (O' a).is o L') → (R a).is v L' → Q v H'
def ctx0 (n : Nat) (Ps : List VP) : Cxt := Ps.map Ent.val ++ List.replicate (n - Ps.length) Ent.no
section
variable {W : Wd} {K : PySem.W.Frag} {Γ Γ0 Γ1 Γ2 : Cxt} {α β : Type}
theorem has0 {n : Nat} {N : List Str} (hn : N.length = n) {vs : List V} {Ps : List VP} {L H : Hp} (ex : Ex L H) (hp : Paired (fun v (P : VP) => P.is v L) vs Ps) (hx : ∀ p, H p = none → W.X p) (hL : W.L = L) (hH : W.H = H) : Has W (ctx0 n Ps) (L2.start N vs) L H := by
  have hl := pair_len hp
  refine ⟨ex, by rw [hL, hH]; exact Fr.refl, ?_, fun i P e => ?_, fun i p O e => ?_, fun i j p O O' e => ?_⟩
  · unfold ctx0 L2.start
    simp [hl, hn]
  · unfold ctx0 at e
    unfold L2.start
    by_cases hi : i < Ps.length
    · rw [List.getElem?_append_left (by simpa using hi), List.getElem?_map] at e
      rw [List.getElem?_append_left (by simpa [hl] using hi), List.getElem?_map]
      cases e2 : Ps[i]? with
      | none => rw [e2] at e; cases e
      | some P' =>
        rw [e2] at e
        cases e
        obtain ⟨v, h1, h2⟩ := pair_get hp e2
        exact ⟨v, by rw [h1]; rfl, h2⟩
    · rw [List.getElem?_append_right (by simpa using hi)] at e
      have := List.mem_of_getElem? e
      rw [List.mem_replicate] at this
      cases this.2
  · unfold ctx0 at e
    have := List.mem_of_getElem? e
    rw [List.mem_append, List.mem_map, List.mem_replicate] at this
    rcases this with ⟨_, _, z⟩ | ⟨_, z⟩ <;> cases z
  · unfold ctx0 at e
    have := List.mem_of_getElem? e
    rw [List.mem_append, List.mem_map, List.mem_replicate] at this
    rcases this with ⟨_, _, z⟩ | ⟨_, z⟩ <;> cases z
theorem ev_call {Pre : α → Prop} {As : α → List VP} {R : α → VP} {ta : TA} {Ps Ds : List VP} {dvs : List V} {E : XK} (a : α) (ha : EvA W ta Γ Ps Γ1) (hp : Pre a) (hd : ∀ L, Paired (fun v (P : VP) => P.is v L) dvs Ds) (he : Ps ++ Ds = As a) :
    Ev W (tCall (spF Pre As R) dvs E ta) Γ (R a) Γ1 := fun σ L H hs Q q => ha σ L H hs _ fun vs L1 H1 e1 pv h1 =>
  ⟨a, L1, hp, h1.ex, he ▸ pair_app pv (hd L1), fun v L2 H2 e2 f2 hr => q v L2 H2 (e1.trans f2.1) hr (h1.step e2 f2)⟩
theorem ev_call' {Pre : α → Prop} {As : α → List VP} {R : α → VP} {ta : TA} {E : XK} (a : α) (ha : EvA W ta Γ (As a) Γ1) (hp : Pre a) :
    Ev W (tCall (spF Pre As R) [] E ta) Γ (R a) Γ1 := ev_call (Ds := []) a ha hp (fun _ => .nil) (List.append_nil _)
/-- an owned thing is changed by what it is lent to -/
theorem Has.lent {σ : L2.St} {L H L' H' : Hp} (h : Has W Γ σ L H) {i : Nat} {p : Addr} {O O' : OP} (e : Γ[i]? = some (Ent.own p O)) (ex : Ex L' H') (f : Fr (fun q => q = p) L H L' H') (hl : L' p = none) (ho : ∃ o, H' p = some o ∧ O'.is o L') :
    Has W (Γ.set i (.own p O')) σ L' H' := by
  obtain ⟨a, b, c, u, d, g⟩ := h.own i p O e
  obtain ⟨o, ho, hO⟩ := ho
  refine ⟨ex, h.fr.trans (f.mono fun q z => by rw [z]; exact b), by rw [List.length_set, h.len], fun k P z => ?_, fun k q O1 z => ?_, fun k m q O1 O2 z z' => ?_⟩
  · rcases set_get z with ⟨_, z⟩ | ⟨_, z⟩
    · cases z
    · obtain ⟨v, x, y⟩ := h.val k P z
      exact ⟨v, x, P.up f.1 y⟩
  · rcases set_get z with ⟨y, z2⟩ | ⟨y, z2⟩
    · cases z2
      rw [y]
      exact ⟨a, b, hl, o, ho, hO⟩
    · obtain ⟨a', b', c', u', d', f'⟩ := h.own k q O1 z2
      obtain ⟨x, w⟩ := f.2 q u' c' (fun w => y (h.dis k i q O1 O z2 (by rw [w]; exact e))) d'
      exact ⟨a', b', x, u', w, O1.up f.1 f'⟩
  · have key : ∀ (n : Nat) (O3 : OP), (Γ.set i (.own p O'))[n]? = some (.own q O3) → ∃ O4, Γ[n]? = some (.own q O4) := fun n O3 y => by
      rcases set_get y with ⟨y1, y2⟩ | ⟨y1, y2⟩
      · cases y2
        exact ⟨O, by rw [y1]; exact e⟩
      · exact ⟨O3, y2⟩
    obtain ⟨O4, z⟩ := key k O1 z
    obtain ⟨O5, z'⟩ := key m O2 z'
    exact h.dis k m q O4 O5 z z'
theorem ev_callP {Pre : α → Prop} {O O' : α → OP} {As : α → List VP} {R : α → VP} {ta : TA} {E : XK} {i : Nat} {p : Addr} {O0 : OP} (a : α) (h0 : Γ[i]? = some (Ent.own p O0)) (ha : EvA W ta Γ (As a) Γ1) (h1 : Γ1[i]? = some (Ent.own p (O a))) (hp : Pre a) :
    Ev W (tCall (spP Pre O As R O') [] E (tCons (tVar i) ta)) Γ (R a) (Γ1.set i (.own p (O' a))) := fun σ L H hs Q q => by
  obtain ⟨x1, x2, x3, o0, x4, x5⟩ := hs.own i p O0 h0
  refine ⟨.ref p, x1, ha σ L H hs _ fun vs L1 H1 e1 pv h2 => ?_⟩
  obtain ⟨y1, y2, y3, o, y4, y5⟩ := h2.own i p _ h1
  refine ⟨a, L1, p, vs, by simp, hp, h2.ex, y3, ⟨o, y4, y5⟩, pv, fun v L2 H2 e2 f2 hl ho hr => ?_⟩
  exact q v L2 H2 (e1.trans f2.1) hr (h2.lent h1 e2 f2 hl ho)
end
section
variable {P : Program} {w : World} {K : PySem.W.Frag} {mg : Str → Option Value} {base : Heap} {α : Type}
theorem fn_pure {x qual : Str} {st : Stmt} {f : Addr} {fd : FuncData} {N ps : List Str} {k : Nat} {Pre : α → Prop} {As : α → List VP} {R : α → VP} (F : Fun K x qual st f fd) (S : FnScope N ps (defScope st)) (hn : ∀ a, (As a).length = ps.length)
    (body : ∀ (cdv : Value) (A : Around) (outer : List Env) (s : Shared) (H : Hp) (E : XK), Room k (A.deeper (envOfC qual (defScope st) s.heap.objs.size f cdv)) →
      ∃ t, PSs (cxOf CX0 P w K mg base N qual (defScope st) f cdv A outer s H E).nox (defBody st) t ∧
        ∀ (a : α) (W : Wd) (Q : VK), Pre a → (∀ Γ, RetOk W Q (R a) Γ) → Go W (t { nx := fun _ H' => Q .non H', rt := Q }) (ctx0 N.length (As a))) : FnOk P w K mg base CX0 (k + 1) f fd ps (spF Pre As R) := by
  refine F.ok S (fun vs H Q E h => ?_) (fun cdv A outer s H vs Q E hr h => ?_)
  · obtain ⟨a, L, _, _, hp, _⟩ := h
    rw [pair_len hp, hn]
  · obtain ⟨a, L, pre, ex, hp, q⟩ := h
    obtain ⟨t, ht, go⟩ := body cdv A outer s H E hr
    refine ⟨t, ht, ?_⟩
    refine go a ⟨fun p => H p = none, L, H, fun _ z => z⟩ Q pre (fun Γ σ v L' H' hs hv => ?_) _ L H (has0 rfl ex hp (fun _ z => z) rfl rfl)
    refine q v L' H' hs.ex ⟨hs.fr.1, fun p o h1 _ h3 => hs.fr.2 p o h1 (fun z => ?_) h3⟩ hv
    have z : H p = none := z
    rw [h3] at z
    cases z
theorem fn_pen {x qual : Str} {st : Stmt} {f : Addr} {fd : FuncData} {N ps : List Str} {k : Nat} {Pre : α → Prop} {O O' : α → OP} {As : α → List VP} {R : α → VP} (F : Fun K x qual st f fd) (S : FnScope N ps (defScope st)) (hn : ∀ a, (As a).length + 1 = ps.length)
    (body : ∀ (cdv : Value) (A : Around) (outer : List Env) (s : Shared) (H : Hp) (E : XK), Room k (A.deeper (envOfC qual (defScope st) s.heap.objs.size f cdv)) →
      ∃ t, PSs (cxOf CX0 P w K mg base N qual (defScope st) f cdv A outer s H E).nox (defBody st) t ∧
        ∀ (a : α) (p : Addr) (W : Wd) (Q : VK), Pre a → (∀ Γ, Γ[0]? = some (Ent.own p (O' a)) → RetOk W Q (R a) Γ) → Go W (t { nx := fun _ H' => Q .non H', rt := Q }) (.own p (O a) :: ctx0 (N.length - 1) (As a))) : FnOk P w K mg base CX0 (k + 1) f fd ps (spP Pre O As R O') := by
  refine F.ok S (fun vs H Q E h => ?_) (fun cdv A outer s H vs Q E hr h => ?_)
  · obtain ⟨a, L, p, ws, rfl, _, _, _, _, hp, _⟩ := h
    rw [List.length_cons, pair_len hp, hn]
  · obtain ⟨a, L, p, ws, rfl, pre, ex, hl, ho, hp, q⟩ := h
    obtain ⟨t, ht, go⟩ := body cdv A outer s H E hr
    obtain ⟨o, ho, hO⟩ := ho
    refine ⟨t, ht, ?_⟩
    have h1 : Has ⟨fun q => q = p ∨ H q = none, L, H, fun _ z => .inr z⟩ (ctx0 (N.length - 1) (As a)) (L2.start (N.drop 1) ws) L H := has0 (by simp) ex hp (fun _ z => .inr z) rfl rfl
    have es : L2.start N (V.ref p :: ws) = some (.ref p) :: L2.start (N.drop 1) ws := by
      unfold L2.start
      simp [Nat.sub_sub, Nat.add_comm]
    rw [es]
    refine go a p ⟨fun q => q = p ∨ H q = none, L, H, fun _ z => .inr z⟩ Q pre (fun Γ e0 σ v L' H' hs hv => ?_) _ L H ⟨h1.ex, h1.fr, by simp [h1.len], fun i P e => ?_, fun i q O1 e => ?_, fun i j q O1 O2 e e' => ?_⟩
    · obtain ⟨_, _, y3, y4⟩ := hs.own 0 p _ e0
      refine q v L' H' hs.ex ⟨hs.fr.1, fun q o h1 h2 h3 => hs.fr.2 q o h1 (fun z => ?_) h3⟩ y3 y4 hv
      rcases z with z | z
      · exact h2 z
      · rw [h3] at z
        cases z
    · cases i with
      | zero => cases e
      | succ i => exact h1.val i P e
    · cases i with
      | zero =>
        cases e
        exact ⟨rfl, .inl rfl, hl, o, ho, hO⟩
      | succ i =>
        obtain ⟨_, _, _, u, d, _⟩ := h1.own i q O1 e
        exact h1.own i q O1 e
    · have none1 : ∀ (i : Nat) (q : Addr) (O1 : OP), (ctx0 (N.length - 1) (As a))[i]? ≠ some (Ent.own q O1) := fun i q O1 e => by
        unfold ctx0 at e
        have := List.mem_of_getElem? e
        rw [List.mem_append, List.mem_map, List.mem_replicate] at this
        rcases this with ⟨_, _, z⟩ | ⟨_, z⟩ <;> cases z
      cases i with
      | zero => cases j with
        | zero => rfl
        | succ j => exact absurd e' (none1 j _ _)
      | succ i => exact absurd e (none1 i _ _)
end
/-! ### subscripts, slices, displays, sums -/
section
variable {W : Wd} {K : PySem.W.Frag} {Γ Γ0 Γ1 Γ2 Γ3 : Cxt} {α β : Type} {f : α → VP} {g : β → VP} {l m : List α} {te ta tb : TE} {x : α}
theorem atI_pair {L : Hp} {vs : List V} (hp : Paired (fun v x => (f x).is v L) vs l) {i : Int} (h : atI l i = some x) : ∃ v, atI vs i = some v ∧ (f x).is v L := by
  unfold atI at h ⊢
  rw [pair_len hp]
  cases e : ixN l.length i with
  | none => rw [e] at h; cases h
  | some j =>
    rw [e] at h
    obtain ⟨v, h1, h2⟩ := pair_get hp h
    exact ⟨v, h1, h2⟩
theorem ev_ixL {i : Int} (ha : Ev W ta Γ (pL f l) Γ1) (hb : Ev W tb Γ1 (pI i) Γ2) (h : atI l i = some x) : Ev W (tOp (rIxL K) ta tb) Γ (f x) Γ2 := ev_op ha hb fun u v L H e h1 h2 => by
  obtain ⟨a, vs, rfl, hL, hp⟩ := pL_at h1
  obtain ⟨z, h3, h4⟩ := atI_pair hp h
  exact ⟨z, h4, fun Q q => ⟨a, vs, i, z, rfl, h2, SqL.of (e a _ hL), h3, q⟩⟩
theorem ev_ixT {i : Int} (ha : Ev W ta Γ (pT f l) Γ1) (hb : Ev W tb Γ1 (pI i) Γ2) (h : atI l i = some x) : Ev W (tOp (rIxT K) ta tb) Γ (f x) Γ2 := ev_op ha hb fun u v L H e h1 h2 => by
  obtain ⟨a, vs, rfl, hL, hp⟩ := pT_at h1
  obtain ⟨z, h3, h4⟩ := atI_pair hp h
  exact ⟨z, h4, fun Q q => ⟨a, vs, i, z, rfl, h2, SqT.of (e a _ hL), h3, q⟩⟩
/-- the list is one's own -/
theorem ev_ixO {i : Int} {k : Nat} {p : Addr} (e : Γ[k]? = some (Ent.own p (oL f l))) (hb : Ev W tb Γ (pI i) Γ) (h : atI l i = some x) : Ev W (tOp (rIxL K) (tVar k) tb) Γ (f x) Γ := fun σ L H hs Q q => by
  obtain ⟨a, b, c, o, d, vs, rfl, hp⟩ := hs.own k p _ e
  refine ⟨.ref p, a, hb σ L H hs _ fun v L1 H1 e1 pv h1 => ?_⟩
  obtain ⟨a', b', c', o', d', vs', rfl, hp'⟩ := h1.own k p _ e
  obtain ⟨z, h3, h4⟩ := atI_pair hp' h
  exact ⟨p, vs', i, z, rfl, pv, SqL.of d', h3, q z L1 H1 e1 h4 h1⟩
theorem ev_lenO {k : Nat} {p : Addr} {r : List V → Hp → VK → Prop} (hr : r = fun xs H Q => ∃ p ys, xs = [.ref p] ∧ (SqL K H p ys ∨ SqT K H p ys) ∧ Q (.int ys.length) H) (e : Γ[k]? = some (Ent.own p (oL f l))) : Ev W (tCB r (tCons (tVar k) tNil)) Γ (pI l.length) Γ := fun σ L H hs Q q => by
  subst hr
  obtain ⟨a, b, c, o, d, vs, rfl, hp⟩ := hs.own k p _ e
  exact ⟨.ref p, a, p, vs, rfl, .inl (SqL.of d), by rw [pair_len hp]; exact q _ L H (Ex.refl L) rfl hs⟩
def rLen (K : PySem.W.Frag) : List V → Hp → VK → Prop := fun xs H Q => ∃ p ys, xs = [.ref p] ∧ (SqL K H p ys ∨ SqT K H p ys) ∧ Q (.int ys.length) H
theorem ev_len (ha : Ev W ta Γ (pL f l) Γ1) : Ev W (tCB (rLen K) (tCons ta tNil)) Γ (pI l.length) Γ1 := ev_cb (ea_one ha) fun vs L H e h => by
  obtain ⟨v, rfl, h1⟩ := pair1 h
  obtain ⟨a, us, rfl, hL, hp⟩ := pL_at h1
  exact ⟨_, rfl, fun Q q => ⟨a, us, rfl, .inl (SqL.of (e a _ hL)), by rw [pair_len hp]; exact q⟩⟩
theorem ev_lenT (ha : Ev W ta Γ (pT f l) Γ1) : Ev W (tCB (rLen K) (tCons ta tNil)) Γ (pI l.length) Γ1 := ev_cb (ea_one ha) fun vs L H e h => by
  obtain ⟨v, rfl, h1⟩ := pair1 h
  obtain ⟨a, us, rfl, hL, hp⟩ := pT_at h1
  exact ⟨_, rfl, fun Q q => ⟨a, us, rfl, .inr (SqT.of (e a _ hL)), by rw [pair_len hp]; exact q⟩⟩
theorem call_len1 {X : Cx} : CallR X (.builtin "len") (rLen X.K) := call_len_seq
def rLenS1 : List V → Hp → VK → Prop := fun xs H Q => ∃ z, xs = [.str z] ∧ z.length ≤ sizeLine ∧ Q (.int z.length) H
theorem call_lenS1 {X : Cx} : CallR X (.builtin "len") rLenS1 := call_len_str
theorem ev_lenS {z : Str} (ha : Ev W ta Γ (pS z) Γ1) (h : z.length ≤ 100000) : Ev W (tCB rLenS1 (tCons ta tNil)) Γ (pI z.length) Γ1 := ev_cb (ea_one ha) fun vs L H e h => by
  obtain ⟨v, rfl, h1⟩ := pair1 h
  exact ⟨_, rfl, fun Q q => ⟨z, by rw [show v = .str z from h1], Evl.sz_of (by assumption), q⟩⟩
theorem pL_ints {L : Hp} {v : V} {ns : List Int} (h : (pL (fun i => pI i) ns).is v L) : ∃ a, v = .ref a ∧ L a = some (.lst (ns.map V.int)) := by
  obtain ⟨a, vs, rfl, hL, hp⟩ := pL_at h
  exact ⟨a, rfl, by rw [hL, pair_pC (g := V.int) hp]⟩
abbrev pLI (ns : List Int) : VP := pL (fun i => pI i) ns
abbrev oLI (ns : List Int) : OP := oL (fun i => pI i) ns
abbrev pLL (ns : List (List Int)) : VP := pL pLI ns
theorem ev_sum {ns : List Int} (ha : Ev W ta Γ (pLI ns) Γ1) : Ev W (tCB (rSum K) (tCons ta tNil)) Γ (pI ns.sum) Γ1 := ev_cb (ea_one ha) fun vs L H e h => by
  obtain ⟨v, rfl, h1⟩ := pair1 h
  obtain ⟨a, rfl, hL⟩ := pL_ints h1
  exact ⟨_, rfl, fun Q q => ⟨a, ns, rfl, SqL.of (e a _ hL), q⟩⟩
def rAbs : List V → Hp → VK → Prop := fun xs H Q => ∃ i, xs = [.int i] ∧ Q (.int (if i < 0 then -i else i)) H
theorem call_abs1 {X : Cx} : CallR X (.builtin "abs") rAbs := call_abs
theorem ev_abs {i : Int} (ha : Ev W ta Γ (pI i) Γ1) : Ev W (tCB rAbs (tCons ta tNil)) Γ (pI (if i < 0 then -i else i)) Γ1 := ev_cb (ea_one ha) fun vs L H e h => by
  obtain ⟨v, rfl, h1⟩ := pair1 h
  exact ⟨_, rfl, fun Q q => ⟨i, by rw [show v = .int i from h1], q⟩⟩
def rInt1 : List V → Hp → VK → Prop := fun xs H Q => (∃ i, xs = [.int i] ∧ Q (.int i) H) ∨ ∃ k, xs = [.bl k] ∧ Q (.int (if k then 1 else 0)) H
theorem call_int1' {X : Cx} : CallR X (.type "int") rInt1 := call_int1
theorem ev_intB {b : Bool} (ha : Ev W ta Γ (pB b) Γ1) : Ev W (tCB rInt1 (tCons ta tNil)) Γ (pI (if b then 1 else 0)) Γ1 := ev_cb (ea_one ha) fun vs L H e h => by
  obtain ⟨v, rfl, h1⟩ := pair1 h
  exact ⟨_, rfl, fun Q q => .inr ⟨b, by rw [show v = .bl b from h1], q⟩⟩
/-! slices of lists -/
def EvO (W : Wd) (to : TO) (Γ : Cxt) (o : Option Int) (Γ' : Cxt) : Prop := ∀ σ L H, Has W Γ σ L H → ∀ Q : Option Int → Hp → Prop, (∀ L' H', Ex L L' → Has W Γ' σ L' H' → Q o H') → to σ H Q
theorem eo_none : EvO W tNoPart Γ none Γ := fun σ L H hs Q q => q L H (Ex.refl L) hs
theorem eo_some {i : Int} (h : Ev W te Γ (pI i) Γ1) : EvO W (tPart te) Γ (some i) Γ1 := fun σ L H hs Q q => h σ L H hs _ fun v L' H' e p h' => ⟨i, p, q L' H' e h'⟩
def cutL {α : Type} (xs : List α) (lo hi : Option Int) : List α := (xs.drop (HT.sIx xs.length 0 lo)).take (HT.sIx xs.length xs.length hi - HT.sIx xs.length 0 lo)
theorem cut_pair {L : Hp} {vs : List V} (hp : Paired (fun v x => (f x).is v L) vs l) (lo hi : Option Int) : Paired (fun v x => (f x).is v L) (cutV vs lo hi) (cutL l lo hi) := by
  unfold cutV cutL
  rw [pair_len hp]
  exact pair_take _ (pair_drop _ hp)
theorem evn_sl {tl th : TO} {lo hi : Option Int} (ha : Ev W te Γ (pL f l) Γ1) (h1 : EvO W tl Γ1 lo Γ2) (h2 : EvO W th Γ2 hi Γ3) : EvN W (tSl (rSlL K) te tl th) Γ (oL f (cutL l lo hi)) Γ3 := fun σ L H hs Q q =>
  ha σ L H hs _ fun v L1 H1 e1 pv hs1 => h1 σ L1 H1 hs1 _ fun L2 H2 e2 hs2 => h2 σ L2 H2 hs2 _ fun L3 H3 e3 hs3 => by
    obtain ⟨a, vs, rfl, hL, hp⟩ := pL_at pv
    exact ⟨a, vs, rfl, SqL.of (hs3.ex a _ (e3 a _ (e2 a _ hL))), fun p hp0 => q p _ L3 _ ((e1.trans e2).trans e3) (hs3.fresh hp0).2 (hs3.fresh hp0).1 upd_same ⟨_, rfl, pair_up (e2.trans e3) (cut_pair hp lo hi)⟩ (hs3.ownNe hp0) (hs3.alloc hp0 _)⟩
theorem evn_cat (ha : Ev W ta Γ (pL f l) Γ1) (hb : Ev W tb Γ1 (pL f m) Γ2) (hz : l.length + m.length ≤ 100000) : EvN W (tOp rCat ta tb) Γ (oL f (l ++ m)) Γ2 := evn_op ha hb fun u v L H e h1 h2 => by
  obtain ⟨a, vs, rfl, hL, hp⟩ := pL_at h1
  obtain ⟨b, us, rfl, hM, hq⟩ := pL_at h2
  exact ⟨.lst (vs ++ us), ⟨_, rfl, pair_app hp hq⟩, fun Q q => ⟨a, b, vs, us, rfl, rfl, e a _ hL, e b _ hM, Evl.sz_of (by rw [pair_len hp, pair_len hq]; exact hz), q⟩⟩
/-! displays -/
theorem evn_lst {tr : TA} {Ps : List VP} (ha : EvA W tr Γ Ps Γ1) (hz : Ps.length ≤ 100000) : EvN W (tLst tr) Γ (oL id Ps) Γ1 := fun σ L H hs Q q => ha σ L H hs _ fun vs L1 H1 e1 pv h1 =>
  ⟨Evl.sz_of (by rw [pair_len pv]; exact hz), fun p hp => q p _ L1 _ e1 (h1.fresh hp).2 (h1.fresh hp).1 upd_same ⟨vs, rfl, pv⟩ (h1.ownNe hp) (h1.alloc hp _)⟩
theorem evn_tup {tr : TA} {Ps : List VP} (ha : EvA W tr Γ Ps Γ1) (hz : Ps.length ≤ 100000) : EvN W (tTup tr) Γ (oT id Ps) Γ1 := fun σ L H hs Q q => ha σ L H hs _ fun vs L1 H1 e1 pv h1 =>
  ⟨Evl.sz_of (by rw [pair_len pv]; exact hz), fun p hp => q p _ L1 _ e1 (h1.fresh hp).2 (h1.fresh hp).1 upd_same ⟨vs, rfl, pv⟩ (h1.ownNe hp) (h1.alloc hp _)⟩
theorem pair_map {L : Hp} : ∀ {vs : List V} {l : List α}, Paired (fun v (P : VP) => P.is v L) vs (l.map f) → Paired (fun v x => (f x).is v L) vs l
  | [], [], _ => .nil
  | _ :: _, _ :: _, .cons r t => .cons r (pair_map t)
theorem evn_lstOf {tr : TA} (ha : EvA W tr Γ (l.map f) Γ1) (hz : l.length ≤ 100000) : EvN W (tLst tr) Γ (oL f l) Γ1 :=
  (evn_lst ha (by simpa using hz)).imp fun o L ⟨vs, h1, h2⟩ => ⟨vs, h1, pair_map h2⟩
/-! ### changes -/
variable {k : L2.St → Hp → Prop} {D : Ends}
theorem go_set {i : Nat} {p : Addr} {y : α} {j : Nat} (ha : Ev W te Γ (f y) Γ1) (e : Γ1[i]? = some (Ent.own p (oL f l))) (hb : Ev W tb Γ1 (pI (j : Int)) Γ1) (hj : j < l.length) (g : Go W D.nx (Γ1.set i (.own p (oL f (l.set j y))))) :
    Go W (tAsg te (gSub (tVar i) tb rSetL) D) Γ := fun σ L H hs => ha σ L H hs _ fun v L1 H1 e1 pv h1 => by
  obtain ⟨a, b, c, o, d, vs, rfl, hp⟩ := h1.own i p _ e
  refine ⟨.ref p, a, hb σ L1 H1 h1 _ fun u L2 H2 e2 pu h2 => ?_⟩
  obtain ⟨a', b', c', o', d', vs', rfl, hp'⟩ := h2.own i p _ e
  refine ⟨p, vs', (j : Int), j, rfl, pu, d', Evl.ixN_nat (by rw [pair_len hp']; exact hj), ?_⟩
  exact g σ L2 _ (h2.mut e ⟨_, rfl, pair_set (F := fun v x => (f x).is v L2) ((f y).up e2 pv) j hp'⟩)
theorem go_app {i : Nat} {p : Addr} {y : α} (e : Γ[i]? = some (Ent.own p (oL f l))) (ha : Ev W te Γ (f y) Γ) (hz : l.length < 100000) (g : Go W D.nx (Γ.set i (.own p (oL f (l ++ [y]))))) :
    Go W (tDrop (tBM K "list" rAppend (tVar i) (tCons te tNil)) D) Γ := fun σ L H hs => by
  obtain ⟨a, b, c, o, d, vs, rfl, hp⟩ := hs.own i p _ e
  refine ⟨.ref p, a, .inl ⟨rfl, vs, SqL.of d⟩, ha σ L H hs _ fun v L1 H1 e1 pv h1 => ?_⟩
  obtain ⟨a', b', c', o', d', vs', rfl, hp'⟩ := h1.own i p _ e
  refine ⟨p, vs', v, rfl, rfl, d', Evl.sz_lt (by rw [pair_len hp']; exact hz), ?_⟩
  exact g σ L1 _ (h1.mut e ⟨_, rfl, pair_app hp' (.cons pv .nil)⟩)
end
end Lg
/-! The mathematics, plain: what each def computes. -/
namespace Ma
def S : Nat → (Nat → Int) → Int
  | 0, _ => 0
  | n + 1, f => S n f + f n
def g (xs : List Int) (i : Nat) : Int := xs.getD i 0
def g2 (R : List (List Int)) (i j : Nat) : Int := g (R.getD i []) j
/-- a row of counts led through a table -/
def vm (n : Nat) (x : List Int) (R : List (List Int)) : List Int := (List.range n).map fun j => S n fun i => g x i * g2 R i j
def V (n : Nat) (A : List (List Int)) (x : List Int) : Nat → List Int
  | 0 => x
  | t + 1 => vm n (V n A x t) A
def md (N : Int) (xs : List Int) : List Int := xs.map (· % N)
def Bd (b : Nat) (xs : List Int) : Prop := ∀ x ∈ xs, x.natAbs < 2 ^ b
def Sq (n : Nat) (R : List (List Int)) : Prop := R.length = n ∧ ∀ r ∈ R, r.length = n
def BdR (b : Nat) (R : List (List Int)) : Prop := ∀ r ∈ R, Bd b r
/-! elimination -/
def cont (xs : List Int) : Int := xs.foldl (fun p x => (Int.gcd p x : Int)) 0
def low (xs : List Int) : List Int := if cont xs < 2 then xs else xs.map (· / cont xs)
def clr1 (xs : List Int) (k : Nat × List Int) : List Int := if g xs k.1 = 0 then xs else low (List.zipWith (fun a b => g k.2 k.1 * a - g xs k.1 * b) xs k.2)
def clr (xs : List Int) (ks : List (Nat × List Int)) : List Int := ks.foldl clr1 xs
def ld (xs : List Int) : Nat := xs.findIdx (· != 0)
def marks (m t : Nat) : List Int := (List.range m).map fun k => if k = t then 1 else 0
def kp (w : Nat) (vs : List (List Int)) : Nat → List (Nat × List Int)
  | 0 => []
  | t + 1 => kp w vs t ++ [(ld ((clr (vs.getD t [] ++ marks vs.length t) (kp w vs t)).take w), clr (vs.getD t [] ++ marks vs.length t) (kp w vs t))]
def row (w : Nat) (vs : List (List Int)) (t : Nat) : List Int := clr (vs.getD t [] ++ marks vs.length t) (kp w vs t)
def fout (w : Nat) (vs : List (List Int)) (d : Nat) : List Int := (List.range d).map fun k => (-(g (row w vs d) (w + k))).fdiv (g (row w vs d) (w + d))
def sb (β : Nat → Nat) : Nat → Nat
  | 0 => 0
  | i + 1 => sb β i + (β i + 1)
/-- the sizes within which a row is cleared -/
def ClrOk (xs : List Int) (ks : List (Nat × List Int)) : Prop :=
  xs.length ≤ 100 ∧ ks.length ≤ 100 ∧ (∀ k ∈ ks, k.2.length = xs.length ∧ k.1 < xs.length) ∧ ∃ (a : Nat) (β : Nat → Nat), Bd a xs ∧ (∀ (i : Nat) k, ks[i]? = some k → Bd (β i) k.2) ∧ a + sb β ks.length ≤ 8990
structure FtOk (w : Nat) (vs : List (List Int)) (d : Nat) : Prop where
  lt : d < vs.length
  wid : ∀ v ∈ vs, v.length = w
  small : w ≤ 40 ∧ vs.length ≤ 40
  go : ∀ t, t < d → ld ((row w vs t).take w) < w
  stop : ∀ i, i < w → g (row w vs d) i = 0
  clr : ∀ t, t ≤ d → ClrOk (vs.getD t [] ++ marks vs.length t) (kp w vs t)
  own : g (row w vs d) (w + d) = 1 ∨ g (row w vs d) (w + d) = -1
/-! ties walked -/
def stp (N : Int) (c parts : List Int) : List Int := List.zipWith (fun a b => (a + parts.getLastD 0 * b) % N) (0 :: parts.dropLast) c
def jnd (N : Int) (c parts : List Int) : List Int := parts.reverse.foldl (fun f p => List.zipWith (fun a b => (a + p * b) % N) (stp N c f) parts) (List.replicate c.length 0)
def bits (n : Nat) : List Int := if h : n = 0 then [] else (n % 2 : Int) :: bits (n / 2)
termination_by n
decreasing_by omega
def unw1 (N : Int) (c : List Int) (parts : List Int) (b : Int) : List Int := if b = 1 then stp N c (jnd N c parts) else jnd N c parts
def dot (xs ys : List Int) : Int := (List.zipWith (· * ·) xs ys).sum
def unw (N : Int) (c starts : List Int) (age : Nat) : Int :=
  if c.length = 0 then 0 else dot ((bits age).reverse.foldl (unw1 N c) (marks c.length 0)) starts % N
end Ma
namespace Lg
open PySem PySem.Spec PyProof.Rows L2
open Evl (Ex)
/-! ### texts -/
def one (c : Nat) : Str := ⟨#[c]⟩
theorem occ_size (x : Str) (c limit : Nat) : ∀ (l : List Nat) (st : Array Nat × Nat), l.Pairwise (· < ·) → (∀ i ∈ l, st.2 ≤ i) → st.1.size + l.length ≤ limit →
    (forIn l st (StrLaws.occBody x ⟨#[c]⟩ x.length limit)).run.fst.size = st.1.size + l.countP (fun i => x.cps.toList[i]? == some c)
  | [], st, _, _, _ => by simp
  | a :: l, st, hp, hf, hl => by
    have hp' := List.pairwise_cons.mp hp
    have ha : st.2 ≤ a := hf a (List.mem_cons_self ..)
    rw [List.length_cons] at hl
    rw [List.forIn_cons]
    unfold StrLaws.occBody
    by_cases hc : x.cps.toList[a]? = some c
    · have h2 := (StrLaws.subAt_one x c a).mpr hc
      rw [if_pos ⟨⟨⟨by omega, ha⟩, h2.1⟩, h2.2⟩]
      have ih := occ_size x c limit l (st.fst.push a, a + 1) hp'.2 (fun i hi => hp'.1 i hi) (by simp only [Array.size_push]; omega)
      refine Eq.trans ih ?_
      rw [List.countP_cons_of_pos (by simp [hc])]
      simp only [Array.size_push]
      omega
    · have h2 : ¬ (((st.fst.size < limit ∧ st.snd ≤ a) ∧ a + (⟨#[c]⟩ : Str).length ≤ x.length) ∧ Builtin.Str.subAt x ⟨#[c]⟩ a = true) := fun h => hc ((StrLaws.subAt_one x c a).mp ⟨h.1.2, h.2⟩)
      rw [if_neg h2]
      have ih := occ_size x c limit l st hp'.2 (fun i hi => hf i (List.mem_cons_of_mem _ hi)) (by omega)
      refine Eq.trans ih ?_
      rw [List.countP_cons_of_neg (by simpa using hc)]
theorem countP_range (c : Nat) : ∀ L : List Nat, (List.range (L.length + 1)).countP (fun i => L[i]? == some c) = L.count c
  | [] => by simp
  | a :: L => by
    have ih := countP_range c L
    rw [List.length_cons, List.range_succ_eq_map, List.countP_cons, List.countP_map]
    have e : ((fun i => (a :: L)[i]? == some c) ∘ Nat.succ) = fun i => L[i]? == some c := by
      funext i
      simp
    rw [e, ih, List.count_cons]
    simp
def cnt (t : Str) (c : Nat) : Int := (t.cps.toList.count c : Nat)
theorem count_eq (t : Str) (c : Nat) : Txt.count t (one c) = cnt t c := by
  unfold Txt.count cnt one
  rw [StrLaws.occ_eq, Array.length_toList, Nat.sub_zero, occ_size]
  · have e : t.length = t.cps.toList.length := by simp [Str.length]
    rw [e, ← countP_range c t.cps.toList, List.range_eq_range']
    simp
  · exact List.pairwise_lt_range'
  · intro i _; exact Nat.zero_le _
  · simp
theorem str_app (a b : Str) : (a ++ b).cps = a.cps ++ b.cps := rfl
theorem join_nil : ∀ ss : List Str, (Txt.join ⟨#[]⟩ ss).cps.toList = ss.flatMap (fun s => s.cps.toList) := by
  intro ss
  rw [TL.join_eq]
  induction ss with
  | nil => rfl
  | cons x r ih =>
    cases r with
    | nil => simp [Str.join]
    | cons y r =>
      show ((x ++ (⟨#[]⟩ : Str) ++ Str.join ⟨#[]⟩ (y :: r)).cps).toList = _
      rw [str_app, str_app, Array.toList_append, Array.toList_append, ih]
      simp
theorem str_ext {a b : Str} (h : a.cps.toList = b.cps.toList) : a = b := by
  cases a; cases b
  congr
  exact Array.ext' h
theorem join_ones (cs : List Nat) : Txt.join ⟨#[]⟩ (cs.map one) = ⟨cs.toArray⟩ := by
  apply str_ext
  rw [join_nil]
  induction cs with
  | nil => rfl
  | cons c r ih =>
    rw [List.map_cons, List.flatMap_cons, ih]
    rfl
section
variable {W : Wd} {K : PySem.W.Frag} {Γ Γ0 Γ1 Γ2 Γ3 : Cxt} {α β : Type} {f : α → VP} {l m : List α} {te ta tb : TE} {x : α}
theorem ev_count {t : Str} {c : Nat} (ha : Ev W ta Γ (pS t) Γ1) (hb : Ev W tb Γ1 (pS (one c)) Γ2) : Ev W (tM1 (fun x xs H Q => ∃ a b, x = .str a ∧ xs = [.str b] ∧ Q (.int (Txt.count a b)) H) ta tb) Γ (pI (cnt t c)) Γ2 := fun σ L H hs Q q =>
  ha σ L H hs _ fun v L1 H1 e1 p1 h1 => ⟨⟨t, p1⟩, hb σ L1 H1 h1 _ fun u L2 H2 e2 p2 h2 => ⟨t, one c, p1, by rw [show u = .str (one c) from p2], by rw [count_eq]; exact q _ L2 H2 (e1.trans e2) rfl h2⟩⟩
theorem ev_join {s : Str} {ys : List Str} (ha : Ev W ta Γ (pS s) Γ1) (hb : Ev W tb Γ1 (pL (fun s => pS s) ys) Γ2) (hz : (ys.map (·.length)).sum + ys.length * s.length ≤ 16777216) :
    Ev W (tM1 (fun x xs H Q => ∃ a p, ∃ ys : List Str, x = .str a ∧ xs = [.ref p] ∧ (SqL K H p (ys.map V.str) ∨ SqT K H p (ys.map V.str)) ∧ (ys.map (·.length)).sum + ys.length * a.length ≤ 16777216 ∧ Q (.str (Txt.join a ys)) H) ta tb) Γ (pS (Txt.join s ys)) Γ2 := fun σ L H hs Q q =>
  ha σ L H hs _ fun v L1 H1 e1 p1 h1 => ⟨⟨s, p1⟩, hb σ L1 H1 h1 _ fun u L2 H2 e2 p2 h2 => by
    obtain ⟨a, vs, rfl, hL, hp⟩ := pL_at p2
    have ev : vs = ys.map V.str := pair_pC (g := V.str) hp
    subst ev
    exact ⟨s, a, ys, p1, rfl, .inl (SqL.of (h2.ex a _ hL)), hz, q _ L2 H2 (e1.trans e2) rfl h2⟩⟩
theorem ev_addS {s t : Str} (ha : Ev W ta Γ (pS s) Γ1) (hb : Ev W tb Γ1 (pS t) Γ2) (hz : s.length + t.length ≤ 100000) : Ev W (tOp (fun x y H Q => ∃ i j, x = .str i ∧ y = .str j ∧ i.length + j.length ≤ sizeLine ∧ Q (.str (i ++ j)) H) ta tb) Γ (pS (s ++ t)) Γ2 :=
  ev_op ha hb fun x y L H e h1 h2 => ⟨_, rfl, fun Q q => ⟨s, t, h1, h2, Evl.sz_of hz, q⟩⟩
/-! isinstance -/
theorem ev_isi {v : V} {n : String} {t : Value} {b : Bool} (ha : Ev W ta Γ (pC v) Γ1) (ht : ∀ H, TyX K H v t) (hk : PySem.W.kitOne K t (.type n) = some b) (hb : Ev W tb Γ1 (pC (.ty n)) Γ2) : Ev W (tCB (rIsi K) (tCons ta (tCons tb tNil))) Γ (pB b) Γ2 :=
  ev_cb (ea_cons ha (ea_one hb)) fun vs L H e h => by
    obtain ⟨x, y, rfl, h1, h2⟩ := pair2 h
    have e1 : x = v := h1
    have e2 : y = .ty n := h2
    subst e1 e2
    exact ⟨_, rfl, fun Q q => ⟨x, .ty n, t, .type n, b, rfl, .ty n, ht H, hk, q⟩⟩
theorem ev_isiL {n : String} {b : Bool} (ha : Ev W ta Γ (pL f l) Γ1) (hk : PySem.W.kitOne K (.type "list") (.type n) = some b) (hb : Ev W tb Γ1 (pC (.ty n)) Γ2) : Ev W (tCB (rIsi K) (tCons ta (tCons tb tNil))) Γ (pB b) Γ2 :=
  ev_cb (ea_cons ha (ea_one hb)) fun vs L H e h => by
    obtain ⟨x, y, rfl, h1, h2⟩ := pair2 h
    obtain ⟨a, us, rfl, hL, hp⟩ := pL_at h1
    have e2 : y = .ty n := h2
    subst e2
    exact ⟨_, rfl, fun Q q => ⟨.ref a, .ty n, .type "list", .type n, b, rfl, .ty n, .base (.lst (e a _ hL)), hk, q⟩⟩
end
end Lg
namespace Lg
open PySem PySem.Spec PyProof.Rows L2
open Evl (Ex)
section
variable {W : Wd} {K : PySem.W.Frag} {Γ Γ0 Γ1 Γ2 Γ3 : Cxt} {P : VP} {Ps : List VP} {te ta tb : TE}
theorem ev_ixTu {i : Int} (ha : Ev W ta Γ (pTu Ps) Γ1) (hb : Ev W tb Γ1 (pI i) Γ2) (h : atI Ps i = some P) : Ev W (tOp (rIxT K) ta tb) Γ P Γ2 := ev_ixT (f := id) ha hb h
end
end Lg
namespace Lg
open PySem PySem.Spec PyProof.Rows L2
open Evl (Ex)
section
variable {W : Wd} {K : PySem.W.Frag} {Γ Γ0 Γ1 Γ2 Γ3 : Cxt} {P : VP} {Ps : List VP} {te ta tb : TE}
theorem ev_B0 {h : Int → Int → Bool} {i j : Int} (ha : Ev W ta Γ (pI i) Γ1) (hb : Ev W tb Γ1 (pI j) Γ2) : Ev W (tOp (rI0 fun i j => V.bl (h i j)) ta tb) Γ (pB (h i j)) Γ2 := ev_I0 ha hb
theorem et_B0 {h : Int → Int → Bool} {i j : Int} (ha : Ev W ta Γ (pI i) Γ1) (hb : Ev W tb Γ1 (pI j) Γ2) : EvT W (tTest (tOp (rI0 fun i j => V.bl (h i j)) ta tb)) Γ (h i j) Γ2 := et_test (ev_B0 ha hb)
end
end Lg
namespace Lg
open PySem PySem.Spec PyProof.Rows L2
open Evl (Ex)
section
variable {W : Wd} {K : PySem.W.Frag} {Γ Γ0 Γ1 Γ2 Γ3 : Cxt} {D : Ends} {t u rest : TS} {b : Bool} {tc : TT}
/-- an if whose arms meet again -/
theorem go_ifJ (J : Cxt → Prop) (h : EvT W tc Γ b Γ1) (h1 : b = true → ∀ N : L2.St → Hp → Prop, (∀ Δ, J Δ → Go W N Δ) → Go W (t { D with nx := N }) Γ1) (h2 : b = false → ∀ N : L2.St → Hp → Prop, (∀ Δ, J Δ → Go W N Δ) → Go W (u { D with nx := N }) Γ1)
    (h3 : ∀ Δ, J Δ → Go W (rest D) Δ) : Go W (tSeq (tIfS tc t u) rest D) Γ :=
  go_seq (go_if h (fun hb => h1 hb _ h3) (fun hb => h2 hb _ h3))
end
end Lg
namespace Lg
open PySem PySem.Spec PyProof.Rows L2
open Evl (Ex)
section
variable {W : Wd} {K : PySem.W.Frag} {Γ Γ0 Γ1 Γ2 Γ3 : Cxt} {α β : Type} {f : α → VP} {l m : List α} {te ta tb tl : TE} {x : α} {P R : VP} {O O' : OP}
/-! ### a list that may be the caller's script -/
def pQ (K : PySem.W.Frag) (f : α → VP) (l : List α) : VP := ⟨fun v L => ∃ a vs, v = .ref a ∧ SqL K L a vs ∧ Paired (fun v x => (f x).is v L) vs l, fun e ⟨a, vs, h1, h2, h3⟩ => ⟨a, vs, h1, Evl.ex_l e h2, pair_up e h3⟩⟩
theorem ev_lenQ (ha : Ev W ta Γ (pQ K f l) Γ1) : Ev W (tCB (rLen K) (tCons ta tNil)) Γ (pI l.length) Γ1 := ev_cb (ea_one ha) fun vs L H e h => by
  obtain ⟨v, rfl, h1⟩ := pair1 h
  obtain ⟨a, us, rfl, hL, hp⟩ := h1
  exact ⟨_, rfl, fun Q q => ⟨a, us, rfl, .inl (Evl.ex_l e hL), by rw [pair_len hp]; exact q⟩⟩
theorem ev_ixQ {i : Int} (ha : Ev W ta Γ (pQ K f l) Γ1) (hb : Ev W tb Γ1 (pI i) Γ2) (h : atI l i = some x) : Ev W (tOp (rIxL K) ta tb) Γ (f x) Γ2 := ev_op ha hb fun u v L H e h1 h2 => by
  obtain ⟨a, vs, rfl, hL, hp⟩ := h1
  obtain ⟨z, h3, h4⟩ := atI_pair hp h
  exact ⟨z, h4, fun Q q => ⟨a, vs, i, z, rfl, h2, Evl.ex_l e hL, h3, q⟩⟩
theorem evn_slQ {tl th : TO} {lo hi : Option Int} (ha : Ev W te Γ (pQ K f l) Γ1) (h1 : EvO W tl Γ1 lo Γ2) (h2 : EvO W th Γ2 hi Γ3) : EvN W (tSl (rSlL K) te tl th) Γ (oL f (cutL l lo hi)) Γ3 := fun σ L H hs Q q =>
  ha σ L H hs _ fun v L1 H1 e1 pv hs1 => h1 σ L1 H1 hs1 _ fun L2 H2 e2 hs2 => h2 σ L2 H2 hs2 _ fun L3 H3 e3 hs3 => by
    obtain ⟨a, vs, rfl, hL, hp⟩ := pv
    exact ⟨a, vs, rfl, Evl.ex_l hs3.ex (Evl.ex_l e3 (Evl.ex_l e2 hL)), fun p hp0 => q p _ L3 _ ((e1.trans e2).trans e3) (hs3.fresh hp0).2 (hs3.fresh hp0).1 upd_same ⟨_, rfl, pair_up (e2.trans e3) (cut_pair hp lo hi)⟩ (hs3.ownNe hp0) (hs3.alloc hp0 _)⟩
/-! ### a def that hands back a new object -/
def spN {α : Type} (Pre : α → Prop) (As : α → List VP) (O : α → OP) : Sp := fun vs H Q _ => ∃ (a : α) (L : Hp), Pre a ∧ Ex L H ∧ Paired (fun v (P : VP) => P.is v L) vs (As a) ∧
  ∀ p o L' H', Ex L' H' → Fr (fun _ => False) L H L' H' → H p = none → L' p = none → H' p = some o → (O a).is o L' → Q (.ref p) H'
theorem evn_call {α : Type} {Pre : α → Prop} {As : α → List VP} {O : α → OP} {tr : TA} {E : XK} (a : α) (ha : EvA W tr Γ (As a) Γ1) (hp : Pre a) : EvN W (tCall (spN Pre As O) [] E tr) Γ (O a) Γ1 := fun σ L H hs Q q => ha σ L H hs _ fun vs L1 H1 e1 pv h1 =>
  ⟨a, L1, hp, h1.ex, by rw [List.append_nil]; exact pv, fun p o L2 H2 e2 f2 hf hl ho hO => q p o L2 H2 (e1.trans f2.1) (h1.fresh hf).2 hl ho hO (h1.ownNe hf) (h1.step e2 f2)⟩
/-! ### own objects, more loosely -/
theorem Has.reown {σ : L2.St} {L H : Hp} (h : Has W Γ σ L H) {i : Nat} {p : Addr} (e : Γ[i]? = some (Ent.own p O)) (hO : ∀ o, O.is o L → O'.is o L) : Has W (Γ.set i (.own p O')) σ L H := by
  refine ⟨h.ex, h.fr, by rw [List.length_set, h.len], fun k P z => ?_, fun k q O1 z => ?_, fun k m q O1 O2 z z' => ?_⟩
  · rcases set_get z with ⟨_, z⟩ | ⟨_, z⟩
    · cases z
    · exact h.val k P z
  · rcases set_get z with ⟨y, z2⟩ | ⟨y, z2⟩
    · cases z2
      obtain ⟨a, b, c, u, d, f⟩ := h.own i p O e
      rw [y]
      exact ⟨a, b, c, u, d, hO u f⟩
    · exact h.own k q O1 z2
  · have key : ∀ (n : Nat) (O3 : OP), (Γ.set i (.own p O'))[n]? = some (.own q O3) → ∃ O4, Γ[n]? = some (.own q O4) := fun n O3 y => by
      rcases set_get y with ⟨y1, y2⟩ | ⟨y1, y2⟩
      · cases y2
        exact ⟨O, by rw [y1]; exact e⟩
      · exact ⟨O3, y2⟩
    obtain ⟨O4, z⟩ := key k O1 z
    obtain ⟨O5, z'⟩ := key m O2 z'
    exact h.dis k m q O4 O5 z z'
theorem go_exO {i : Nat} {p : Addr} {c : α → Prop} {F : α → OP} {k : L2.St → Hp → Prop} (e : Γ[i]? = some (Ent.own p (oX c F))) (g : ∀ a, c a → Go W k (Γ.set i (.own p (F a)))) : Go W k Γ := fun σ L H hs => by
  obtain ⟨a, b, c', u, d, x, hx, f⟩ := hs.own i p _ e
  refine g x hx σ L H ⟨hs.ex, hs.fr, by rw [List.length_set, hs.len], fun k P z => ?_, fun k q O1 z => ?_, fun k m q O1 O2 z z' => ?_⟩
  · rcases set_get z with ⟨_, z⟩ | ⟨_, z⟩
    · cases z
    · exact hs.val k P z
  · rcases set_get z with ⟨y, z2⟩ | ⟨y, z2⟩
    · cases z2
      rw [y]
      exact ⟨a, b, c', u, d, f⟩
    · exact hs.own k q O1 z2
  · have key : ∀ (n : Nat) (O3 : OP), (Γ.set i (.own p (F x)))[n]? = some (.own q O3) → ∃ O4, Γ[n]? = some (.own q O4) := fun n O3 y => by
      rcases set_get y with ⟨y1, y2⟩ | ⟨y1, y2⟩
      · cases y2
        exact ⟨_, by rw [y1]; exact e⟩
      · exact ⟨O3, y2⟩
    obtain ⟨O4, z⟩ := key k O1 z
    obtain ⟨O5, z'⟩ := key m O2 z'
    exact hs.dis k m q O4 O5 z z'
theorem go_wkO {i : Nat} {p : Addr} {k : L2.St → Hp → Prop} (e : Γ[i]? = some (Ent.own p O)) (h : ∀ o L, O.is o L → O'.is o L) (g : Go W k (Γ.set i (.own p O'))) : Go W k Γ := fun σ L H hs => g σ L H (hs.reown e fun o => h o L)
theorem go_wkV {i : Nat} {k : L2.St → Hp → Prop} (e : Γ[i]? = some (Ent.val P)) (h : ∀ v L, P.is v L → R.is v L) (g : Go W k (Γ.set i (.val R))) : Go W k Γ := fun σ L H hs => by
  obtain ⟨v, h1, h2⟩ := hs.val i _ e
  have z := hs.setV (h v L h2) i
  have e2 : σ.set i (some v) = σ := by
    apply List.ext_getElem?
    intro n
    by_cases hn : i = n
    · subst hn
      obtain ⟨hl, _⟩ := List.getElem?_eq_some_iff.mp h1
      rw [List.getElem?_set_self hl, h1]
    · rw [List.getElem?_set_ne hn]
  rw [e2] at z
  exact g σ L H z
theorem RetOk.wkO {Q : VK} {i : Nat} {p : Addr} (e : Γ[i]? = some (Ent.own p O)) (h : ∀ o L, O.is o L → O'.is o L) (g : RetOk W Q P (Γ.set i (.own p O'))) : RetOk W Q P Γ := fun σ v L H hs hv => g σ v L H (hs.reown e fun o => h o L) hv
theorem oX_vp {c : α → Prop} {F : α → OP} (v : V) (L : Hp) (h : (oX c F).vp.is v L) : (pX c fun a => (F a).vp).is v L := by
  obtain ⟨p, o, h1, h2, a, h3, h4⟩ := h
  exact ⟨a, h3, p, o, h1, h2, h4⟩
/-! ### the first part of a reading is some value that is only known to be one of many -/
theorem wd_at {σ : L2.St} {L H : Hp} (h : Has W Γ σ L H) : ∃ W1 : Wd, W1.X = W.X ∧ W1.L = L ∧ Sub W1 W ∧ Has W1 Γ σ L H :=
  ⟨⟨W.X, L, H, fun p hp => (h.fresh hp).2⟩, rfl, rfl, sub_of h _ fun _ z => z, ⟨h.ex, Fr.refl, h.len, h.val, h.own, h.dis⟩⟩
theorem ev_bind (C : TE → TE) {c : α → Prop} {F : α → VP} (ha : Ev W tl Γ (pX c F) Γ1) (h : ∀ (W1 : Wd) (a : α) (tl' : TE), c a → (∀ Δ, Ev W1 tl' Δ (F a) Δ) → Ev W1 (C tl') Γ1 R Γ2) (hC : ∀ tl σ H Q, C tl σ H Q = tl σ H fun x H1 => C (tC x) σ H1 Q := by intros; rfl) : Ev W (C tl) Γ R Γ2 := fun σ L H hs Q q => by
  rw [hC]
  refine ha σ L H hs _ fun v L1 H1 e1 pv h1 => ?_
  obtain ⟨a, hc, pa⟩ := pv
  obtain ⟨W1, _, hL, sb, h1'⟩ := wd_at h1
  refine h W1 a (tC v) hc (fun Δ σ' L' H' hs' Q' q' => q' v L' H' (Ex.refl _) ((F a).up ?_ pa) hs') σ L1 H1 h1' Q fun v' L2 H2 e2 p2 h2 => q v' L2 H2 (e1.trans e2) p2 (sb _ _ _ _ h2)
  have z := hs'.fr.1
  rw [hL] at z
  exact z
/-! ### a pen that is made on the spot -/
theorem ev_callPN {Pre : α → Prop} {O0 O1 : α → OP} {As : α → List VP} {R : α → VP} {E : XK} (a : α) (ha : EvN W te Γ (O0 a) Γ1) (hA : As a = []) (hp : Pre a) : Ev W (tCall (spP Pre O0 As R O1) [] E (tCons te tNil)) Γ (R a) Γ1 := fun σ L H hs Q q =>
  ha σ L H hs _ fun p o L1 H1 e1 hx hl ho hO hn h1 => by
    refine ⟨a, L1, p, [], rfl, hp, h1.ex, hl, ⟨o, ho, hO⟩, by rw [hA]; exact .nil, fun v L2 H2 e2 f2 hl2 ho2 hr => ?_⟩
    refine q v L2 H2 (e1.trans f2.1) hr ⟨e2, h1.fr.trans (f2.mono fun z w => by rw [w]; exact hx), h1.len, fun i P z => ?_, fun i r O z => ?_, h1.dis⟩
    · obtain ⟨v, a, b⟩ := h1.val i P z
      exact ⟨v, a, P.up f2.1 b⟩
    · obtain ⟨a1, a2, a3, u, a4, a5⟩ := h1.own i r O z
      obtain ⟨b1, b2⟩ := f2.2 r u a3 (fun w => hn i r O z w) a4
      exact ⟨a1, a2, b1, u, b2, O.up f2.1 a5⟩
/-! ### the rest of the letters -/
def oRest (n : Nat) : OP := oX (fun l : List Nat => l.length = n) (fun l => oL (fun c => pS (one c)) l)
theorem ev_lenR {k n : Nat} {p : Addr} (e : Γ[k]? = some (Ent.own p (oRest n))) : Ev W (tCB (rLen K) (tCons (tVar k) tNil)) Γ (pI n) Γ := fun σ L H hs Q q => by
  obtain ⟨a, b, c, o, d, l, hl, vs, rfl, hp⟩ := hs.own k p _ e
  exact ⟨.ref p, a, p, vs, rfl, .inl (SqL.of d), by rw [pair_len hp, hl]; exact q _ L H (Ex.refl L) rfl hs⟩
theorem ev_pop {k n : Nat} {p : Addr} {ti : TE} (hn : n < 1000) (e : Γ[k]? = some (Ent.own p (oRest n))) (hi : Ev W ti Γ (pX (fun i : Int => 0 ≤ i ∧ i < n) fun i => pI i) Γ1) (e1 : Γ1[k]? = some (Ent.own p (oRest n))) :
    Ev W (tBM K "list" rPopAt (tVar k) (tCons ti tNil)) Γ (pX (fun _ : Nat => True) fun c => pS (one c)) (Γ1.set k (.own p (oRest (n - 1)))) := fun σ L H hs Q q => by
  obtain ⟨a, b, c, o, d, l, hl, vs, rfl, hp⟩ := hs.own k p _ e
  refine ⟨.ref p, a, .inl ⟨rfl, vs, SqL.of d⟩, hi σ L H hs _ fun v L1 H1 f1 pv h1 => ?_⟩
  obtain ⟨i, ⟨i0, i1⟩, ev⟩ := pv
  have ev : v = .int i := ev
  subst ev
  obtain ⟨a', b', c', o', d', l', hl', vs', rfl, hp'⟩ := h1.own k p _ e1
  have hvl := pair_len hp'
  have ht : i.toNat < l'.length := by omega
  obtain ⟨y, hy, py⟩ := pair_get hp' (List.getElem?_eq_getElem ht)
  refine ⟨p, vs', i, i.toNat, y, rfl, rfl, d', by omega, by omega, (ixN_seq (n := vs'.length) (i := i) (j := i.toNat) ?_).1, hy, ?_⟩
  · unfold ixN
    rw [if_pos i0, if_pos (by omega)]
  · refine q y L1 _ f1 ⟨_, trivial, py⟩ (h1.mut e1 ⟨l'.eraseIdx i.toNat, ?_, _, rfl, pair_erase _ hp'⟩)
    show (l'.eraseIdx i.toNat).length = n - 1
    rw [List.length_eraseIdx_of_lt ht]
    omega
/-! ### list(text), list(range), tuple(list) -/
def rListS : List V → Hp → VK → Prop := fun xs H Q => ∃ z : Str, xs = [.str z] ∧ z.length ≤ sizeLine ∧ ∀ p, H p = none → Q (.ref p) (upd H p (.lst (z.cps.toList.map fun c => .str ⟨#[c]⟩)))
theorem call_listS {X : Cx} (hc : X.calm = true) : CallR X (.type "list") rListS := by
  intro pins s σ H xs us Q I r h
  obtain ⟨z, rfl, hz, q⟩ := h
  obtain ⟨u, rfl, rx⟩ := vals1 r
  obtain ⟨t, rfl⟩ := rx
  have hz' : z.cps.size ≤ sizeLine := hz
  refine call_list_str (I.ok.hd hc) z t (hn := hz') fun h' tk acc c' hk hD hi => ?_
  have hv : Vals (z.cps.toList.map fun c => V.str ⟨#[c]⟩) acc.toList := vals_of_at (by rw [List.length_map, Array.length_toList, Array.length_toList, hi.1]) fun j x u h1 h2 => by
    obtain ⟨c, t', e1, e2⟩ := hi.2 j u (by rw [← Array.getElem?_toList]; exact h2)
    rw [List.getElem?_map, Array.getElem?_toList, e1] at h1
    cases h1
    exact ⟨t', e2⟩
  refine ⟨.ref s.heap.objs.size, upd H s.heap.objs.size (.lst (z.cps.toList.map fun c => V.str ⟨#[c]⟩)), I.laid (t' := tk) hk (Nat.le_refl _)
    (show ObjOk X.prog X.w _ _ _ (.lst (z.cps.toList.map fun c => V.str ⟨#[c]⟩)) from ⟨by rw [List.length_map, Array.length_toList]; exact hz', acc.toList, c', hv, by rw [Array.toArray_toList]; exact hD⟩), rfl, q _ (I.hok.fresh (Nat.le_refl _))⟩
theorem evn_listS {z : Str} (ha : Ev W ta Γ (pS z) Γ1) (hz : z.length ≤ 100000) : EvN W (tCB rListS (tCons ta tNil)) Γ (oL (fun c => pS (one c)) z.cps.toList) Γ1 := evn_cb (ea_one ha) fun vs L H e h => by
  obtain ⟨v, rfl, h1⟩ := pair1 h
  have h1 : v = .str z := h1
  exact ⟨_, ⟨_, rfl, pC_pair (g := fun c => V.str (one c)) _⟩, fun Q q => ⟨z, by rw [h1], Evl.sz_of hz, q⟩⟩
theorem evn_listRg {te : TE} {n : Nat} (ha : Ev W te Γ (pI (n : Int)) Γ1) (hn : n ≤ 1000) : EvN W (tLstRg (tRg1 te)) Γ (oL (fun i : Nat => pI (i : Int)) (List.range n)) Γ1 := fun σ L H hs Q q =>
  ha σ L H hs _ fun v L1 H1 e1 pv h1 => by
    refine ⟨(n : Int), pv, RgOk.of_le (by omega) (by omega) (by omega) (by omega), fun p hp => q p _ L1 _ e1 (h1.fresh hp).2 (h1.fresh hp).1 upd_same ⟨_, rfl, ?_⟩ (h1.ownNe hp) (h1.alloc hp _)⟩
    have e : rgV 0 (n : Int) = (List.range n).map fun i => V.int (i : Nat) := by
      unfold rgV
      simp
    rw [e]
    exact pC_pair (g := fun i : Nat => V.int (i : Int)) _
def rTupO (K : PySem.W.Frag) : List V → Hp → VK → Prop := fun xs H Q => ∃ p ys, xs = [.ref p] ∧ ((SqL K H p ys ∧ ∀ l, H l = none → Q (.ref l) (upd H l (.tup ys))) ∨ (SqT K H p ys ∧ Q (.ref p) H))
theorem call_tupO {X : Cx} : CallR X (.type "tuple") (rTupO X.K) := call_tuple_of
theorem evn_tupO (ha : Ev W ta Γ (pL f l) Γ1) : EvN W (tCB (rTupO K) (tCons ta tNil)) Γ (oT f l) Γ1 := evn_cb (ea_one ha) fun vs L H e h => by
  obtain ⟨v, rfl, h1⟩ := pair1 h
  obtain ⟨a, us, rfl, hL, hp⟩ := pL_at h1
  exact ⟨.tup us, ⟨us, rfl, hp⟩, fun Q q => ⟨a, us, rfl, .inl ⟨SqL.of (e a _ hL), q⟩⟩⟩
/-! ### dicts by letters -/
def enc (l : List (Nat × Str)) : List (Key × V) := l.map fun r => (Sum.inr (one r.1), V.str r.2)
def oDe (l : List (Nat × Str)) : OP := ⟨fun o _ => o = .dK (enc l), fun _ h => h⟩
def DSh (n : Nat) (l : List (Nat × Str)) : Prop := (l.map (·.1)).Nodup ∧ l.length ≤ n ∧ ∀ r ∈ l, r.2.length ≤ 6
def oDict (n : Nat) : OP := oX (DSh n) oDe
theorem one_inj {a b : Nat} (h : one a = one b) : a = b := by
  unfold one at h
  injection h with h
  injection h with h
  injection h
theorem put_shape {n : Nat} {l : List (Nat × Str)} (h : DSh n l) (c : Nat) (s : Str) (hs : s.length ≤ 6) : ∃ l', putK (enc l) (Sum.inr (one c)) (V.str s) = enc l' ∧ DSh (n + 1) l' := by
  obtain ⟨h1, h2, h3⟩ := h
  have key : ∀ r : Nat × Str, decide ((Sum.inr (one r.1) : Key) = Sum.inr (one c)) = decide (r.1 = c) := fun r => by
    by_cases e : r.1 = c
    · rw [e]; simp
    · have : ¬ (Sum.inr (one r.1) : Key) = Sum.inr (one c) := fun z => e (one_inj (Sum.inr.inj z))
      rw [decide_eq_false this, decide_eq_false e]
  by_cases hc : c ∈ l.map (·.1)
  · refine ⟨l.map fun r => if r.1 = c then (r.1, s) else r, ?_, ?_, ?_, ?_⟩
    · unfold putK
      have ha : ((enc l).any fun kv => decide (kv.1 = Sum.inr (one c))) = true := by
        obtain ⟨r, hr, e⟩ := List.mem_map.mp hc
        refine List.any_eq_true.mpr ⟨(Sum.inr (one r.1), V.str r.2), List.mem_map.mpr ⟨r, hr, rfl⟩, ?_⟩
        rw [key]
        exact decide_eq_true e
      rw [if_pos ha]
      unfold enc
      rw [List.map_map, List.map_map]
      apply List.map_congr_left
      intro r _
      by_cases e : r.1 = c
      · simp [e]
      · have : ¬ (Sum.inr (one r.1) : Key) = Sum.inr (one c) := fun z => e (one_inj (Sum.inr.inj z))
        simp [e, this]
    · rw [List.map_map]
      have e : ((fun r : Nat × Str => r.1) ∘ fun r => if r.1 = c then (r.1, s) else r) = fun r => r.1 := by
        funext r
        simp only [Function.comp]
        split <;> rfl
      rw [e]
      exact h1
    · rw [List.length_map]
      omega
    · intro r hr
      obtain ⟨r', hr', rfl⟩ := List.mem_map.mp hr
      split
      · exact hs
      · exact h3 r' hr'
  · refine ⟨l ++ [(c, s)], ?_, ?_, ?_, ?_⟩
    · unfold putK
      have ha : ¬ ((enc l).any fun kv => decide (kv.1 = Sum.inr (one c))) = true := by
        intro z
        obtain ⟨kv, hkv, e⟩ := List.any_eq_true.mp z
        obtain ⟨r, hr, rfl⟩ := List.mem_map.mp hkv
        rw [key] at e
        exact hc (List.mem_map.mpr ⟨r, hr, of_decide_eq_true e⟩)
      rw [if_neg ha]
      unfold enc
      rw [List.map_append]
      rfl
    · rw [List.map_append, List.nodup_append]
      refine ⟨h1, by simp, fun a ha b hb e => ?_⟩
      have : b = c := by simpa using hb
      rw [e, this] at ha
      exact hc ha
    · rw [List.length_append]
      simp
      omega
    · intro r hr
      rcases List.mem_append.mp hr with z | z
      · exact h3 r z
      · rw [List.mem_singleton.mp z]
        exact hs
theorem evn_dnew : EvN W tDNewK Γ (oDict 0) Γ := fun σ L H hs Q q => fun p hp => q p _ L _ (Ex.refl L) (hs.fresh hp).2 (hs.fresh hp).1 upd_same ⟨[], ⟨List.nodup_nil, Nat.le_refl _, fun r hr => by cases hr⟩, rfl⟩ (hs.ownNe hp) (hs.alloc hp _)
theorem go_dput {k : Nat} {n : Nat} {p : Addr} {ty tv : TE} {c : Nat} {D : Ends} (hv : Ev W tv Γ (pX (fun s : Str => s.length ≤ 6) fun s => pS s) Γ1) (e : Γ1[k]? = some (Ent.own p (oDict n))) (hk : Ev W ty Γ1 (pS (one c)) Γ1) (hn : n < 1000)
    (g : Go W D.nx (Γ1.set k (.own p (oDict (n + 1))))) : Go W (sDPut (tVar k) ty tv D) Γ := fun σ L H hs => hv σ L H hs _ fun v L1 H1 e1 pv h1 => by
  obtain ⟨s, hsl, ev⟩ := pv
  have ev : v = .str s := ev
  subst ev
  obtain ⟨a, b, c', o, d, f⟩ := h1.own k p _ e
  refine ⟨.ref p, a, hk σ L1 H1 h1 _ fun u L2 H2 e2 pu h2 => ?_⟩
  have pu : u = .str (one c) := pu
  subst pu
  obtain ⟨a', b', c', o', d', l, hl, ho⟩ := h2.own k p _ e
  have ho : o' = .dK (enc l) := ho
  subst ho
  obtain ⟨l', hput, hsh⟩ := put_shape hl c s hsl
  refine ⟨p, _, rfl, DPut.k (k := Sum.inr (one c)) d' ?_, ?_⟩
  · show (enc l).length < sizeLine
    unfold enc
    rw [List.length_map]
    exact Evl.sz_lt (by have := hl.2.1; omega)
  · rw [hput]
    exact g σ L2 _ (h2.mut e ⟨l', hsh, rfl⟩)
theorem val_enc {l : List (Nat × Str)} (hd : (l.map (·.1)).Nodup) {r : Nat × Str} (hr : r ∈ l) : valV (enc l) (Sum.inr (one r.1)) = some (V.str r.2) := by
  induction l with
  | nil => cases hr
  | cons x t ih =>
    have hd' := List.nodup_cons.mp (show (x.1 :: t.map (·.1)).Nodup from hd)
    show valV ((Sum.inr (one x.1), V.str x.2) :: enc t) _ = _
    rcases List.mem_cons.mp hr with e | e
    · rw [valV_pos (show (Sum.inr (one x.1) : Key) = Sum.inr (one r.1) by rw [e]), e]
    · have ne : ¬ (Sum.inr (one x.1) : Key) = Sum.inr (one r.1) := fun z => hd'.1 (by rw [one_inj (Sum.inr.inj z)]; exact List.mem_map.mpr ⟨r, e, rfl⟩)
      rw [valV_neg ne]
      exact ih hd'.2 e
theorem ev_dget {l : List (Nat × Str)} {td ty : TE} {r : Nat × Str} (hd : (l.map (·.1)).Nodup) (hr : r ∈ l) (ha : Ev W td Γ (oDe l).vp Γ1) (hb : Ev W ty Γ1 (pS (one r.1)) Γ2) : Ev W (tDGet td ty) Γ (pS r.2) Γ2 := fun σ L H hs Q q =>
  ha σ L H hs _ fun v L1 H1 e1 pv h1 => hb σ L1 H1 h1 _ fun u L2 H2 e2 pu h2 => by
    obtain ⟨p, o, rfl, h3, h4⟩ := pv
    have h4 : o = .dK (enc l) := h4
    subst h4
    have pu : u = .str (one r.1) := pu
    subst pu
    have g := DGet.k (k := Sum.inr (one r.1)) (h2.ex p _ (e2 p _ h3))
    rw [val_enc hd hr] at g
    exact ⟨p, .str r.2, rfl, g, q _ L2 H2 (e1.trans e2) rfl h2⟩
def rSortD : List V → Hp → VK → Prop := fun xs H Q => ∃ (a : Addr) (kvs : List (Key × V)) (ks : List Str), xs = [.ref a] ∧ Rd H a (.dK kvs) ∧ kvs.map (·.1) = ks.map Sum.inr ∧ ks.length < 64 ∧
  ∀ ys p, ys.Perm ks → sortedS ys = true → H p = none → Q (.ref p) (upd H p (.lst (ys.map V.str)))
theorem call_sortD {X : Cx} (hc : X.calm = true) : CallR X (.builtin "sorted") rSortD := call_sortedD hc
theorem perm_ones {ys : List Str} {cs : List Nat} (h : ys.Perm (cs.map one)) : ∃ zs : List Nat, ys = zs.map one ∧ zs.Perm cs := by
  have hc : ∀ c : Nat, (one c).cps.getD 0 0 = c := fun c => rfl
  refine ⟨ys.map fun s => s.cps.getD 0 0, ?_, ?_⟩
  · rw [List.map_map]
    have : ∀ y ∈ ys, (one ∘ fun s : Str => s.cps.getD 0 0) y = y := fun y hy => by
      obtain ⟨c, _, rfl⟩ := List.mem_map.mp (h.mem_iff.mp hy)
      show one ((one c).cps.getD 0 0) = one c
      rw [hc]
    rw [List.map_congr_left this]
    simp
  · have z := h.map (fun s : Str => s.cps.getD 0 0)
    rw [List.map_map] at z
    have : ((fun s : Str => s.cps.getD 0 0) ∘ one) = id := by funext c; exact hc c
    rw [this, List.map_id] at z
    exact z
theorem ev_sortD {l : List (Nat × Str)} (ha : Ev W ta Γ (oDe l).vp Γ1) (hl : l.length < 64) : Ev W (tCB rSortD (tCons ta tNil)) Γ (pX (fun cs : List Nat => cs.Perm (l.map (·.1))) fun cs => pL (fun c => pS (one c)) cs) Γ1 := fun σ L H hs Q q =>
  ha σ L H hs _ fun v L1 H1 e1 pv h1 => by
    obtain ⟨p, o, rfl, h3, h4⟩ := pv
    have h4 : o = .dK (enc l) := h4
    subst h4
    refine ⟨p, enc l, l.map fun r => one r.1, rfl, .inl (h1.ex p _ h3), ?_, by rw [List.length_map]; exact hl, fun ys q' hp _ hq => ?_⟩
    · unfold enc
      rw [List.map_map, List.map_map]
      rfl
    · have e : (l.map fun r => one r.1) = (l.map (·.1)).map one := by rw [List.map_map]; rfl
      rw [e] at hp
      obtain ⟨zs, rfl, hz⟩ := perm_ones hp
      have hl1 := (h1.fresh hq).1
      refine q (.ref q') (upd L1 q' (.lst ((zs.map one).map V.str))) _ (e1.trans (Ex.new hl1)) ⟨zs, hz, q', _, rfl, upd_same, _, rfl, ?_⟩ ((h1.alloc hq _).show hl1 (h1.fresh hq).2 upd_same (h1.ownNe hq))
      rw [List.map_map]
      exact pC_pair (g := fun c => V.str (one c)) _
/-! ### lists compared -/
theorem dpAll_ints {K : PySem.W.Frag} {H : Hp} : ∀ ns : List Int, DpAll K H (ns.map V.int) (ns.map PyData.int)
  | [] => .nil
  | n :: r => .cons (.int n) (dpAll_ints r)
theorem canLay_ints : ∀ ns : List Int, PyData.canLayAll0 (ns.map PyData.int) = true
  | [] => rfl
  | n :: r => by
    show (true && PyData.canLayAll0 (r.map PyData.int)) = true
    rw [canLay_ints r]
    rfl
theorem depth_ints : ∀ ns : List Int, PyData.depthAll (ns.map PyData.int) ≤ 1
  | [] => by simp [PyData.depthAll]
  | n :: r => by
    have := depth_ints r
    show max (PyData.depth (.int n)) (PyData.depthAll (r.map PyData.int)) ≤ 1
    have : PyData.depth (.int n) ≤ 1 := by simp [PyData.depth]
    omega
theorem eqvAll_ints : ∀ ns : List Int, PyData.eqvAll (ns.map PyData.int) (ns.map PyData.int) = true
  | [] => rfl
  | n :: r => by
    show ((n == n) && PyData.eqvAll (r.map PyData.int) (r.map PyData.int)) = true
    rw [eqvAll_ints r]
    simp
theorem shaped_ints (ns : List Int) : SeqAt.shaped (PyData.list (ns.map PyData.int)) = true := by
  have h1 := canLay_ints ns
  have h2 := depth_ints ns
  unfold SeqAt.shaped
  have e1 : (PyData.list (ns.map PyData.int)).canLay0 = true := by
    show PyData.canLayAll0 _ = true
    exact h1
  have e2 : (PyData.list (ns.map PyData.int)).depth ≤ 64 := by
    show PyData.depthAll _ + 1 ≤ 64
    omega
  rw [e1, decide_eq_true e2]
  rfl
theorem ev_neL {ns : List Int} (ha : Ev W ta Γ (pLI ns) Γ1) (hb : Ev W tb Γ1 (pLI ns) Γ2) : Ev W (tOp (rNeD K) ta tb) Γ (pB false) Γ2 := ev_op ha hb fun x y L H e h1 h2 => by
  obtain ⟨a, rfl, hL⟩ := pL_ints h1
  obtain ⟨b, rfl, hM⟩ := pL_ints h2
  refine ⟨.bl false, rfl, fun Q q => ⟨.list (ns.map .int), .list (ns.map .int), .lst (SqL.of (e a _ hL)) (dpAll_ints ns), .lst (SqL.of (e b _ hM)) (dpAll_ints ns), shaped_ints ns, shaped_ints ns, ?_⟩⟩
  have : PyData.eqv (.list (ns.map .int)) (.list (ns.map .int)) = true := by
    show PyData.eqvAll _ _ = true
    exact eqvAll_ints ns
  rw [this]
  exact q
/-! ### texts of drawn letters -/
theorem join_len {ys : List Str} (h : ∀ s ∈ ys, s.length = 1) : (Txt.join ⟨#[]⟩ ys).length = ys.length := by
  have e := congrArg List.length (join_nil ys)
  rw [Array.length_toList] at e
  show (Txt.join ⟨#[]⟩ ys).cps.size = _
  rw [e]
  clear e
  induction ys with
  | nil => rfl
  | cons s r ih =>
    have hs : s.cps.size = 1 := h s (List.mem_cons_self ..)
    rw [List.flatMap_cons, List.length_append, ih fun x hx => h x (List.mem_cons_of_mem _ hx), Array.length_toList, hs, List.length_cons]
    omega
end
end Lg
/-! plain lemmas that the walks ask -/
namespace Ma
theorem S_congr {n : Nat} {f h : Nat → Int} (e : ∀ i, i < n → f i = h i) : S n f = S n h := by
  induction n with
  | zero => rfl
  | succ n ih =>
    show S n f + f n = S n h + h n
    rw [ih (fun i hi => e i (by omega)), e n (by omega)]
theorem S_zero (n : Nat) : S n (fun _ => 0) = 0 := by
  induction n with
  | zero => rfl
  | succ n ih => show S n (fun _ => 0) + 0 = 0; rw [ih]; rfl
theorem g_at {xs : List Int} {i : Nat} {x : Int} (h : xs[i]? = some x) : g xs i = x := by
  unfold g
  rw [List.getD_eq_getElem?_getD, h]
  rfl
theorem g_lt {xs : List Int} {i : Nat} (h : i < xs.length) : xs[i]? = some (g xs i) := by
  unfold g
  rw [List.getD_eq_getElem?_getD, List.getElem?_eq_getElem h]
  rfl
theorem g_ge {xs : List Int} {i : Nat} (h : xs.length ≤ i) : g xs i = 0 := by
  unfold g
  rw [List.getD_eq_getElem?_getD, List.getElem?_eq_none h]
  rfl
theorem g_map (n : Nat) (F : Nat → Int) (i : Nat) : g ((List.range n).map F) i = if i < n then F i else 0 := by
  by_cases h : i < n
  · rw [if_pos h]
    exact g_at (by rw [List.getElem?_map, List.getElem?_range h]; rfl)
  · rw [if_neg h]
    exact g_ge (by simpa using h)
theorem ext_g {xs ys : List Int} (h : xs.length = ys.length) (e : ∀ i, i < xs.length → g xs i = g ys i) : xs = ys := by
  apply List.ext_getElem? 
  intro i
  by_cases hi : i < xs.length
  · rw [g_lt hi, g_lt (by omega), e i hi]
  · rw [List.getElem?_eq_none (by omega), List.getElem?_eq_none (by omega)]
theorem map_g {xs : List Int} {n : Nat} (h : xs.length = n) : (List.range n).map (g xs) = xs := by
  subst h
  exact ext_g (by simp) fun i hi => by rw [g_map, if_pos (by simpa using hi)]
theorem set_map {n : Nat} {F G : Nat → Int} {p : Nat} {v : Int} (hv : v = G p) (he : ∀ i, i < n → i ≠ p → F i = G i) : ((List.range n).map F).set p v = (List.range n).map G := by
  apply ext_g
  · simp
  · intro i hi
    have hi' : i < n := by simpa using hi
    by_cases e : i = p
    · subst e
      rw [g_map, if_pos hi']
      rw [g_at (x := v) (by rw [List.getElem?_set_self (by simpa using hi')]), hv]
    · rw [g_map, if_pos hi', ← he i hi' e]
      apply g_at
      rw [List.getElem?_set_ne (fun z => e z.symm), List.getElem?_map, List.getElem?_range hi']
      rfl
/-- the row as it stands behind the first a counts and p of the next -/
def acc (n : Nat) (x : List Int) (R : List (List Int)) (a p : Nat) : List Int := (List.range n).map fun j => S a (fun i => g x i * g2 R i j) + if j < p then g x a * g2 R a j else 0
theorem acc_len (n : Nat) (x : List Int) (R : List (List Int)) (a p : Nat) : (acc n x R a p).length = n := by simp [acc]
theorem acc_00 (n : Nat) (x : List Int) (R : List (List Int)) : acc n x R 0 0 = (List.range n).map fun _ => 0 := by
  unfold acc
  apply List.map_congr_left
  intro j _
  simp [S]
theorem acc_step {n : Nat} {x : List Int} {R : List (List Int)} {a p : Nat} (hp : p < n) : (acc n x R a p).set p (g (acc n x R a p) p + g x a * g2 R a p) = acc n x R a (p + 1) := by
  unfold acc
  refine set_map ?_ ?_
  · rw [g_map, if_pos hp]
    simp
  · intro i hi ne
    have e : (i < p) = (i < p + 1) := propext ⟨fun h => by omega, fun h => by omega⟩
    simp only [e]
theorem acc_next {n : Nat} {x : List Int} {R : List (List Int)} {a : Nat} : acc n x R a n = acc n x R (a + 1) 0 := by
  unfold acc
  apply List.map_congr_left
  intro j hj
  have hj' : j < n := by simpa using hj
  rw [if_pos hj', if_neg (by omega)]
  exact (Int.add_zero _).symm
theorem acc_skip {n : Nat} {x : List Int} {R : List (List Int)} {a : Nat} (h : g x a = 0) : acc n x R a 0 = acc n x R (a + 1) 0 := by
  unfold acc
  apply List.map_congr_left
  intro j hj
  rw [if_neg (by omega), if_neg (by omega)]
  show _ = S a _ + g x a * g2 R a j + 0
  rw [h]
  omega
theorem acc_end (n : Nat) (x : List Int) (R : List (List Int)) : acc n x R n 0 = vm n x R := by
  unfold acc vm
  apply List.map_congr_left
  intro j _
  rw [if_neg (by omega), Int.add_zero]
theorem bd_at {b : Nat} {xs : List Int} (h : Bd b xs) (hb : 0 < b) (i : Nat) : (g xs i).natAbs < 2 ^ b := by
  by_cases hi : i < xs.length
  · exact h _ (List.mem_of_getElem? (g_lt hi))
  · rw [g_ge (by omega)]
    exact Nat.two_pow_pos b
theorem foldl_take {α β : Type} (f : β → α → β) (b : β) {l : List α} {i : Nat} {x : α} (h : l[i]? = some x) : (l.take (i + 1)).foldl f b = f ((l.take i).foldl f b) x := by
  rw [List.take_add_one, h, List.foldl_append]
  rfl
end Ma
namespace Ma
theorem S_add (n : Nat) (f h : Nat → Int) : S n (fun i => f i + h i) = S n f + S n h := by
  induction n with
  | zero => rfl
  | succ n ih => show S n _ + (f n + h n) = S n f + f n + (S n h + h n); rw [ih]; omega
theorem S_mul (n : Nat) (c : Int) (f : Nat → Int) : S n (fun i => c * f i) = c * S n f := by
  induction n with
  | zero => show (0 : Int) = c * 0; simp
  | succ n ih => show S n _ + c * f n = c * (S n f + f n); rw [ih, Int.mul_add]
theorem S_mulr (n : Nat) (c : Int) (f : Nat → Int) : S n (fun i => f i * c) = S n f * c := by
  rw [Int.mul_comm, ← S_mul]
  exact S_congr fun i _ => Int.mul_comm _ _
theorem S_swap (n m : Nat) (f : Nat → Nat → Int) : S n (fun i => S m (fun j => f i j)) = S m (fun j => S n (fun i => f i j)) := by
  induction n with
  | zero => show (0 : Int) = S m (fun _ => 0); rw [S_zero]
  | succ n ih =>
    show S n _ + S m _ = S m (fun j => S n (fun i => f i j) + f n j)
    rw [ih, ← S_add]
theorem S_mod (n : Nat) (N : Int) {f h : Nat → Int} (e : ∀ i, i < n → f i % N = h i % N) : S n f % N = S n h % N := by
  induction n with
  | zero => rfl
  | succ n ih =>
    show (S n f + f n) % N = (S n h + h n) % N
    rw [Int.add_emod, ih (fun i hi => e i (by omega)), e n (by omega), ← Int.add_emod]
theorem S_neg (n : Nat) (f : Nat → Int) : S n (fun i => - f i) = - S n f := by
  induction n with
  | zero => rfl
  | succ n ih => show S n _ + - f n = - (S n f + f n); rw [ih]; omega
theorem S_sub (n : Nat) (f h : Nat → Int) : S n (fun i => f i - h i) = S n f - S n h := by
  induction n with
  | zero => rfl
  | succ n ih => show S n _ + (f n - h n) = S n f + f n - (S n h + h n); rw [ih]; omega
theorem vm_len (n : Nat) (x : List Int) (R : List (List Int)) : (vm n x R).length = n := by simp [vm]
theorem g_vm {n : Nat} {x : List Int} {R : List (List Int)} {j : Nat} (hj : j < n) : g (vm n x R) j = S n fun i => g x i * g2 R i j := by
  unfold vm
  rw [g_map, if_pos hj]
theorem md_len (N : Int) (x : List Int) : (md N x).length = x.length := by simp [md]
theorem g_md (N : Int) (x : List Int) (i : Nat) : g (md N x) i = g x i % N := by
  by_cases h : i < x.length
  · exact g_at (by unfold md; rw [List.getElem?_map, g_lt h]; rfl)
  · rw [g_ge (by rw [md_len]; omega), g_ge (by omega)]
    simp
theorem md_ext {N : Int} {x y : List Int} (h : x.length = y.length) (e : ∀ i, i < x.length → g x i % N = g y i % N) : md N x = md N y :=
  ext_g (by rw [md_len, md_len, h]) fun i hi => by rw [g_md, g_md, e i (by rwa [md_len] at hi)]
theorem md_eq {N : Int} {x y : List Int} (h : md N x = md N y) (i : Nat) : g x i % N = g y i % N := by rw [← g_md, ← g_md, h]
theorem md_md (N : Int) (x : List Int) : md N (md N x) = md N x := md_ext (md_len N x) fun i _ => by rw [g_md]; exact Int.emod_emod ..
theorem g2_map {R : List (List Int)} {F : List Int → List Int} {i : Nat} (hi : i < R.length) (j : Nat) : g2 (R.map F) i j = g (F (R.getD i [])) j := by
  unfold g2
  rw [List.getD_eq_getElem?_getD, List.getElem?_map, List.getD_eq_getElem?_getD, List.getElem?_eq_getElem hi]
  rfl
/-- mod in the row -/
theorem vm_md_l (n : Nat) (N : Int) (x : List Int) (R : List (List Int)) : md N (vm n (md N x) R) = md N (vm n x R) :=
  md_ext (by rw [vm_len, vm_len]) fun j hj => by
    rw [vm_len] at hj
    rw [g_vm hj, g_vm hj]
    exact S_mod n N fun i _ => by rw [g_md, Int.mul_emod, Int.emod_emod, ← Int.mul_emod]
/-- mod in the table -/
theorem vm_md_r {n : Nat} (N : Int) (x : List Int) {R : List (List Int)} (hR : R.length = n) : md N (vm n x (R.map (md N))) = md N (vm n x R) :=
  md_ext (by rw [vm_len, vm_len]) fun j hj => by
    rw [vm_len] at hj
    rw [g_vm hj, g_vm hj]
    exact S_mod n N fun i hi => by rw [g2_map (by omega), g_md, Int.mul_emod, Int.emod_emod, ← Int.mul_emod]; rfl
/-- one table laid behind another -/
theorem vm_laid {n : Nat} (N : Int) (x : List Int) {R Z : List (List Int)} (hR : R.length = n) : md N (vm n x (R.map fun r => md N (vm n r Z))) = md N (vm n (vm n x R) Z) :=
  md_ext (by rw [vm_len, vm_len]) fun j hj => by
    rw [vm_len] at hj
    rw [g_vm hj, g_vm hj]
    have e1 : S n (fun i => g x i * g2 (R.map fun r => md N (vm n r Z)) i j) % N = S n (fun i => S n fun l => g x i * (g2 R i l * g2 Z l j)) % N :=
      S_mod n N fun i hi => by
        rw [g2_map (F := fun r => md N (vm n r Z)) (by omega), g_md, Int.mul_emod, Int.emod_emod, ← Int.mul_emod, g_vm hj, ← S_mul]
        rfl
    rw [e1, S_swap]
    congr 1
    apply S_congr
    intro l hl
    rw [g_vm hl, ← S_mulr]
    exact S_congr fun i _ => by rw [Int.mul_assoc]
/-- a table that leads k ages on -/
def Pw (n : Nat) (N : Int) (v : Nat → List Int) (k : Nat) (R : List (List Int)) : Prop := ∀ t, md N (vm n (v t) R) = md N (v (t + k))
theorem Pw.sq {n : Nat} {N : Int} {v : Nat → List Int} {k : Nat} {R : List (List Int)} (h : Pw n N v k R) (hR : R.length = n) : Pw n N v (k + k) (R.map fun r => md N (vm n r R)) := fun t => by
  rw [vm_laid N (v t) hR, ← vm_md_l, h t, vm_md_l, h (t + k), Nat.add_assoc]
theorem Pw.one {n : Nat} {N : Int} {A : List (List Int)} {x : List Int} (hA : A.length = n) : Pw n N (V n A x) 1 (A.map (md N)) := fun t => vm_md_r N _ hA
theorem V_len {n : Nat} {A : List (List Int)} {x : List Int} (h : x.length = n) : ∀ t, (V n A x t).length = n
  | 0 => h
  | t + 1 => vm_len n _ _
theorem md_bd {N : Int} (h0 : 0 < N) (h1 : N < 10 ^ 30) (x : List Int) : Bd 1000 (md N x) := by
  intro y hy
  obtain ⟨z, _, rfl⟩ := List.mem_map.mp hy
  have a := Int.emod_nonneg z (show N ≠ 0 by omega)
  have b := Int.emod_lt_of_pos z h0
  have e : (10 : Int) ^ 30 = 1000000000000000000000000000000 := by decide
  have e2 : 1000000000000000000000000000000 < 2 ^ 100 := by decide
  exact Nat.lt_of_lt_of_le (show (z % N).natAbs < 2 ^ 100 by omega) (Nat.pow_le_pow_right (by decide) (by decide))
end Ma
namespace Ma
theorem gcd_step (x y : Int) : Int.gcd y (x.fmod y) = Int.gcd x y := by
  have e : x.fmod y = x - y * x.fdiv y := Int.fmod_def x y
  rw [e, Int.gcd_comm x y]
  have h : ∀ q : Int, Int.gcd y (x - y * q) = Int.gcd y x := fun q => by
    apply Nat.dvd_antisymm
    · apply Int.dvd_gcd (Int.gcd_dvd_left ..)
      have h1 : ((Int.gcd y (x - y * q) : Nat) : Int) ∣ y := Int.gcd_dvd_left ..
      have h2 : ((Int.gcd y (x - y * q) : Nat) : Int) ∣ x - y * q := Int.gcd_dvd_right ..
      have h3 := Int.dvd_add h2 (Int.dvd_trans h1 (Int.dvd_mul_right y q))
      rwa [Int.sub_add_cancel] at h3
    · apply Int.dvd_gcd (Int.gcd_dvd_left ..)
      have h1 : ((Int.gcd y x : Nat) : Int) ∣ y := Int.gcd_dvd_left ..
      have h2 : ((Int.gcd y x : Nat) : Int) ∣ x := Int.gcd_dvd_right ..
      exact Int.dvd_sub h2 (Int.dvd_trans h1 (Int.dvd_mul_right y q))
  exact h _
theorem fmod_lt (x y : Int) (h : y ≠ 0) : (x.fmod y).natAbs < y.natAbs := by
  have h1 := Int.emod_nonneg x h
  have h2 : x % y < (y.natAbs : Int) := by
    rcases Int.lt_or_gt_of_ne h with z | z
    · have q := Int.emod_lt_of_pos x (show 0 < -y by omega)
      rw [Int.emod_neg] at q
      omega
    · have q := Int.emod_lt_of_pos x z
      omega
  rw [Int.fmod_eq_emod]
  split
  · omega
  · rename_i hc
    have hc1 : ¬ 0 ≤ y := fun z => hc (.inl z)
    have hc2 : ¬ y ∣ x := fun z => hc (.inr z)
    have h3 : x % y ≠ 0 := fun z => hc2 (Int.dvd_of_emod_eq_zero z)
    omega
theorem gcd_lt {b : Nat} {p x : Int} (hp : p.natAbs < 2 ^ b) (hx : x.natAbs < 2 ^ b) : ((Int.gcd p x : Nat) : Int).natAbs < 2 ^ b := by
  rw [Int.natAbs_natCast]
  by_cases h : p = 0
  · rw [h, Int.gcd_zero_left]
    exact hx
  · exact Nat.lt_of_le_of_lt (Nat.le_of_dvd (by omega) (Int.gcd_dvd_natAbs_left ..)) hp
theorem cont_lt0 {b : Nat} : ∀ (xs : List Int) (p : Int), p.natAbs < 2 ^ b → Bd b xs → (xs.foldl (fun p x => (Int.gcd p x : Int)) p).natAbs < 2 ^ b
  | [], p, hp, _ => hp
  | x :: r, p, hp, h => cont_lt0 r _ (gcd_lt hp (h x (List.mem_cons_self ..))) fun y hy => h y (List.mem_cons_of_mem _ hy)
theorem cont_lt {b : Nat} {xs : List Int} (h : Bd b xs) : (cont xs).natAbs < 2 ^ b := cont_lt0 xs 0 (Nat.two_pow_pos b) h
/-! the first that isn't nought -/
theorem ld_le (xs : List Int) : ld xs ≤ xs.length := List.findIdx_le_length
theorem ld_zero {xs : List Int} {k : Nat} (h : k < ld xs) : g xs k = 0 := by
  have h2 := List.not_of_lt_findIdx h
  have hl : k < xs.length := Nat.lt_of_lt_of_le h (ld_le xs)
  have e := g_lt hl
  rw [List.getElem?_eq_getElem hl] at e
  have e := Option.some.inj e
  rw [e] at h2
  simpa using h2
theorem ld_ne {xs : List Int} (h : ld xs < xs.length) : g xs (ld xs) ≠ 0 := by
  have h2 := List.findIdx_getElem (w := h) (p := fun x : Int => x != 0)
  have e := g_lt h
  rw [List.getElem?_eq_getElem h] at e
  have e := Option.some.inj e
  have h3 : (xs[ld xs] != 0) = true := h2
  rw [e] at h3
  simpa using h3
theorem ld_eq {xs : List Int} {i : Nat} (h1 : ∀ k, k < i → g xs k = 0) (h2 : g xs i ≠ 0) : ld xs = i := by
  have hi : i < xs.length := by
    apply Classical.byContradiction
    intro z
    exact h2 (g_ge (by omega))
  rcases Nat.lt_trichotomy (ld xs) i with z | z | z
  · exact absurd (h1 _ z) (ld_ne (by omega))
  · exact z
  · exact absurd (ld_zero z) h2
theorem ld_all {xs : List Int} (h1 : ∀ k, k < xs.length → g xs k = 0) : ld xs = xs.length := by
  rcases Nat.lt_or_ge (ld xs) xs.length with z | z
  · exact absurd (h1 _ z) (ld_ne z)
  · have := ld_le xs
    omega
def leadI (xs : List Int) : Int := if ld xs < xs.length then (ld xs : Nat) else -1
/-! lengths, sizes -/
theorem low_len (xs : List Int) : (low xs).length = xs.length := by
  unfold low
  split
  · rfl
  · simp
theorem clr1_len {xs : List Int} {k : Nat × List Int} (h : k.2.length = xs.length) : (clr1 xs k).length = xs.length := by
  unfold clr1
  split
  · rfl
  · rw [low_len, List.length_zipWith, h, Nat.min_self]
theorem clr_len : ∀ {ks : List (Nat × List Int)} {xs : List Int}, (∀ k ∈ ks, k.2.length = xs.length) → (clr xs ks).length = xs.length
  | [], _, _ => rfl
  | k :: r, xs, h => by
    have h1 := clr1_len (h k (List.mem_cons_self ..))
    show (clr (clr1 xs k) r).length = _
    rw [clr_len fun k' hk => by rw [h1]; exact h k' (List.mem_cons_of_mem _ hk), h1]
theorem ediv_abs (x c : Int) (hc : 2 ≤ c) : (x / c).natAbs ≤ x.natAbs := Int.natAbs_ediv_le_natAbs x c
theorem low_bd {b : Nat} {xs : List Int} (h : Bd b xs) : Bd b (low xs) := by
  unfold low
  split
  · exact h
  · rename_i hc
    intro y hy
    obtain ⟨x, hx, rfl⟩ := List.mem_map.mp hy
    exact Nat.lt_of_le_of_lt (ediv_abs x _ (by omega)) (h x hx)
theorem bd_mono {a b : Nat} (h : a ≤ b) {xs : List Int} (hx : Bd a xs) : Bd b xs := fun x hm => Nat.lt_of_lt_of_le (hx x hm) (Nat.pow_le_pow_right (by decide) h)
theorem sub_lt {a b : Nat} {p x q y : Int} (hp : p.natAbs < 2 ^ b) (hx : x.natAbs < 2 ^ a) (hq : q.natAbs < 2 ^ a) (hy : y.natAbs < 2 ^ b) : (p * x - q * y).natAbs < 2 ^ (a + (b + 1)) := by
  have h1 : (p * x).natAbs < 2 ^ (b + a) := by rw [Int.natAbs_mul, Nat.pow_add]; exact Nat.mul_lt_mul'' hp hx
  have h2 : (q * y).natAbs < 2 ^ (b + a) := by rw [Int.natAbs_mul, Nat.pow_add, Nat.mul_comm (2 ^ b)]; exact Nat.mul_lt_mul'' hq hy
  have e : 2 ^ (a + (b + 1)) = 2 ^ (b + a) + 2 ^ (b + a) := by
    rw [← Nat.add_assoc, Nat.pow_succ, Nat.add_comm a b]
    omega
  omega
theorem zip_bd {a b : Nat} {xs ys : List Int} {p q : Int} (hx : Bd a xs) (hy : Bd b ys) (hp : p.natAbs < 2 ^ b) (hq : q.natAbs < 2 ^ a) : Bd (a + (b + 1)) (List.zipWith (fun u v => p * u - q * v) xs ys) := by
  intro z hz
  obtain ⟨i, hi⟩ := List.mem_iff_getElem?.mp hz
  rw [List.getElem?_zipWith] at hi
  cases e1 : xs[i]? with
  | none => rw [e1] at hi; cases hi
  | some u =>
    cases e2 : ys[i]? with
    | none => rw [e1, e2] at hi; cases hi
    | some v =>
      rw [e1, e2] at hi
      cases hi
      exact sub_lt hp (hx u (List.mem_of_getElem? e1)) hq (hy v (List.mem_of_getElem? e2))
theorem clr1_bd {a b : Nat} {xs : List Int} {k : Nat × List Int} (hx : Bd a xs) (hk : Bd b k.2) (h1 : k.1 < xs.length) (h2 : k.2.length = xs.length) : Bd (a + (b + 1)) (clr1 xs k) := by
  unfold clr1
  split
  · exact bd_mono (by omega) hx
  · exact low_bd (zip_bd hx hk (hk _ (List.mem_of_getElem? (g_lt (by omega)))) (hx _ (List.mem_of_getElem? (g_lt h1))))
theorem clr_take {xs : List Int} {ks : List (Nat × List Int)} {i : Nat} {k : Nat × List Int} (h : ks[i]? = some k) : clr xs (ks.take (i + 1)) = clr1 (clr xs (ks.take i)) k := foldl_take clr1 xs h
theorem clr_bd {a : Nat} {β : Nat → Nat} {xs : List Int} {ks : List (Nat × List Int)} (hx : Bd a xs) (hl : ∀ k ∈ ks, k.2.length = xs.length ∧ k.1 < xs.length) (hk : ∀ (i : Nat) k, ks[i]? = some k → Bd (β i) k.2) :
    ∀ i, i ≤ ks.length → (clr xs (ks.take i)).length = xs.length ∧ Bd (a + sb β i) (clr xs (ks.take i))
  | 0, _ => ⟨rfl, hx⟩
  | i + 1, h => by
    obtain ⟨l, b⟩ := clr_bd hx hl hk i (by omega)
    have hi : i < ks.length := by omega
    have e := List.getElem?_eq_getElem hi
    have hm := List.mem_of_getElem? e
    rw [clr_take e]
    refine ⟨by rw [clr1_len (by rw [l]; exact (hl _ hm).1), l], ?_⟩
    have z := clr1_bd b (hk i _ e) (by rw [l]; exact (hl _ hm).2) (by rw [l]; exact (hl _ hm).1)
    rw [Nat.add_assoc] at z
    exact z
theorem sb_mono (β : Nat → Nat) {i j : Nat} (h : i ≤ j) : sb β i ≤ sb β j := by
  induction h with
  | refl => exact Nat.le_refl _
  | step _ ih => exact Nat.le_trans ih (Nat.le_add_right _ _)
theorem sb_at (β : Nat → Nat) {i j : Nat} (h : i < j) : sb β i + (β i + 1) ≤ sb β j := sb_mono β (i := i + 1) h
theorem kp_len (w : Nat) (vs : List (List Int)) : ∀ t, (kp w vs t).length = t
  | 0 => rfl
  | t + 1 => by show (kp w vs t ++ [_]).length = _; rw [List.length_append, kp_len w vs t]; rfl
theorem kp_succ (w : Nat) (vs : List (List Int)) (t : Nat) : kp w vs (t + 1) = kp w vs t ++ [(ld ((row w vs t).take w), row w vs t)] := rfl
end Ma
namespace Ma
theorem stp_len {N : Int} {c p : List Int} (h : p.length = c.length) (hp : p ≠ []) : (stp N c p).length = c.length := by
  unfold stp
  have : 0 < p.length := List.length_pos_iff.mpr hp
  simp
  omega
theorem zipmod_bd {N : Int} (h0 : 0 < N) (h1 : N < 10 ^ 30) {F : Int → Int → Int} (xs ys : List Int) : Bd 1000 (List.zipWith (fun a b => F a b % N) xs ys) := by
  intro z hz
  obtain ⟨i, hi⟩ := List.mem_iff_getElem?.mp hz
  rw [List.getElem?_zipWith] at hi
  cases e1 : xs[i]? with
  | none => rw [e1] at hi; cases hi
  | some u =>
    cases e2 : ys[i]? with
    | none => rw [e1, e2] at hi; cases hi
    | some v =>
      rw [e1, e2] at hi
      cases hi
      exact md_bd h0 h1 [F u v] _ (List.mem_singleton.mpr rfl)
def jst (N : Int) (c parts : List Int) (f : List Int) (p : Int) : List Int := List.zipWith (fun a b => (a + p * b) % N) (stp N c f) parts
theorem jst_len {N : Int} {c parts f : List Int} {p : Int} (h1 : parts.length = c.length) (h2 : f.length = c.length) (h3 : f ≠ []) : (jst N c parts f p).length = c.length := by
  unfold jst
  rw [List.length_zipWith, stp_len h2 h3, h1, Nat.min_self]
theorem jnd_take {N : Int} {c parts : List Int} (h0 : 0 < N) (h1 : N < 10 ^ 30) (hl : parts.length = c.length) (hc : c ≠ []) : ∀ i, ((parts.reverse.take i).foldl (jst N c parts) (List.replicate c.length 0)).length = c.length ∧ Bd 1000 ((parts.reverse.take i).foldl (jst N c parts) (List.replicate c.length 0)) := by
  intro i
  induction i with
  | zero => exact ⟨by simp, fun x hx => by
      have : x = 0 := (List.mem_replicate.mp hx).2
      rw [this]
      exact Nat.two_pow_pos _⟩
  | succ i ih =>
    rw [List.take_add_one]
    cases e : parts.reverse[i]? with
    | none => simpa using ih
    | some p =>
      rw [List.foldl_append]
      have ne : (parts.reverse.take i).foldl (jst N c parts) (List.replicate c.length 0) ≠ [] := by
        intro z
        rw [z] at ih
        exact hc (List.length_eq_zero_iff.mp ih.1.symm)
      exact ⟨jst_len hl ih.1 ne, zipmod_bd h0 h1 _ _⟩
theorem jnd_eq (N : Int) (c parts : List Int) : jnd N c parts = parts.reverse.foldl (jst N c parts) (List.replicate c.length 0) := rfl
theorem jnd_ok {N : Int} {c parts : List Int} (h0 : 0 < N) (h1 : N < 10 ^ 30) (hl : parts.length = c.length) (hc : c ≠ []) : (jnd N c parts).length = c.length ∧ Bd 1000 (jnd N c parts) := by
  have h := jnd_take h0 h1 hl hc parts.reverse.length
  rw [List.take_length] at h
  exact h
theorem bits_pos {n : Nat} (h : 0 < n) : bits n = (n % 2 : Int) :: bits (n / 2) := by
  rw [bits]
  rw [dif_neg (by omega)]
theorem bits_zero : bits 0 = [] := by rw [bits]; rfl
theorem bits_len : ∀ (k n : Nat), n < 2 ^ k → (bits n).length ≤ k
  | 0, n, h => by
    have : n = 0 := by simpa using h
    rw [this, bits_zero]
    exact Nat.le_refl 0
  | k + 1, n, h => by
    by_cases hn : n = 0
    · rw [hn, bits_zero]
      exact Nat.zero_le _
    · rw [bits_pos (by omega), List.length_cons]
      have := bits_len k (n / 2) (by rw [Nat.pow_succ] at h; omega)
      omega
theorem bits_mem {n : Nat} : ∀ {x : Int}, x ∈ bits n → x = 0 ∨ x = 1 := by
  induction n using Nat.strongRecOn with
  | _ n ih =>
    intro x hx
    by_cases hn : n = 0
    · rw [hn, bits_zero] at hx; cases hx
    · rw [bits_pos (by omega)] at hx
      rcases List.mem_cons.mp hx with e | e
      · omega
      · exact ih (n / 2) (by omega) e
theorem unw1_ok {N : Int} {c parts : List Int} {b : Int} (h0 : 0 < N) (h1 : N < 10 ^ 30) (hl : parts.length = c.length) (hc : c ≠ []) : (unw1 N c parts b).length = c.length ∧ Bd 1000 (unw1 N c parts b) := by
  have hj := jnd_ok (parts := parts) h0 h1 hl hc
  unfold unw1
  split
  · refine ⟨stp_len hj.1 ?_, zipmod_bd h0 h1 _ _⟩
    intro z
    rw [z] at hj
    exact hc (List.length_eq_zero_iff.mp hj.1.symm)
  · exact hj
theorem marks_bd (m t : Nat) : Bd 1000 (marks m t) := by
  intro x hx
  obtain ⟨k, _, rfl⟩ := List.mem_map.mp hx
  split
  · exact Nat.one_lt_two_pow (by decide)
  · exact Nat.two_pow_pos _
theorem unw_take {N : Int} {c : List Int} (h0 : 0 < N) (h1 : N < 10 ^ 30) (hc : c ≠ []) (l : List Int) : ∀ i, ((l.take i).foldl (unw1 N c) (marks c.length 0)).length = c.length ∧ Bd 1000 ((l.take i).foldl (unw1 N c) (marks c.length 0)) := by
  intro i
  induction i with
  | zero => exact ⟨by simp [marks], marks_bd _ _⟩
  | succ i ih =>
    rw [List.take_add_one]
    cases e : l[i]? with
    | none => simpa using ih
    | some p =>
      rw [List.foldl_append]
      exact unw1_ok h0 h1 ih.1 hc
end Ma
namespace Lg
open PySem PySem.Spec PyProof.Rows L2
open Evl (Ex)
/-! ### the text by places -/
def topS (i : Nat) : Stmt := PySem.Challenge.pw_linegrow_k42_whole_ties_at_great_ages.main.body.getD i (.Pass ⟨0, 0, 0, 0⟩)
abbrev s_is_whole : Stmt := topS 5
abbrev N_is_whole : List Str := ["thing"]
abbrev p_is_whole : List Str := ["thing"]
theorem sc_is_whole : FnScope N_is_whole p_is_whole (defScope s_is_whole) := ⟨rfl, rfl, rfl, by decide +kernel, rfl, by decide +kernel, by decide +kernel⟩
abbrev s_letters : Stmt := topS 6
abbrev N_letters : List Str := ["book", "rule"]
abbrev p_letters : List Str := ["book"]
theorem sc_letters : FnScope N_letters p_letters (defScope s_letters) := ⟨rfl, rfl, rfl, by decide +kernel, rfl, by decide +kernel, by decide +kernel⟩
abbrev s_tally : Stmt := topS 8
abbrev N_tally : List Str := ["signs", "text", "sign"]
abbrev p_tally : List Str := ["signs", "text"]
theorem sc_tally : FnScope N_tally p_tally (defScope s_tally) := ⟨rfl, rfl, rfl, by decide +kernel, rfl, by decide +kernel, by decide +kernel⟩
abbrev s_table : Stmt := topS 9
abbrev N_table : List Str := ["book", "signs", "rule"]
abbrev p_table : List Str := ["book"]
theorem sc_table : FnScope N_table p_table (defScope s_table) := ⟨rfl, rfl, rfl, by decide +kernel, rfl, by decide +kernel, by decide +kernel⟩
abbrev s_passed : Stmt := topS 10
abbrev N_passed : List Str := ["rates", "amounts", "found", "one", "at", "amount", "place", "rate"]
abbrev p_passed : List Str := ["rates", "amounts"]
theorem sc_passed : FnScope N_passed p_passed (defScope s_passed) := ⟨rfl, rfl, rfl, by decide +kernel, rfl, by decide +kernel, by decide +kernel⟩
abbrev s_need_far : Stmt := topS 14
abbrev N_need_far : List Str := ["age", "number"]
abbrev p_need_far : List Str := ["age", "number"]
theorem sc_need_far : FnScope N_need_far p_need_far (defScope s_need_far) := ⟨rfl, rfl, rfl, by decide +kernel, rfl, by decide +kernel, by decide +kernel⟩
abbrev s_led : Stmt := topS 15
abbrev N_led : List Str := ["amounts", "rates", "number", "found", "one", "at", "amount", "place", "rate"]
abbrev p_led : List Str := ["amounts", "rates", "number"]
theorem sc_led : FnScope N_led p_led (defScope s_led) := ⟨rfl, rfl, rfl, by decide +kernel, rfl, by decide +kernel, by decide +kernel⟩
abbrev s_laid : Stmt := topS 16
abbrev N_laid : List Str := ["first", "second", "number", "amounts"]
abbrev p_laid : List Str := ["first", "second", "number"]
theorem sc_laid : FnScope N_laid p_laid (defScope s_laid) := ⟨rfl, rfl, rfl, by decide +kernel, rfl, by decide +kernel, by decide +kernel⟩
abbrev s_counts_at : Stmt := topS 17
abbrev N_counts_at : List Str := ["book", "age", "number", "rates", "one", "amounts", "found"]
abbrev p_counts_at : List Str := ["book", "age", "number"]
theorem sc_counts_at : FnScope N_counts_at p_counts_at (defScope s_counts_at) := ⟨rfl, rfl, rfl, by decide +kernel, rfl, by decide +kernel, by decide +kernel⟩
abbrev s_length_at : Stmt := topS 18
abbrev N_length_at : List Str := ["book", "age", "number"]
abbrev p_length_at : List Str := ["book", "age", "number"]
theorem sc_length_at : FnScope N_length_at p_length_at (defScope s_length_at) := ⟨rfl, rfl, rfl, by decide +kernel, rfl, by decide +kernel, by decide +kernel⟩
abbrev s_common : Stmt := topS 21
abbrev N_common : List Str := ["one", "other"]
abbrev p_common : List Str := ["one", "other"]
theorem sc_common : FnScope N_common p_common (defScope s_common) := ⟨rfl, rfl, rfl, by decide +kernel, rfl, by decide +kernel, by decide +kernel⟩
abbrev s_lowered : Stmt := topS 22
abbrev N_lowered : List Str := ["numbers", "part", "number"]
abbrev p_lowered : List Str := ["numbers"]
theorem sc_lowered : FnScope N_lowered p_lowered (defScope s_lowered) := ⟨rfl, rfl, rfl, by decide +kernel, rfl, by decide +kernel, by decide +kernel⟩
abbrev s_lead_of : Stmt := topS 23
abbrev N_lead_of : List Str := ["numbers", "at"]
abbrev p_lead_of : List Str := ["numbers"]
theorem sc_lead_of : FnScope N_lead_of p_lead_of (defScope s_lead_of) := ⟨rfl, rfl, rfl, by decide +kernel, rfl, by decide +kernel, by decide +kernel⟩
abbrev s_cleared : Stmt := topS 24
abbrev N_cleared : List Str := ["numbers", "kept", "lead", "base", "here", "a", "b"]
abbrev p_cleared : List Str := ["numbers", "kept"]
theorem sc_cleared : FnScope N_cleared p_cleared (defScope s_cleared) := ⟨rfl, rfl, rfl, by decide +kernel, rfl, by decide +kernel, by decide +kernel⟩
abbrev s_first_tie : Stmt := topS 25
abbrev N_first_tie : List Str := ["vectors", "width", "kept", "at", "marks", "k", "numbers", "lead", "own"]
abbrev p_first_tie : List Str := ["vectors"]
theorem sc_first_tie : FnScope N_first_tie p_first_tie (defScope s_first_tie) := ⟨rfl, rfl, rfl, by decide +kernel, rfl, by decide +kernel, by decide +kernel⟩
abbrev s_first_counts : Stmt := topS 26
abbrev N_first_counts : List Str := ["book", "many", "rates", "amounts", "found", "step"]
abbrev p_first_counts : List Str := ["book", "many"]
theorem sc_first_counts : FnScope N_first_counts p_first_counts (defScope s_first_counts) := ⟨rfl, rfl, rfl, by decide +kernel, rfl, by decide +kernel, by decide +kernel⟩
abbrev s_joint_counts : Stmt := topS 27
abbrev N_joint_counts : List Str := ["one", "other", "many", "found", "mine", "theirs"]
abbrev p_joint_counts : List Str := ["one", "other", "many"]
theorem sc_joint_counts : FnScope N_joint_counts p_joint_counts (defScope s_joint_counts) := ⟨rfl, rfl, rfl, by decide +kernel, rfl, by decide +kernel, by decide +kernel⟩
abbrev s_tie : Stmt := topS 28
abbrev N_tie : List Str := ["one", "other", "size"]
abbrev p_tie : List Str := ["one", "other"]
theorem sc_tie : FnScope N_tie p_tie (defScope s_tie) := ⟨rfl, rfl, rfl, by decide +kernel, rfl, by decide +kernel, by decide +kernel⟩
abbrev s_is_row : Stmt := topS 29
abbrev N_is_row : List Str := ["thing", "number"]
abbrev p_is_row : List Str := ["thing"]
theorem sc_is_row : FnScope N_is_row p_is_row (defScope s_is_row) := ⟨rfl, rfl, rfl, by decide +kernel, rfl, by decide +kernel, by decide +kernel⟩
abbrev s_first_weights : Stmt := topS 30
abbrev N_first_weights : List Str := ["book", "weights", "many", "found", "counts", "weight", "count"]
abbrev p_first_weights : List Str := ["book", "weights", "many"]
theorem sc_first_weights : FnScope N_first_weights p_first_weights (defScope s_first_weights) := ⟨rfl, rfl, rfl, by decide +kernel, rfl, by decide +kernel, by decide +kernel⟩
abbrev s_weight_tie : Stmt := topS 31
abbrev N_weight_tie : List Str := ["book", "weights", "size", "row", "at"]
abbrev p_weight_tie : List Str := ["book", "weights"]
theorem sc_weight_tie : FnScope N_weight_tie p_weight_tie (defScope s_weight_tie) := ⟨rfl, rfl, rfl, by decide +kernel, rfl, by decide +kernel, by decide +kernel⟩
abbrev s_length_tie : Stmt := topS 32
abbrev N_length_tie : List Str := ["book", "letter"]
abbrev p_length_tie : List Str := ["book"]
theorem sc_length_tie : FnScope N_length_tie p_length_tie (defScope s_length_tie) := ⟨rfl, rfl, rfl, by decide +kernel, rfl, by decide +kernel, by decide +kernel⟩
abbrev s_stepped : Stmt := topS 33
abbrev N_stepped : List Str := ["c", "parts", "number", "last", "behind", "a", "b"]
abbrev p_stepped : List Str := ["c", "parts", "number"]
theorem sc_stepped : FnScope N_stepped p_stepped (defScope s_stepped) := ⟨rfl, rfl, rfl, by decide +kernel, rfl, by decide +kernel, by decide +kernel⟩
abbrev s_joined : Stmt := topS 34
abbrev N_joined : List Str := ["c", "parts", "number", "size", "found", "k", "part", "a", "b"]
abbrev p_joined : List Str := ["c", "parts", "number"]
theorem sc_joined : FnScope N_joined p_joined (defScope s_joined) := ⟨rfl, rfl, rfl, by decide +kernel, rfl, by decide +kernel, by decide +kernel⟩
abbrev s_bits_of : Stmt := topS 35
abbrev N_bits_of : List Str := ["age", "found"]
abbrev p_bits_of : List Str := ["age"]
theorem sc_bits_of : FnScope N_bits_of p_bits_of (defScope s_bits_of) := ⟨rfl, rfl, rfl, by decide +kernel, rfl, by decide +kernel, by decide +kernel⟩
abbrev s_unwound : Stmt := topS 36
abbrev N_unwound : List Str := ["c", "starts", "age", "number", "parts", "k", "bit", "a", "b"]
abbrev p_unwound : List Str := ["c", "starts", "age", "number"]
theorem sc_unwound : FnScope N_unwound p_unwound (defScope s_unwound) := ⟨rfl, rfl, rfl, by decide +kernel, rfl, by decide +kernel, by decide +kernel⟩
abbrev s_law_whole : Stmt := topS 38
abbrev N_law_whole : List Str := ["_law_found"]
abbrev p_law_whole : List Str := ["_law_found"]
theorem sc_law_whole : FnScope N_law_whole p_law_whole (defScope s_law_whole) := ⟨rfl, rfl, rfl, by decide +kernel, rfl, by decide +kernel, by decide +kernel⟩
abbrev s_law_row : Stmt := topS 39
abbrev N_law_row : List Str := ["_law_found", "_law_one"]
abbrev p_law_row : List Str := ["_law_found"]
theorem sc_law_row : FnScope N_law_row p_law_row (defScope s_law_row) := ⟨rfl, rfl, rfl, by decide +kernel, rfl, by decide +kernel, by decide +kernel⟩
abbrev s_law_pen : Stmt := topS 40
abbrev N_law_pen : List Str := ["_law_script", "_law_k", "_law_fold", "_law_cell"]
abbrev p_law_pen : List Str := ["_law_script", "_law_k"]
theorem sc_law_pen : FnScope N_law_pen p_law_pen (defScope s_law_pen) := ⟨rfl, rfl, rfl, by decide +kernel, rfl, by decide +kernel, by decide +kernel⟩
abbrev s_law_take : Stmt := topS 41
abbrev N_law_take : List Str := ["_law_pen_here", "_law_size", "_law_found", "_law_number_here"]
abbrev p_law_take : List Str := ["_law_pen_here", "_law_size"]
theorem sc_law_take : FnScope N_law_take p_law_take (defScope s_law_take) := ⟨rfl, rfl, rfl, by decide +kernel, rfl, by decide +kernel, by decide +kernel⟩
abbrev s_law_signs : Stmt := topS 42
abbrev N_law_signs : List Str := ["_law_pen_here", "_law_many", "_law_rest", "_law_k"]
abbrev p_law_signs : List Str := ["_law_pen_here", "_law_many"]
theorem sc_law_signs : FnScope N_law_signs p_law_signs (defScope s_law_signs) := ⟨rfl, rfl, rfl, by decide +kernel, rfl, by decide +kernel, by decide +kernel⟩
abbrev s_law_text : Stmt := topS 43
abbrev N_law_text : List Str := ["_law_pen_here", "_law_signs_here", "_law_many", "_law_k"]
abbrev p_law_text : List Str := ["_law_pen_here", "_law_signs_here", "_law_many"]
theorem sc_law_text : FnScope N_law_text p_law_text (defScope s_law_text) := ⟨rfl, rfl, rfl, by decide +kernel, rfl, by decide +kernel, by decide +kernel⟩
abbrev s_law_word : Stmt := topS 44
abbrev N_law_word : List Str := ["_law_pen_here", "_law_pick", "_law_signs_here", "_law_at", "_law_behind"]
abbrev p_law_word : List Str := ["_law_pen_here", "_law_pick", "_law_signs_here", "_law_at"]
theorem sc_law_word : FnScope N_law_word p_law_word (defScope s_law_word) := ⟨rfl, rfl, rfl, by decide +kernel, rfl, by decide +kernel, by decide +kernel⟩
abbrev s_law_book : Stmt := topS 45
abbrev N_law_book : List Str := ["_law_pen_here", "_law_pick", "_law_many", "_law_signs_here", "_law_words", "_law_at", "_law_letter", "_law_first"]
abbrev p_law_book : List Str := ["_law_pen_here"]
theorem sc_law_book : FnScope N_law_book p_law_book (defScope s_law_book) := ⟨rfl, rfl, rfl, by decide +kernel, rfl, by decide +kernel, by decide +kernel⟩
abbrev s_law_counts : Stmt := topS 46
abbrev N_law_counts : List Str := ["_law_book_here", "_law_many", "_law_signs_here", "_law_rule", "_law_rates", "_law_sign", "_law_sums", "_law_found", "_law_step", "_law_i", "_law_j"]
abbrev p_law_counts : List Str := ["_law_book_here", "_law_many"]
theorem sc_law_counts : FnScope N_law_counts p_law_counts (defScope s_law_counts) := ⟨rfl, rfl, rfl, by decide +kernel, rfl, by decide +kernel, by decide +kernel⟩
abbrev s_law_number : Stmt := topS 47
abbrev N_law_number : List Str := ["_law_pen_here", "_law_pick"]
abbrev p_law_number : List Str := ["_law_pen_here"]
theorem sc_law_number : FnScope N_law_number p_law_number (defScope s_law_number) := ⟨rfl, rfl, rfl, by decide +kernel, rfl, by decide +kernel, by decide +kernel⟩
abbrev s_law_age : Stmt := topS 48
abbrev N_law_age : List Str := ["_law_pen_here", "_law_pick"]
abbrev p_law_age : List Str := ["_law_pen_here"]
theorem sc_law_age : FnScope N_law_age p_law_age (defScope s_law_age) := ⟨rfl, rfl, rfl, by decide +kernel, rfl, by decide +kernel, by decide +kernel⟩
abbrev s_law : Stmt := topS 49
abbrev N_law : List Str := ["_law_script", "_law_pen_here", "_law_at_age", "_law_number_here", "_law_at", "_law_book_here", "_law_size", "_law_c", "_law_short", "_law_vectors", "_law_told", "_law_whole_here", "_law_last", "_law_one", "_law_places", "_law_place", "_law_found"]
abbrev p_law : List Str := ["_law_script"]
theorem sc_law : FnScope N_law p_law (defScope s_law) := ⟨rfl, rfl, rfl, by decide +kernel, rfl, by decide +kernel, by decide +kernel⟩
structure Txt (mg : Str → Option Value) : Prop where
  len : mg "len" = none
  sum : mg "sum" = none
  abs : mg "abs" = none
  int : mg "int" = none
  bool : mg "bool" = none
  isinstance : mg "isinstance" = none
  list : mg "list" = none
  range : mg "range" = none
  enumerate : mg "enumerate" = none
  zip : mg "zip" = none
  reversed : mg "reversed" = none
  sorted : mg "sorted" = none
  tuple : mg "tuple" = none
  far : ∃ t, mg "FAR_AGE" = some (.int (10 ^ 60) t)
  great : ∃ t, mg "GREAT_NUMBER" = some (.int (10 ^ 30) t)
  most : ∃ t, mg "MOST_TIE" = some (.int 16 t)
/-- a def of the top, as callers take it -/
structure DefOk (P : Program) (w : World) (K : PySem.W.Frag) (mg : Str → Option Value) (base : Heap) (x : Str) (j : Nat) (ps : List Str) (dvs : List V) (sp : Sp) where
  f : Addr
  fd : FuncData
  ds : List Value
  ok : FnOk P w K mg base CX0 j f fd ps sp
  mg : mg x = some (.ref f)
  kp : PySem.W.keepIn K (.ref f) = true
  b : Binds K fd ps ds
  hd : Vals dvs ds
end Lg
namespace Lg
open PySem PySem.Spec PyProof.Rows L2
open Evl (Ex)
section
variable {P : Program} {w : World} {K : PySem.W.Frag} {mg : Str → Option Value} {base : Heap}
/-! the book -/
abbrev Rules := List (Nat × Str)
abbrev Book := Str × Rules
def pRule (r : Nat × Str) : VP := pTu [pS (one r.1), pS r.2]
def pBook (b : Book) : VP := pTu [pS b.1, pT pRule b.2]
def lets (b : Book) : Str := ⟨(b.2.map (·.1)).toArray⟩
def tab (b : Book) : List (List Int) := b.2.map fun r => b.2.map fun r' => cnt r.2 r'.1
def x0 (b : Book) : List Int := b.2.map fun r => cnt b.1 r.1
def Small (b : Book) : Prop := b.2.length ≤ 8
/-! is_whole -/
def spWhole : Sp := spF (fun (_ : Int) => True) (fun i => [pI i]) (fun _ => pB true)
theorem ok_is_whole {f : Addr} {fd : FuncData} (T : Txt mg) (F : Fun K "is_whole" "is_whole" s_is_whole f fd) : FnOk P w K mg base CX0 1 f fd p_is_whole spWhole := by
  refine fn_pure F sc_is_whole (fun _ => rfl) (fun cdv A outer s H E hr => ?_)
  refine ⟨_, (pss_one (ps_ret (pe_and (pe_callB (show CallR _ _ (rIsi K) from call_isi) (by rfl) T.isinstance (by decide +kernel) (pa_cons (pv 0) (pa_cons (pe_bltn (v := .ty "int") (u := .type "int") (by rfl) T.int (by decide +kernel) rfl) pa_nil))) (pe_one (pe_not (pe_callB (show CallR _ _ (rIsi K) from call_isi) (by rfl) T.isinstance (by decide +kernel) (pa_cons (pv 0) (pa_cons (pe_bltn (v := .ty "bool") (u := .type "bool") (by rfl) T.bool (by decide +kernel) rfl) pa_nil)))))))), ?_⟩
  intro i W Q _ ret
  refine go_ret (ev_andV (b := true) (c := true) (ev_isi (ev_var rfl) (fun _ => .base (.int i)) (kit_ty (by decide +kernel)) ev_c) fun _ => ?_) (ret _)
  exact ev_notV (b := false) (ev_isi (ev_var rfl) (fun _ => .base (.int i)) (kit_ty (by decide +kernel)) ev_c)
/-! letters -/
def spLetters : Sp := spF (fun (b : Book) => Small b) (fun b => [pBook b]) (fun b => pS (lets b))
theorem ok_letters {f : Addr} {fd : FuncData} (F : Fun K "letters" "letters" s_letters f fd) : FnOk P w K mg base CX0 1 f fd p_letters spLetters := by
  refine fn_pure F sc_letters (fun _ => rfl) (fun cdv A outer s H E hr => ?_)
  refine ⟨_, (pss_one (ps_ret (pe_join pe_str (pe_lc (own := [("rule", 1)]) (tt := tYes) rfl sc_letters.nd (show PI _ _ _ (iTup K _) from pi_tup (pe_ix (show IxR _ (rIxT K) from ix_tup) (pv 0) pe_int (fun _ _ => rfl))) (blkOk_by (N := N_letters) (sc := defScope s_letters) (by decide +kernel)) (fun _ _ _ _ _ => (pg_name (i := 1) sc_letters.nd rfl (Or.inl rfl))) (fun _ _ _ _ _ => pts_nil) (fun _ _ _ _ _ => (pe_ix (show IxR _ (rIxT K) from ix_tup) (pv 1) pe_int (fun _ _ => rfl))))))), ?_⟩
  intro b W Q pre ret
  have pre : b.2.length ≤ 8 := pre
  have e0 : (Str.ofString "" : Str) = ⟨#[]⟩ := by decide +kernel
  have e : Txt.join (Str.ofString "") (b.2.map fun r => one r.1) = lets b := by
    have z := join_ones (b.2.map (·.1))
    rw [List.map_map] at z
    rw [e0]
    exact z
  refine go_ret (ev_is (ev_join (ys := b.2.map fun r => one r.1) ev_c (EvN.ev (evn_lc (out := b.2.map fun r => one r.1) (ei_tup (f := pRule) (l := b.2) (ev_ixTu (Ps := [pS b.1, pT pRule b.2]) (i := 1) (ev_var rfl) ev_c rfl)) (fun x => tg_name 1) ?_ ?_ ?_ ?_ ?_)) ?_) (congrArg pS e)) (ret _)
  · decide
  · omega
  · rfl
  · simp
  · intro W1 i x y hi hc hy
    rw [List.getElem?_map, hc] at hy
    cases hy
    exact ev_ixTu (Ps := [pS (one x.1), pS x.2]) (i := 0) (ev_var rfl) ev_c rfl
  · have h1 : ∀ (l : List (Nat × Str)), (((l.map fun r => one r.1)).map (·.length)).sum = l.length := by
      intro l
      induction l with
      | nil => rfl
      | cons a r ih => simp only [List.map_cons, List.sum_cons, List.length_cons] at ih ⊢; rw [ih]; show 1 + _ = _; omega
    rw [h1, List.length_map, e0]
    show b.2.length + b.2.length * 0 ≤ _
    omega
/-! tally -/
def spTally : Sp := spF (fun (a : Str × Str) => a.1.cps.size ≤ 1000) (fun a => [pS a.1, pS a.2]) (fun a => pLI (a.1.cps.toList.map (cnt a.2)))
theorem ok_tally {f : Addr} {fd : FuncData} (F : Fun K "tally" "tally" s_tally f fd) : FnOk P w K mg base CX0 1 f fd p_tally spTally := by
  refine fn_pure F sc_tally (fun _ => rfl) (fun cdv A outer s H E hr => ?_)
  refine ⟨_, (pss_one (ps_ret (pe_lc (own := [("sign", 2)]) (tt := tYes) rfl sc_tally.nd (pi_str (pv 0)) (blkOk_by (N := N_tally) (sc := defScope s_tally) (by decide +kernel)) (fun _ _ _ _ _ => (pg_name (i := 2) sc_tally.nd rfl (Or.inl rfl))) (fun _ _ _ _ _ => pts_nil) (fun _ _ _ _ _ => (pe_m1 PySem.F.slot_str_count PySem.F.type_str_count mt_count (pv 1) (pv 2)))))), ?_⟩
  rintro ⟨signs, text⟩ W Q pre ret
  refine go_ret (EvN.ev (evn_lc (out := signs.cps.toList.map (cnt text)) (ei_str (ev_var rfl)) (fun x => tg_name 2) ?_ (Nat.le_trans pre (by decide)) ?_ ?_ ?_)) (ret _)
  · decide
  · rfl
  · simp
  intro W1 i x y hi hc hy
  rw [List.getElem?_map, Array.getElem?_toList, hc] at hy
  cases hy
  exact ev_count (ev_var rfl) (ev_var rfl)
/-! table -/
def spTable : Sp := spF (fun (b : Book) => Small b) (fun b => [pBook b]) (fun b => pLL (tab b))
theorem ok_table {f : Addr} {fd : FuncData} (F : Fun K "table" "table" s_table f fd) (D_letters : DefOk P w K mg base "letters" 1 p_letters [] spLetters) (D_tally : DefOk P w K mg base "tally" 1 p_tally [] spTally) :
    FnOk P w K mg base CX0 2 f fd p_table spTable := by
  refine fn_pure F sc_table (fun _ => rfl) (fun cdv A outer s H E hr => ?_)
  refine ⟨_, (pss_cons (ps_set (i := 1) sc_table.nd rfl (Or.inr rfl) (pe_call D_letters.ok (hr.mono (by decide)) (by rfl) D_letters.mg D_letters.kp D_letters.b D_letters.hd pass0 (pa_cons (pv 0) pa_nil)))
      (pss_one (ps_ret (pe_lc (own := [("rule", 2)]) (tt := tYes) rfl sc_table.nd (show PI _ _ _ (iTup K _) from pi_tup (pe_ix (show IxR _ (rIxT K) from ix_tup) (pv 0) pe_int (fun _ _ => rfl))) (blkOk_by (N := N_table) (sc := defScope s_table) (by decide +kernel)) (fun _ _ _ _ _ => (pg_name (i := 2) sc_table.nd rfl (Or.inl rfl))) (fun _ _ _ _ _ => pts_nil) (fun _ _ _ _ _ => (pe_call D_tally.ok (hr.mono (by decide)) (by rfl) D_tally.mg D_tally.kp D_tally.b D_tally.hd pass0 (pa_cons (pv 1) (pa_cons (pe_ix (show IxR _ (rIxT K) from ix_tup) (pv 2) pe_int (fun _ _ => rfl)) pa_nil)))))))), ?_⟩
  intro b W Q pre ret
  have pre' : b.2.length ≤ 8 := pre
  refine go_seq (go_asg (ev_call' b (ea_one (ev_var rfl)) pre) ?_)
  refine go_ret (EvN.ev (evn_lc (out := tab b) (r := pLI) (ei_tup (f := pRule) (l := b.2) (ev_ixTu (Ps := [pS b.1, pT pRule b.2]) (i := 1) (ev_var rfl) ev_c rfl)) (fun x => tg_name 2) ?_ ?_ ?_ ?_ ?_)) ?_
  rotate_right
  · exact ret _
  · decide
  · omega
  · rfl
  · simp [tab]
  intro W1 i x y hi hc hy
  unfold tab at hy
  rw [List.getElem?_map, hc] at hy
  cases hy
  refine ev_is (ev_call' (lets b, x.2) (ea_cons (ev_var rfl) (ea_one (ev_ixTu (Ps := [pS (one x.1), pS x.2]) (i := 1) (ev_var rfl) ev_c rfl))) ?_) ?_
  · show (b.2.map (·.1)).toArray.size ≤ 1000
    simp; omega
  · show pLI ((b.2.map (·.1)).map _) = _
    rw [List.map_map]
    rfl
end
end Lg
namespace Lg
open PySem PySem.Spec PyProof.Rows L2 Ma
open Evl (Ex)
section
variable {P : Program} {w : World} {K : PySem.W.Frag} {mg : Str → Option Value} {base : Heap}
/-! passed -/
structure TabOk (n : Nat) (rates : List (List Int)) (xs : List Int) : Prop where
  len : xs.length = n
  sq : Sq n rates
  small : n ≤ 100
  bx : Bd 1000 xs
  br : BdR 1000 rates
theorem TabOk.row {n : Nat} {rates : List (List Int)} {xs : List Int} (h : TabOk n rates xs) {a : Nat} (ha : a < n) : ∃ r, rates[a]? = some r ∧ r.length = n ∧ Bd 1000 r ∧ ∀ j, g2 rates a j = g r j := by
  have hl : a < rates.length := by rw [h.sq.1]; exact ha
  have e := List.getElem?_eq_getElem hl
  have hm := List.mem_of_getElem? e
  refine ⟨_, e, h.sq.2 _ hm, h.br _ hm, fun j => ?_⟩
  unfold g2
  rw [List.getD_eq_getElem?_getD, e]
  rfl
def spPassed : Sp := spF (fun (a : List (List Int) × List Int) => TabOk a.2.length a.1 a.2) (fun a => [pLL a.1, pLI a.2]) (fun a => pLI (vm a.2.length a.2 a.1))
abbrev cxP (R : List (List Int)) (xs : List Int) (p : Addr) (a b : Nat) : Cxt := [.val (pLL R), .val (pLI xs), .own p (oLI (acc xs.length xs R a b)), .no, .no, .no, .no, .no]
theorem ok_passed {f : Addr} {fd : FuncData} (T : Txt mg) (F : Fun K "passed" "passed" s_passed f fd) : FnOk P w K mg base CX0 1 f fd p_passed spPassed := by
  refine fn_pure F sc_passed (fun _ => rfl) (fun cdv A outer s H E hr => ?_)
  refine ⟨_, (pss_cons (ps_setLc (i := 2) (own := [("one", 3)]) (tt := tYes) rfl sc_passed.nd rfl rfl (sw_true rfl rfl rfl (by decide +kernel)) (show PI _ _ _ (iList K _) from pi_list (pv 1)) (blkOk_by (N := N_passed) (sc := defScope s_passed) (by decide +kernel)) (fun _ _ _ _ _ => (pg_name (i := 3) sc_passed.nd rfl (Or.inl rfl))) (fun _ _ _ _ _ => pts_nil) (fun _ _ _ _ _ => pe_int))
      (pss_cons (ps_for PassesOwn.never rfl (show PI _ _ _ (iEnum K _) from pi_enum (by rfl) T.enumerate (pa_cons (pv 1) pa_nil)) (show PG _ _ (gTup K 2 _) from pg_tup rfl (pgs_cons (pg_name (i := 4) sc_passed.nd rfl (Or.inl rfl)) (pgs_cons (pg_name (i := 5) sc_passed.nd rfl (Or.inl rfl)) pgs_nil))) (pss_one (ps_if (pt_cmpR op_ne (pv 5) pe_int (nomark _)) (pss_one (ps_for PassesOwn.never rfl (show PI _ _ _ (iEnum K _) from pi_enum (by rfl) T.enumerate (pa_cons (pe_ix (show IxR _ (rIxL K) from ix_list) (pv 0) (pv 4) (fun _ _ => rfl)) pa_nil)) (show PG _ _ (gTup K 2 _) from pg_tup rfl (pgs_cons (pg_name (i := 6) sc_passed.nd rfl (Or.inl rfl)) (pgs_cons (pg_name (i := 7) sc_passed.nd rfl (Or.inl rfl)) pgs_nil))) (pss_one (ps_asg (pe_op op_add (pe_ix (show IxR _ (rIxL K) from ix_list) (pv 2) (pv 6) (fun _ _ => rfl)) (pe_op op_mulW (pv 5) (pv 7))) (pg_sub (pv 2) (pv 6) set_list))))) pss_nil)))
      (pss_one (ps_ret (pv 2))))), ?_⟩
  rintro ⟨R, xs⟩ W Q pre ret
  have pre : TabOk xs.length R xs := pre
  -- found
  refine go_seq (go_new (evn_lc (out := (List.range xs.length).map fun _ => (0 : Int)) (r := fun i => pI i) (ei_list (f := fun i => pI i) (l := xs) (ev_var rfl)) (fun x => tg_name 3) ?_ ?_ ?_ ?_ ?_) (fun p => ?_))
  · decide
  · exact Nat.le_trans pre.small (by decide)
  · rfl
  · simp
  · intro W1 i x y hi hc hy
    rw [List.getElem?_map, List.getElem?_range hi] at hy
    cases hy
    exact ev_c
  rw [← acc_00 xs.length xs R]
  -- the outer loop
  refine go_seq (go_for (ei_enum (f := fun i => pI i) (l := xs) (ea_one (ev_var rfl))) (fun x => tg_pair 4 5) (fun i Δ => Δ = cxP R xs p i 0) rfl ?_ ?_)
  · rintro W1 N i ⟨at_, amount⟩ Δ sb hi ⟨ei, hx⟩ rfl hN
    cases (show i = at_ from ei.symm)
    have hN := hN _ rfl
    have gx : g xs i = amount := g_at hx
    have bx : amount.natAbs < 2 ^ 1000 := pre.bx _ (List.mem_of_getElem? hx)
    refine go_if (et_test (ev_ne (ev_var rfl) ev_c rfl)) (fun hb => ?_) (fun hb => ?_)
    · obtain ⟨r, hr1, hr2, hr3, hr4⟩ := pre.row hi
      refine go_for (ei_enum (f := fun i => pI i) (l := r) (ea_one (ev_ixL (f := pLI) (l := R) (i := (i : Int)) (ev_var rfl) (ev_var rfl) (atI_nat hr1)))) (fun x => tg_pair 6 7)
        (fun j Δ => Δ = [.val (pLL R), .val (pLI xs), .own p (oLI (acc xs.length xs R i j)), .no, .val (pI (i : Int)), .val (pI amount), .no, .no]) rfl ?_ ?_
      · rintro W2 N2 j ⟨pl, rate⟩ Δ sb2 hj ⟨ej, hy⟩ rfl hN2
        cases (show j = pl from ej.symm)
        have hj' : j < xs.length := by omega
        have gy : g2 R i j = rate := by rw [hr4]; exact g_at hy
        have by_ : rate.natAbs < 2 ^ 1000 := hr3 _ (List.mem_of_getElem? hy)
        have ga := g_lt (xs := acc xs.length xs R i j) (i := j) (by rw [acc_len]; exact hj')
        refine go_set (f := fun i => pI i) (y := g (acc xs.length xs R i j) j + amount * rate) (j := j) (ev_I0 (ev_ixO (f := fun i => pI i) rfl (ev_var rfl) (atI_nat ga)) (ev_I (ev_var rfl) (ev_var rfl) (wide_mul bx by_ (by decide) (by decide) (by decide)))) rfl (ev_var rfl) (by rw [acc_len]; exact hj') ?_
        have e : (acc xs.length xs R i j).set j (g (acc xs.length xs R i j) j + amount * rate) = acc xs.length xs R i (j + 1) := by
          rw [← gx, ← gy]
          exact acc_step hj'
        rw [e]
        exact go_weak (.same (.same (.same (.same (.same (.same (.no (.no .nil)))))))) (hN2 _ rfl)
      · rintro Δ rfl
        rw [hr2, acc_next]
        exact go_weak (.same (.same (.same (.same (.no (.no (.same (.same .nil)))))))) hN
    · have e0 : amount = 0 := by simpa using hb
      refine go_next ?_
      unfold cxP
      rw [acc_skip (show g xs i = 0 by rw [gx, e0])]
      exact go_weak (.same (.same (.same (.same (.no (.no (.same (.same .nil)))))))) hN
  · rintro Δ rfl
    unfold cxP
    rw [acc_end]
    refine go_pub (i := 2) rfl ?_
    exact go_ret (ev_var rfl) (ret _)
end
end Lg
namespace Lg
open PySem PySem.Spec PyProof.Rows L2 Ma
open Evl (Ex)
section
variable {P : Program} {w : World} {K : PySem.W.Frag} {mg : Str → Option Value} {base : Heap}
/-! led -/
def spLed : Sp := spF (fun (a : List Int × List (List Int) × Int) => TabOk a.1.length a.2.1 a.1 ∧ 0 < a.2.2) (fun a => [pLI a.1, pLL a.2.1, pI a.2.2]) (fun a => pLI (md a.2.2 (vm a.1.length a.1 a.2.1)))
theorem ok_led {f : Addr} {fd : FuncData} (T : Txt mg) (F : Fun K "led" "led" s_led f fd) : FnOk P w K mg base CX0 1 f fd p_led spLed := by
  refine fn_pure F sc_led (fun _ => rfl) (fun cdv A outer s H E hr => ?_)
  refine ⟨_, (pss_cons (ps_setLc (i := 3) (own := [("one", 4)]) (tt := tYes) rfl sc_led.nd rfl rfl (sw_true rfl rfl rfl (by decide +kernel)) (show PI _ _ _ (iList K _) from pi_list (pv 0)) (blkOk_by (N := N_led) (sc := defScope s_led) (by decide +kernel)) (fun _ _ _ _ _ => (pg_name (i := 4) sc_led.nd rfl (Or.inl rfl))) (fun _ _ _ _ _ => pts_nil) (fun _ _ _ _ _ => pe_int))
      (pss_cons (ps_for PassesOwn.never rfl (show PI _ _ _ (iEnum K _) from pi_enum (by rfl) T.enumerate (pa_cons (pv 0) pa_nil)) (show PG _ _ (gTup K 2 _) from pg_tup rfl (pgs_cons (pg_name (i := 5) sc_led.nd rfl (Or.inl rfl)) (pgs_cons (pg_name (i := 6) sc_led.nd rfl (Or.inl rfl)) pgs_nil))) (pss_one (ps_if (pt_cmpR op_ne (pv 6) pe_int (nomark _)) (pss_one (ps_for PassesOwn.never rfl (show PI _ _ _ (iEnum K _) from pi_enum (by rfl) T.enumerate (pa_cons (pe_ix (show IxR _ (rIxL K) from ix_list) (pv 1) (pv 5) (fun _ _ => rfl)) pa_nil)) (show PG _ _ (gTup K 2 _) from pg_tup rfl (pgs_cons (pg_name (i := 7) sc_led.nd rfl (Or.inl rfl)) (pgs_cons (pg_name (i := 8) sc_led.nd rfl (Or.inl rfl)) pgs_nil))) (pss_one (ps_asg (pe_op op_add (pe_ix (show IxR _ (rIxL K) from ix_list) (pv 3) (pv 7) (fun _ _ => rfl)) (pe_op op_mulW (pv 6) (pv 8))) (pg_sub (pv 3) (pv 7) set_list))))) pss_nil)))
      (pss_one (ps_ret (pe_lc (own := [("one", 4)]) (tt := tYes) rfl sc_led.nd (show PI _ _ _ (iList K _) from pi_list (pv 3)) (blkOk_by (N := N_led) (sc := defScope s_led) (by decide +kernel)) (fun _ _ _ _ _ => (pg_name (i := 4) sc_led.nd rfl (Or.inl rfl))) (fun _ _ _ _ _ => pts_nil) (fun _ _ _ _ _ => (pe_op op_mod (pv 4) (pv 2)))))))), ?_⟩
  rintro ⟨xs, R, M⟩ W Q ⟨pre, hM⟩ ret
  have pre : TabOk xs.length R xs := pre
  have hM : 0 < M := hM
  -- found
  refine go_seq (go_new (evn_lc (out := (List.range xs.length).map fun _ => (0 : Int)) (r := fun i => pI i) (ei_list (f := fun i => pI i) (l := xs) (ev_var rfl)) (fun x => tg_name 4) ?_ ?_ ?_ ?_ ?_) (fun p => ?_))
  · decide
  · exact Nat.le_trans pre.small (by decide)
  · rfl
  · simp
  · intro W1 i x y hi hc hy
    rw [List.getElem?_map, List.getElem?_range hi] at hy
    cases hy
    exact ev_c
  rw [← acc_00 xs.length xs R]
  -- the outer loop
  refine go_seq (go_for (ei_enum (f := fun i => pI i) (l := xs) (ea_one (ev_var rfl))) (fun x => tg_pair 5 6) (fun i Δ => Δ = [.val (pLI xs), .val (pLL R), .val (pI M), .own p (oLI (acc xs.length xs R i 0)), .no, .no, .no, .no, .no]) rfl ?_ ?_)
  · rintro W1 N i ⟨at_, amount⟩ Δ sb hi ⟨ei, hx⟩ rfl hN
    cases (show i = at_ from ei.symm)
    have hN := hN _ rfl
    have gx : g xs i = amount := g_at hx
    have bx : amount.natAbs < 2 ^ 1000 := pre.bx _ (List.mem_of_getElem? hx)
    refine go_if (et_test (ev_ne (ev_var rfl) ev_c rfl)) (fun hb => ?_) (fun hb => ?_)
    · obtain ⟨r, hr1, hr2, hr3, hr4⟩ := pre.row hi
      refine go_for (ei_enum (f := fun i => pI i) (l := r) (ea_one (ev_ixL (f := pLI) (l := R) (i := (i : Int)) (ev_var rfl) (ev_var rfl) (atI_nat hr1)))) (fun x => tg_pair 7 8)
        (fun j Δ => Δ = [.val (pLI xs), .val (pLL R), .val (pI M), .own p (oLI (acc xs.length xs R i j)), .no, .val (pI (i : Int)), .val (pI amount), .no, .no]) rfl ?_ ?_
      · rintro W2 N2 j ⟨pl, rate⟩ Δ sb2 hj ⟨ej, hy⟩ rfl hN2
        cases (show j = pl from ej.symm)
        have hj' : j < xs.length := by omega
        have gy : g2 R i j = rate := by rw [hr4]; exact g_at hy
        have by_ : rate.natAbs < 2 ^ 1000 := hr3 _ (List.mem_of_getElem? hy)
        have ga := g_lt (xs := acc xs.length xs R i j) (i := j) (by rw [acc_len]; exact hj')
        refine go_set (f := fun i => pI i) (y := g (acc xs.length xs R i j) j + amount * rate) (j := j) (ev_I0 (ev_ixO (f := fun i => pI i) rfl (ev_var rfl) (atI_nat ga)) (ev_I (ev_var rfl) (ev_var rfl) (wide_mul bx by_ (by decide) (by decide) (by decide)))) rfl (ev_var rfl) (by rw [acc_len]; exact hj') ?_
        have e : (acc xs.length xs R i j).set j (g (acc xs.length xs R i j) j + amount * rate) = acc xs.length xs R i (j + 1) := by
          rw [← gx, ← gy]
          exact acc_step hj'
        rw [e]
        exact go_weak (.same (.same (.same (.same (.same (.same (.same (.no (.no .nil))))))))) (hN2 _ rfl)
      · rintro Δ rfl
        rw [hr2, acc_next]
        exact go_weak (.same (.same (.same (.same (.same (.no (.no (.same (.same .nil))))))))) hN
    · have e0 : amount = 0 := by simpa using hb
      refine go_next ?_
      rw [acc_skip (show g xs i = 0 by rw [gx, e0])]
      exact go_weak (.same (.same (.same (.same (.same (.no (.no (.same (.same .nil))))))))) hN
  · rintro Δ rfl
    rw [acc_end]
    refine go_pub (i := 3) rfl ?_
    refine go_ret (EvN.ev (evn_lc (out := md M (vm xs.length xs R)) (r := fun i => pI i) (ei_list (f := fun i => pI i) (l := vm xs.length xs R) (ev_var rfl)) (fun x => tg_name 4) ?_ ?_ ?_ ?_ ?_)) (ret _)
    · decide
    · rw [vm_len]; exact Nat.le_trans pre.small (by decide)
    · rfl
    · rw [md_len]
    · intro W1 i x y hi hc hy
      unfold md at hy
      rw [List.getElem?_map, hc] at hy
      cases hy
      exact ev_I (ev_var rfl) (ev_var rfl) hM
/-! laid -/
def spLaid : Sp := spF (fun (a : List (List Int) × List (List Int) × Int) => a.1.length ≤ 100 ∧ (∀ x ∈ a.1, TabOk a.2.1.length a.2.1 x) ∧ 0 < a.2.2) (fun a => [pLL a.1, pLL a.2.1, pI a.2.2]) (fun a => pLL (a.1.map fun x => md a.2.2 (vm a.2.1.length x a.2.1)))
theorem ok_laid {f : Addr} {fd : FuncData} (F : Fun K "laid" "laid" s_laid f fd) (D_led : DefOk P w K mg base "led" 1 p_led [] spLed) : FnOk P w K mg base CX0 2 f fd p_laid spLaid := by
  refine fn_pure F sc_laid (fun _ => rfl) (fun cdv A outer s H E hr => ?_)
  refine ⟨_, (pss_one (ps_ret (pe_lc (own := [("amounts", 3)]) (tt := tYes) rfl sc_laid.nd (show PI _ _ _ (iList K _) from pi_list (pv 0)) (blkOk_by (N := N_laid) (sc := defScope s_laid) (by decide +kernel)) (fun _ _ _ _ _ => (pg_name (i := 3) sc_laid.nd rfl (Or.inl rfl))) (fun _ _ _ _ _ => pts_nil) (fun _ _ _ _ _ => (pe_call D_led.ok (hr.mono (by decide)) (by rfl) D_led.mg D_led.kp D_led.b D_led.hd pass0 (pa_cons (pv 3) (pa_cons (pv 1) (pa_cons (pv 2) pa_nil)))))))), ?_⟩
  rintro ⟨X, R, M⟩ W Q ⟨h1, h2, hM⟩ ret
  have h1 : X.length ≤ 100 := h1
  have h2 : ∀ x ∈ X, TabOk R.length R x := h2
  have hM : 0 < M := hM
  refine go_ret (EvN.ev (evn_lc (out := X.map fun x => md M (vm R.length x R)) (r := pLI) (ei_list (f := pLI) (l := X) (ev_var rfl)) (fun x => tg_name 3) ?_ ?_ ?_ ?_ ?_)) ?_
  rotate_right
  · exact ret _
  · decide
  · omega
  · rfl
  · simp
  · intro W1 i x y hi hc hy
    rw [List.getElem?_map, hc] at hy
    cases hy
    have hx := h2 x (List.mem_of_getElem? hc)
    refine ev_is (ev_call' (x, R, M) (ea_cons (ev_var rfl) (ea_cons (ev_var rfl) (ea_one (ev_var rfl)))) ⟨?_, hM⟩) ?_
    · show TabOk x.length R x
      rw [hx.len]
      exact hx
    · show pLI (md M (vm x.length x R)) = _
      rw [hx.len]
/-! need_far -/
structure Far (age N : Int) : Prop where
  a0 : 0 ≤ age
  a1 : age < 10 ^ 60
  n0 : 1 ≤ N
  n1 : N < 10 ^ 30
def spNeed : Sp := spF (fun (a : Int × Int) => Far a.1 a.2) (fun a => [pI a.1, pI a.2]) (fun _ => pC .non)
theorem ok_need_far {f : Addr} {fd : FuncData} (T : Txt mg) (F : Fun K "need_far" "need_far" s_need_far f fd) (D_is_whole : DefOk P w K mg base "is_whole" 1 p_is_whole [] spWhole) : FnOk P w K mg base CX0 2 f fd p_need_far spNeed := by
  obtain ⟨t1, g_far⟩ := T.far
  obtain ⟨t2, g_great⟩ := T.great
  refine fn_pure F sc_need_far (fun _ => rfl) (fun cdv A outer s H E hr => ?_)
  refine ⟨_, (pss_cons (ps_if (PW.pt (pw_or (pt_not (pt_val (pe_call D_is_whole.ok (hr.mono (by decide)) (by rfl) D_is_whole.mg D_is_whole.kp D_is_whole.b D_is_whole.hd pass0 (pa_cons (pv 0) pa_nil)))) (pw_or (pt_cmpR op_lt (pv 0) pe_int (nomark _)) (pw_or1 (pt_cmpR op_ge (pv 0) (pe_glob (v := .int (10 ^ 60)) rfl g_far ⟨_, rfl⟩) (nomark _)))))) (pss_one ps_never) pss_nil)
      (pss_one (ps_if (PW.pt (pw_or (pt_not (pt_val (pe_call D_is_whole.ok (hr.mono (by decide)) (by rfl) D_is_whole.mg D_is_whole.kp D_is_whole.b D_is_whole.hd pass0 (pa_cons (pv 1) pa_nil)))) (pw_or (pt_cmpR op_lt (pv 1) pe_int (nomark _)) (pw_or1 (pt_cmpR op_ge (pv 1) (pe_glob (v := .int (10 ^ 30)) rfl g_great ⟨_, rfl⟩) (nomark _)))))) (pss_one ps_never) pss_nil))), ?_⟩
  rintro ⟨a, N⟩ W Q pre ret
  have pre : Far a N := pre
  refine go_seq (go_if (b := false) (et_is (et_or (et_not (et_B (ev_call' a (ea_one (ev_var rfl)) trivial))) fun _ => et_or (et_B0 (ev_var rfl) ev_c) fun _ => et_B0 (ev_var rfl) ev_c) ?_) (fun hb => ?_) (fun hb => go_next ?_))
  · have h1 := pre.a0
    have h2 := pre.a1
    simp only [Bool.not_true, Bool.false_or, Bool.or_eq_false_iff, decide_eq_false_iff_not]
    omega
  · cases hb
  dsimp only
  refine go_if (b := false) (et_is (et_or (et_not (et_B (ev_call' N (ea_one (ev_var rfl)) trivial))) fun _ => et_or (et_B0 (ev_var rfl) ev_c) fun _ => et_B0 (ev_var rfl) ev_c) ?_) (fun hb => ?_) (fun hb => go_next ?_)
  · have h1 := pre.n0
    have h2 := pre.n1
    simp only [Bool.not_true, Bool.false_or, Bool.or_eq_false_iff, decide_eq_false_iff_not]
    omega
  · cases hb
  · exact fun σ L H hs => ret _ σ .non L H hs rfl
end
end Lg
namespace Lg
open PySem PySem.Spec PyProof.Rows L2 Ma
open Evl (Ex)
theorem tally_x0 (b : Book) (s : Str) : (lets b).cps.toList.map (cnt s) = b.2.map fun r => cnt s r.1 := by
  show (b.2.map (·.1)).map _ = _
  rw [List.map_map]
  rfl
theorem tab_sq (b : Book) : Sq b.2.length (tab b) := ⟨by simp [tab], fun r hr => by
  obtain ⟨z, _, rfl⟩ := List.mem_map.mp hr
  simp⟩
theorem x0_len (b : Book) : (x0 b).length = b.2.length := by simp [x0]
abbrev Vb (b : Book) (t : Nat) : List Int := V b.2.length (tab b) (x0 b) t
section
variable {P : Program} {w : World} {K : PySem.W.Frag} {mg : Str → Option Value} {base : Heap}
/-! counts_at -/
def spCountsAt : Sp := spF (fun (a : Book × Int × Int) => Small a.1 ∧ Far a.2.1 a.2.2) (fun a => [pBook a.1, pI a.2.1, pI a.2.2]) (fun a => pLI (md a.2.2 (Vb a.1 a.2.1.toNat)))
theorem ok_counts_at {f : Addr} {fd : FuncData} (F : Fun K "counts_at" "counts_at" s_counts_at f fd) (D_need_far : DefOk P w K mg base "need_far" 2 p_need_far [] spNeed) (D_letters : DefOk P w K mg base "letters" 1 p_letters [] spLetters) (D_tally : DefOk P w K mg base "tally" 1 p_tally [] spTally)
    (D_table : DefOk P w K mg base "table" 2 p_table [] spTable) (D_led : DefOk P w K mg base "led" 1 p_led [] spLed) (D_laid : DefOk P w K mg base "laid" 2 p_laid [] spLaid) : FnOk P w K mg base CX0 3 f fd p_counts_at spCountsAt := by
  refine fn_pure F sc_counts_at (fun _ => rfl) (fun cdv A outer s H E hr => ?_)
  refine ⟨_, (pss_cons (ps_expr (pe_call D_need_far.ok (hr.mono (by decide)) (by rfl) D_need_far.mg D_need_far.kp D_need_far.b D_need_far.hd pass0 (pa_cons (pv 1) (pa_cons (pv 2) pa_nil))))
      (pss_cons (ps_setLc (i := 3) (own := [("amounts", 5)]) (tt := tYes) rfl sc_counts_at.nd rfl rfl (sw_true rfl rfl rfl (by decide +kernel)) (show PI _ _ _ (iList K _) from pi_list (pe_call D_table.ok (hr.mono (by decide)) (by rfl) D_table.mg D_table.kp D_table.b D_table.hd pass0 (pa_cons (pv 0) pa_nil))) (blkOk_by (N := N_counts_at) (sc := defScope s_counts_at) (by decide +kernel)) (fun _ _ _ _ _ => (pg_name (i := 5) sc_counts_at.nd rfl (Or.inl rfl))) (fun _ _ _ _ _ => pts_nil) (fun _ _ _ _ _ => (pe_lc (own := [("one", 4)]) (tt := tYes) rfl sc_counts_at.nd (show PI _ _ _ (iList K _) from pi_list (pv 5)) (blkOk_by rfl) (fun _ _ _ _ _ => (pg_name (i := 4) sc_counts_at.nd rfl (Or.inl rfl))) (fun _ _ _ _ _ => pts_nil) (fun _ _ _ _ _ => (pe_op op_mod (pv 4) (pv 2))))))
      (pss_cons (ps_setLc (i := 6) (own := [("one", 4)]) (tt := tYes) rfl sc_counts_at.nd rfl rfl (sw_true rfl rfl rfl (by decide +kernel)) (show PI _ _ _ (iList K _) from pi_list (pe_call D_tally.ok (hr.mono (by decide)) (by rfl) D_tally.mg D_tally.kp D_tally.b D_tally.hd pass0 (pa_cons (pe_call D_letters.ok (hr.mono (by decide)) (by rfl) D_letters.mg D_letters.kp D_letters.b D_letters.hd pass0 (pa_cons (pv 0) pa_nil)) (pa_cons (pe_ix (show IxR _ (rIxT K) from ix_tup) (pv 0) pe_int (fun _ _ => rfl)) pa_nil)))) (blkOk_by (N := N_counts_at) (sc := defScope s_counts_at) (by decide +kernel)) (fun _ _ _ _ _ => (pg_name (i := 4) sc_counts_at.nd rfl (Or.inl rfl))) (fun _ _ _ _ _ => pts_nil) (fun _ _ _ _ _ => (pe_op op_mod (pv 4) (pv 2))))
      (pss_cons (ps_while PassesOwn.never (pt_cmpR op_gt (pv 1) pe_int (nomark _)) (pss_cons (ps_if (pt_cmpR op_eq (pe_op op_mod (pv 1) pe_int) pe_int (nomark _)) (pss_one (ps_set (i := 6) sc_counts_at.nd rfl (Or.inl rfl) (pe_call D_led.ok (hr.mono (by decide)) (by rfl) D_led.mg D_led.kp D_led.b D_led.hd pass0 (pa_cons (pv 6) (pa_cons (pv 3) (pa_cons (pv 2) pa_nil)))))) pss_nil)
      (pss_cons (ps_set (i := 1) sc_counts_at.nd rfl (Or.inl rfl) (pe_op op_fdivW (pv 1) pe_int))
      (pss_one (ps_if (pt_cmpR op_gt (pv 1) pe_int (nomark _)) (pss_one (ps_set (i := 3) sc_counts_at.nd rfl (Or.inl rfl) (pe_call D_laid.ok (hr.mono (by decide)) (by rfl) D_laid.mg D_laid.kp D_laid.b D_laid.hd pass0 (pa_cons (pv 3) (pa_cons (pv 3) (pa_cons (pv 2) pa_nil)))))) pss_nil)))))
      (pss_one (ps_ret (pv 6))))))), ?_⟩
  rintro ⟨b, age, M⟩ W Q ⟨pre, far⟩ ret
  have far : Far age M := far
  have pre' : b.2.length ≤ 8 := pre
  have hM : 0 < M := by have := far.n0; omega
  refine go_seq (go_drop (ev_call' (age, M) (ea_cons (ev_var rfl) (ea_one (ev_var rfl))) far) ?_)
  dsimp only
  -- rates
  refine go_seq (go_asg (P := pLL ((tab b).map (md M))) (EvN.ev (evn_lc (out := (tab b).map (md M)) (r := pLI) (ei_list (f := pLI) (l := tab b) (ev_call' b (ea_one (ev_var rfl)) pre)) (fun x => tg_name 5) ?_ ?_ ?_ ?_ ?_)) ?_)
  · decide
  · rw [(tab_sq b).1]; omega
  · rfl
  · simp
  · intro W1 i x y hi hc hy
    rw [List.getElem?_map, hc] at hy
    cases hy
    refine EvN.ev (evn_lc (out := md M x) (r := fun i => pI i) (ei_list (f := fun i => pI i) (l := x) (ev_var rfl)) (fun x => tg_name 4) ?_ ?_ ?_ ?_ ?_)
    · decide
    · rw [(tab_sq b).2 x (List.mem_of_getElem? hc)]; omega
    · rfl
    · rw [md_len]
    · intro W2 j x y hj hc hy
      unfold md at hy
      rw [List.getElem?_map, hc] at hy
      cases hy
      exact ev_I (ev_var rfl) (ev_var rfl) hM
  dsimp only
  -- found
  have sm : (lets b).cps.size ≤ 1000 := by
    show (b.2.map (·.1)).toArray.size ≤ 1000
    simp; omega
  refine go_seq (go_asg (P := pLI (md M (x0 b))) (EvN.ev (evn_lc (out := md M (x0 b)) (r := fun i => pI i) (ei_list (f := fun i => pI i) (l := x0 b)
    (ev_is (ev_call' (lets b, b.1) (ea_cons (ev_call' b (ea_one (ev_var rfl)) pre) (ea_one (ev_ixTu (Ps := [pS b.1, pT pRule b.2]) (i := 0) (ev_var rfl) ev_c rfl))) sm) (congrArg pLI (tally_x0 b b.1)))) (fun x => tg_name 4) ?_ ?_ ?_ ?_ ?_)) ?_)
  · decide
  · rw [x0_len]; omega
  · rfl
  · rw [md_len]
  · intro W2 j x y hj hc hy
    unfold md at hy
    rw [List.getElem?_map, hc] at hy
    cases hy
    exact ev_I (ev_var rfl) (ev_var rfl) hM
  dsimp only
  -- the loop
  have e_age : ((age.toNat : Nat) : Int) = age := Int.toNat_of_nonneg far.a0
  refine go_seq (go_while (I := fun m Δ => ∃ (k t : Nat) (R : List (List Int)) (F : List Int), Δ = [.val (pBook b), .val (pI (m : Int)), .val (pI M), .val (pLL R), .no, .no, .val (pLI F)] ∧ F = md M (Vb b t) ∧ t + m * k = age.toNat ∧
    (0 < m → Pw b.2.length M (Vb b) k R ∧ R.length = b.2.length ∧ ∀ r ∈ R, r.length = b.2.length ∧ Bd 1000 r)) age.toNat ?_ ?_)
  · refine ⟨1, 0, (tab b).map (md M), md M (x0 b), ?_, rfl, by omega, fun _ => ⟨Pw.one (tab_sq b).1, by simp [(tab_sq b).1], fun r hr => ?_⟩⟩
    · rw [e_age]; rfl
    · obtain ⟨z, hz, rfl⟩ := List.mem_map.mp hr
      exact ⟨by rw [md_len]; exact (tab_sq b).2 z hz, md_bd hM far.n1 z⟩
  · rintro m Δ ⟨k, t, R, F, rfl, hF, ht, hR⟩
    refine ⟨decide ((0 : Int) < m), _, et_B0 (ev_var rfl) ev_c, fun hb N hN => ?_, fun hb => ?_⟩
    · have hm : 0 < m := by simpa using hb
      obtain ⟨pw, hl, hr2⟩ := hR hm
      have hFl : F.length = b.2.length := by rw [hF, md_len, V_len (x0_len b)]
      have tok : ∀ x : List Int, x.length = b.2.length → Bd 1000 x → TabOk R.length R x := fun x hx hb => ⟨by rw [hl]; exact hx, ⟨rfl, fun r hr => by rw [hl]; exact (hr2 r hr).1⟩, by omega, hb, fun r hr => (hr2 r hr).2⟩
      refine go_ifJ (fun Δ => ∃ (t' : Nat) (F' : List Int), Δ = [.val (pBook b), .val (pI (m : Int)), .val (pI M), .val (pLL R), .no, .no, .val (pLI F')] ∧ F' = md M (Vb b t') ∧ t' + (m / 2) * (k + k) = age.toNat)
        (et_test (ev_eq (ev_I (ev_var rfl) ev_c (by show (0 : Int) < 2; decide)) ev_c rfl)) (fun hp N2 hN2 => ?_) (fun hp N2 hN2 => ?_) ?_
      · have hp : m % 2 = 1 := by
          have hp := V.int.inj (of_decide_eq_true hp)
          omega
        have tF := tok F hFl (by rw [hF]; exact md_bd hM far.n1 _)
        refine go_asg (ev_call' (F, R, M) (ea_cons (ev_var rfl) (ea_cons (ev_var rfl) (ea_one (ev_var rfl)))) ⟨?_, hM⟩) (hN2 _ ⟨t + k, _, rfl, ?_, ?_⟩)
        · show TabOk F.length R F
          rw [hFl, ← hl]
          exact tF
        · show md M (vm F.length F R) = _
          rw [hFl, hF, vm_md_l, pw t]
        · have e : m = m / 2 + m / 2 + 1 := by omega
          have e2 : m * k = m / 2 * (k + k) + k := by
            rw [Nat.mul_add]
            have : m * k = (m / 2 + m / 2 + 1) * k := by rw [← e]
            rw [this, Nat.add_mul, Nat.add_mul]
            omega
          omega
      · have hp : m % 2 = 0 := by
          have hp := of_decide_eq_false hp
          have hp : ¬ ((m : Int) % 2 = 1) := fun z => hp (by rw [z])
          omega
        refine go_next (hN2 _ ⟨t, F, rfl, hF, ?_⟩)
        have e : m = m / 2 + m / 2 := by omega
        have e2 : m * k = m / 2 * (k + k) := by
          rw [Nat.mul_add]
          have : m * k = (m / 2 + m / 2) * k := by rw [← e]
          rw [this, Nat.add_mul]
        omega
      · rintro Δ ⟨t', F', rfl, hF', ht'⟩
        have e2 : ((m : Int) / 2) = ((m / 2 : Nat) : Int) := by omega
        refine go_seq (go_asg (P := pI ((m / 2 : Nat) : Int)) (ev_is (ev_I (ev_var rfl) ev_c (wide_div (b := 2) (by decide) (by decide) (by decide) (by decide))) (by rw [e2])) ?_)
        dsimp only
        refine go_if (et_B0 (ev_var rfl) ev_c) (fun hq => ?_) (fun hq => ?_)
        · refine go_asg (ev_call' (R, R, M) (ea_cons (ev_var rfl) (ea_cons (ev_var rfl) (ea_one (ev_var rfl)))) ⟨?_, ?_, hM⟩) (hN (m / 2) _ (by omega) ⟨k + k, t', _, F', rfl, hF', ht', fun _ => ⟨?_, ?_, ?_⟩⟩)
          · show R.length ≤ 100
            omega
          · exact fun x hx => tok x (hr2 x hx).1 (hr2 x hx).2
          · have z := pw.sq hl
            rw [← hl] at z
            rw [← hl]
            exact z
          · show (R.map _).length = _
            rw [List.length_map, hl]
          · intro r hr
            obtain ⟨z, hz, rfl⟩ := List.mem_map.mp hr
            exact ⟨by rw [md_len, vm_len]; exact hl, md_bd hM far.n1 _⟩
        · refine go_next (hN (m / 2) _ (by omega) ⟨k + k, t', R, F', rfl, hF', ht', fun z => ?_⟩)
          have hq : ¬ ((0 : Int) < ((m / 2 : Nat) : Int)) := of_decide_eq_false hq
          omega
    · have hm : m = 0 := by
        have : ¬ ((0 : Int) < (m : Int)) := by simpa using hb
        omega
      refine go_ret (ev_var rfl) ?_
      rw [hm] at ht
      have e : t = age.toNat := by omega
      rw [hF, e]
      exact ret _
/-! length_at -/
def spLengthAt : Sp := spF (fun (a : Book × Int × Int) => Small a.1 ∧ Far a.2.1 a.2.2) (fun a => [pBook a.1, pI a.2.1, pI a.2.2]) (fun a => pI ((md a.2.2 (Vb a.1 a.2.1.toNat)).sum % a.2.2))
theorem ok_length_at {f : Addr} {fd : FuncData} (T : Txt mg) (F : Fun K "length_at" "length_at" s_length_at f fd) (D_counts_at : DefOk P w K mg base "counts_at" 3 p_counts_at [] spCountsAt) : FnOk P w K mg base CX0 4 f fd p_length_at spLengthAt := by
  refine fn_pure F sc_length_at (fun _ => rfl) (fun cdv A outer s H E hr => ?_)
  refine ⟨_, (pss_one (ps_ret (pe_op op_mod (pe_callB (show CallR _ _ (rSum K) from cr_sum rfl) (by rfl) T.sum (by decide +kernel) (pa_cons (pe_call D_counts_at.ok (hr.mono (by decide)) (by rfl) D_counts_at.mg D_counts_at.kp D_counts_at.b D_counts_at.hd pass0 (pa_cons (pv 0) (pa_cons (pv 1) (pa_cons (pv 2) pa_nil)))) pa_nil)) (pv 2)))), ?_⟩
  rintro ⟨b, age, M⟩ W Q ⟨pre, far⟩ ret
  have far : Far age M := far
  have hM : 0 < M := by have := far.n0; omega
  exact go_ret (ev_I (ev_sum (ev_call' (b, age, M) (ea_cons (ev_var rfl) (ea_cons (ev_var rfl) (ea_one (ev_var rfl)))) ⟨pre, far⟩)) (ev_var rfl) hM) (ret _)
end
end Lg
namespace Lg
open PySem PySem.Spec PyProof.Rows L2 Ma
open Evl (Ex)
section
variable {P : Program} {w : World} {K : PySem.W.Frag} {mg : Str → Option Value} {base : Heap}
/-! common -/
def spCommon : Sp := spF (fun (_ : Int × Int) => True) (fun a => [pI a.1, pI a.2]) (fun a => pI (Int.gcd a.1 a.2 : Nat))
theorem ok_common {f : Addr} {fd : FuncData} (T : Txt mg) (F : Fun K "common" "common" s_common f fd) : FnOk P w K mg base CX0 1 f fd p_common spCommon := by
  refine fn_pure F sc_common (fun _ => rfl) (fun cdv A outer s H E hr => ?_)
  refine ⟨_, (pss_cons (ps_while PassesOwn.never (pt_cmpR op_ne (pv 1) pe_int (nomark _)) (pss_one (ps_par (i := 0) (j := 1) (by rfl) sc_common.nd rfl rfl (by decide) rfl rfl (pa_cons (pv 1) (pa_cons (pe_op op_modN (pv 0) (pv 1)) pa_nil)) (by rfl))))
      (pss_one (ps_ret (pe_callB call_abs1 (by rfl) T.abs (by decide +kernel) (pa_cons (pv 0) pa_nil))))), ?_⟩
  rintro ⟨a, b⟩ W Q _ ret
  refine go_seq (go_while (I := fun m Δ => ∃ x y : Int, Δ = [.val (pI x), .val (pI y)] ∧ m = y.natAbs ∧ Int.gcd x y = Int.gcd a b) b.natAbs ⟨a, b, rfl, rfl, rfl⟩ ?_)
  rintro m Δ ⟨x, y, rfl, rfl, hg⟩
  refine ⟨!decide (V.int y = V.int 0), _, et_test (ev_ne (ev_var rfl) ev_c rfl), fun hb N hN => ?_, fun hb => ?_⟩
  · have hy : y ≠ 0 := by simpa using hb
    exact go_par (ea_cons (ev_var rfl) (ea_one (ev_I (ev_var rfl) (ev_var rfl) hy))) (hN _ _ (fmod_lt x y hy) ⟨y, x.fmod y, rfl, rfl, by rw [gcd_step, hg]⟩)
  · have hy : y = 0 := by simpa using hb
    subst hy
    refine go_ret (ev_is (ev_abs (ev_var rfl)) ?_) (ret _)
    rw [← hg, Int.gcd_zero_right]
    congr 2
    split <;> omega
/-! lowered -/
def spLowered : Sp := spF (fun (xs : List Int) => xs.length ≤ 1000 ∧ Bd 9000 xs) (fun xs => [pLI xs]) (fun xs => pLI (low xs))
theorem ok_lowered {f : Addr} {fd : FuncData} (F : Fun K "lowered" "lowered" s_lowered f fd) (D_common : DefOk P w K mg base "common" 1 p_common [] spCommon) : FnOk P w K mg base CX0 2 f fd p_lowered spLowered := by
  refine fn_pure F sc_lowered (fun _ => rfl) (fun cdv A outer s H E hr => ?_)
  refine ⟨_, (pss_cons (ps_set (i := 1) sc_lowered.nd rfl (Or.inr rfl) pe_int)
      (pss_cons (ps_for PassesOwn.never rfl (show PI _ _ _ (iList K _) from pi_list (pv 0)) (pg_name (i := 2) sc_lowered.nd rfl (Or.inl rfl)) (pss_one (ps_set (i := 1) sc_lowered.nd rfl (Or.inr rfl) (pe_call D_common.ok (hr.mono (by decide)) (by rfl) D_common.mg D_common.kp D_common.b D_common.hd pass0 (pa_cons (pv 1) (pa_cons (pv 2) pa_nil))))))
      (pss_cons (ps_if (pt_cmpR op_lt (pv 1) pe_int (nomark _)) (pss_one (ps_ret (pv 0))) pss_nil)
      (pss_one (ps_ret (pe_lc (own := [("number", 2)]) (tt := tYes) rfl sc_lowered.nd (show PI _ _ _ (iList K _) from pi_list (pv 0)) (blkOk_by (N := N_lowered) (sc := defScope s_lowered) (by decide +kernel)) (fun _ _ _ _ _ => (pg_name (i := 2) sc_lowered.nd rfl (Or.inl rfl))) (fun _ _ _ _ _ => pts_nil) (fun _ _ _ _ _ => (pe_op op_fdivW (pv 2) (pv 1))))))))), ?_⟩
  rintro xs W Q ⟨hl, hb⟩ ret
  refine go_seq (go_asg ev_c ?_)
  dsimp only
  refine go_seq (go_for (ei_list (f := fun i => pI i) (l := xs) (ev_var rfl)) (fun x => tg_name 2) (fun i Δ => Δ = [.val (pLI xs), .val (pI (cont (xs.take i))), .no]) rfl ?_ ?_)
  · rintro W1 N i x Δ sb hi hx rfl hN
    refine go_asg (ev_call' (cont (xs.take i), x) (ea_cons (ev_var rfl) (ea_one (ev_var rfl))) trivial) ?_
    have e : cont (xs.take (i + 1)) = (Int.gcd (cont (xs.take i)) x : Nat) := foldl_take _ _ hx
    have hN := hN _ rfl
    rw [e] at hN
    exact go_weak (.same (.same (.no .nil))) hN
  · rintro Δ rfl
    rw [List.take_length]
    refine go_seq (go_if (et_B0 (ev_var rfl) ev_c) (fun hc => ?_) (fun hc => go_next ?_))
    · have hc : cont xs < 2 := of_decide_eq_true hc
      refine go_ret (ev_is (ev_var rfl) ?_) (ret _)
      unfold low
      rw [if_pos hc]
    · have hc : ¬ cont xs < 2 := of_decide_eq_false hc
      dsimp only
      refine go_ret (EvN.ev (evn_lc (out := low xs) (r := fun i => pI i) (ei_list (f := fun i => pI i) (l := xs) (ev_var rfl)) (fun x => tg_name 2) ?_ ?_ ?_ ?_ ?_)) (ret _)
      · decide
      · omega
      · rfl
      · exact low_len xs
      · intro W1 i x y hi hx hy
        unfold low at hy
        rw [if_neg hc, List.getElem?_map, hx] at hy
        cases hy
        exact ev_I (ev_var rfl) (ev_var rfl) (wide_div (b := 9000) (by omega) (cont_lt hb) (by decide) (by decide))
/-! lead_of -/
def spLead : Sp := spF (fun (xs : List Int) => xs.length ≤ 1000) (fun xs => [pLI xs]) (fun xs => pI (leadI xs))
theorem ok_lead_of {f : Addr} {fd : FuncData} (T : Txt mg) (F : Fun K "lead_of" "lead_of" s_lead_of f fd) : FnOk P w K mg base CX0 1 f fd p_lead_of spLead := by
  refine fn_pure F sc_lead_of (fun _ => rfl) (fun cdv A outer s H E hr => ?_)
  refine ⟨_, (pss_cons (ps_for PassesOwn.never rfl (pi_range1 (by rfl) T.range (pa_cons (pe_callB (show CallR _ _ (rLen K) from call_len1) (by rfl) T.len (by decide +kernel) (pa_cons (pv 0) pa_nil)) pa_nil)) (pg_name (i := 1) sc_lead_of.nd rfl (Or.inl rfl)) (pss_one (ps_if (pt_cmpR op_ne (pe_ix (show IxR _ (rIxL K) from ix_list) (pv 0) (pv 1) (fun _ _ => rfl)) pe_int (nomark _)) (pss_one (ps_ret (pv 1))) pss_nil)))
      (pss_one (ps_ret (pe_un un_neg pe_int)))), ?_⟩
  rintro xs W Q hl ret
  have hl : xs.length ≤ 1000 := hl
  refine go_seq (go_for (ei_rng1 (j := (xs.length : Int)) (ea_one (ev_len (f := fun i => pI i) (ev_var rfl))) (by omega) (by omega)) (fun x => tg_name 1) (fun i Δ => Δ = [.val (pLI xs), .no] ∧ ∀ k, k < i → g xs k = 0) ⟨rfl, fun k hk => absurd hk (Nat.not_lt_zero k)⟩ ?_ ?_)
  · rintro W1 N i x Δ sb hi rfl ⟨rfl, h0⟩ hN
    have hi : x < xs.length := by simpa using hi
    refine go_if (et_test (ev_ne (ev_ixL (f := fun i => pI i) (l := xs) (i := (x : Int)) (ev_var rfl) (ev_var rfl) (atI_nat (g_lt hi))) ev_c rfl)) (fun hb => ?_) (fun hb => go_next ?_)
    · have hb : g xs x ≠ 0 := by simpa using hb
      have e := ld_eq h0 hb
      refine go_ret (ev_is (ev_var rfl) ?_) (RetOk.sub sb (ret _))
      unfold leadI
      rw [e, if_pos hi]
    · have hb : g xs x = 0 := by simpa using hb
      exact go_weak (.same (.no .nil)) (hN _ ⟨rfl, fun k hk => by
        by_cases e : k = x
        · rw [e]; exact hb
        · exact h0 k (by omega)⟩)
  · rintro Δ ⟨rfl, h0⟩
    have h0 : ∀ k, k < xs.length → g xs k = 0 := by simpa using h0
    have e := ld_all h0
    refine go_ret (ev_is (ev_neg ev_c) ?_) (ret _)
    unfold leadI
    rw [e, if_neg (Nat.lt_irrefl _)]
/-! cleared -/
abbrev pK (k : Nat × List Int) : VP := pTu [pI (k.1 : Int), pLI k.2]
def spCleared : Sp := spF (fun (a : List Int × List (Nat × List Int)) => ClrOk a.1 a.2) (fun a => [pLI a.1, pL pK a.2]) (fun a => pLI (clr a.1 a.2))
theorem ok_cleared {f : Addr} {fd : FuncData} (T : Txt mg) (F : Fun K "cleared" "cleared" s_cleared f fd) (D_lowered : DefOk P w K mg base "lowered" 2 p_lowered [] spLowered) : FnOk P w K mg base CX0 3 f fd p_cleared spCleared := by
  refine fn_pure F sc_cleared (fun _ => rfl) (fun cdv A outer s H E hr => ?_)
  refine ⟨_, (pss_cons (ps_for PassesOwn.never rfl (show PI _ _ _ (iList K _) from pi_list (pv 1)) (show PG _ _ (gTup K 2 _) from pg_tup rfl (pgs_cons (pg_name (i := 2) sc_cleared.nd rfl (Or.inr rfl)) (pgs_cons (pg_name (i := 3) sc_cleared.nd rfl (Or.inr rfl)) pgs_nil))) (pss_cons (ps_set (i := 4) sc_cleared.nd rfl (Or.inr rfl) (pe_ix (show IxR _ (rIxL K) from ix_list) (pv 0) (pv 2) (fun _ _ => rfl)))
      (pss_one (ps_if (pt_cmpR op_ne (pv 4) pe_int (nomark _)) (pss_one (ps_set (i := 0) sc_cleared.nd rfl (Or.inl rfl) (pe_call D_lowered.ok (hr.mono (by decide)) (by rfl) D_lowered.mg D_lowered.kp D_lowered.b D_lowered.hd pass0 (pa_cons (pe_lc (own := [("a", 5), ("b", 6)]) (tt := tYes) rfl sc_cleared.nd (show PI _ _ _ (iZip K _) from pi_zip (by rfl) T.zip (pa_cons (pv 0) (pa_cons (pv 3) pa_nil))) (blkOk_by (N := N_cleared) (sc := defScope s_cleared) (by decide +kernel)) (fun _ _ _ _ _ => (show PG _ _ (gTup K 2 _) from pg_tup rfl (pgs_cons (pg_name (i := 5) sc_cleared.nd rfl (Or.inl rfl)) (pgs_cons (pg_name (i := 6) sc_cleared.nd rfl (Or.inl rfl)) pgs_nil)))) (fun _ _ _ _ _ => pts_nil) (fun _ _ _ _ _ => (pe_op op_sub (pe_op op_mulW (pe_ix (show IxR _ (rIxL K) from ix_list) (pv 3) (pv 2) (fun _ _ => rfl)) (pv 5)) (pe_op op_mulW (pv 4) (pv 6))))) pa_nil)))) pss_nil))))
      (pss_one (ps_ret (pv 0)))), ?_⟩
  rintro ⟨xs, ks⟩ W Q pre ret
  obtain ⟨hx1, hk1, hlen, a, β, hb, hβ, hsum⟩ : ClrOk xs ks := pre
  refine go_seq (go_for (ei_list (f := pK) (l := ks) (ev_var rfl)) (fun x => tg_pair 2 3) (fun i Δ => Δ = [.val (pLI (clr xs (ks.take i))), .val (pL pK ks), .no, .no, .no, .no, .no]) rfl ?_ ?_)
  · rintro W1 N i ⟨lead, bs⟩ Δ sb hi hx rfl hN
    have hN := hN _ rfl
    rw [clr_take hx] at hN
    have hm := List.mem_of_getElem? hx
    obtain ⟨l1, b1⟩ := clr_bd hb hlen hβ i (by omega)
    obtain ⟨h2, h3⟩ := hlen _ hm
    have h2 : bs.length = xs.length := h2
    have h3 : lead < xs.length := h3
    have hbs : Bd (β i) bs := hβ i _ hx
    have hs := sb_at β hi
    generalize hc : clr xs (ks.take i) = cur at *
    refine go_seq (go_asg (ev_ixL (f := fun i => pI i) (l := cur) (i := (lead : Int)) (ev_var rfl) (ev_var rfl) (atI_nat (g_lt (by omega)))) ?_)
    dsimp only
    refine go_if (et_test (ev_ne (ev_var rfl) ev_c rfl)) (fun hb => ?_) (fun hb => go_next ?_)
    · have hz : g cur lead ≠ 0 := by simpa using hb
      have zl : (List.zipWith (fun u v => g bs lead * u - g cur lead * v) cur bs).length = cur.length := by rw [List.length_zipWith, h2, l1, Nat.min_self]
      have pl := hbs _ (List.mem_of_getElem? (g_lt (xs := bs) (i := lead) (by omega)))
      have cl := b1 _ (List.mem_of_getElem? (g_lt (xs := cur) (i := lead) (by omega)))
      have zb := zip_bd b1 hbs pl cl
      refine go_asg (P := pLI (clr1 cur (lead, bs))) (ev_is (ev_call' (List.zipWith (fun u v => g bs lead * u - g cur lead * v) cur bs) (ea_one (EvN.ev (evn_lc (out := List.zipWith (fun u v => g bs lead * u - g cur lead * v) cur bs) (r := fun i => pI i)
        (ei_zip (f := fun i => pI i) (g := fun i => pI i) (l := cur) (m := bs) (n := cur.length) (ea_cons (ev_var rfl) (ea_one (ev_var rfl))) (by rw [h2, l1, Nat.min_self])) (fun x => tg_pair 5 6) ?_ ?_ ?_ ?_ ?_))) ⟨?_, ?_⟩) ?_) ?_
      · decide
      · omega
      · rfl
      · exact zl
      · rintro W2 j ⟨u, v⟩ y hj ⟨hu, hv⟩ hy
        have hu : cur[j]? = some u := hu
        have hv : bs[j]? = some v := hv
        rw [List.getElem?_zipWith, hu, hv] at hy
        cases hy
        have bu := b1 _ (List.mem_of_getElem? hu)
        have bv := hbs _ (List.mem_of_getElem? hv)
        have up : ∀ {x : Int} {b : Nat}, x.natAbs < 2 ^ b → x.natAbs < 2 ^ (b + 1) := fun h => Nat.lt_of_lt_of_le h (Nat.pow_le_pow_right (by decide) (Nat.le_succ _))
        exact ev_I0 (ev_I (ev_ixL (f := fun i => pI i) (l := bs) (i := (lead : Int)) (ev_var rfl) (ev_var rfl) (atI_nat (g_lt (by omega)))) (ev_var rfl) (wide_mul (up pl) (up bu) (by omega) (by omega) (by omega)))
          (ev_I (ev_var rfl) (ev_var rfl) (wide_mul (up cl) (up bv) (by omega) (by omega) (by omega)))
      · rw [zl]; omega
      · exact bd_mono (by omega) zb
      · unfold clr1
        rw [if_neg hz]
      · exact go_weak (.same (.same (.no (.no (.no (.same (.same .nil))))))) hN
    · have hz : g cur lead = 0 := by simpa using hb
      have e : clr1 cur (lead, bs) = cur := by
        unfold clr1
        rw [if_pos hz]
      rw [e] at hN
      exact go_weak (.same (.same (.no (.no (.no (.same (.same .nil))))))) hN
  · rintro Δ rfl
    rw [List.take_length]
    exact go_ret (ev_var rfl) (ret _)
end
end Lg
namespace Lg
open PySem PySem.Spec PyProof.Rows L2 Ma
open Evl (Ex)
/-- the kept rows, one's own, are shown to a def that hands back a row of numbers, and are one's own again -/
theorem ev_lend {W : Wd} {Γ : Cxt} {α : Type} {Pre : α → Prop} {As : α → List VP} {R : α → VP} {ta : TE} {E : XK} {i : Nat} {p : Addr} {ks : List (Nat × List Int)} {A : VP} {ns : List Int} (a : α)
    (e : Γ[i]? = some (Ent.own p (oL pK ks))) (ha : Ev W ta Γ A Γ) (hp : Pre a) (hA : As a = [A, pL pK ks]) (hR : R a = pLI ns) (hn : ns ≠ []) : Ev W (tCall (spF Pre As R) [] E (tCons ta (tCons (tVar i) tNil))) Γ (pLI ns) Γ := fun σ L H hs Q q => by
  refine ha σ L H hs _ fun v L1 H1 e1 pv h1 => ?_
  obtain ⟨a1, a2, a3, o, a4, vs, rfl, a5⟩ := h1.own i p _ e
  refine ⟨.ref p, a1, a, upd L1 p (.lst vs), hp, fun x y z => ?_, ?_, fun u L2 H2 e2 f2 hr => ?_⟩
  · by_cases w : x = p
    · subst w
      rw [upd_same] at z
      cases z
      exact a4
    · rw [upd_ne w] at z
      exact h1.ex x y z
  · rw [hA]
    exact .cons (A.up (Ex.new a3) pv) (.cons ⟨p, _, rfl, upd_same, vs, rfl, pair_up (Ex.new a3) a5⟩ .nil)
  · rw [hR] at hr
    obtain ⟨b, rfl, hb⟩ := pL_ints hr
    have hp2 : L2 p = some (.lst vs) := f2.1 p _ upd_same
    have nb : b ≠ p := by
      intro w
      subst w
      rw [hb] at hp2
      cases hp2
      cases ns with
      | nil => exact hn rfl
      | cons n ns =>
        cases a5 with
        | cons r t =>
          obtain ⟨c, o, h1, _⟩ := r
          cases h1
    -- hidden again
    have e3 : Ex L1 (fun q => if q = p then none else L2 q) := fun x y z => by
      have w : x ≠ p := fun w => by rw [w, a3] at z; cases z
      show (if x = p then none else L2 x) = _
      rw [if_neg w]
      exact f2.1 x y (by rw [upd_ne w]; exact z)
    have hpH : H2 p = some (.lst vs) := e2 p _ hp2
    refine q (.ref b) _ H2 (e1.trans e3) ⟨b, _, rfl, (if_neg nb).trans hb, _, rfl, pC_pair ns⟩ ⟨fun x y z => ?_, ⟨h1.fr.1.trans e3, fun q o w1 w2 w3 => ?_⟩, h1.len, fun k P z => ?_, fun k q O z => ?_, h1.dis⟩
    · by_cases w : x = p
      · subst w
        simp at z
      · simp [w] at z
        exact e2 x y z
    · obtain ⟨x, y⟩ := h1.fr.2 q o w1 w2 w3
      have w : q ≠ p := fun w => w2 (by rw [w]; exact a2)
      obtain ⟨z1, z2⟩ := f2.2 q o (by rw [upd_ne w]; exact x) (fun z => z) y
      exact ⟨by show (if q = p then none else L2 q) = none; rw [if_neg w]; exact z1, z2⟩
    · obtain ⟨v, x, y⟩ := h1.val k P z
      exact ⟨v, x, P.up e3 y⟩
    · obtain ⟨x1, x2, x3, u, x4, x5⟩ := h1.own k q O z
      by_cases w : q = p
      · subst w
        rw [a4] at x4
        cases x4
        exact ⟨x1, x2, if_pos rfl, _, hpH, O.up e3 x5⟩
      · obtain ⟨z1, z2⟩ := f2.2 q u (by rw [upd_ne w]; exact x3) (fun z => z) x4
        exact ⟨x1, x2, by show (if q = p then none else L2 q) = none; rw [if_neg w]; exact z1, u, z2, O.up e3 x5⟩
theorem cutL_take {α : Type} (xs : List α) (k : Nat) : cutL xs none (some (k : Int)) = xs.take k := by
  unfold cutL
  rw [HT.sIx_none, HT.sIx_nat]
  simp [List.take_eq_take_iff]
section
variable {P : Program} {w : World} {K : PySem.W.Frag} {mg : Str → Option Value} {base : Heap}
/-! first_tie -/
def spTie : Sp := spF (fun (a : Nat × List (List Int) × Nat) => FtOk a.1 a.2.1 a.2.2) (fun a => [pLL a.2.1]) (fun a => pLI (fout a.1 a.2.1 a.2.2))
theorem ok_first_tie {f : Addr} {fd : FuncData} (T : Txt mg) (F : Fun K "first_tie" "first_tie" s_first_tie f fd) (D_cleared : DefOk P w K mg base "cleared" 3 p_cleared [] spCleared) (D_lead_of : DefOk P w K mg base "lead_of" 1 p_lead_of [] spLead) : FnOk P w K mg base CX0 4 f fd p_first_tie spTie := by
  refine fn_pure F sc_first_tie (fun _ => rfl) (fun cdv A outer s H E hr => ?_)
  refine ⟨_, (pss_cons (ps_set (i := 1) sc_first_tie.nd rfl (Or.inr rfl) (pe_callB (show CallR _ _ (rLen K) from call_len1) (by rfl) T.len (by decide +kernel) (pa_cons (pe_ix (show IxR _ (rIxL K) from ix_list) (pv 0) pe_int (fun _ _ => rfl)) pa_nil)))
      (pss_cons (ps_set (i := 2) sc_first_tie.nd rfl (Or.inl rfl) (pe_lst pa_nil))
      (pss_cons (ps_for PassesOwn.never rfl (pi_range1 (by rfl) T.range (pa_cons (pe_callB (show CallR _ _ (rLen K) from call_len1) (by rfl) T.len (by decide +kernel) (pa_cons (pv 0) pa_nil)) pa_nil)) (pg_name (i := 3) sc_first_tie.nd rfl (Or.inr rfl)) (pss_cons (ps_setLc (i := 4) (own := [("k", 5)]) (tt := tYes) rfl sc_first_tie.nd rfl rfl (sw_true rfl rfl rfl (by decide +kernel)) (pi_range1 (by rfl) T.range (pa_cons (pe_callB (show CallR _ _ (rLen K) from call_len1) (by rfl) T.len (by decide +kernel) (pa_cons (pv 0) pa_nil)) pa_nil)) (blkOk_by (N := N_first_tie) (sc := defScope s_first_tie) (by decide +kernel)) (fun _ _ _ _ _ => (pg_name (i := 5) sc_first_tie.nd rfl (Or.inl rfl))) (fun _ _ _ _ _ => pts_nil) (fun _ _ _ _ _ => (pe_callTy call_int1' (by rfl) T.int (by decide +kernel) (pa_cons (pe_cmpR op_eq (pv 5) (pv 3) (nomark _)) pa_nil))))
      (pss_cons (ps_set (i := 6) sc_first_tie.nd rfl (Or.inr rfl) (pe_call D_cleared.ok (hr.mono (by decide)) (by rfl) D_cleared.mg D_cleared.kp D_cleared.b D_cleared.hd pass0 (pa_cons (pe_op op_cat (pe_ix (show IxR _ (rIxL K) from ix_list) (pv 0) (pv 3) (fun _ _ => rfl)) (pv 4)) (pa_cons (pv 2) pa_nil))))
      (pss_cons (ps_set (i := 7) sc_first_tie.nd rfl (Or.inl rfl) (pe_call D_lead_of.ok (hr.mono (by decide)) (by rfl) D_lead_of.mg D_lead_of.kp D_lead_of.b D_lead_of.hd pass0 (pa_cons (pe_slice (show SlR _ (rSlL K) from sl_list) (pv 6) po_none (po_some (pv 1))) pa_nil)))
      (pss_cons (ps_if (pt_cmpR op_lt (pv 7) pe_int (nomark _)) (pss_cons (ps_set (i := 8) sc_first_tie.nd rfl (Or.inr rfl) (pe_ix (show IxR _ (rIxL K) from ix_list) (pv 6) (pe_op op_add (pv 1) (pv 3)) (fun _ _ => rfl)))
      (pss_one (ps_ret (pe_lc (own := [("k", 5)]) (tt := tYes) rfl sc_first_tie.nd (pi_range1 (by rfl) T.range (pa_cons (pv 3) pa_nil)) (blkOk_by (N := N_first_tie) (sc := defScope s_first_tie) (by decide +kernel)) (fun _ _ _ _ _ => (pg_name (i := 5) sc_first_tie.nd rfl (Or.inl rfl))) (fun _ _ _ _ _ => pts_nil) (fun _ _ _ _ _ => (pe_op op_fdivN (pe_un un_neg (pe_ix (show IxR _ (rIxL K) from ix_list) (pv 6) (pe_op op_add (pv 1) (pv 5)) (fun _ _ => rfl))) (pv 8))))))) pss_nil)
      (pss_one (ps_expr (show PE _ _ (tBM K _ _ _ _) from pe_bm PySem.F.plainAttrs_list PySem.F.slot_list_append PySem.F.type_list_append mt_append (pv 2) (pa_cons (pe_tup (pa_cons (pv 7) (pa_cons (pv 6) pa_nil))) pa_nil)))))))))
      (pss_one (ps_ret (pe_lst pa_nil)))))), ?_⟩
  rintro ⟨wd, vs, d⟩ W Q pre ret
  have pre : FtOk wd vs d := pre
  have hv0 : ∃ v, vs[0]? = some v := ⟨vs[0]'(by have := pre.lt; omega), List.getElem?_eq_getElem _⟩
  obtain ⟨v0, hv0⟩ := hv0
  have lv : ∀ v ∈ vs, v.length = wd := pre.wid
  have w40 := pre.small.1
  have m40 := pre.small.2
  have rl : ∀ t, t ≤ d → (row wd vs t).length = wd + vs.length := fun t ht => by
    have hc := pre.clr t ht
    have hl : (vs.getD t [] ++ marks vs.length t).length = wd + vs.length := by
      rw [List.length_append]
      have : t < vs.length := by have := pre.lt; omega
      rw [List.getD_eq_getElem?_getD, List.getElem?_eq_getElem this]
      show (vs[t]).length + _ = _
      rw [lv _ (List.getElem_mem this)]
      simp [marks]
    unfold row
    rw [clr_len (fun k hk => (hc.2.2.1 k hk).1), hl]
  -- width, kept
  refine go_seq (go_asg (P := pI (wd : Int)) (ev_is (ev_len (f := fun i => pI i) (l := v0) (ev_ixL (f := pLI) (l := vs) (i := 0) (ev_var rfl) ev_c (atI_nat (j := 0) hv0))) (by rw [lv v0 (List.mem_of_getElem? hv0)])) ?_)
  dsimp only
  refine go_seq (go_new (evn_lstOf (f := pK) (l := []) ea_nil (by decide)) (fun p => ?_))
  dsimp only
  refine go_seq (go_for (ei_rng1 (j := (vs.length : Int)) (ea_one (ev_len (f := pLI) (ev_var rfl))) (by omega) (by omega)) (fun x => tg_name 3)
    (fun i Δ => i ≤ d ∧ Δ = [.val (pLL vs), .val (pI (wd : Int)), .own p (oL pK (kp wd vs i)), .no, .no, .no, .no, .no, .no]) ⟨Nat.zero_le _, rfl⟩ ?_ ?_)
  · rintro W1 N i x Δ sb hi ex ⟨hid, rfl⟩ hN
    cases (show i = x from ex.symm)
    have hi : i < vs.length := by simpa using hi
    have evi := List.getElem?_eq_getElem hi
    have evd : vs.getD i [] = vs[i] := by rw [List.getD_eq_getElem?_getD, evi]; rfl
    -- marks
    refine go_seq (go_asg (P := pLI (marks vs.length i)) (EvN.ev (evn_lc (out := marks vs.length i) (r := fun i => pI i) (ei_rng1 (j := (vs.length : Int)) (ea_one (ev_len (f := pLI) (ev_var rfl))) (by omega) (by omega)) (fun x => tg_name 5) ?_ ?_ ?_ ?_ ?_)) ?_)
    · decide
    · simp; omega
    · rfl
    · simp [marks]
    · intro W2 j x y hj hx hy
      cases (show j = x from hx.symm)
      have hj : j < vs.length := by simpa using hj
      unfold marks at hy
      rw [List.getElem?_map, List.getElem?_range hj] at hy
      cases hy
      refine ev_is (ev_intB (ev_eq (ev_var rfl) (ev_var rfl) rfl)) ?_
      have e : decide (V.int (j : Int) = V.int (i : Int)) = decide (j = i) := by
        rw [dec_int]
        by_cases z : j = i
        · subst z; simp
        · have z2 : ¬ (j : Int) = (i : Int) := by omega
          simp [z, z2]
      rw [e]
      simp
    dsimp only
    -- numbers
    have hlen := rl i hid
    have hne : row wd vs i ≠ [] := by
      intro z
      rw [z] at hlen
      simp at hlen
      omega
    have hml : (marks vs.length i).length = vs.length := by simp [marks]
    refine go_seq (go_asg (P := pLI (row wd vs i)) (ev_lend (vs.getD i [] ++ marks vs.length i, kp wd vs i) (p := p) (ks := kp wd vs i) (A := pLI (vs.getD i [] ++ marks vs.length i)) rfl
      (EvN.ev (evn_cat (f := fun i => pI i) (l := vs.getD i []) (m := marks vs.length i) (ev_ixL (f := pLI) (l := vs) (i := (i : Int)) (ev_var rfl) (ev_var rfl) (atI_nat (by rw [evd]; exact evi))) (ev_var rfl) ?_)) (pre.clr i hid) rfl rfl hne) ?_)
    · rw [evd, lv _ (List.getElem_mem hi), hml]
      omega
    dsimp only
    -- lead
    have htl : ((row wd vs i).take wd).length = wd := by rw [List.length_take, hlen]; omega
    refine go_seq (go_asg (P := pI (leadI ((row wd vs i).take wd))) (ev_call' ((row wd vs i).take wd) (ea_one (ev_is (EvN.ev (evn_sl (f := fun i => pI i) (l := row wd vs i) (ev_var rfl) eo_none (eo_some (i := (wd : Int)) (ev_var rfl)))) (by rw [cutL_take]))) (by show ((row wd vs i).take wd).length ≤ 1000; omega)) ?_)
    dsimp only
    rcases Nat.lt_or_ge i d with hlt | hge
    · -- it goes on
      have hld := pre.go i hlt
      have eI : leadI ((row wd vs i).take wd) = (ld ((row wd vs i).take wd) : Nat) := by
        unfold leadI
        rw [if_pos (by omega)]
      rw [eI]
      refine go_seq (go_if (b := false) (et_is (et_B0 (ev_var rfl) ev_c) (decide_eq_false (by omega))) (fun hb => ?_) (fun hb => go_next ?_))
      · cases hb
      dsimp only
      refine go_app (f := pK) (l := kp wd vs i) (y := (ld ((row wd vs i).take wd), row wd vs i)) rfl (EvN.ev (evn_tup (ea_cons (ev_var rfl) (ea_one (ev_var rfl))) (by show 2 ≤ 100000; decide))) ?_ ?_
      · rw [kp_len]; omega
      · rw [← kp_succ]
        exact go_weak (.same (.same (.same (.no (.no (.no (.no (.no (.no .nil))))))))) (hN _ ⟨by omega, rfl⟩)
    · have ed : i = d := by omega
      subst ed
      have eI : leadI ((row wd vs i).take wd) = -1 := by
        unfold leadI
        rw [if_neg]
        rw [ld_all (fun k hk => ?_)]
        · exact Nat.lt_irrefl _
        · have z := pre.stop k (by omega)
          rw [← z]
          unfold g
          rw [List.getD_eq_getElem?_getD, List.getD_eq_getElem?_getD, List.getElem?_take_of_lt (by omega)]
      rw [eI]
      refine go_seq (go_if (b := true) (et_is (et_B0 (ev_var rfl) ev_c) (decide_eq_true (by decide))) (fun hb => ?_) (fun hb => ?_))
      · -- own, the answer
        refine go_seq (go_asg (P := pI (g (row wd vs i) (wd + i))) (ev_ixL (f := fun i => pI i) (l := row wd vs i) (i := ((wd + i : Nat) : Int)) (ev_var rfl) (ev_is (ev_I0 (ev_var rfl) (ev_var rfl)) (by simp)) (atI_nat (g_lt (by omega)))) ?_)
        dsimp only
        refine go_ret (EvN.ev (evn_lc (out := fout wd vs i) (r := fun i => pI i) (ei_rng1 (j := (i : Int)) (ea_one (ev_var rfl)) (by omega) (by omega)) (fun x => tg_name 5) ?_ ?_ ?_ ?_ ?_)) (RetOk.sub sb (ret _))
        · decide
        · simp; omega
        · rfl
        · simp [fout]
        · intro W2 j x y hj hx hy
          cases (show j = x from hx.symm)
          have hj : j < i := by simpa using hj
          unfold fout at hy
          rw [List.getElem?_map, List.getElem?_range hj] at hy
          cases hy
          refine ev_I (ev_neg (ev_ixL (f := fun i => pI i) (l := row wd vs i) (i := ((wd + j : Nat) : Int)) (ev_var rfl) (ev_is (ev_I0 (ev_var rfl) (ev_var rfl)) (by simp)) (atI_nat (g_lt (by omega))))) (ev_var rfl) ?_
          rcases pre.own with z | z <;> rw [z] <;> exact ⟨by decide, by decide⟩
      · cases hb
  · rintro Δ ⟨h, rfl⟩
    have := pre.lt
    have h : vs.length ≤ d := by simpa using h
    omega
end
end Lg
namespace Lg
open PySem PySem.Spec PyProof.Rows L2 Ma
open Evl (Ex)
section
variable {W : Wd} {K : PySem.W.Frag} {Γ Γ0 Γ1 Γ2 Γ3 : Cxt} {te ta tb : TE}
theorem ev_isN {v : V} (ha : Ev W ta Γ (pC v) Γ1) (hb : Ev W tb Γ1 (pC .non) Γ2) : Ev W (tOp (fun x y H Q => y = .non ∧ Q (.bl (decide (x = .non))) H) ta tb) Γ (pB (decide (v = .non))) Γ2 := ev_op ha hb fun x y L H e h1 h2 => ⟨_, rfl, fun Q q => ⟨h2, by rw [show x = v from h1]; exact q⟩⟩
theorem ev_notN {v : V} (ha : Ev W ta Γ (pC v) Γ1) (hb : Ev W tb Γ1 (pC .non) Γ2) : Ev W (tOp (fun x y H Q => y = .non ∧ Q (.bl (!decide (x = .non))) H) ta tb) Γ (pB (!decide (v = .non))) Γ2 := ev_op ha hb fun x y L H e h1 h2 => ⟨_, rfl, fun Q q => ⟨h2, by rw [show x = v from h1]; exact q⟩⟩
end
theorem lets_len (b : Book) : (lets b).length = b.2.length := by
  show (b.2.map (·.1)).toArray.size = _
  simp
structure BkB (b : Book) (m : Nat) : Prop where
  small : Small b
  bt : BdR 1000 (tab b)
  bv : ∀ t, t ≤ m → Bd 1000 (Vb b t)
theorem BkB.tok {b : Book} {m : Nat} (h : BkB b m) {t : Nat} (ht : t ≤ m) : TabOk (Vb b t).length (tab b) (Vb b t) := by
  have hs : b.2.length ≤ 8 := h.small
  have hl : (Vb b t).length = b.2.length := V_len (x0_len b) t
  exact ⟨rfl, by rw [hl]; exact tab_sq b, by omega, h.bv t ht, h.bt⟩
def vecs (b : Book) : List (List Int) := (List.range (b.2.length + 1)).map (Vb b)
section
variable {P : Program} {w : World} {K : PySem.W.Frag} {mg : Str → Option Value} {base : Heap}
/-! first_counts -/
def spFirstCounts : Sp := spF (fun (a : Book × Nat) => BkB a.1 a.2 ∧ a.2 ≤ 100) (fun a => [pBook a.1, pI (a.2 : Int)]) (fun a => pLL ((List.range a.2).map (Vb a.1)))
theorem ok_first_counts {f : Addr} {fd : FuncData} (T : Txt mg) (F : Fun K "first_counts" "first_counts" s_first_counts f fd) (D_letters : DefOk P w K mg base "letters" 1 p_letters [] spLetters) (D_tally : DefOk P w K mg base "tally" 1 p_tally [] spTally)
    (D_table : DefOk P w K mg base "table" 2 p_table [] spTable) (D_passed : DefOk P w K mg base "passed" 1 p_passed [] spPassed) : FnOk P w K mg base CX0 3 f fd p_first_counts spFirstCounts := by
  refine fn_pure F sc_first_counts (fun _ => rfl) (fun cdv A outer s H E hr => ?_)
  refine ⟨_, (pss_cons (ps_set (i := 2) sc_first_counts.nd rfl (Or.inl rfl) (pe_call D_table.ok (hr.mono (by decide)) (by rfl) D_table.mg D_table.kp D_table.b D_table.hd pass0 (pa_cons (pv 0) pa_nil)))
      (pss_cons (ps_set (i := 3) sc_first_counts.nd rfl (Or.inl rfl) (pe_call D_tally.ok (hr.mono (by decide)) (by rfl) D_tally.mg D_tally.kp D_tally.b D_tally.hd pass0 (pa_cons (pe_call D_letters.ok (hr.mono (by decide)) (by rfl) D_letters.mg D_letters.kp D_letters.b D_letters.hd pass0 (pa_cons (pv 0) pa_nil)) (pa_cons (pe_ix (show IxR _ (rIxT K) from ix_tup) (pv 0) pe_int (fun _ _ => rfl)) pa_nil))))
      (pss_cons (ps_set (i := 4) sc_first_counts.nd rfl (Or.inl rfl) (pe_lst pa_nil))
      (pss_cons (ps_for PassesOwn.never rfl (pi_range1 (by rfl) T.range (pa_cons (pv 1) pa_nil)) (pg_name (i := 5) sc_first_counts.nd rfl (Or.inl rfl)) (pss_cons (ps_expr (show PE _ _ (tBM K _ _ _ _) from pe_bm PySem.F.plainAttrs_list PySem.F.slot_list_append PySem.F.type_list_append mt_append (pv 4) (pa_cons (pv 3) pa_nil)))
      (pss_one (ps_set (i := 3) sc_first_counts.nd rfl (Or.inl rfl) (pe_call D_passed.ok (hr.mono (by decide)) (by rfl) D_passed.mg D_passed.kp D_passed.b D_passed.hd pass0 (pa_cons (pv 2) (pa_cons (pv 3) pa_nil)))))))
      (pss_one (ps_ret (pv 4))))))), ?_⟩
  rintro ⟨b, m⟩ W Q ⟨pre, hm⟩ ret
  have pre : BkB b m := pre
  have hm : m ≤ 100 := hm
  have hs : b.2.length ≤ 8 := pre.small
  have sm : (lets b).cps.size ≤ 1000 := by
    have := lets_len b
    show (lets b).length ≤ 1000
    omega
  refine go_seq (go_asg (ev_call' b (ea_one (ev_var rfl)) pre.small) ?_)
  dsimp only
  refine go_seq (go_asg (P := pLI (Vb b 0)) (ev_is (ev_call' (lets b, b.1) (ea_cons (ev_call' b (ea_one (ev_var rfl)) pre.small) (ea_one (ev_ixTu (Ps := [pS b.1, pT pRule b.2]) (i := 0) (ev_var rfl) ev_c rfl))) sm) (congrArg pLI (tally_x0 b b.1))) ?_)
  dsimp only
  refine go_seq (go_new (evn_lstOf (f := pLI) (l := []) ea_nil (by decide)) (fun p => ?_))
  dsimp only
  refine go_seq (go_for (ei_rng1 (j := (m : Int)) (ea_one (ev_var rfl)) (by omega) (by omega)) (fun x => tg_name 5)
    (fun i Δ => Δ = [.val (pBook b), .val (pI (m : Int)), .val (pLL (tab b)), .val (pLI (Vb b i)), .own p (oL pLI ((List.range i).map (Vb b))), .no]) rfl ?_ ?_)
  · rintro W1 N i x Δ sb hi ex rfl hN
    cases (show i = x from ex.symm)
    have hi : i < m := by simpa using hi
    refine go_seq (go_app (f := pLI) (l := (List.range i).map (Vb b)) (y := Vb b i) rfl (ev_var rfl) (by simp; omega) ?_)
    dsimp only
    refine go_asg (P := pLI (Vb b (i + 1))) (ev_is (ev_call' (tab b, Vb b i) (ea_cons (ev_var rfl) (ea_one (ev_var rfl))) (pre.tok (by omega))) ?_) ?_
    · show pLI (vm (Vb b i).length (Vb b i) (tab b)) = _
      have hl : (Vb b i).length = b.2.length := V_len (x0_len b) i
      rw [hl]
      rfl
    · have e : (List.range i).map (Vb b) ++ [Vb b i] = (List.range (i + 1)).map (Vb b) := by rw [List.range_succ, List.map_append]; rfl
      rw [e]
      exact go_weak (.same (.same (.same (.same (.same (.no .nil)))))) (hN _ rfl)
  · rintro Δ rfl
    have e : ((m : Int)).toNat = m := by simp
    rw [e]
    refine go_pub (i := 4) rfl ?_
    exact go_ret (ev_var rfl) (ret _)
/-! joint_counts, tie -/
def spJoint : Sp := spF (fun (a : Book × Nat) => BkB a.1 a.2 ∧ a.2 ≤ 100) (fun a => [pBook a.1, pC .non, pI (a.2 : Int)]) (fun a => pLL ((List.range a.2).map (Vb a.1)))
theorem ok_joint_counts {f : Addr} {fd : FuncData} (F : Fun K "joint_counts" "joint_counts" s_joint_counts f fd) (D_first_counts : DefOk P w K mg base "first_counts" 3 p_first_counts [] spFirstCounts) : FnOk P w K mg base CX0 4 f fd p_joint_counts spJoint := by
  refine fn_pure F sc_joint_counts (fun _ => rfl) (fun cdv A outer s H E hr => ?_)
  refine ⟨_, (pss_cons (ps_set (i := 3) sc_joint_counts.nd rfl (Or.inl rfl) (pe_call D_first_counts.ok (hr.mono (by decide)) (by rfl) D_first_counts.mg D_first_counts.kp D_first_counts.b D_first_counts.hd pass0 (pa_cons (pv 0) (pa_cons (pv 2) pa_nil))))
      (pss_cons (ps_if (pt_cmpR op_isN (pv 1) pe_non (nomark _)) (pss_one (ps_ret (pv 3))) pss_nil)
      (pss_one ps_never))), ?_⟩
  rintro ⟨b, m⟩ W Q pre ret
  refine go_seq (go_asg (ev_call' (b, m) (ea_cons (ev_var rfl) (ea_one (ev_var rfl))) pre) ?_)
  dsimp only
  refine go_seq (go_if (b := true) (et_is (et_test (ev_isN (v := .non) (ev_var rfl) ev_c)) (decide_eq_true rfl)) (fun hb => ?_) (fun hb => ?_))
  · exact go_ret (ev_var rfl) (ret _)
  · cases hb
theorem fn_pureD {α : Type} {x qual : Str} {st : Stmt} {f : Addr} {fd : FuncData} {N ps : List Str} {dvs : List V} {kws : List (Str × V)} {k : Nat} {Pre : α → Prop} {As : α → List VP} {R : α → VP} (F : FunD K x qual (defArgs st) (defBody st) (defScope st) dvs kws f fd) (S : FnScope N ps (defScope st)) (hn : ∀ a, (As a).length = ps.length)
    (body : ∀ (cdv : Value) (A : Around) (outer : List Env) (s : Shared) (H : Hp) (E : XK), Room k (A.deeper (envOfC qual (defScope st) s.heap.objs.size f cdv)) →
      ∃ t, PSs (cxOf CX0 P w K mg base N qual (defScope st) f cdv A outer s H E).nox (defBody st) t ∧
        ∀ (a : α) (W : Wd) (Q : VK), Pre a → (∀ Γ, RetOk W Q (R a) Γ) → Go W (t { nx := fun _ H' => Q .non H', rt := Q }) (ctx0 N.length (As a))) : FnOk P w K mg base CX0 (k + 1) f fd ps (spF Pre As R) := by
  refine F.ok S (fun vs H Q E h => ?_) (fun cdv A outer s H vs Q E hr h => ?_)
  · obtain ⟨a, L, _, _, hp, _⟩ := h
    rw [pair_len hp, hn]
  · obtain ⟨a, L, pre, ex, hp, q⟩ := h
    obtain ⟨t, ht, go⟩ := body cdv A outer s H E hr
    refine ⟨t, ht.nox, ?_⟩
    refine go a ⟨fun p => H p = none, L, H, fun _ z => z⟩ Q pre (fun Γ σ v L' H' hs hv => ?_) _ L H (has0 rfl ex hp (fun _ z => z) rfl rfl)
    refine q v L' H' hs.ex ⟨hs.fr.1, fun p o h1 _ h3 => hs.fr.2 p o h1 (fun z => ?_) h3⟩ hv
    have z : H p = none := z
    rw [h3] at z
    cases z
def spBookTie : Sp := spF (fun (a : Book × Nat) => BkB a.1 (a.1.2.length + 1) ∧ FtOk a.1.2.length (vecs a.1) a.2) (fun a => [pBook a.1, pC .non]) (fun a => pLI (fout a.1.2.length (vecs a.1) a.2))
theorem ok_tie {f : Addr} {fd : FuncData} (T : Txt mg) (F : FunD K "tie" "tie" (defArgs s_tie) (defBody s_tie) (defScope s_tie) [.non] [] f fd) (D_letters : DefOk P w K mg base "letters" 1 p_letters [] spLetters) (D_first_tie : DefOk P w K mg base "first_tie" 4 p_first_tie [] spTie)
    (D_joint_counts : DefOk P w K mg base "joint_counts" 4 p_joint_counts [] spJoint) : FnOk P w K mg base CX0 5 f fd p_tie spBookTie := by
  refine fn_pureD F sc_tie (fun _ => rfl) (fun cdv A outer s H E hr => ?_)
  refine ⟨_, (pss_cons (ps_set (i := 2) sc_tie.nd rfl (Or.inl rfl) (pe_callB call_lenS1 (by rfl) T.len (by decide +kernel) (pa_cons (pe_call D_letters.ok (hr.mono (by decide)) (by rfl) D_letters.mg D_letters.kp D_letters.b D_letters.hd pass0 (pa_cons (pv 0) pa_nil)) pa_nil)))
      (pss_cons (ps_if (pt_cmpR op_notN (pv 1) pe_non (nomark _)) pss_never pss_nil)
      (pss_one (ps_ret (pe_call D_first_tie.ok (hr.mono (by decide)) (by rfl) D_first_tie.mg D_first_tie.kp D_first_tie.b D_first_tie.hd pass0 (pa_cons (pe_call D_joint_counts.ok (hr.mono (by decide)) (by rfl) D_joint_counts.mg D_joint_counts.kp D_joint_counts.b D_joint_counts.hd pass0 (pa_cons (pv 0) (pa_cons (pv 1) (pa_cons (pe_op op_add (pv 2) pe_int) pa_nil)))) pa_nil)))))), ?_⟩
  rintro ⟨b, d⟩ W Q ⟨pre, ft⟩ ret
  have pre : BkB b (b.2.length + 1) := pre
  have hs : b.2.length ≤ 8 := pre.small
  refine go_seq (go_asg (P := pI (b.2.length : Int)) (ev_is (ev_lenS (ev_call' b (ea_one (ev_var rfl)) pre.small) (by rw [lets_len]; omega)) (by rw [lets_len])) ?_)
  dsimp only
  refine go_seq (go_if (b := false) (et_is (et_test (ev_notN (v := .non) (ev_var rfl) ev_c)) (by rw [decide_eq_true rfl]; rfl)) (fun hb => ?_) (fun hb => go_next ?_))
  · cases hb
  dsimp only
  refine go_ret (ev_call' (b.2.length, vecs b, d) (ea_one (ev_call' (b, b.2.length + 1) (ea_cons (ev_var rfl) (ea_cons (ev_var rfl) (ea_one (ev_is (ev_I0 (ev_var rfl) ev_c) (by simp))))) ⟨pre, by show b.2.length + 1 ≤ 100; omega⟩)) ft) (ret _)
/-! is_row -/
def spRow : Sp := spF (fun (xs : List Int) => xs.length ≤ 16) (fun xs => [pLI xs]) (fun _ => pB true)
theorem ok_is_row {f : Addr} {fd : FuncData} (T : Txt mg) (F : Fun K "is_row" "is_row" s_is_row f fd) (D_is_whole : DefOk P w K mg base "is_whole" 1 p_is_whole [] spWhole) : FnOk P w K mg base CX0 2 f fd p_is_row spRow := by
  obtain ⟨t3, g_most⟩ := T.most
  refine fn_pure F sc_is_row (fun _ => rfl) (fun cdv A outer s H E hr => ?_)
  refine ⟨_, (pss_cons (ps_if (PW.pt (pw_or (pt_not (pt_val (pe_callB (show CallR _ _ (rIsi K) from call_isi) (by rfl) T.isinstance (by decide +kernel) (pa_cons (pv 0) (pa_cons (pe_bltn (v := .ty "list") (u := .type "list") (by rfl) T.list (by decide +kernel) rfl) pa_nil))))) (pw_or1 (pt_cmpR op_gt (pe_callB (show CallR _ _ (rLen K) from call_len1) (by rfl) T.len (by decide +kernel) (pa_cons (pv 0) pa_nil)) (pe_glob (v := .int 16) rfl g_most ⟨_, rfl⟩) (nomark _))))) (pss_one (ps_ret pe_bl)) pss_nil)
      (pss_cons (ps_for PassesOwn.never rfl (show PI _ _ _ (iList K _) from pi_list (pv 0)) (pg_name (i := 1) sc_is_row.nd rfl (Or.inl rfl)) (pss_one (ps_if (pt_not (pt_val (pe_call D_is_whole.ok (hr.mono (by decide)) (by rfl) D_is_whole.mg D_is_whole.kp D_is_whole.b D_is_whole.hd pass0 (pa_cons (pv 1) pa_nil)))) (pss_one (ps_ret pe_bl)) pss_nil)))
      (pss_one (ps_ret pe_bl)))), ?_⟩
  intro xs W Q hl ret
  have hl : xs.length ≤ 16 := hl
  refine go_seq (go_if (b := false) (et_is (et_or (et_not (et_B (ev_isiL (b := true) (f := fun i => pI i) (l := xs) (ev_var rfl) (kit_ty (by decide +kernel)) ev_c))) fun _ => et_B0 (ev_len (f := fun i => pI i) (l := xs) (ev_var rfl)) ev_c) ?_) (fun hb => ?_) (fun hb => go_next ?_))
  · simp only [Bool.not_true, Bool.false_or, decide_eq_false_iff_not]
    omega
  · cases hb
  dsimp only
  refine go_seq (go_for (ei_list (f := fun i => pI i) (l := xs) (ev_var rfl)) (fun x => tg_name 1) (fun i Δ => Δ = [.val (pLI xs), .no]) rfl ?_ ?_)
  · rintro W1 N i x Δ sb hi hx rfl hN
    refine go_if (b := false) (et_not (b := true) (et_B (ev_call' x (ea_one (ev_var rfl)) trivial))) (fun hb => ?_) (fun hb => go_next ?_)
    · cases hb
    · exact go_weak (.same (.no .nil)) (hN _ rfl)
  · rintro Δ rfl
    dsimp only
    exact go_ret ev_c (ret _)
/-! the lengths -/
def wt (b : Book) (ws : List Int) (t : Nat) : Int := dot ws (Vb b t)
def spWeights : Sp := spF (fun (a : Book × List Int × Nat) => BkB a.1 a.2.2 ∧ a.2.2 ≤ 100 ∧ Bd 1000 a.2.1 ∧ a.2.1.length = a.1.2.length) (fun a => [pBook a.1, pLI a.2.1, pI (a.2.2 : Int)]) (fun a => pLI ((List.range a.2.2).map (wt a.1 a.2.1)))
theorem ok_first_weights {f : Addr} {fd : FuncData} (T : Txt mg) (F : Fun K "first_weights" "first_weights" s_first_weights f fd) (D_first_counts : DefOk P w K mg base "first_counts" 3 p_first_counts [] spFirstCounts) : FnOk P w K mg base CX0 4 f fd p_first_weights spWeights := by
  refine fn_pure F sc_first_weights (fun _ => rfl) (fun cdv A outer s H E hr => ?_)
  refine ⟨_, (pss_cons (ps_set (i := 3) sc_first_weights.nd rfl (Or.inl rfl) (pe_lst pa_nil))
      (pss_cons (ps_for PassesOwn.never rfl (show PI _ _ _ (iList K _) from pi_list (pe_call D_first_counts.ok (hr.mono (by decide)) (by rfl) D_first_counts.mg D_first_counts.kp D_first_counts.b D_first_counts.hd pass0 (pa_cons (pv 0) (pa_cons (pv 2) pa_nil)))) (pg_name (i := 4) sc_first_weights.nd rfl (Or.inl rfl)) (pss_one (ps_expr (show PE _ _ (tBM K _ _ _ _) from pe_bm PySem.F.plainAttrs_list PySem.F.slot_list_append PySem.F.type_list_append mt_append (pv 3) (pa_cons (pe_callB (show CallR _ _ (rSum K) from cr_sum rfl) (by rfl) T.sum (by decide +kernel) (pa_cons (pe_lc (own := [("weight", 5), ("count", 6)]) (tt := tYes) rfl sc_first_weights.nd (show PI _ _ _ (iZip K _) from pi_zip (by rfl) T.zip (pa_cons (pv 1) (pa_cons (pv 4) pa_nil))) (blkOk_by (N := N_first_weights) (sc := defScope s_first_weights) (by decide +kernel)) (fun _ _ _ _ _ => (show PG _ _ (gTup K 2 _) from pg_tup rfl (pgs_cons (pg_name (i := 5) sc_first_weights.nd rfl (Or.inl rfl)) (pgs_cons (pg_name (i := 6) sc_first_weights.nd rfl (Or.inl rfl)) pgs_nil)))) (fun _ _ _ _ _ => pts_nil) (fun _ _ _ _ _ => (pe_op op_mulW (pv 5) (pv 6)))) pa_nil)) pa_nil)))))
      (pss_one (ps_ret (pv 3))))), ?_⟩
  rintro ⟨b, ws, m⟩ W Q ⟨pre, hm, hw, hwl⟩ ret
  have pre : BkB b m := pre
  have hm : m ≤ 100 := hm
  have hw : Bd 1000 ws := hw
  have hwl : ws.length = b.2.length := hwl
  have hs : b.2.length ≤ 8 := pre.small
  refine go_seq (go_new (evn_lstOf (f := fun i => pI i) (l := ([] : List Int)) ea_nil (by decide)) (fun p => ?_))
  dsimp only
  refine go_seq (go_for (ei_list (f := pLI) (l := (List.range m).map (Vb b)) (ev_call' (b, m) (ea_cons (ev_var rfl) (ea_one (ev_var rfl))) ⟨pre, hm⟩)) (fun x => tg_name 4)
    (fun i Δ => Δ = [.val (pBook b), .val (pLI ws), .val (pI (m : Int)), .own p (oLI ((List.range i).map (wt b ws))), .no, .no, .no]) rfl ?_ ?_)
  · rintro W1 N i x Δ sb hi hx rfl hN
    have hi : i < m := by simpa using hi
    rw [List.getElem?_map, List.getElem?_range hi] at hx
    cases hx
    have hl : (Vb b i).length = b.2.length := V_len (x0_len b) i
    refine go_app (f := fun i => pI i) (l := (List.range i).map (wt b ws)) (y := wt b ws i) rfl (ev_sum (ns := List.zipWith (· * ·) ws (Vb b i)) (EvN.ev (evn_lc (out := List.zipWith (· * ·) ws (Vb b i)) (r := fun i => pI i)
      (ei_zip (f := fun i => pI i) (g := fun i => pI i) (l := ws) (m := Vb b i) (n := ws.length) (ea_cons (ev_var rfl) (ea_one (ev_var rfl))) (by rw [hl, hwl, Nat.min_self])) (fun x => tg_pair 5 6) ?_ ?_ ?_ ?_ ?_))) (by simp; omega) ?_
    · decide
    · omega
    · rfl
    · rw [List.length_zipWith, hl, hwl, Nat.min_self]
    · rintro W2 j ⟨u, v⟩ y hj ⟨hu, hv⟩ hy
      have hu : ws[j]? = some u := hu
      have hv : (Vb b i)[j]? = some v := hv
      rw [List.getElem?_zipWith, hu, hv] at hy
      cases hy
      exact ev_I (ev_var rfl) (ev_var rfl) (wide_mul (hw _ (List.mem_of_getElem? hu)) (pre.bv i (by omega) _ (List.mem_of_getElem? hv)) (by decide) (by decide) (by decide))
    · have e : (List.range i).map (wt b ws) ++ [wt b ws i] = (List.range (i + 1)).map (wt b ws) := by rw [List.range_succ, List.map_append]; rfl
      rw [e]
      exact go_weak (.same (.same (.same (.same (.no (.same (.same .nil))))))) (hN _ rfl)
  · rintro Δ rfl
    have e : ((List.range m).map (Vb b)).length = m := by simp
    rw [e]
    refine go_pub (i := 3) rfl ?_
    exact go_ret (ev_var rfl) (ret _)
def wins (b : Book) (ws : List Int) : List (List Int) := (List.range (b.2.length + 1)).map fun t => (List.range b.2.length).map fun j => wt b ws (t + j)
theorem cut_win {s : Nat → Int} {n t : Nat} (ht : t ≤ n) : cutL ((List.range (2 * n)).map s) (some (t : Int)) (some ((t + n : Nat) : Int)) = (List.range n).map fun j => s (t + j) := by
  unfold cutL
  rw [HT.sIx_nat, HT.sIx_nat]
  simp only [List.length_map, List.length_range]
  rw [show min t (2 * n) = t by omega, show min (t + n) (2 * n) = t + n by omega, show t + n - t = n by omega]
  apply List.ext_getElem?
  intro j
  by_cases hj : j < n
  · rw [List.getElem?_take_of_lt hj, List.getElem?_drop, List.getElem?_map, List.getElem?_map, List.getElem?_range (by omega), List.getElem?_range hj]
    rfl
  · rw [List.getElem?_eq_none (by simp; omega), List.getElem?_eq_none (by simp; omega)]
def spWeightTie : Sp := spF (fun (a : Book × List Int × Nat) => BkB a.1 (2 * a.1.2.length) ∧ Bd 1000 a.2.1 ∧ a.2.1.length = a.1.2.length ∧ FtOk a.1.2.length (wins a.1 a.2.1) a.2.2) (fun a => [pBook a.1, pLI a.2.1]) (fun a => pLI (fout a.1.2.length (wins a.1 a.2.1) a.2.2))
theorem ok_weight_tie {f : Addr} {fd : FuncData} (T : Txt mg) (F : Fun K "weight_tie" "weight_tie" s_weight_tie f fd) (D_letters : DefOk P w K mg base "letters" 1 p_letters [] spLetters) (D_first_tie : DefOk P w K mg base "first_tie" 4 p_first_tie [] spTie)
    (D_first_weights : DefOk P w K mg base "first_weights" 4 p_first_weights [] spWeights) : FnOk P w K mg base CX0 5 f fd p_weight_tie spWeightTie := by
  refine fn_pure F sc_weight_tie (fun _ => rfl) (fun cdv A outer s H E hr => ?_)
  refine ⟨_, (pss_cons (ps_set (i := 2) sc_weight_tie.nd rfl (Or.inr rfl) (pe_callB call_lenS1 (by rfl) T.len (by decide +kernel) (pa_cons (pe_call D_letters.ok (hr.mono (by decide)) (by rfl) D_letters.mg D_letters.kp D_letters.b D_letters.hd pass0 (pa_cons (pv 0) pa_nil)) pa_nil)))
      (pss_cons (ps_set (i := 3) sc_weight_tie.nd rfl (Or.inr rfl) (pe_call D_first_weights.ok (hr.mono (by decide)) (by rfl) D_first_weights.mg D_first_weights.kp D_first_weights.b D_first_weights.hd pass0 (pa_cons (pv 0) (pa_cons (pv 1) (pa_cons (pe_op op_mulW pe_int (pv 2)) pa_nil)))))
      (pss_one (ps_ret (pe_call D_first_tie.ok (hr.mono (by decide)) (by rfl) D_first_tie.mg D_first_tie.kp D_first_tie.b D_first_tie.hd pass0 (pa_cons (pe_lc (own := [("at", 4)]) (tt := tYes) rfl sc_weight_tie.nd (pi_range1 (by rfl) T.range (pa_cons (pe_op op_add (pv 2) pe_int) pa_nil)) (blkOk_by (N := N_weight_tie) (sc := defScope s_weight_tie) (by decide +kernel)) (fun _ _ _ _ _ => (pg_name (i := 4) sc_weight_tie.nd rfl (Or.inl rfl))) (fun _ _ _ _ _ => pts_nil) (fun _ _ _ _ _ => (pe_slice (show SlR _ (rSlL K) from sl_list) (pv 3) (po_some (pv 4)) (po_some (pe_op op_add (pv 4) (pv 2)))))) pa_nil)))))), ?_⟩
  rintro ⟨b, ws, d⟩ W Q ⟨pre, hw, hwl, ft⟩ ret
  have pre : BkB b (2 * b.2.length) := pre
  have hs : b.2.length ≤ 8 := pre.small
  refine go_seq (go_asg (P := pI (b.2.length : Int)) (ev_is (ev_lenS (ev_call' b (ea_one (ev_var rfl)) pre.small) (by rw [lets_len]; omega)) (by rw [lets_len])) ?_)
  dsimp only
  refine go_seq (go_asg (P := pLI ((List.range (2 * b.2.length)).map (wt b ws))) (ev_call' (b, ws, 2 * b.2.length) (ea_cons (ev_var rfl) (ea_cons (ev_var rfl) (ea_one (ev_is (ev_I (i := 2) ev_c (ev_var rfl) (wide_mul (a := 4) (b := 10) (by decide) (by omega) (by decide) (by decide) (by decide))) (by simp))))) ⟨pre, by show 2 * b.2.length ≤ 100; omega, hw, hwl⟩) ?_)
  dsimp only
  refine go_ret (ev_call' (b.2.length, wins b ws, d) (ea_one (EvN.ev (evn_lc (out := wins b ws) (r := pLI) (ei_rng1 (j := ((b.2.length + 1 : Nat) : Int)) (ea_one (ev_is (ev_I0 (ev_var rfl) ev_c) (by simp))) (by omega) (by omega)) (fun x => tg_name 4) ?_ ?_ ?_ ?_ ?_))) ft) (ret _)
  · decide
  · simp; omega
  · rfl
  · simp [wins]
  · intro W1 i x y hi ex hy
    cases (show i = x from ex.symm)
    have hi : i < b.2.length + 1 := by simpa using hi
    unfold wins at hy
    rw [List.getElem?_map, List.getElem?_range hi] at hy
    cases hy
    exact ev_is (EvN.ev (evn_sl (f := fun i => pI i) (l := (List.range (2 * b.2.length)).map (wt b ws)) (ev_var rfl) (eo_some (i := (i : Int)) (ev_var rfl)) (eo_some (i := ((i + b.2.length : Nat) : Int)) (ev_is (ev_I0 (ev_var rfl) (ev_var rfl)) (by simp)))))
      (congrArg pLI (cut_win (s := wt b ws) (n := b.2.length) (t := i) (by omega)))
def ones (b : Book) : List Int := (List.range b.2.length).map fun _ => 1
def spLengthTie : Sp := spF (fun (a : Book × Nat) => BkB a.1 (2 * a.1.2.length) ∧ FtOk a.1.2.length (wins a.1 (ones a.1)) a.2) (fun a => [pBook a.1]) (fun a => pLI (fout a.1.2.length (wins a.1 (ones a.1)) a.2))
theorem ok_length_tie {f : Addr} {fd : FuncData} (F : Fun K "length_tie" "length_tie" s_length_tie f fd) (D_letters : DefOk P w K mg base "letters" 1 p_letters [] spLetters) (D_weight_tie : DefOk P w K mg base "weight_tie" 5 p_weight_tie [] spWeightTie) : FnOk P w K mg base CX0 6 f fd p_length_tie spLengthTie := by
  refine fn_pure F sc_length_tie (fun _ => rfl) (fun cdv A outer s H E hr => ?_)
  refine ⟨_, (pss_one (ps_ret (pe_call D_weight_tie.ok (hr.mono (by decide)) (by rfl) D_weight_tie.mg D_weight_tie.kp D_weight_tie.b D_weight_tie.hd pass0 (pa_cons (pv 0) (pa_cons (pe_lc (own := [("letter", 1)]) (tt := tYes) rfl sc_length_tie.nd (pi_str (pe_call D_letters.ok (hr.mono (by decide)) (by rfl) D_letters.mg D_letters.kp D_letters.b D_letters.hd pass0 (pa_cons (pv 0) pa_nil))) (blkOk_by (N := N_length_tie) (sc := defScope s_length_tie) (by decide +kernel)) (fun _ _ _ _ _ => (pg_name (i := 1) sc_length_tie.nd rfl (Or.inl rfl))) (fun _ _ _ _ _ => pts_nil) (fun _ _ _ _ _ => pe_int)) pa_nil))))), ?_⟩
  rintro ⟨b, d⟩ W Q ⟨pre, ft⟩ ret
  have pre : BkB b (2 * b.2.length) := pre
  have hs : b.2.length ≤ 8 := pre.small
  have sz : (lets b).cps.size = b.2.length := lets_len b
  have ob : Bd 1000 (ones b) := by
    intro x hx
    obtain ⟨_, _, rfl⟩ := List.mem_map.mp hx
    exact Nat.one_lt_two_pow (by decide)
  refine go_ret (ev_call' (b, ones b, d) (ea_cons (ev_var rfl) (ea_one (EvN.ev (evn_lc (out := ones b) (r := fun i => pI i) (ei_str (ev_call' b (ea_one (ev_var rfl)) pre.small)) (fun x => tg_name 1) ?_ ?_ ?_ ?_ ?_)))) ⟨pre, ob, by simp [ones], ft⟩) (ret _)
  · decide
  · omega
  · rfl
  · rw [sz]; simp [ones]
  · intro W1 i x y hi ex hy
    unfold ones at hy
    rw [List.getElem?_map, List.getElem?_range (by omega)] at hy
    cases hy
    exact ev_c
end
end Lg
namespace Lg
open PySem PySem.Spec PyProof.Rows L2 Ma
open Evl (Ex)
theorem cutL_dropLast {α : Type} (xs : List α) (h : xs ≠ []) : cutL xs none (some (-1)) = xs.dropLast := by
  have hl : 0 < xs.length := List.length_pos_iff.mpr h
  unfold cutL
  rw [HT.sIx_none]
  have e : HT.sIx xs.length xs.length (some (-1)) = xs.length - 1 := by
    show (if (-1 : Int) < 0 then ((-1 : Int) + (xs.length : Int)).toNat else min (-1 : Int).toNat xs.length) = _
    rw [if_pos (by decide)]
    omega
  rw [e, List.dropLast_eq_take]
  rfl
theorem atI_lastD {xs : List Int} (h : xs ≠ []) : atI xs (-1) = some (xs.getLastD 0) := by
  have e : xs = xs.dropLast ++ [xs.getLast h] := (List.dropLast_concat_getLast h).symm
  have e2 : xs.getLastD 0 = xs.getLast h := by
    rw [List.getLastD_eq_getLast?, List.getLast?_eq_some_getLast h]
    rfl
  rw [e2]
  have z := atI_last xs.dropLast (xs.getLast h)
  rw [← e] at z
  exact z
section
variable {P : Program} {w : World} {K : PySem.W.Frag} {mg : Str → Option Value} {base : Heap}
/-! stepped -/
structure StOk (c p : List Int) (N : Int) : Prop where
  ne : c ≠ []
  small : c.length ≤ 100
  len : p.length = c.length
  bc : Bd 9000 c
  bp : Bd 1000 p
  n0 : 0 < N
  n1 : N < 10 ^ 30
theorem StOk.pne {c p : List Int} {N : Int} (h : StOk c p N) : p ≠ [] := fun z => h.ne (List.length_eq_zero_iff.mp (by rw [← h.len, z]; rfl))
theorem bd_last {b : Nat} {p : List Int} (h : Bd b p) : (p.getLastD 0).natAbs < 2 ^ b := by
  cases e : p.getLast? with
  | none =>
    rw [List.getLastD_eq_getLast?, e]
    exact Nat.two_pow_pos _
  | some x =>
    rw [List.getLastD_eq_getLast?, e]
    exact h x (List.mem_of_getLast? e)
def spStep : Sp := spF (fun (a : List Int × List Int × Int) => StOk a.1 a.2.1 a.2.2) (fun a => [pLI a.1, pLI a.2.1, pI a.2.2]) (fun a => pLI (stp a.2.2 a.1 a.2.1))
theorem ok_stepped {f : Addr} {fd : FuncData} (T : Txt mg) (F : Fun K "stepped" "stepped" s_stepped f fd) : FnOk P w K mg base CX0 1 f fd p_stepped spStep := by
  refine fn_pure F sc_stepped (fun _ => rfl) (fun cdv A outer s H E hr => ?_)
  refine ⟨_, (pss_cons (ps_set (i := 3) sc_stepped.nd rfl (Or.inr rfl) (pe_ix (show IxR _ (rIxL K) from ix_list) (pv 1) (pe_un un_neg pe_int) (fun _ _ => rfl)))
      (pss_cons (ps_set (i := 4) sc_stepped.nd rfl (Or.inl rfl) (pe_op op_cat (pe_lst (pa_cons pe_int pa_nil)) (pe_slice (show SlR _ (rSlL K) from sl_list) (pv 1) po_none (po_some (pe_un un_neg pe_int)))))
      (pss_one (ps_ret (pe_lc (own := [("a", 5), ("b", 6)]) (tt := tYes) rfl sc_stepped.nd (show PI _ _ _ (iZip K _) from pi_zip (by rfl) T.zip (pa_cons (pv 4) (pa_cons (pv 0) pa_nil))) (blkOk_by (N := N_stepped) (sc := defScope s_stepped) (by decide +kernel)) (fun _ _ _ _ _ => (show PG _ _ (gTup K 2 _) from pg_tup rfl (pgs_cons (pg_name (i := 5) sc_stepped.nd rfl (Or.inl rfl)) (pgs_cons (pg_name (i := 6) sc_stepped.nd rfl (Or.inl rfl)) pgs_nil)))) (fun _ _ _ _ _ => pts_nil) (fun _ _ _ _ _ => (pe_op op_mod (pe_op op_add (pv 5) (pe_op op_mulW (pv 3) (pv 6))) (pv 2)))))))), ?_⟩
  rintro ⟨c, p, N⟩ W Q pre ret
  have pre : StOk c p N := pre
  have hp := pre.pne
  have hl := pre.len
  have hs := pre.small
  have hcpos : 0 < c.length := List.length_pos_iff.mpr pre.ne
  refine go_seq (go_asg (P := pI (p.getLastD 0)) (ev_ixL (f := fun i => pI i) (l := p) (i := -1) (ev_var rfl) (ev_neg ev_c) (atI_lastD hp)) ?_)
  dsimp only
  refine go_seq (go_asg (P := pLI (0 :: p.dropLast)) (EvN.ev (evn_cat (f := fun i => pI i) (l := [0]) (m := p.dropLast) (EvN.ev (evn_lstOf (f := fun i => pI i) (l := [(0 : Int)]) (ea_one ev_c) (by decide)))
    (ev_is (EvN.ev (evn_sl (f := fun i => pI i) (l := p) (ev_var rfl) eo_none (eo_some (i := -1) (ev_neg ev_c)))) (by rw [cutL_dropLast p hp])) ?_)) ?_)
  · simp; omega
  dsimp only
  refine go_ret (EvN.ev (evn_lc (out := stp N c p) (r := fun i => pI i) (ei_zip (f := fun i => pI i) (g := fun i => pI i) (l := 0 :: p.dropLast) (m := c) (n := c.length) (ea_cons (ev_var rfl) (ea_one (ev_var rfl))) ?_) (fun x => tg_pair 5 6) ?_ ?_ ?_ ?_ ?_)) (ret _)
  · simp; omega
  · decide
  · omega
  · rfl
  · exact stp_len hl hp
  · rintro W1 i ⟨u, v⟩ y hi ⟨hu, hv⟩ hy
    have hu : (0 :: p.dropLast)[i]? = some u := hu
    have hv : c[i]? = some v := hv
    unfold stp at hy
    rw [List.getElem?_zipWith, hu, hv] at hy
    cases hy
    exact ev_I (ev_I0 (ev_var rfl) (ev_I (ev_var rfl) (ev_var rfl) (wide_mul (bd_last pre.bp) (pre.bc _ (List.mem_of_getElem? hv)) (by decide) (by decide) (by decide)))) (ev_var rfl) pre.n0
/-! joined -/
def spJoin : Sp := spF (fun (a : List Int × List Int × Int) => StOk a.1 a.2.1 a.2.2) (fun a => [pLI a.1, pLI a.2.1, pI a.2.2]) (fun a => pLI (jnd a.2.2 a.1 a.2.1))
theorem ok_joined {f : Addr} {fd : FuncData} (T : Txt mg) (F : Fun K "joined" "joined" s_joined f fd) (D_stepped : DefOk P w K mg base "stepped" 1 p_stepped [] spStep) : FnOk P w K mg base CX0 2 f fd p_joined spJoin := by
  refine fn_pure F sc_joined (fun _ => rfl) (fun cdv A outer s H E hr => ?_)
  refine ⟨_, (pss_cons (ps_set (i := 3) sc_joined.nd rfl (Or.inl rfl) (pe_callB (show CallR _ _ (rLen K) from call_len1) (by rfl) T.len (by decide +kernel) (pa_cons (pv 0) pa_nil)))
      (pss_cons (ps_setLc (i := 4) (own := [("k", 5)]) (tt := tYes) rfl sc_joined.nd rfl rfl (sw_true rfl rfl rfl (by decide +kernel)) (pi_range1 (by rfl) T.range (pa_cons (pv 3) pa_nil)) (blkOk_by (N := N_joined) (sc := defScope s_joined) (by decide +kernel)) (fun _ _ _ _ _ => (pg_name (i := 5) sc_joined.nd rfl (Or.inl rfl))) (fun _ _ _ _ _ => pts_nil) (fun _ _ _ _ _ => pe_int))
      (pss_cons (ps_for PassesOwn.never rfl (show PI _ _ _ (iRev K _) from pi_reversed (by rfl) T.reversed (pa_cons (pv 1) pa_nil)) (pg_name (i := 6) sc_joined.nd rfl (Or.inr rfl)) (pss_cons (ps_set (i := 4) sc_joined.nd rfl (Or.inl rfl) (pe_call D_stepped.ok (hr.mono (by decide)) (by rfl) D_stepped.mg D_stepped.kp D_stepped.b D_stepped.hd pass0 (pa_cons (pv 0) (pa_cons (pv 4) (pa_cons (pv 2) pa_nil)))))
      (pss_one (ps_setLc (i := 4) (own := [("a", 7), ("b", 8)]) (tt := tYes) rfl sc_joined.nd rfl rfl (sw_true rfl rfl rfl (by decide +kernel)) (show PI _ _ _ (iZip K _) from pi_zip (by rfl) T.zip (pa_cons (pv 4) (pa_cons (pv 1) pa_nil))) (blkOk_by (N := N_joined) (sc := defScope s_joined) (by decide +kernel)) (fun _ _ _ _ _ => (show PG _ _ (gTup K 2 _) from pg_tup rfl (pgs_cons (pg_name (i := 7) sc_joined.nd rfl (Or.inl rfl)) (pgs_cons (pg_name (i := 8) sc_joined.nd rfl (Or.inl rfl)) pgs_nil)))) (fun _ _ _ _ _ => pts_nil) (fun _ _ _ _ _ => (pe_op op_mod (pe_op op_add (pv 7) (pe_op op_mulW (pv 6) (pv 8))) (pv 2)))))))
      (pss_one (ps_ret (pv 4)))))), ?_⟩
  rintro ⟨c, p, N⟩ W Q pre ret
  have pre : StOk c p N := pre
  have hl := pre.len
  have hs := pre.small
  refine go_seq (go_asg (P := pI (c.length : Int)) (ev_len (f := fun i => pI i) (l := c) (ev_var rfl)) ?_)
  dsimp only
  refine go_seq (go_asg (P := pLI (List.replicate c.length 0)) (EvN.ev (evn_lc (out := List.replicate c.length (0 : Int)) (r := fun i => pI i) (ei_rng1 (j := (c.length : Int)) (ea_one (ev_var rfl)) (by omega) (by omega)) (fun x => tg_name 5) ?_ ?_ ?_ ?_ ?_)) ?_)
  · decide
  · simp; omega
  · rfl
  · simp
  · intro W1 i x y hi hx hy
    have := (List.mem_replicate.mp (List.mem_of_getElem? hy)).2
    subst this
    exact ev_c
  dsimp only
  refine go_seq (go_for (ei_rev (f := fun i => pI i) (l := p) (ea_one (ev_var rfl))) (fun x => tg_name 6)
    (fun i Δ => Δ = [.val (pLI c), .val (pLI p), .val (pI N), .val (pI (c.length : Int)), .val (pLI ((p.reverse.take i).foldl (jst N c p) (List.replicate c.length 0))), .no, .no, .no, .no]) rfl ?_ ?_)
  · rintro W1 N2 i x Δ sb hi hx rfl hN
    have hN := hN _ rfl
    rw [foldl_take _ _ hx] at hN
    obtain ⟨fl, fb⟩ := jnd_take pre.n0 pre.n1 hl pre.ne i
    generalize (p.reverse.take i).foldl (jst N c p) (List.replicate c.length 0) = cur at *
    have hxp : x ∈ p := List.mem_reverse.mp (List.mem_of_getElem? hx)
    have cne : cur ≠ [] := fun z => pre.ne (List.length_eq_zero_iff.mp (by rw [← fl, z]; rfl))
    refine go_seq (go_asg (ev_call' (c, cur, N) (ea_cons (ev_var rfl) (ea_cons (ev_var rfl) (ea_one (ev_var rfl)))) ⟨pre.ne, hs, fl, pre.bc, fb, pre.n0, pre.n1⟩) ?_)
    dsimp only
    have sl := stp_len (N := N) fl cne
    have sbd : Bd 1000 (stp N c cur) := zipmod_bd pre.n0 pre.n1 _ _
    refine go_asg (P := pLI (jst N c p cur x)) (EvN.ev (evn_lc (out := jst N c p cur x) (r := fun i => pI i) (ei_zip (f := fun i => pI i) (g := fun i => pI i) (l := stp N c cur) (m := p) (n := c.length) (ea_cons (ev_var rfl) (ea_one (ev_var rfl))) ?_) (fun x => tg_pair 7 8) ?_ ?_ ?_ ?_ ?_)) ?_
    · rw [sl, hl, Nat.min_self]
    · decide
    · omega
    · rfl
    · exact jst_len hl fl cne
    · rintro W2 j ⟨u, v⟩ y hj ⟨hu, hv⟩ hy
      have hu : (stp N c cur)[j]? = some u := hu
      have hv : p[j]? = some v := hv
      unfold jst at hy
      rw [List.getElem?_zipWith, hu, hv] at hy
      cases hy
      exact ev_I (ev_I0 (ev_var rfl) (ev_I (ev_var rfl) (ev_var rfl) (wide_mul (pre.bp _ hxp) (pre.bp _ (List.mem_of_getElem? hv)) (by decide) (by decide) (by decide)))) (ev_var rfl) pre.n0
    · exact go_weak (.same (.same (.same (.same (.same (.same (.no (.same (.same .nil))))))))) hN
  · rintro Δ rfl
    dsimp only
    refine go_ret (ev_is (ev_var rfl) ?_) (ret _)
    rw [show p.length = p.reverse.length by simp, List.take_length]
    rfl
/-! bits_of -/
def spBits : Sp := spF (fun (n : Nat) => n < 2 ^ 1000) (fun n => [pI (n : Int)]) (fun n => pLI (bits n))
theorem ok_bits_of {f : Addr} {fd : FuncData} (F : Fun K "bits_of" "bits_of" s_bits_of f fd) : FnOk P w K mg base CX0 1 f fd p_bits_of spBits := by
  refine fn_pure F sc_bits_of (fun _ => rfl) (fun cdv A outer s H E hr => ?_)
  refine ⟨_, (pss_cons (ps_set (i := 1) sc_bits_of.nd rfl (Or.inl rfl) (pe_lst pa_nil))
      (pss_cons (ps_while PassesOwn.never (pt_cmpR op_gt (pv 0) pe_int (nomark _)) (pss_cons (ps_expr (show PE _ _ (tBM K _ _ _ _) from pe_bm PySem.F.plainAttrs_list PySem.F.slot_list_append PySem.F.type_list_append mt_append (pv 1) (pa_cons (pe_op op_mod (pv 0) pe_int) pa_nil)))
      (pss_one (ps_set (i := 0) sc_bits_of.nd rfl (Or.inl rfl) (pe_op op_fdivW (pv 0) pe_int)))))
      (pss_one (ps_ret (pv 1))))), ?_⟩
  rintro n W Q pre ret
  have hb : (bits n).length ≤ 1000 := bits_len 1000 n pre
  refine go_seq (go_new (evn_lstOf (f := fun i => pI i) (l := ([] : List Int)) ea_nil (by decide)) (fun p => ?_))
  dsimp only
  refine go_seq (go_while (I := fun m Δ => ∃ l : List Int, Δ = [.val (pI (m : Int)), .own p (oLI l)] ∧ l ++ bits m = bits n) n ⟨[], rfl, rfl⟩ ?_)
  rintro m Δ ⟨l, rfl, hl⟩
  refine ⟨decide ((0 : Int) < m), _, et_B0 (ev_var rfl) ev_c, fun hb2 N hN => ?_, fun hb2 => ?_⟩
  · have hm : 0 < m := by simpa using hb2
    have ll : l.length ≤ 1000 := by
      have z := congrArg List.length hl
      rw [List.length_append] at z
      omega
    refine go_seq (go_app (f := fun i => pI i) (l := l) (y := (m : Int) % 2) rfl (ev_I (ev_var rfl) ev_c (by show (0 : Int) < 2; decide)) (by omega) ?_)
    dsimp only
    have e2 : ((m : Int) / 2) = ((m / 2 : Nat) : Int) := by omega
    refine go_asg (P := pI ((m / 2 : Nat) : Int)) (ev_is (ev_I (ev_var rfl) ev_c (wide_div (b := 2) (by decide) (by decide) (by decide) (by decide))) (by rw [e2])) ?_
    refine hN (m / 2) _ (by omega) ⟨l ++ [(m : Int) % 2], rfl, ?_⟩
    rw [List.append_assoc, ← hl, bits_pos hm]
    rfl
  · have hm : m = 0 := by
      have : ¬ ((0 : Int) < (m : Int)) := by simpa using hb2
      omega
    subst hm
    rw [bits_zero, List.append_nil] at hl
    rw [hl]
    refine go_pub (i := 1) rfl ?_
    exact go_ret (ev_var rfl) (ret _)
/-! unwound -/
structure UnOk (c s : List Int) (age N : Int) : Prop where
  small : c.length ≤ 16
  len : s.length = c.length
  bc : Bd 9000 c
  bs : Bd 9000 s
  far : Far age N
def spUnw : Sp := spF (fun (a : List Int × List Int × Int × Int) => UnOk a.1 a.2.1 a.2.2.1 a.2.2.2) (fun a => [pLI a.1, pLI a.2.1, pI a.2.2.1, pI a.2.2.2]) (fun a => pI (unw a.2.2.2 a.1 a.2.1 a.2.2.1.toNat))
theorem ok_unwound {f : Addr} {fd : FuncData} (T : Txt mg) (F : Fun K "unwound" "unwound" s_unwound f fd) (D_is_row : DefOk P w K mg base "is_row" 2 p_is_row [] spRow) (D_need_far : DefOk P w K mg base "need_far" 2 p_need_far [] spNeed) (D_bits_of : DefOk P w K mg base "bits_of" 1 p_bits_of [] spBits)
    (D_joined : DefOk P w K mg base "joined" 2 p_joined [] spJoin) (D_stepped : DefOk P w K mg base "stepped" 1 p_stepped [] spStep) : FnOk P w K mg base CX0 3 f fd p_unwound spUnw := by
  refine fn_pure F sc_unwound (fun _ => rfl) (fun cdv A outer s H E hr => ?_)
  refine ⟨_, (pss_cons (ps_if (PW.pt (pw_or (pt_not (pt_val (pe_call D_is_row.ok (hr.mono (by decide)) (by rfl) D_is_row.mg D_is_row.kp D_is_row.b D_is_row.hd pass0 (pa_cons (pv 0) pa_nil)))) (pw_or (pt_not (pt_val (pe_call D_is_row.ok (hr.mono (by decide)) (by rfl) D_is_row.mg D_is_row.kp D_is_row.b D_is_row.hd pass0 (pa_cons (pv 1) pa_nil)))) (pw_or1 (pt_cmpR op_ne (pe_callB (show CallR _ _ (rLen K) from call_len1) (by rfl) T.len (by decide +kernel) (pa_cons (pv 1) pa_nil)) (pe_callB (show CallR _ _ (rLen K) from call_len1) (by rfl) T.len (by decide +kernel) (pa_cons (pv 0) pa_nil)) (nomark _)))))) (pss_one ps_never) pss_nil)
      (pss_cons (ps_expr (pe_call D_need_far.ok (hr.mono (by decide)) (by rfl) D_need_far.mg D_need_far.kp D_need_far.b D_need_far.hd pass0 (pa_cons (pv 2) (pa_cons (pv 3) pa_nil))))
      (pss_cons (ps_if (pt_cmpR op_eq (pe_callB (show CallR _ _ (rLen K) from call_len1) (by rfl) T.len (by decide +kernel) (pa_cons (pv 0) pa_nil)) pe_int (nomark _)) (pss_one (ps_ret pe_int)) pss_nil)
      (pss_cons (ps_setLc (i := 4) (own := [("k", 5)]) (tt := tYes) rfl sc_unwound.nd rfl rfl (sw_true rfl rfl rfl (by decide +kernel)) (pi_range1 (by rfl) T.range (pa_cons (pe_callB (show CallR _ _ (rLen K) from call_len1) (by rfl) T.len (by decide +kernel) (pa_cons (pv 0) pa_nil)) pa_nil)) (blkOk_by (N := N_unwound) (sc := defScope s_unwound) (by decide +kernel)) (fun _ _ _ _ _ => (pg_name (i := 5) sc_unwound.nd rfl (Or.inl rfl))) (fun _ _ _ _ _ => pts_nil) (fun _ _ _ _ _ => (pe_callTy call_int1' (by rfl) T.int (by decide +kernel) (pa_cons (pe_cmpR op_eq (pv 5) pe_int (nomark _)) pa_nil))))
      (pss_cons (ps_for PassesOwn.never rfl (show PI _ _ _ (iRev K _) from pi_reversed (by rfl) T.reversed (pa_cons (pe_call D_bits_of.ok (hr.mono (by decide)) (by rfl) D_bits_of.mg D_bits_of.kp D_bits_of.b D_bits_of.hd pass0 (pa_cons (pv 2) pa_nil)) pa_nil)) (pg_name (i := 6) sc_unwound.nd rfl (Or.inl rfl)) (pss_cons (ps_set (i := 4) sc_unwound.nd rfl (Or.inl rfl) (pe_call D_joined.ok (hr.mono (by decide)) (by rfl) D_joined.mg D_joined.kp D_joined.b D_joined.hd pass0 (pa_cons (pv 0) (pa_cons (pv 4) (pa_cons (pv 3) pa_nil)))))
      (pss_one (ps_if (pt_cmpR op_eq (pv 6) pe_int (nomark _)) (pss_one (ps_set (i := 4) sc_unwound.nd rfl (Or.inl rfl) (pe_call D_stepped.ok (hr.mono (by decide)) (by rfl) D_stepped.mg D_stepped.kp D_stepped.b D_stepped.hd pass0 (pa_cons (pv 0) (pa_cons (pv 4) (pa_cons (pv 3) pa_nil)))))) pss_nil))))
      (pss_one (ps_ret (pe_op op_mod (pe_callB (show CallR _ _ (rSum K) from cr_sum rfl) (by rfl) T.sum (by decide +kernel) (pa_cons (pe_lc (own := [("a", 7), ("b", 8)]) (tt := tYes) rfl sc_unwound.nd (show PI _ _ _ (iZip K _) from pi_zip (by rfl) T.zip (pa_cons (pv 4) (pa_cons (pv 1) pa_nil))) (blkOk_by (N := N_unwound) (sc := defScope s_unwound) (by decide +kernel)) (fun _ _ _ _ _ => (show PG _ _ (gTup K 2 _) from pg_tup rfl (pgs_cons (pg_name (i := 7) sc_unwound.nd rfl (Or.inl rfl)) (pgs_cons (pg_name (i := 8) sc_unwound.nd rfl (Or.inl rfl)) pgs_nil)))) (fun _ _ _ _ _ => pts_nil) (fun _ _ _ _ _ => (pe_op op_mulW (pv 7) (pv 8)))) pa_nil)) (pv 3))))))))), ?_⟩
  rintro ⟨c, st, age, N⟩ W Q pre ret
  have pre : UnOk c st age N := pre
  have hs := pre.small
  have hl := pre.len
  have n0 : 0 < N := by have := pre.far.n0; omega
  have n1 := pre.far.n1
  refine go_seq (go_if (b := false) (et_is (et_or (et_not (et_B (ev_call' c (ea_one (ev_var rfl)) hs))) fun _ => et_or (et_not (et_B (ev_call' st (ea_one (ev_var rfl)) (by show st.length ≤ 16; omega)))) fun _ => et_test (ev_ne (ev_len (f := fun i => pI i) (l := st) (ev_var rfl)) (ev_len (f := fun i => pI i) (l := c) (ev_var rfl)) rfl)) ?_) (fun hb => ?_) (fun hb => go_next ?_))
  · rw [hl]
    simp
  · cases hb
  dsimp only
  refine go_seq (go_drop (ev_call' (age, N) (ea_cons (ev_var rfl) (ea_one (ev_var rfl))) pre.far) ?_)
  dsimp only
  refine go_seq (go_if (et_test (ev_eq (ev_len (f := fun i => pI i) (l := c) (ev_var rfl)) ev_c rfl)) (fun hb => ?_) (fun hb => go_next ?_))
  · have h0 : c.length = 0 := by simpa using hb
    refine go_ret (ev_is ev_c ?_) (ret _)
    show pI 0 = pI (unw N c st age.toNat)
    unfold unw
    rw [if_pos h0]
  dsimp only
  have h0 : c.length ≠ 0 := by simpa using hb
  have cne : c ≠ [] := fun z => h0 (by rw [z]; rfl)
  refine go_seq (go_asg (P := pLI (marks c.length 0)) (EvN.ev (evn_lc (out := marks c.length 0) (r := fun i => pI i) (ei_rng1 (j := (c.length : Int)) (ea_one (ev_len (f := fun i => pI i) (l := c) (ev_var rfl))) (by omega) (by omega)) (fun x => tg_name 5) ?_ ?_ ?_ ?_ ?_)) ?_)
  · decide
  · simp; omega
  · rfl
  · simp [marks]
  · intro W2 j x y hj hx hy
    cases (show j = x from hx.symm)
    have hj : j < c.length := by simpa using hj
    unfold marks at hy
    rw [List.getElem?_map, List.getElem?_range hj] at hy
    cases hy
    refine ev_is (ev_intB (ev_eq (ev_var rfl) ev_c rfl)) ?_
    have e : decide (V.int (j : Int) = V.int 0) = decide (j = 0) := by
      rw [dec_int]
      by_cases z : j = 0
      · subst z; simp
      · have z2 : ¬ (j : Int) = 0 := by omega
        simp [z, z2]
    rw [e]
    simp
  dsimp only
  have e_age : ((age.toNat : Nat) : Int) = age := Int.toNat_of_nonneg pre.far.a0
  have age_lt : age.toNat < 2 ^ 1000 := by
    have h1 := pre.far.a1
    have e : (10 : Int) ^ 60 = 1000000000000000000000000000000000000000000000000000000000000 := by decide
    have : age.toNat < 2 ^ 200 := by
      have e2 : 1000000000000000000000000000000000000000000000000000000000000 < 2 ^ 200 := by decide
      omega
    exact Nat.lt_of_lt_of_le this (Nat.pow_le_pow_right (by decide) (by decide))
  refine go_seq (go_for (ei_rev (f := fun i => pI i) (l := bits age.toNat) (ea_one (ev_call' age.toNat (ea_one (ev_is (ev_var rfl) (by rw [e_age]))) age_lt))) (fun x => tg_name 6)
    (fun i Δ => Δ = [.val (pLI c), .val (pLI st), .val (pI age), .val (pI N), .val (pLI (((bits age.toNat).reverse.take i).foldl (unw1 N c) (marks c.length 0))), .no, .no, .no, .no]) rfl ?_ ?_)
  · rintro W1 N2 i x Δ sb hi hx rfl hN
    have hN := hN _ rfl
    rw [foldl_take _ _ hx] at hN
    obtain ⟨fl, fb⟩ := unw_take n0 n1 cne (bits age.toNat).reverse i
    generalize ((bits age.toNat).reverse.take i).foldl (unw1 N c) (marks c.length 0) = cur at *
    refine go_seq (go_asg (ev_call' (c, cur, N) (ea_cons (ev_var rfl) (ea_cons (ev_var rfl) (ea_one (ev_var rfl)))) ⟨cne, by show c.length ≤ 100; omega, fl, pre.bc, fb, n0, n1⟩) ?_)
    dsimp only
    obtain ⟨jl, jb⟩ := jnd_ok n0 n1 fl cne
    refine go_if (et_test (ev_eq (ev_var rfl) ev_c rfl)) (fun hb => ?_) (fun hb => go_next ?_)
    · have hb : x = 1 := by simpa using hb
      unfold unw1 at hN
      rw [if_pos hb] at hN
      exact go_asg (ev_call' (c, jnd N c cur, N) (ea_cons (ev_var rfl) (ea_cons (ev_var rfl) (ea_one (ev_var rfl)))) ⟨cne, by show c.length ≤ 100; omega, jl, pre.bc, jb, n0, n1⟩) (go_weak (.same (.same (.same (.same (.same (.same (.no (.same (.same .nil))))))))) hN)
    · have hb : ¬ x = 1 := by simpa using hb
      unfold unw1 at hN
      rw [if_neg hb] at hN
      exact go_weak (.same (.same (.same (.same (.same (.same (.no (.same (.same .nil))))))))) hN
  · rintro Δ rfl
    dsimp only
    obtain ⟨fl, fb⟩ := unw_take n0 n1 cne (bits age.toNat).reverse (bits age.toNat).length
    have e : (bits age.toNat).reverse.take (bits age.toNat).length = (bits age.toNat).reverse := by
      rw [show (bits age.toNat).length = (bits age.toNat).reverse.length by simp, List.take_length]
    rw [e] at fl fb ⊢
    have eu : unw N c st age.toNat = dot ((bits age.toNat).reverse.foldl (unw1 N c) (marks c.length 0)) st % N := by
      unfold unw
      rw [if_neg h0]
    have ret : ∀ Γ, RetOk W Q (pI (dot ((bits age.toNat).reverse.foldl (unw1 N c) (marks c.length 0)) st % N)) Γ := fun Γ => by
      have z := ret Γ
      rw [show unw (c, st, age, N).2.2.2 (c, st, age, N).1 (c, st, age, N).2.1 (c, st, age, N).2.2.1.toNat = _ from eu] at z
      exact z
    generalize (bits age.toNat).reverse.foldl (unw1 N c) (marks c.length 0) = cur at *
    refine go_ret (ev_I (ev_sum (ns := List.zipWith (· * ·) cur st) (EvN.ev (evn_lc (out := List.zipWith (· * ·) cur st) (r := fun i => pI i) (ei_zip (f := fun i => pI i) (g := fun i => pI i) (l := cur) (m := st) (n := c.length) (ea_cons (ev_var rfl) (ea_one (ev_var rfl))) ?_) (fun x => tg_pair 7 8) ?_ ?_ ?_ ?_ ?_))) (ev_var rfl) n0) (ret _)
    · rw [fl, hl, Nat.min_self]
    · decide
    · omega
    · rfl
    · rw [List.length_zipWith, fl, hl, Nat.min_self]
    · rintro W2 j ⟨u, v⟩ y hj ⟨hu, hv⟩ hy
      have hu : cur[j]? = some u := hu
      have hv : st[j]? = some v := hv
      rw [List.getElem?_zipWith, hu, hv] at hy
      cases hy
      exact ev_I (ev_var rfl) (ev_var rfl) (wide_mul (fb _ (List.mem_of_getElem? hu)) (pre.bs _ (List.mem_of_getElem? hv)) (by decide) (by decide) (by decide))
end
end Lg
namespace Lg
open PySem PySem.Spec PyProof.Rows L2 Ma
open Evl (Ex)
/-- a pen that has been asked at most c times -/
def PenI (c : Nat) (x : Int × Int × Int) : Prop := 0 ≤ x.1 ∧ 0 ≤ x.2.1 ∧ x.2.1 ≤ c ∧ 0 ≤ x.2.2 ∧ x.2.2 < 2147483647
def oPen (c : Nat) : OP := oX (PenI c) (fun x => oLI [x.1, x.2.1, x.2.2])
theorem pen_mono {c d : Nat} (h : c ≤ d) (o : HO) (L : Hp) (q : (oPen c).is o L) : (oPen d).is o L := by
  obtain ⟨x, ⟨h1, h2, h3, h4, h5⟩, r⟩ := q
  exact ⟨x, ⟨h1, h2, by omega, h4, h5⟩, r⟩
section
variable {P : Program} {w : World} {K : PySem.W.Frag} {mg : Str → Option Value} {base : Heap}
/-! _law_whole, _law_row -/
theorem ok_law_whole {f : Addr} {fd : FuncData} (T : Txt mg) (F : Fun K "_law_whole" "_law_whole" s_law_whole f fd) : FnOk P w K mg base CX0 1 f fd p_law_whole spWhole := by
  refine fn_pure F sc_law_whole (fun _ => rfl) (fun cdv A outer s H E hr => ?_)
  refine ⟨_, (pss_one (ps_ret (pe_and (pe_callB (show CallR _ _ (rIsi K) from call_isi) (by rfl) T.isinstance (by decide +kernel) (pa_cons (pv 0) (pa_cons (pe_bltn (v := .ty "int") (u := .type "int") (by rfl) T.int (by decide +kernel) rfl) pa_nil))) (pe_one (pe_not (pe_callB (show CallR _ _ (rIsi K) from call_isi) (by rfl) T.isinstance (by decide +kernel) (pa_cons (pv 0) (pa_cons (pe_bltn (v := .ty "bool") (u := .type "bool") (by rfl) T.bool (by decide +kernel) rfl) pa_nil)))))))), ?_⟩
  intro i W Q _ ret
  refine go_ret (ev_andV (b := true) (c := true) (ev_isi (ev_var rfl) (fun _ => .base (.int i)) (kit_ty (by decide +kernel)) ev_c) fun _ => ?_) (ret _)
  exact ev_notV (b := false) (ev_isi (ev_var rfl) (fun _ => .base (.int i)) (kit_ty (by decide +kernel)) ev_c)
def spLRow : Sp := spF (fun (_ : List Int) => True) (fun xs => [pLI xs]) (fun _ => pB true)
theorem ok_law_row {f : Addr} {fd : FuncData} (T : Txt mg) (F : Fun K "_law_row" "_law_row" s_law_row f fd) (D_law_whole : DefOk P w K mg base "_law_whole" 1 p_law_whole [] spWhole) : FnOk P w K mg base CX0 2 f fd p_law_row spLRow := by
  refine fn_pure F sc_law_row (fun _ => rfl) (fun cdv A outer s H E hr => ?_)
  refine ⟨_, (pss_cons (ps_if (pt_not (pt_val (pe_callB (show CallR _ _ (rIsi K) from call_isi) (by rfl) T.isinstance (by decide +kernel) (pa_cons (pv 0) (pa_cons (pe_bltn (v := .ty "list") (u := .type "list") (by rfl) T.list (by decide +kernel) rfl) pa_nil))))) (pss_one (ps_ret pe_bl)) pss_nil)
      (pss_cons (ps_for PassesOwn.never rfl (show PI _ _ _ (iList K _) from pi_list (pv 0)) (pg_name (i := 1) sc_law_row.nd rfl (Or.inl rfl)) (pss_one (ps_if (pt_not (pt_val (pe_call D_law_whole.ok (hr.mono (by decide)) (by rfl) D_law_whole.mg D_law_whole.kp D_law_whole.b D_law_whole.hd pass0 (pa_cons (pv 1) pa_nil)))) (pss_one (ps_ret pe_bl)) pss_nil)))
      (pss_one (ps_ret pe_bl)))), ?_⟩
  intro xs W Q hl ret
  refine go_seq (go_if (b := false) (et_not (b := true) (et_B (ev_isiL (b := true) (f := fun i => pI i) (l := xs) (ev_var rfl) (kit_ty (by decide +kernel)) ev_c))) (fun hb => ?_) (fun hb => go_next ?_))
  · cases hb
  dsimp only
  refine go_seq (go_for (ei_list (f := fun i => pI i) (l := xs) (ev_var rfl)) (fun x => tg_name 1) (fun i Δ => Δ = [.val (pLI xs), .no]) rfl ?_ ?_)
  · rintro W1 N i x Δ sb hi hx rfl hN
    refine go_if (b := false) (et_not (b := true) (et_B (ev_call' x (ea_one (ev_var rfl)) trivial))) (fun hb => ?_) (fun hb => go_next ?_)
    · cases hb
    · exact go_weak (.same (.no .nil)) (hN _ rfl)
  · rintro Δ rfl
    dsimp only
    exact go_ret ev_c (ret _)
/-! _law_pen -/
def RetN (W : Wd) (Q : VK) (O : OP) (Γ : Cxt) : Prop := ∀ σ p o L H, Has W Γ σ L H → W.X p → L p = none → H p = some o → O.is o L → Q (.ref p) H
theorem go_retN {W : Wd} {te : TE} {Γ Γ1 : Cxt} {O : OP} {D : Ends} (h : EvN W te Γ O Γ1) (g : RetN W D.rt O Γ1) : Go W (tRet te D) Γ := fun σ L H hs => h σ L H hs _ fun p o L' H' e hx hl ho hO hn h' => g σ p o L' H' h' hx hl ho hO
theorem fn_new {α : Type} {x qual : Str} {st : Stmt} {f : Addr} {fd : FuncData} {N ps : List Str} {k : Nat} {Pre : α → Prop} {As : α → List VP} {O : α → OP} (F : Fun K x qual st f fd) (S : FnScope N ps (defScope st)) (hn : ∀ a, (As a).length = ps.length)
    (body : ∀ (cdv : Value) (A : Around) (outer : List Env) (s : Shared) (H : Hp) (E : XK), Room k (A.deeper (envOfC qual (defScope st) s.heap.objs.size f cdv)) →
      ∃ t, PSs (cxOf CX0 P w K mg base N qual (defScope st) f cdv A outer s H E).nox (defBody st) t ∧
        ∀ (a : α) (W : Wd) (Q : VK), Pre a → (∀ Γ, RetN W Q (O a) Γ) → Go W (t { nx := fun _ H' => Q .non H', rt := Q }) (ctx0 N.length (As a))) : FnOk P w K mg base CX0 (k + 1) f fd ps (spN Pre As O) := by
  refine F.ok S (fun vs H Q E h => ?_) (fun cdv A outer s H vs Q E hr h => ?_)
  · obtain ⟨a, L, _, _, hp, _⟩ := h
    rw [pair_len hp, hn]
  · obtain ⟨a, L, pre, ex, hp, q⟩ := h
    obtain ⟨t, ht, go⟩ := body cdv A outer s H E hr
    refine ⟨t, ht, ?_⟩
    refine go a ⟨fun p => H p = none, L, H, fun _ z => z⟩ Q pre (fun Γ σ p o L' H' hs hx hl ho hO => ?_) _ L H (has0 rfl ex hp (fun _ z => z) rfl rfl)
    refine q p o L' H' hs.ex ⟨hs.fr.1, fun p o h1 _ h3 => hs.fr.2 p o h1 (fun z => ?_) h3⟩ hx hl ho hO
    have z : H p = none := z
    rw [h3] at z
    cases z
def spPen (K : PySem.W.Frag) : Sp := spN (fun (a : List Int × Nat) => a.2 ≤ 1) (fun a => [pQ K (fun i => pI i) a.1, pI (a.2 : Int)]) (fun _ => oPen 0)
theorem ok_law_pen {f : Addr} {fd : FuncData} (T : Txt mg) (F : Fun K "_law_pen" "_law_pen" s_law_pen f fd) : FnOk P w K mg base CX0 1 f fd p_law_pen (spPen K) := by
  refine fn_new F sc_law_pen (fun _ => rfl) (fun cdv A outer s H E hr => ?_)
  refine ⟨_, (pss_cons (ps_set (i := 2) sc_law_pen.nd rfl (Or.inl rfl) (pe_op op_add (pe_op op_mulW pe_int (pv 1)) pe_int))
      (pss_cons (ps_for PassesOwn.never rfl (show PI _ _ _ (iList K _) from pi_list (pe_slice (show SlR _ (rSlL K) from sl_list) (pv 0) po_none (po_some pe_int))) (pg_name (i := 3) sc_law_pen.nd rfl (Or.inl rfl)) (pss_one (ps_set (i := 2) sc_law_pen.nd rfl (Or.inl rfl) (pe_op op_mod (pe_op op_add (pe_op op_mulW (pv 2) pe_int) (pv 3)) pe_int))))
      (pss_cons (ps_if (PW.pt (pw_and (pt_cmpR op_gt (pe_callB (show CallR _ _ (rLen K) from call_len1) (by rfl) T.len (by decide +kernel) (pa_cons (pv 0) pa_nil)) pe_int (nomark _)) (pw_and1 (pt_cmpR op_ge (pe_ix (show IxR _ (rIxL K) from ix_list) (pv 0) (pe_op op_mod (pv 1) (pe_callB (show CallR _ _ (rLen K) from call_len1) (by rfl) T.len (by decide +kernel) (pa_cons (pv 0) pa_nil))) (fun _ _ => rfl)) (pe_op op_pow pe_int pe_int) (nomark _))))) (pss_one (ps_ret (pe_lst (pa_cons (pe_op op_sub (pe_ix (show IxR _ (rIxL K) from ix_list) (pv 0) (pe_op op_mod (pv 1) (pe_callB (show CallR _ _ (rLen K) from call_len1) (by rfl) T.len (by decide +kernel) (pa_cons (pv 0) pa_nil))) (fun _ _ => rfl)) (pe_op op_pow pe_int pe_int)) (pa_cons pe_int (pa_cons (pv 2) pa_nil)))))) pss_nil)
      (pss_one (ps_ret (pe_lst (pa_cons pe_int (pa_cons pe_int (pa_cons (pv 2) pa_nil))))))))), ?_⟩
  rintro ⟨ns, k⟩ W Q hk ret
  have hk : k ≤ 1 := hk
  refine go_seq (go_asg (P := pI (40009 * (k : Int) + 11)) (ev_I0 (ev_I ev_c (ev_var rfl) (wide_mul (a := 20) (b := 2) (by decide) (by show (k : Int).natAbs < 4; omega) (by decide) (by decide) (by decide))) ev_c) ?_)
  dsimp only
  refine go_seq (go_for (ei_list (f := fun i => pI i) (l := cutL ns none (some 63)) (EvN.ev (evn_slQ (ev_var rfl) eo_none (eo_some ev_c)))) (fun x => tg_name 3)
    (fun i Δ => ∃ fo : Int, 0 ≤ fo ∧ fo < 2147483647 ∧ Δ = [.val (pQ K (fun i => pI i) ns), .val (pI (k : Int)), .val (pI fo), .no]) ⟨_, by omega, by omega, rfl⟩ ?_ ?_)
  · rintro W1 N i x Δ sb hi hx ⟨fo, h0, h1, rfl⟩ hN
    refine go_asg (ev_I (ev_I0 (ev_I (ev_var rfl) ev_c (wide_mul (a := 32) (b := 20) (by show fo.natAbs < 4294967296; omega) (by decide) (by decide) (by decide) (by decide))) (ev_var rfl)) ev_c (by show (0 : Int) < 2147483647; decide)) ?_
    exact go_weak (.same (.same (.same (.no .nil)))) (hN _ ⟨_, Int.emod_nonneg _ (by decide), Int.emod_lt_of_pos _ (by decide), rfl⟩)
  · rintro Δ ⟨fo, h0, h1, rfl⟩
    dsimp only
    refine go_seq (go_if (b := decide ((0 : Int) < ns.length) && (if h : 0 < ns.length then decide ((10 : Int) ^ (18 : Int).toNat ≤ g ns (k % ns.length)) else false)) (et_is (et_and (c := if h : 0 < ns.length then decide ((10 : Int) ^ (18 : Int).toNat ≤ g ns (k % ns.length)) else false) (et_B0 (ev_lenQ (ev_var rfl)) ev_c) fun hb => ?_) rfl) (fun hb => ?_) (fun hb => go_next ?_))
    · have hn : 0 < ns.length := by simpa using hb
      rw [dif_pos hn]
      exact et_B0 (ev_ixQ (f := fun i => pI i) (l := ns) (i := ((k % ns.length : Nat) : Int)) (ev_var rfl) (ev_is (ev_I (ev_var rfl) (ev_lenQ (ev_var rfl)) (by show (0 : Int) < ns.length; omega)) (by rw [← Int.natCast_emod])) (atI_nat (g_lt (Nat.mod_lt _ hn)))) (ev_I ev_c ev_c ⟨by decide, by decide, by decide⟩)
    · have hn : 0 < ns.length := by
        apply Classical.byContradiction
        intro z
        rw [dif_neg z] at hb
        simp at hb
      rw [dif_pos hn] at hb
      have hb : (10 : Int) ^ (18 : Int).toNat ≤ g ns (k % ns.length) := by
        have := (Bool.and_eq_true_iff.mp hb).2
        exact of_decide_eq_true this
      refine go_retN (O := oPen 0) (EvN.imp (evn_lstOf (f := fun i => pI i) (l := [g ns (k % ns.length) - (10 : Int) ^ (18 : Int).toNat, 0, fo]) (ea_cons (ev_I0 (ev_ixQ (f := fun i => pI i) (l := ns) (i := ((k % ns.length : Nat) : Int)) (ev_var rfl) (ev_is (ev_I (ev_var rfl) (ev_lenQ (ev_var rfl)) (by show (0 : Int) < ns.length; omega)) (by rw [← Int.natCast_emod])) (atI_nat (g_lt (Nat.mod_lt _ hn)))) (ev_I ev_c ev_c ⟨by decide, by decide, by decide⟩)) (ea_cons ev_c (ea_one (ev_var rfl)))) (by show 3 ≤ 100000; decide)) fun v L h => ⟨(_, _, _), ⟨?_, Int.le_refl _, Int.le_refl _, h0, h1⟩, h⟩) (ret _)
      show 0 ≤ g ns (k % ns.length) - (10 : Int) ^ (18 : Int).toNat
      omega
    · dsimp only
      exact go_retN (O := oPen 0) (EvN.imp (evn_lstOf (f := fun i => pI i) (l := [0, 0, fo]) (ea_cons ev_c (ea_cons ev_c (ea_one (ev_var rfl)))) (by show 3 ≤ 100000; decide)) fun v L h => ⟨(_, _, _), ⟨Int.le_refl _, Int.le_refl _, Int.le_refl _, h0, h1⟩, h⟩) (ret _)
/-! _law_take -/
abbrev pR (n : Int) : VP := pX (fun i : Int => 0 ≤ i ∧ i < n) (fun i => pI i)
def spTake : Sp := spP (fun (a : Int × Nat) => 0 < a.1 ∧ a.1 ≤ 2147483000 ∧ a.2 ≤ 10000) (fun a => oPen a.2) (fun a => [pI a.1]) (fun a => pR a.1) (fun a => oPen (a.2 + 1))
theorem ok_law_take {f : Addr} {fd : FuncData} (F : Fun K "_law_take" "_law_take" s_law_take f fd) : FnOk P w K mg base CX0 1 f fd p_law_take spTake := by
  refine fn_pen F sc_law_take (fun _ => rfl) (fun cdv A outer s H E hr => ?_)
  refine ⟨_, (pss_cons (ps_if (pt_cmpR op_gt (pe_ix (show IxR _ (rIxL K) from ix_list) (pv 0) pe_int (fun _ _ => rfl)) pe_int (nomark _)) (pss_cons (ps_set (i := 2) sc_law_take.nd rfl (Or.inl rfl) (pe_op op_mod (pe_ix (show IxR _ (rIxL K) from ix_list) (pv 0) pe_int (fun _ _ => rfl)) (pv 1)))
      (pss_cons (ps_asg (pe_op op_fdivW (pe_ix (show IxR _ (rIxL K) from ix_list) (pv 0) pe_int (fun _ _ => rfl)) (pv 1)) (pg_sub (pv 0) pe_int set_list))
      (pss_one (ps_ret (pv 2))))) pss_nil)
      (pss_cons (ps_asg (pe_op op_add (pe_ix (show IxR _ (rIxL K) from ix_list) (pv 0) pe_int (fun _ _ => rfl)) pe_int) (pg_sub (pv 0) pe_int set_list))
      (pss_cons (ps_set (i := 3) sc_law_take.nd rfl (Or.inl rfl) (pe_op op_mod (pe_op op_pow (pe_op op_add (pe_ix (show IxR _ (rIxL K) from ix_list) (pv 0) pe_int (fun _ _ => rfl)) (pe_op op_mulW pe_int (pe_ix (show IxR _ (rIxL K) from ix_list) (pv 0) pe_int (fun _ _ => rfl)))) pe_int) pe_int))
      (pss_cons (ps_set (i := 3) sc_law_take.nd rfl (Or.inl rfl) (pe_op op_mod (pe_op op_pow (pe_op op_add (pv 3) (pe_op op_mulW pe_int (pe_ix (show IxR _ (rIxL K) from ix_list) (pv 0) pe_int (fun _ _ => rfl)))) pe_int) pe_int))
      (pss_one (ps_ret (pe_op op_mod (pe_op op_fdivW (pv 3) pe_int) (pv 1)))))))), ?_⟩
  rintro ⟨n, c⟩ p W Q ⟨hn0, hn1, hc⟩ ret
  have hn0 : 0 < n := hn0
  have hn1 : n ≤ 2147483000 := hn1
  have hc : c ≤ 10000 := hc
  refine go_exO (i := 0) (c := PenI c) (F := fun x => oLI [x.1, x.2.1, x.2.2]) rfl ?_
  rintro ⟨a, m, fo⟩ ⟨h1, h2, h3, h4, h5⟩
  have h1 : 0 ≤ a := h1
  have h2 : 0 ≤ m := h2
  have h3 : m ≤ c := h3
  have h4 : 0 ≤ fo := h4
  have h5 : fo < 2147483647 := h5
  have nb : n.natAbs < 2 ^ 32 := by show n.natAbs < 4294967296; omega
  refine go_seq (go_if (et_B0 (ev_ixO (f := fun i => pI i) (l := [a, m, fo]) rfl ev_c (atI_nat (j := 0) rfl)) ev_c) (fun hb => ?_) (fun hb => go_next ?_))
  · refine go_seq (go_asg (ev_I (ev_ixO (f := fun i => pI i) (l := [a, m, fo]) rfl ev_c (atI_nat (j := 0) rfl)) (ev_var rfl) hn0) ?_)
    dsimp only
    refine go_seq (go_set (f := fun i => pI i) (l := [a, m, fo]) (y := a / n) (j := 0) (ev_I (ev_ixO (f := fun i => pI i) (l := [a, m, fo]) rfl ev_c (atI_nat (j := 0) rfl)) (ev_var rfl) (wide_div hn0 nb (by decide) (by decide))) rfl ev_c (by show 0 < 3; decide) ?_)
    dsimp only
    refine go_wkO (i := 0) (O' := oPen (c + 1)) rfl (fun o L h => ⟨(a / n, m, fo), ⟨Int.ediv_nonneg h1 (by omega), h2, by show m ≤ ((c + 1 : Nat) : Int); omega, h4, h5⟩, h⟩) ?_
    exact go_ret (P := pR n) (Ev.imp (ev_var rfl) fun v L h => ⟨a % n, ⟨Int.emod_nonneg _ (by omega), Int.emod_lt_of_pos _ hn0⟩, h⟩) (ret _ rfl)
  dsimp only
  refine go_seq (go_set (f := fun i => pI i) (l := [a, m, fo]) (y := m + 1) (j := 1) (ev_I0 (ev_ixO (f := fun i => pI i) (l := [a, m, fo]) rfl ev_c (atI_nat (j := 1) rfl)) ev_c) rfl ev_c (by show 1 < 3; decide) ?_)
  dsimp only
  have b1 : (fo + 7919 * (m + 1)).natAbs < 2 ^ 64 := by show _ < 18446744073709551616; omega
  have m1 : (m + 1).natAbs < 2 ^ 20 := by show _ < 1048576; omega
  refine go_seq (go_asg (P := pI ((fo + 7919 * (m + 1)) ^ (5 : Int).toNat % 2147483647)) (ev_I (ev_I (ev_I0 (ev_ixO (f := fun i => pI i) (l := [a, m + 1, fo]) rfl ev_c (atI_nat (j := 2) rfl)) (ev_I (i := 7919) ev_c (ev_ixO (f := fun i => pI i) (l := [a, m + 1, fo]) rfl ev_c (atI_nat (j := 1) rfl)) (wide_mul (a := 20) (by decide) m1 (by decide) (by decide) (by decide)))) ev_c ⟨by decide, by decide, b1⟩) ev_c (by show (0 : Int) < 2147483647; decide)) ?_)
  dsimp only
  generalize hy : (fo + 7919 * (m + 1)) ^ (5 : Int).toNat % 2147483647 = y
  have y0 : 0 ≤ y := by rw [← hy]; exact Int.emod_nonneg _ (by decide)
  have y1 : y < 2147483647 := by rw [← hy]; exact Int.emod_lt_of_pos _ (by decide)
  have b2 : (y + 104729 * (m + 1)).natAbs < 2 ^ 64 := by show _ < 18446744073709551616; omega
  refine go_seq (go_asg (P := pI ((y + 104729 * (m + 1)) ^ (5 : Int).toNat % 2147483629)) (ev_I (ev_I (ev_I0 (ev_var rfl) (ev_I (i := 104729) ev_c (ev_ixO (f := fun i => pI i) (l := [a, m + 1, fo]) rfl ev_c (atI_nat (j := 1) rfl)) (wide_mul (a := 20) (by decide) m1 (by decide) (by decide) (by decide)))) ev_c ⟨by decide, by decide, b2⟩) ev_c (by show (0 : Int) < 2147483629; decide)) ?_)
  dsimp only
  generalize (y + 104729 * (m + 1)) ^ (5 : Int).toNat % 2147483629 = z
  refine go_wkO (i := 0) (O' := oPen (c + 1)) rfl (fun o L h => ⟨(a, m + 1, fo), ⟨h1, by show 0 ≤ m + 1; omega, by show m + 1 ≤ ((c + 1 : Nat) : Int); omega, h4, h5⟩, h⟩) ?_
  exact go_ret (P := pR n) (Ev.imp (ev_I (ev_I (ev_var rfl) ev_c (wide_div (b := 4) (by decide) (by decide) (by decide) (by decide))) (ev_var rfl) hn0) fun v L h => ⟨_, ⟨Int.emod_nonneg _ (by omega), Int.emod_lt_of_pos _ hn0⟩, h⟩) (ret _ rfl)
end
end Lg
namespace Lg
open PySem PySem.Spec PyProof.Rows L2 Ma
open Evl (Ex)
abbrev pLs (l : List Nat) : VP := pL (fun c => pS (one c)) l
section
variable {W : Wd} {K : PySem.W.Frag} {Γ Γ0 Γ1 Γ2 Γ3 : Cxt} {α β : Type} {f : α → VP} {l m : List α} {te ta tb tl : TE} {x : α} {P R : VP} {O O' : OP}
theorem ev_ixLX (ha : Ev W ta Γ (pL f l) Γ1) (hb : Ev W tb Γ1 (pR l.length) Γ2) : Ev W (tOp (rIxL K) ta tb) Γ (pX (fun x => x ∈ l) f) Γ2 := ev_op ha hb fun u v L H e h1 h2 => by
  obtain ⟨i, ⟨i0, i1⟩, h2⟩ := h2
  have ht : i.toNat < l.length := by omega
  have hx : atI l i = some l[i.toNat] := by
    have z := atI_nat (List.getElem?_eq_getElem ht)
    rw [show ((i.toNat : Nat) : Int) = i by omega] at z
    exact z
  obtain ⟨a, vs, rfl, hL, hp⟩ := pL_at h1
  obtain ⟨z, h3, h4⟩ := atI_pair hp hx
  exact ⟨z, ⟨_, List.getElem_mem ht, h4⟩, fun Q q => ⟨a, vs, i, z, rfl, h2, SqL.of (e a _ hL), h3, q⟩⟩
theorem ev_joinX {s : Str} {c : List Str → Prop} (ha : Ev W ta Γ (pS s) Γ1) (hb : Ev W tb Γ1 (pX c fun ys => pL (fun s => pS s) ys) Γ2) (hz : ∀ ys, c ys → (ys.map (·.length)).sum + ys.length * s.length ≤ 16777216) :
    Ev W (tM1 (fun x xs H Q => ∃ a p, ∃ ys : List Str, x = .str a ∧ xs = [.ref p] ∧ (SqL K H p (ys.map V.str) ∨ SqT K H p (ys.map V.str)) ∧ (ys.map (·.length)).sum + ys.length * a.length ≤ 16777216 ∧ Q (.str (Txt.join a ys)) H) ta tb) Γ (pX (fun z => ∃ ys, c ys ∧ z = Txt.join s ys) fun z => pS z) Γ2 := fun σ L H hs Q q =>
  ha σ L H hs _ fun v L1 H1 e1 p1 h1 => ⟨⟨s, p1⟩, hb σ L1 H1 h1 _ fun u L2 H2 e2 p2 h2 => by
    obtain ⟨ys, hc, p2⟩ := p2
    obtain ⟨a, vs, rfl, hL, hp⟩ := pL_at p2
    have ev : vs = ys.map V.str := pair_pC (g := V.str) hp
    subst ev
    exact ⟨s, a, ys, p1, rfl, .inl (SqL.of (h2.ex a _ hL)), hz ys hc, q _ L2 H2 (e1.trans e2) ⟨_, ⟨ys, hc, rfl⟩, rfl⟩ h2⟩⟩
theorem ev_addSX {s : Str} {M : Nat} (ha : Ev W ta Γ (pS s) Γ1) (hb : Ev W tb Γ1 (pX (fun t : Str => t.length ≤ M) fun t => pS t) Γ2) (hz : s.length + M ≤ 1000) :
    Ev W (tOp (fun x y H Q => ∃ i j, x = .str i ∧ y = .str j ∧ i.length + j.length ≤ sizeLine ∧ Q (.str (i ++ j)) H) ta tb) Γ (pX (fun t : Str => t.length ≤ s.length + M) fun t => pS t) Γ2 :=
  ev_op ha hb fun x y L H e h1 h2 => by
    obtain ⟨t, ht, h2⟩ := h2
    refine ⟨.str (s ++ t), ⟨s ++ t, ?_, rfl⟩, fun Q q => ⟨s, t, h1, h2, Evl.sz_of (by omega), q⟩⟩
    show (s.cps ++ t.cps).size ≤ _
    rw [Array.size_append]
    show s.length + t.length ≤ _
    omega
/-- what is known of a number in the right place -/
theorem ev_I0X {g : Int → Int → Int} {i : Int} {c d : Int → Prop} (ha : Ev W ta Γ (pI i) Γ1) (hb : Ev W tb Γ1 (pX c fun j => pI j) Γ2) (hd : ∀ j, c j → d (g i j)) : Ev W (tOp (rI0 fun i j => .int (g i j)) ta tb) Γ (pX d fun j => pI j) Γ2 := ev_op ha hb fun x y L H e h1 h2 => by
  obtain ⟨j, hj, h2⟩ := h2
  exact ⟨.int (g i j), ⟨g i j, hd j hj, rfl⟩, fun Q q => ⟨i, j, h1, h2, q⟩⟩
theorem Ev.ctx (h : Ev W te Γ P Γ1) (e : Γ1 = Γ2) : Ev W te Γ P Γ2 := e ▸ h
theorem ev_mono {c d : α → Prop} {F : α → VP} (h : Ev W te Γ (pX c F) Γ1) (i : ∀ a, c a → d a) : Ev W te Γ (pX d F) Γ1 := h.imp fun v L ⟨a, h1, h2⟩ => ⟨a, i a h1, h2⟩
end
theorem cutL_drop {α : Type} (xs : List α) (k : Nat) : cutL xs (some (k : Int)) none = xs.drop k := by
  unfold cutL
  rw [HT.sIx_none, HT.sIx_nat]
  by_cases h : k ≤ xs.length
  · rw [Nat.min_eq_left h, List.take_of_length_le (by simp)]
  · rw [Nat.min_eq_right (by omega)]
    simp
    omega
section
variable {P : Program} {w : World} {K : PySem.W.Frag} {mg : Str → Option Value} {base : Heap}
/-! _law_signs -/
def spSigns : Sp := spP (fun (a : Nat × Nat) => a.1 ≤ 8 ∧ a.2 ≤ 9000) (fun a => oPen a.2) (fun a => [pI (a.1 : Int)]) (fun a => pX (fun l : List Nat => l.length = a.1) fun l => pLs l) (fun a => oPen (a.2 + a.1))
theorem ok_law_signs {f : Addr} {fd : FuncData} (T : Txt mg) (F : Fun K "_law_signs" "_law_signs" s_law_signs f fd) (D_law_take : DefOk P w K mg base "_law_take" 1 p_law_take [] spTake) : FnOk P w K mg base CX0 2 f fd p_law_signs spSigns := by
  refine fn_pen F sc_law_signs (fun _ => rfl) (fun cdv A outer s H E hr => ?_)
  refine ⟨_, (pss_cons (ps_set (i := 2) sc_law_signs.nd rfl (Or.inr rfl) (pe_callTy (call_listS rfl) (by rfl) T.list (by decide +kernel) (pa_cons pe_str pa_nil)))
      (pss_one (ps_ret (pe_lc (own := [("_law_k", 3)]) (tt := tYes) rfl sc_law_signs.nd (pi_range1 (by rfl) T.range (pa_cons (pv 1) pa_nil)) (blkOk_by (N := N_law_signs) (sc := defScope s_law_signs) (by decide +kernel)) (fun _ _ _ _ _ => (pg_name (i := 3) sc_law_signs.nd rfl (Or.inl rfl))) (fun _ _ _ _ _ => pts_nil) (fun _ _ _ _ _ => (show PE _ _ (tBM K _ _ _ _) from pe_bm PySem.F.plainAttrs_list PySem.F.slot_list_pop PySem.F.type_list_pop mt_popAt (pv 2) (pa_cons (pe_call D_law_take.ok (hr.mono (by decide)) (by rfl) D_law_take.mg D_law_take.kp D_law_take.b D_law_take.hd pass0 (pa_cons (pv 0) (pa_cons (pe_callB (show CallR _ _ (rLen K) from call_len1) (by rfl) T.len (by decide +kernel) (pa_cons (pv 2) pa_nil)) pa_nil))) pa_nil))))))), ?_⟩
  rintro ⟨n, c⟩ p W Q ⟨hn, hc⟩ ret
  have hn : n ≤ 8 := hn
  have hc : c ≤ 9000 := hc
  refine go_seq (go_new (evn_listS ev_c ?_) (fun q => ?_))
  · decide +kernel
  dsimp only
  refine go_wkO (i := 2) (O' := oRest 26) rfl (fun o L h => ⟨_, (by decide +kernel), h⟩) ?_
  have en : ((n : Int)).toNat = n := by simp
  refine go_ret (P := pX (fun l : List Nat => l.length = n) fun l => pLs l) (Ev.imp (EvN.ev (evn_lc0 (n := n) (O := oX (fun l : List Nat => l.length = n) fun l => oL (fun c => pS (one c)) l)
    (by have z := ei_rng1 (W := W) (Γ := [.own p (oPen c), .val (pI (n : Int)), .own q (oRest 26), .no]) (j := (n : Int)) (ea_one (ev_var (i := 1) rfl)) (by omega) (by omega); rw [en] at z; exact z)
    (fun x => tg_name 3) ?_ ?_ (fun i => [.own p (oPen (c + i)), .val (pI (n : Int)), .own q (oRest (26 - i)), .no]) rfl ?_ ?_ ?_ (fun _ => rfl)
    (fun i acc L => ∃ cs : List Nat, cs.length = i ∧ Paired (fun v x => (pS (one x)).is v L) acc cs) ?_ ?_ (fun _ => pX (fun _ : Nat => True) fun c => pS (one c)) ?_ ?_ ?_)) oX_vp) (ret _ rfl)
  · decide
  · omega
  · intro i k P z
    rcases k with _ | _ | _ | _ | k
    · cases z
    · exact z
    · cases z
    · cases z
    · cases z
  · intro i k p' O z
    rcases k with _ | _ | _ | _ | k
    · cases z; exact ⟨_, rfl⟩
    · cases z
    · cases z; exact ⟨_, rfl⟩
    · cases z
    · cases z
  · intro k p' O z
    rcases k with _ | _ | _ | _ | k
    · decide
    · decide
    · decide
    · cases z
    · cases z
  · rintro i acc L L' e ⟨cs, h1, h2⟩
    exact ⟨cs, h1, pair_up (f := fun c => pS (one c)) e h2⟩
  · exact fun L => ⟨[], rfl, .nil⟩
  · rintro i acc y L hl ⟨cs, h1, h2⟩ ⟨x, _, hx⟩
    exact ⟨cs ++ [x], by simp [h1], pair_app h2 (.cons hx .nil)⟩
  · intro W1 i x hi ex
    cases (show i = x from ex.symm)
    have e : 26 - (i + 1) = 26 - i - 1 := by omega
    rw [e]
    refine Ev.ctx (ev_pop (n := 26 - i) (p := q) (by omega) rfl (ev_mono (ev_callP (p := p) (O0 := oPen (c + i)) (((26 - i : Nat) : Int), c + i) rfl (ea_one (ev_lenR (n := 26 - i) (p := q) rfl)) rfl ?_) fun j h => h) rfl) rfl
    refine ⟨?_, ?_, ?_⟩
    · show (0 : Int) < ((26 - i : Nat) : Int)
      omega
    · show ((26 - i : Nat) : Int) ≤ 2147483000
      omega
    · show c + i ≤ 10000
      omega
  · rintro acc L hl ⟨cs, h1, h2⟩
    exact ⟨cs, h1, acc, rfl, h2⟩
/-! _law_text -/
def spText : Sp := spP (fun (a : List Nat × Nat × Nat) => a.1.length ≤ 100 ∧ a.2.1 ≤ 100 ∧ a.2.2 ≤ 9000) (fun a => oPen a.2.2) (fun a => [pLs a.1, pX (fun m : Int => 0 ≤ m ∧ m ≤ a.2.1) fun m => pI m]) (fun a => pX (fun s : Str => s.length ≤ a.2.1) fun s => pS s) (fun a => oPen (a.2.2 + a.2.1))
theorem ok_law_text {f : Addr} {fd : FuncData} (T : Txt mg) (F : Fun K "_law_text" "_law_text" s_law_text f fd) (D_law_take : DefOk P w K mg base "_law_take" 1 p_law_take [] spTake) : FnOk P w K mg base CX0 2 f fd p_law_text spText := by
  refine fn_pen F sc_law_text (fun _ => rfl) (fun cdv A outer s H E hr => ?_)
  refine ⟨_, (pss_one (ps_ret (pe_join pe_str (pe_lc (own := [("_law_k", 3)]) (tt := tYes) rfl sc_law_text.nd (pi_range1 (by rfl) T.range (pa_cons (pe_op op_mulW (pv 2) (pe_callTy call_int1' (by rfl) T.int (by decide +kernel) (pa_cons (pe_cmpR op_gt (pe_callB (show CallR _ _ (rLen K) from call_len1) (by rfl) T.len (by decide +kernel) (pa_cons (pv 1) pa_nil)) pe_int (nomark _)) pa_nil))) pa_nil)) (blkOk_by (N := N_law_text) (sc := defScope s_law_text) (by decide +kernel)) (fun _ _ _ _ _ => (pg_name (i := 3) sc_law_text.nd rfl (Or.inl rfl))) (fun _ _ _ _ _ => pts_nil) (fun _ _ _ _ _ => (pe_ix (show IxR _ (rIxL K) from ix_list) (pv 1) (pe_call D_law_take.ok (hr.mono (by decide)) (by rfl) D_law_take.mg D_law_take.kp D_law_take.b D_law_take.hd pass0 (pa_cons (pv 0) (pa_cons (pe_callB (show CallR _ _ (rLen K) from call_len1) (by rfl) T.len (by decide +kernel) (pa_cons (pv 1) pa_nil)) pa_nil))) (fun _ _ => rfl))))))), ?_⟩
  rintro ⟨l, M, c⟩ p W Q ⟨hl, hM, hc⟩ ret
  have hl : l.length ≤ 100 := hl
  have hM : M ≤ 100 := hM
  have hc : c ≤ 9000 := hc
  refine go_ex (i := 2) rfl ?_
  rintro m ⟨m0, m1⟩
  have m1 : m ≤ M := m1
  have e0 : (Str.ofString "" : Str) = ⟨#[]⟩ := by decide +kernel
  have hj : ∃ j : Int, 0 ≤ j ∧ j ≤ M ∧ (0 < j → 0 < l.length) ∧ m * (if decide ((0 : Int) < l.length) = true then 1 else 0) = j := by
    by_cases h : (0 : Int) < l.length
    · exact ⟨m, m0, m1, fun _ => by omega, by rw [decide_eq_true h]; simp⟩
    · exact ⟨0, Int.le_refl _, by omega, fun z => by omega, by rw [decide_eq_false h]; simp⟩
  obtain ⟨j, j0, j1, j2, je⟩ := hj
  have ret2 := RetOk.wkO (W := W) (Q := Q) (P := pX (fun s : Str => s.length ≤ M) fun s => pS s) (Γ := [.own p (oPen (c + j.toNat)), .val (pLs l), .val (pI m), .no]) (i := 0) (p := p) (O := oPen (c + j.toNat)) (O' := oPen (c + M)) rfl (fun o L => pen_mono (by omega) o L) (ret _ rfl)
  refine go_ret (Ev.imp (ev_joinX (s := Str.ofString "") (c := fun ys => ys.length = j.toNat ∧ ∀ s ∈ ys, s.length = 1) ev_c (Ev.imp (EvN.ev (evn_lc0 (n := j.toNat) (O := oX (fun ys : List Str => ys.length = j.toNat ∧ ∀ s ∈ ys, s.length = 1) fun l => oL (fun s => pS s) l)
    (ei_rng1 (j := j) (ea_one (ev_is (ev_I (ev_var (i := 2) rfl) (ev_intB (ev_B0 (ev_len (f := fun c => pS (one c)) (l := l) (ev_var (i := 1) rfl)) ev_c)) (wide_mul (a := 10) (b := 4) (by show m.natAbs < 1024; omega) (by split <;> decide) (by decide) (by decide) (by decide))) (by rw [je]))) (by omega) (by omega))
    (fun x => tg_name 3) ?_ ?_ (fun i => [.own p (oPen (c + i)), .val (pLs l), .val (pI m), .no]) rfl ?_ ?_ ?_ (fun _ => rfl)
    (fun i acc L => ∃ cs : List Str, cs.length = i ∧ (∀ s ∈ cs, s.length = 1) ∧ Paired (fun v x => (pS x).is v L) acc cs) ?_ ?_ (fun _ => pX (fun s : Str => s.length = 1) fun s => pS s) ?_ ?_ ?_)) oX_vp) ?_) ?_) ret2
  · decide
  · omega
  · intro i k P z
    rcases k with _ | _ | _ | _ | k
    · cases z
    · exact z
    · exact z
    · cases z
    · cases z
  · intro i k p' O z
    rcases k with _ | _ | _ | _ | k
    · cases z; exact ⟨_, rfl⟩
    · cases z
    · cases z
    · cases z
    · cases z
  · intro k p' O z
    rcases k with _ | _ | _ | _ | k
    · decide
    · decide
    · decide
    · cases z
    · cases z
  · rintro i acc L L' e ⟨cs, h1, h3, h2⟩
    exact ⟨cs, h1, h3, pair_up (f := fun s => pS s) e h2⟩
  · exact fun L => ⟨[], rfl, (fun s hs => nomatch hs), Paired.nil⟩
  · rintro i acc y L hl ⟨cs, h1, h3, h2⟩ ⟨x, hx1, hx⟩
    refine ⟨cs ++ [x], by simp [h1], fun s hs => ?_, pair_app h2 (.cons hx .nil)⟩
    rcases List.mem_append.mp hs with z | z
    · exact h3 s z
    · rw [List.mem_singleton.mp z]; exact hx1
  · intro W1 i x hi ex
    have hlp : 0 < l.length := j2 (by omega)
    refine Ev.ctx (Ev.imp (ev_ixLX (f := fun c => pS (one c)) (l := l) (ev_var (i := 1) rfl) (ev_callP (p := p) (O0 := oPen (c + i)) ((l.length : Int), c + i) rfl (ea_one (ev_len (f := fun c => pS (one c)) (l := l) (ev_var rfl))) rfl ?_)) (fun v L ⟨c', _, h⟩ => ⟨one c', rfl, h⟩)) rfl
    refine ⟨?_, ?_, ?_⟩
    · show (0 : Int) < l.length
      omega
    · show (l.length : Int) ≤ 2147483000
      omega
    · show c + i ≤ 10000
      omega
  · rintro acc L hl ⟨cs, h1, h3, h2⟩
    exact ⟨cs, ⟨h1, h3⟩, acc, rfl, h2⟩
  · rintro ys ⟨h1, h2⟩
    have hs : ∀ (ys : List Str), (∀ s ∈ ys, s.length = 1) → (ys.map (·.length)).sum = ys.length := by
      intro ys
      induction ys with
      | nil => intro _; rfl
      | cons a r ih => intro h; rw [List.map_cons, List.sum_cons, List.length_cons, ih fun s hs => h s (List.mem_cons_of_mem _ hs), h a (List.mem_cons_self ..)]; omega
    rw [hs ys h2, e0]
    show ys.length + ys.length * 0 ≤ _
    omega
  · rintro v L ⟨z, ⟨ys, ⟨h1, h2⟩, rfl⟩, h⟩
    refine ⟨_, ?_, h⟩
    show (Txt.join (Str.ofString "") ys).length ≤ M
    rw [e0, join_len h2, h1]
    omega
end
end Lg
namespace Lg
open PySem PySem.Spec PyProof.Rows L2 Ma
open Evl (Ex)
abbrev pW (M : Nat) : VP := pX (fun s : Str => s.length ≤ M) fun s => pS s
theorem tab2 {i : Int} (h0 : 0 ≤ i) (h1 : i < 2) : ∃ y : Int, atI [(7 : Int), 4] i = some y ∧ 0 < y ∧ y ≤ 7 := by
  rcases (by omega : i = 0 ∨ i = 1) with rfl | rfl
  · exact ⟨7, rfl, by decide, by decide⟩
  · exact ⟨4, rfl, by decide, by decide⟩
theorem tab7 {i : Int} (h0 : 0 ≤ i) (h1 : i < 7) : ∃ x y z : Int, atI [(3 : Int), 2, 4, 4, 5, 8, 0] i = some x ∧ atI [(2 : Int), 2, 2, 2, 2, 3, 1] i = some y ∧ atI [(4 : Int), 4, 4, 4, 4, 13, 1] i = some z ∧ 0 < y ∧ y ≤ 3 ∧ y ≤ x + 1 ∧ x ≤ 8 ∧ 0 < z ∧ z ≤ 13 := by
  rcases (by omega : i = 0 ∨ i = 1 ∨ i = 2 ∨ i = 3 ∨ i = 4 ∨ i = 5 ∨ i = 6) with rfl | rfl | rfl | rfl | rfl | rfl | rfl
  all_goals exact ⟨_, _, _, rfl, rfl, rfl, by decide, by decide, by decide, by decide, by decide, by decide⟩
section
variable {P : Program} {w : World} {K : PySem.W.Frag} {mg : Str → Option Value} {base : Heap}
/-! _law_word -/
def spWord : Sp := spP (fun (a : Int × List Nat × Nat × Nat) => 0 ≤ a.1 ∧ a.1 < 7 ∧ a.2.2.1 < a.2.1.length ∧ a.2.1.length ≤ 8 ∧ a.2.2.2 ≤ 8000) (fun a => oPen a.2.2.2) (fun a => [pI a.1, pLs a.2.1, pI (a.2.2.1 : Int)]) (fun _ => pW 6) (fun a => oPen (a.2.2.2 + 20))
theorem ok_law_word {f : Addr} {fd : FuncData} (T : Txt mg) (F : Fun K "_law_word" "_law_word" s_law_word f fd) (D_law_take : DefOk P w K mg base "_law_take" 1 p_law_take [] spTake) (D_law_text : DefOk P w K mg base "_law_text" 2 p_law_text [] spText) : FnOk P w K mg base CX0 3 f fd p_law_word spWord := by
  refine fn_pen F sc_law_word (fun _ => rfl) (fun cdv A outer s H E hr => ?_)
  refine ⟨_, (pss_cons (ps_if (pt_cmpR op_lt (pv 1) pe_int (nomark _)) (pss_one (ps_ret (pe_call D_law_text.ok (hr.mono (by decide)) (by rfl) D_law_text.mg D_law_text.kp D_law_text.b D_law_text.hd pass0 (pa_cons (pv 0) (pa_cons (pv 2) (pa_cons (pe_call D_law_take.ok (hr.mono (by decide)) (by rfl) D_law_take.mg D_law_take.kp D_law_take.b D_law_take.hd pass0 (pa_cons (pv 0) (pa_cons (pe_ix (show IxR _ (rIxL K) from ix_list) (pe_lst (pa_cons pe_int (pa_cons pe_int pa_nil))) (pv 1) (fun _ _ => rfl)) pa_nil))) pa_nil)))))) pss_nil)
      (pss_cons (ps_set (i := 4) sc_law_word.nd rfl (Or.inl rfl) (pe_call D_law_text.ok (hr.mono (by decide)) (by rfl) D_law_text.mg D_law_text.kp D_law_text.b D_law_text.hd pass0 (pa_cons (pv 0) (pa_cons (pe_slice (show SlR _ (rSlL K) from sl_list) (pv 2) (po_some (pe_op op_add (pv 3) pe_int)) po_none) (pa_cons (pe_call D_law_take.ok (hr.mono (by decide)) (by rfl) D_law_take.mg D_law_take.kp D_law_take.b D_law_take.hd pass0 (pa_cons (pv 0) (pa_cons pe_int pa_nil))) pa_nil)))))
      (pss_cons (ps_if (pt_cmpR op_eq (pv 1) pe_int (nomark _)) (pss_one (ps_ret (pe_op op_add_str (pe_op op_add_str (pv 4) (pe_ix (show IxR _ (rIxL K) from ix_list) (pv 2) (pv 3) (fun _ _ => rfl))) (pe_call D_law_text.ok (hr.mono (by decide)) (by rfl) D_law_text.mg D_law_text.kp D_law_text.b D_law_text.hd pass0 (pa_cons (pv 0) (pa_cons (pe_slice (show SlR _ (rSlL K) from sl_list) (pv 2) (po_some (pe_op op_add (pv 3) pe_int)) po_none) (pa_cons (pe_call D_law_take.ok (hr.mono (by decide)) (by rfl) D_law_take.mg D_law_take.kp D_law_take.b D_law_take.hd pass0 (pa_cons (pv 0) (pa_cons pe_int pa_nil))) pa_nil))))))) pss_nil)
      (pss_cons (ps_if (pt_cmpR op_eq (pv 1) pe_int (nomark _)) (pss_one (ps_ret (pv 4))) pss_nil)
      (pss_cons (ps_if (pt_cmpR op_eq (pv 1) pe_int (nomark _)) (pss_one (ps_ret (pe_op op_add_str (pe_ix (show IxR _ (rIxL K) from ix_list) (pv 2) (pe_op op_mod (pe_op op_add (pv 3) pe_int) (pe_callB (show CallR _ _ (rLen K) from call_len1) (by rfl) T.len (by decide +kernel) (pa_cons (pv 2) pa_nil))) (fun _ _ => rfl)) (pe_call D_law_text.ok (hr.mono (by decide)) (by rfl) D_law_text.mg D_law_text.kp D_law_text.b D_law_text.hd pass0 (pa_cons (pv 0) (pa_cons (pe_slice (show SlR _ (rSlL K) from sl_list) (pv 2) (po_some (pe_op op_add (pv 3) pe_int)) po_none) (pa_cons (pe_call D_law_take.ok (hr.mono (by decide)) (by rfl) D_law_take.mg D_law_take.kp D_law_take.b D_law_take.hd pass0 (pa_cons (pv 0) (pa_cons pe_int pa_nil))) pa_nil))))))) pss_nil)
      (pss_one (ps_ret (pe_call D_law_text.ok (hr.mono (by decide)) (by rfl) D_law_text.mg D_law_text.kp D_law_text.b D_law_text.hd pass0 (pa_cons (pv 0) (pa_cons (pv 2) (pa_cons (pe_call D_law_take.ok (hr.mono (by decide)) (by rfl) D_law_take.mg D_law_take.kp D_law_take.b D_law_take.hd pass0 (pa_cons (pv 0) (pa_cons pe_int pa_nil))) pa_nil))))))))))), ?_⟩
  rintro ⟨i, l, a, c⟩ p W Q ⟨i0, i1, ha, hl, hc⟩ ret
  have i0 : 0 ≤ i := i0
  have i1 : i < 7 := i1
  have ha : a < l.length := ha
  have hl : l.length ≤ 8 := hl
  have hc : c ≤ 8000 := hc
  have rk : ∀ (d : Nat) (es : Cxt), d ≤ c + 20 → RetOk W Q (pW 6) (.own p (oPen d) :: es) := fun d es hd =>
    RetOk.wkO (i := 0) (p := p) (O := oPen d) (O' := oPen (c + 20)) rfl (fun o L => pen_mono hd o L) (ret _ rfl)
  refine go_seq (go_if (et_B0 (ev_var rfl) ev_c) (fun hb => ?_) (fun hb => go_next ?_))
  · have hb : i < 2 := of_decide_eq_true hb
    obtain ⟨y, hy, y0, y1⟩ := tab2 i0 hb
    refine go_ret (P := pW 6) (ev_callP (p := p) (O0 := oPen c) (l, 6, c + 1) rfl (ea_cons (ev_var rfl) (ea_one (ev_mono (ev_callP (p := p) (O0 := oPen c) (y, c) rfl (ea_one (ev_ixL (f := fun i => pI i) (l := [(7 : Int), 4]) (i := i) (EvN.ev (evn_lstOf (f := fun i => pI i) (l := [(7 : Int), 4]) (ea_cons ev_c (ea_one ev_c)) (by decide))) (ev_var rfl) hy)) rfl ?_) ?_))) rfl ?_) (rk (c + 1 + 6) _ (by omega))
    · exact ⟨y0, by show y ≤ 2147483000; omega, by show c ≤ 10000; omega⟩
    · intro j hj
      have : j < y := hj.2
      exact ⟨hj.1, by show j ≤ ((6 : Nat) : Int); omega⟩
    · exact ⟨by show l.length ≤ 100; omega, by show 6 ≤ 100; decide, by show c + 1 ≤ 9000; omega⟩
  dsimp only
  -- behind
  refine go_seq (go_asg (P := pW 2) (ev_callP (p := p) (O0 := oPen c) (l.drop (a + 1), 2, c + 1) rfl (ea_cons (ev_is (EvN.ev (evn_sl (f := fun c => pS (one c)) (l := l) (ev_var rfl) (eo_some (i := ((a + 1 : Nat) : Int)) (ev_is (ev_I0 (ev_var rfl) ev_c) (by simp))) eo_none)) (by rw [cutL_drop])) (ea_one (ev_mono (ev_callP (p := p) (O0 := oPen c) (3, c) rfl (ea_one ev_c) rfl ?_) ?_))) rfl ?_) ?_)
  · exact ⟨by show (0 : Int) < 3; decide, by show (3 : Int) ≤ 2147483000; decide, by show c ≤ 10000; omega⟩
  · intro j hj
    have : j < 3 := hj.2
    exact ⟨hj.1, by show j ≤ ((2 : Nat) : Int); omega⟩
  · exact ⟨by show (l.drop (a + 1)).length ≤ 100; rw [List.length_drop]; omega, by show 2 ≤ 100; decide, by show c + 1 ≤ 9000; omega⟩
  dsimp only
  refine go_ex (i := 4) rfl ?_
  intro bh hbh
  have hbh : bh.length ≤ 2 := hbh
  have ev0 := List.getElem?_eq_getElem ha
  refine go_seq (go_if (et_test (ev_eq (ev_var rfl) ev_c rfl)) (fun hb => ?_) (fun hb => go_next ?_))
  · refine go_ret (P := pW 6) (ev_mono (ev_addSX (s := bh ++ one l[a]) (M := 1) (ev_addS (s := bh) (t := one l[a]) (ev_var rfl) (ev_ixL (f := fun c => pS (one c)) (l := l) (i := (a : Int)) (ev_var rfl) (ev_var rfl) (atI_nat ev0)) ?_)
      (ev_callP (p := p) (O0 := oPen (c + 1 + 2)) (l.drop (a + 1), 1, c + 1 + 2 + 1) rfl (ea_cons (ev_is (EvN.ev (evn_sl (f := fun c => pS (one c)) (l := l) (ev_var rfl) (eo_some (i := ((a + 1 : Nat) : Int)) (ev_is (ev_I0 (ev_var rfl) ev_c) (by simp))) eo_none)) (by rw [cutL_drop])) (ea_one (ev_mono (ev_callP (p := p) (O0 := oPen (c + 1 + 2)) (2, c + 1 + 2) rfl (ea_one ev_c) rfl ?_) ?_))) rfl ?_) ?_) ?_) (rk (c + 1 + 2 + 1 + 1) _ (by omega))
    · show bh.length + 1 ≤ 100000
      omega
    · exact ⟨by show (0 : Int) < 2; decide, by show (2 : Int) ≤ 2147483000; decide, by show c + 1 + 2 ≤ 10000; omega⟩
    · intro j hj
      have : j < 2 := hj.2
      exact ⟨hj.1, by show j ≤ ((1 : Nat) : Int); omega⟩
    · exact ⟨by show (l.drop (a + 1)).length ≤ 100; rw [List.length_drop]; omega, by show 1 ≤ 100; decide, by show c + 1 + 2 + 1 ≤ 9000; omega⟩
    · show (bh.cps ++ (one l[a]).cps).size + 1 ≤ 1000
      rw [Array.size_append]
      show bh.length + 1 + 1 ≤ 1000
      omega
    · intro s hs
      have hs : s.length ≤ (bh.cps ++ (one l[a]).cps).size + 1 := hs
      rw [Array.size_append] at hs
      have hs : s.length ≤ bh.length + 1 + 1 := hs
      show s.length ≤ 6
      omega
  dsimp only
  refine go_seq (go_if (et_test (ev_eq (ev_var rfl) ev_c rfl)) (fun hb => ?_) (fun hb => go_next ?_))
  · exact go_ret (P := pW 6) (Ev.imp (ev_var rfl) fun v L h => ⟨bh, (by show bh.length ≤ 6; omega), h⟩) (rk (c + 1 + 2) _ (by omega))
  dsimp only
  refine go_seq (go_if (et_test (ev_eq (ev_var rfl) ev_c rfl)) (fun hb => ?_) (fun hb => go_next ?_))
  · have hm : (a + 1) % l.length < l.length := Nat.mod_lt _ (by omega)
    refine go_ret (P := pW 6) (ev_mono (ev_addSX (s := one l[(a + 1) % l.length]) (M := 1) (ev_ixL (f := fun c => pS (one c)) (l := l) (i := (((a + 1) % l.length : Nat) : Int)) (ev_var rfl) (ev_is (ev_I (ev_I0 (ev_var rfl) ev_c) (ev_len (f := fun c => pS (one c)) (l := l) (ev_var rfl)) (by show (0 : Int) < l.length; omega)) (by rw [Int.natCast_emod]; simp)) (atI_nat (List.getElem?_eq_getElem hm)))
      (ev_callP (p := p) (O0 := oPen (c + 1 + 2)) (l.drop (a + 2), 1, c + 1 + 2 + 1) rfl (ea_cons (ev_is (EvN.ev (evn_sl (f := fun c => pS (one c)) (l := l) (ev_var rfl) (eo_some (i := ((a + 2 : Nat) : Int)) (ev_is (ev_I0 (ev_var rfl) ev_c) (by simp))) eo_none)) (by rw [cutL_drop])) (ea_one (ev_mono (ev_callP (p := p) (O0 := oPen (c + 1 + 2)) (2, c + 1 + 2) rfl (ea_one ev_c) rfl ?_) ?_))) rfl ?_) ?_) ?_) (rk (c + 1 + 2 + 1 + 1) _ (by omega))
    · exact ⟨by show (0 : Int) < 2; decide, by show (2 : Int) ≤ 2147483000; decide, by show c + 1 + 2 ≤ 10000; omega⟩
    · intro j hj
      have : j < 2 := hj.2
      exact ⟨hj.1, by show j ≤ ((1 : Nat) : Int); omega⟩
    · exact ⟨by show (l.drop (a + 2)).length ≤ 100; rw [List.length_drop]; omega, by show 1 ≤ 100; decide, by show c + 1 + 2 + 1 ≤ 9000; omega⟩
    · show 1 + 1 ≤ 1000
      decide
    · intro s hs
      have hs : s.length ≤ 1 + 1 := hs
      show s.length ≤ 6
      omega
  dsimp only
  refine go_ret (P := pW 6) (ev_callP (p := p) (O0 := oPen (c + 1 + 2)) (l, 6, c + 1 + 2 + 1) rfl (ea_cons (ev_var rfl) (ea_one (ev_mono (ev_callP (p := p) (O0 := oPen (c + 1 + 2)) (7, c + 1 + 2) rfl (ea_one ev_c) rfl ?_) ?_))) rfl ?_) (rk (c + 1 + 2 + 1 + 6) _ (by omega))
  · exact ⟨by show (0 : Int) < 7; decide, by show (7 : Int) ≤ 2147483000; decide, by show c + 1 + 2 ≤ 10000; omega⟩
  · intro j hj
    have : j < 7 := hj.2
    exact ⟨hj.1, by show j ≤ ((6 : Nat) : Int); omega⟩
  · exact ⟨by show l.length ≤ 100; omega, by show 6 ≤ 100; decide, by show c + 1 + 2 + 1 ≤ 9000; omega⟩
/-! _law_book -/
structure BSh (b : Book) : Prop where
  small : b.2.length ≤ 8
  words : ∀ r ∈ b.2, r.2.length ≤ 6
  first : b.1.length ≤ 12
  nd : (b.2.map (·.1)).Nodup
def spBook : Sp := spP (fun (c : Nat) => c ≤ 1000) (fun c => oPen c) (fun _ => []) (fun _ => pX BSh pBook) (fun c => oPen (c + 1000))
theorem ok_law_book {f : Addr} {fd : FuncData} (T : Txt mg) (F : Fun K "_law_book" "_law_book" s_law_book f fd) (D_law_take : DefOk P w K mg base "_law_take" 1 p_law_take [] spTake) (D_law_text : DefOk P w K mg base "_law_text" 2 p_law_text [] spText)
    (D_law_signs : DefOk P w K mg base "_law_signs" 2 p_law_signs [] spSigns) (D_law_word : DefOk P w K mg base "_law_word" 3 p_law_word [] spWord) : FnOk P w K mg base CX0 4 f fd p_law_book spBook := by
  refine fn_pen F sc_law_book (fun _ => rfl) (fun cdv A outer s H E hr => ?_)
  refine ⟨_, (pss_cons (ps_set (i := 1) sc_law_book.nd rfl (Or.inl rfl) (pe_call D_law_take.ok (hr.mono (by decide)) (by rfl) D_law_take.mg D_law_take.kp D_law_take.b D_law_take.hd pass0 (pa_cons (pv 0) (pa_cons pe_int pa_nil))))
      (pss_cons (ps_set (i := 2) sc_law_book.nd rfl (Or.inl rfl) (pe_op op_sub (pe_ix (show IxR _ (rIxL K) from ix_list) (pe_lst (pa_cons pe_int (pa_cons pe_int (pa_cons pe_int (pa_cons pe_int (pa_cons pe_int (pa_cons pe_int (pa_cons pe_int pa_nil)))))))) (pv 1) (fun _ _ => rfl)) (pe_call D_law_take.ok (hr.mono (by decide)) (by rfl) D_law_take.mg D_law_take.kp D_law_take.b D_law_take.hd pass0 (pa_cons (pv 0) (pa_cons (pe_ix (show IxR _ (rIxL K) from ix_list) (pe_lst (pa_cons pe_int (pa_cons pe_int (pa_cons pe_int (pa_cons pe_int (pa_cons pe_int (pa_cons pe_int (pa_cons pe_int pa_nil)))))))) (pv 1) (fun _ _ => rfl)) pa_nil)))))
      (pss_cons (ps_set (i := 3) sc_law_book.nd rfl (Or.inl rfl) (pe_call D_law_signs.ok (hr.mono (by decide)) (by rfl) D_law_signs.mg D_law_signs.kp D_law_signs.b D_law_signs.hd pass0 (pa_cons (pv 0) (pa_cons (pv 2) pa_nil))))
      (pss_cons (ps_set (i := 4) sc_law_book.nd rfl (Or.inr rfl) pe_dnewK)
      (pss_cons (ps_for PassesOwn.never rfl (show PI _ _ _ (iEnum K _) from pi_enum (by rfl) T.enumerate (pa_cons (pv 3) pa_nil)) (show PG _ _ (gTup K 2 _) from pg_tup rfl (pgs_cons (pg_name (i := 5) sc_law_book.nd rfl (Or.inl rfl)) (pgs_cons (pg_name (i := 6) sc_law_book.nd rfl (Or.inl rfl)) pgs_nil))) (pss_one (ps_dput (hu_of hr) (pv 4) (pv 6) (pe_call D_law_word.ok (hr.mono (by decide)) (by rfl) D_law_word.mg D_law_word.kp D_law_word.b D_law_word.hd pass0 (pa_cons (pv 0) (pa_cons (pv 1) (pa_cons (pv 3) (pa_cons (pv 5) pa_nil))))) rfl)))
      (pss_cons (ps_set (i := 7) sc_law_book.nd rfl (Or.inl rfl) (pe_call D_law_text.ok (hr.mono (by decide)) (by rfl) D_law_text.mg D_law_text.kp D_law_text.b D_law_text.hd pass0 (pa_cons (pv 0) (pa_cons (pv 3) (pa_cons (pe_call D_law_take.ok (hr.mono (by decide)) (by rfl) D_law_take.mg D_law_take.kp D_law_take.b D_law_take.hd pass0 (pa_cons (pv 0) (pa_cons (pe_ix (show IxR _ (rIxL K) from ix_list) (pe_lst (pa_cons pe_int (pa_cons pe_int (pa_cons pe_int (pa_cons pe_int (pa_cons pe_int (pa_cons pe_int (pa_cons pe_int pa_nil)))))))) (pv 1) (fun _ _ => rfl)) pa_nil))) pa_nil)))))
      (pss_one (ps_ret (pe_tup (pa_cons (pv 7) (pa_cons (pe_callTy (show CallR _ _ (rTupO K) from call_tupO) (by rfl) T.tuple (by decide +kernel) (pa_cons (pe_lc (own := [("_law_letter", 6)]) (tt := tYes) rfl sc_law_book.nd (show PI _ _ _ (iList K _) from pi_list (pe_callB (call_sortD rfl) (by rfl) T.sorted (by decide +kernel) (pa_cons (pv 4) pa_nil))) (blkOk_by (N := N_law_book) (sc := defScope s_law_book) (by decide +kernel)) (fun _ _ _ _ _ => (pg_name (i := 6) sc_law_book.nd rfl (Or.inl rfl))) (fun _ _ _ _ _ => pts_nil) (fun _ _ _ _ _ => (pe_tup (pa_cons (pv 6) (pa_cons (pe_dget (hu_of hr) (pv 4) (pv 6) (fun _ _ => rfl)) pa_nil))))) pa_nil)) pa_nil))))))))))), ?_⟩
  intro c p W Q hc ret
  have hc : c ≤ 1000 := hc
  refine go_seq (go_asg (P := pR 7) (ev_callP (p := p) (O0 := oPen c) (7, c) rfl (ea_one ev_c) rfl ⟨by show (0 : Int) < 7; decide, by show (7 : Int) ≤ 2147483000; decide, by show c ≤ 10000; omega⟩) ?_)
  dsimp only
  refine go_ex (i := 1) rfl ?_
  rintro i ⟨i0, i1⟩
  obtain ⟨x, y, z, hx, hy, hz, y0, y3, yx, x8, z0, z13⟩ := tab7 i0 i1
  refine go_seq (go_asg (P := pX (fun m : Int => 0 ≤ m ∧ m ≤ 8) fun m => pI m) (ev_I0X (i := x) (c := fun j : Int => 0 ≤ j ∧ j < y) (ev_ixL (f := fun i => pI i) (l := [(3 : Int), 2, 4, 4, 5, 8, 0]) (i := i) (EvN.ev (evn_lstOf (f := fun i => pI i) (l := [(3 : Int), 2, 4, 4, 5, 8, 0]) (ea_cons ev_c (ea_cons ev_c (ea_cons ev_c (ea_cons ev_c (ea_cons ev_c (ea_cons ev_c (ea_one ev_c))))))) (by decide))) (ev_var rfl) hx)
    (ev_callP (p := p) (O0 := oPen (c + 1)) (y, c + 1) rfl (ea_one (ev_ixL (f := fun i => pI i) (l := [(2 : Int), 2, 2, 2, 2, 3, 1]) (i := i) (EvN.ev (evn_lstOf (f := fun i => pI i) (l := [(2 : Int), 2, 2, 2, 2, 3, 1]) (ea_cons ev_c (ea_cons ev_c (ea_cons ev_c (ea_cons ev_c (ea_cons ev_c (ea_cons ev_c (ea_one ev_c))))))) (by decide))) (ev_var rfl) hy)) rfl ⟨y0, by show y ≤ 2147483000; omega, by show c + 1 ≤ 10000; omega⟩) ?_) ?_)
  · intro j hj
    have := hj.1
    have := hj.2
    exact ⟨by omega, by omega⟩
  dsimp only
  refine go_ex (i := 2) rfl ?_
  rintro m ⟨m0, m8⟩
  obtain ⟨n, rfl⟩ : ∃ n : Nat, m = n := ⟨m.toNat, by omega⟩
  have hn : n ≤ 8 := by omega
  refine go_seq (go_asg (P := pX (fun l : List Nat => l.length = n) fun l => pLs l) (ev_callP (p := p) (O0 := oPen (c + 1 + 1)) (n, c + 1 + 1) rfl (ea_one (ev_var rfl)) rfl ⟨hn, by show c + 1 + 1 ≤ 9000; omega⟩) ?_)
  dsimp only
  refine go_ex (i := 3) rfl ?_
  intro l hl
  have hl : l.length = n := hl
  refine go_seq (go_new evn_dnew (fun q => ?_))
  dsimp only
  refine go_seq (go_for (ei_enum (f := fun c => pS (one c)) (l := l) (ea_one (ev_var rfl))) (fun x => tg_pair 5 6)
    (fun k Δ => Δ = [.own p (oPen (c + 1 + 1 + n + 20 * k)), .val (pI i), .val (pI (n : Int)), .val (pLs l), .own q (oDict k), .no, .no, .no]) rfl ?_ ?_)
  · rintro W1 N k ⟨at_, sg⟩ Δ sb hk ⟨ek, hsg⟩ rfl hN
    cases (show k = at_ from ek.symm)
    have hsg : l[k]? = some sg := hsg
    refine go_dput (p := q) (n := k) (c := sg) (ev_callP (p := p) (O0 := oPen (c + 1 + 1 + n + 20 * k)) (i, l, k, c + 1 + 1 + n + 20 * k) rfl (ea_cons (ev_var rfl) (ea_cons (ev_var rfl) (ea_one (ev_var rfl)))) rfl ?_) rfl (ev_var rfl) (by omega) ?_
    · exact ⟨i0, i1, hk, by show l.length ≤ 8; omega, by show c + 1 + 1 + n + 20 * k ≤ 8000; omega⟩
    · have hN := hN _ rfl
      have e : c + 1 + 1 + n + 20 * (k + 1) = c + 1 + 1 + n + 20 * k + 20 := by omega
      rw [e] at hN
      exact go_weak (.same (.same (.same (.same (.same (.no (.no (.same .nil)))))))) hN
  · rintro Δ rfl
    dsimp only
    refine go_seq (go_asg (P := pW 12) (ev_callP (p := p) (O0 := oPen (c + 1 + 1 + n + 20 * l.length)) (l, 12, c + 1 + 1 + n + 20 * l.length + 1) rfl (ea_cons (ev_var rfl) (ea_one (ev_mono (ev_callP (p := p) (O0 := oPen (c + 1 + 1 + n + 20 * l.length)) (z, c + 1 + 1 + n + 20 * l.length) rfl (ea_one (ev_ixL (f := fun i => pI i) (l := [(4 : Int), 4, 4, 4, 4, 13, 1]) (i := i) (EvN.ev (evn_lstOf (f := fun i => pI i) (l := [(4 : Int), 4, 4, 4, 4, 13, 1]) (ea_cons ev_c (ea_cons ev_c (ea_cons ev_c (ea_cons ev_c (ea_cons ev_c (ea_cons ev_c (ea_one ev_c))))))) (by decide))) (ev_var rfl) hz)) rfl ?_) ?_))) rfl ?_) ?_)
    · exact ⟨z0, by show z ≤ 2147483000; omega, by show c + 1 + 1 + n + 20 * l.length ≤ 10000; omega⟩
    · intro j hj
      have : j < z := hj.2
      exact ⟨hj.1, by show j ≤ ((12 : Nat) : Int); omega⟩
    · exact ⟨by show l.length ≤ 100; omega, by show 12 ≤ 100; decide, by show c + 1 + 1 + n + 20 * l.length + 1 ≤ 9000; omega⟩
    dsimp only
    refine go_ex (i := 7) rfl ?_
    intro fi hfi
    have hfi : fi.length ≤ 12 := hfi
    refine go_pub (i := 4) rfl ?_
    refine go_wkV (i := 4) (R := pX (DSh l.length) fun l => (oDe l).vp) rfl oX_vp ?_
    refine go_ex (i := 4) rfl ?_
    rintro dl ⟨d1, d2, d3⟩
    refine go_wkO (i := 0) (O' := oPen (c + 1000)) rfl (fun o L => pen_mono (by omega) o L) ?_
    refine go_ret (P := pX BSh pBook) (Ev.imp (EvN.ev (evn_tup (ea_cons (ev_var rfl) (ea_one (ev_bind (R := pX (fun rs : Rules => BSh (fi, rs)) fun rs => pT pRule rs) (fun tl => tCB (rTupO K) (tCons (tLc (iList K tl) _ tYes _ _) tNil)) (ev_sortD (l := dl) (ev_var rfl) (by omega)) ?_))) (by show 2 ≤ 100000; decide))) ?_) (ret [.own p (oPen (c + 1000)), .val (pI i), .val (pI (n : Int)), .val (pLs l), .val (oDe dl).vp, .no, .no, .val (pS fi)] rfl)
    · intro W1 cs tl' hcs htl
      have wd : ∀ a ∈ cs, ∃ s, (a, s) ∈ dl := fun a ha => by
        obtain ⟨r, hr, e⟩ := List.mem_map.mp (hcs.mem_iff.mp ha)
        exact ⟨r.2, by rw [← e]; exact hr⟩
      have wd2 : ∃ wf : Nat → Str, ∀ a ∈ cs, (a, wf a) ∈ dl := by
        refine ⟨fun a => (((dl.find? fun r => decide (r.1 = a)).map (·.2)).getD ⟨#[]⟩), fun a ha => ?_⟩
        obtain ⟨s, hs⟩ := wd a ha
        cases e : dl.find? fun r => decide (r.1 = a) with
        | none =>
          have := List.find?_eq_none.mp e (a, s) hs
          simp at this
        | some r =>
          have h1 := List.mem_of_find?_eq_some e
          have h2 : r.1 = a := by
            have z := List.find?_some e
            exact of_decide_eq_true z
          show (a, ((dl.find? fun r => decide (r.1 = a)).map (·.2)).getD ⟨#[]⟩) ∈ dl
          rw [e]
          show (a, r.2) ∈ dl
          rw [← h2]
          exact h1
      obtain ⟨wf, hwf⟩ := wd2
      have e1 : (cs.map fun a => (a, wf a)).map (·.1) = cs := by
        rw [List.map_map]
        show cs.map (fun a => a) = cs
        simp
      have bsh : BSh (fi, cs.map fun a => (a, wf a)) := by
        refine ⟨?_, ?_, hfi, ?_⟩
        · show (cs.map _).length ≤ 8
          rw [List.length_map, hcs.length_eq, List.length_map]
          omega
        · intro r hr
          obtain ⟨a, ha, rfl⟩ := List.mem_map.mp hr
          exact d3 _ (hwf a ha)
        · show ((cs.map fun a => (a, wf a)).map (·.1)).Nodup
          rw [e1]
          exact hcs.nodup_iff.mpr d1
      refine Ev.imp (EvN.ev (evn_tupO (f := pRule) (l := cs.map fun a => (a, wf a)) (EvN.ev (evn_lc (out := cs.map fun a => (a, wf a)) (r := pRule) (ei_list (f := fun c => pS (one c)) (l := cs) (htl _)) (fun x => tg_name 6) ?_ ?_ ?_ ?_ ?_)))) (fun v L h => ⟨_, bsh, h⟩)
      · decide
      · rw [hcs.length_eq, List.length_map]
        omega
      · rfl
      · simp
      · intro W2 j x y hj hx hy
        rw [List.getElem?_map, hx] at hy
        cases hy
        exact EvN.ev (evn_tup (ea_cons (ev_var rfl) (ea_one (ev_dget (l := dl) (r := (x, wf x)) d1 (hwf x (List.mem_of_getElem? hx)) (ev_var rfl) (ev_var rfl)))) (by show 2 ≤ 100000; decide))
    · rintro v L ⟨a, o, rfl, h1, vs, rfl, h2⟩
      obtain ⟨u1, u2, rfl, p1, rs, hb, p2⟩ := pair2 h2
      exact ⟨(fi, rs), hb, a, _, rfl, h1, _, rfl, .cons p1 (.cons p2 .nil)⟩
/-! _law_number, _law_age -/
def spNum : Sp := spP (fun (c : Nat) => c ≤ 1000) (fun c => oPen c) (fun _ => []) (fun _ => pX (fun n : Int => 1 ≤ n ∧ n < 10 ^ 30) fun n => pI n) (fun c => oPen (c + 2))
theorem ok_law_number {f : Addr} {fd : FuncData} (F : Fun K "_law_number" "_law_number" s_law_number f fd) (D_law_take : DefOk P w K mg base "_law_take" 1 p_law_take [] spTake) : FnOk P w K mg base CX0 2 f fd p_law_number spNum := by
  refine fn_pen F sc_law_number (fun _ => rfl) (fun cdv A outer s H E hr => ?_)
  refine ⟨_, (pss_cons (ps_set (i := 1) sc_law_number.nd rfl (Or.inl rfl) (pe_call D_law_take.ok (hr.mono (by decide)) (by rfl) D_law_take.mg D_law_take.kp D_law_take.b D_law_take.hd pass0 (pa_cons (pv 0) (pa_cons pe_int pa_nil))))
      (pss_cons (ps_if (pt_cmpR op_lt (pv 1) pe_int (nomark _)) (pss_one (ps_ret (pe_ix (show IxR _ (rIxL K) from ix_list) (pe_lst (pa_cons pe_int (pa_cons pe_int (pa_cons (pe_op op_sub (pe_op op_pow pe_int pe_int) pe_int) pa_nil)))) (pv 1) (fun _ _ => rfl)))) pss_nil)
      (pss_one (ps_ret (pe_op op_add pe_int (pe_op op_mod (pe_op op_pow (pe_call D_law_take.ok (hr.mono (by decide)) (by rfl) D_law_take.mg D_law_take.kp D_law_take.b D_law_take.hd pass0 (pa_cons (pv 0) (pa_cons pe_int pa_nil))) pe_int) (pe_op op_sub (pe_op op_pow pe_int pe_int) pe_int))))))), ?_⟩
  intro c p W Q hc ret
  have hc : c ≤ 1000 := hc
  refine go_seq (go_asg (P := pR 4) (ev_callP (p := p) (O0 := oPen c) (4, c) rfl (ea_one ev_c) rfl ⟨by show (0 : Int) < 4; decide, by show (4 : Int) ≤ 2147483000; decide, by show c ≤ 10000; omega⟩) ?_)
  dsimp only
  refine go_ex (i := 1) rfl ?_
  rintro i ⟨i0, i1⟩
  refine go_seq (go_if (et_B0 (ev_var rfl) ev_c) (fun hb => ?_) (fun hb => go_next ?_))
  · have hb : i < 3 := of_decide_eq_true hb
    have hx : ∃ x : Int, atI [(1 : Int), 2, (10 : Int) ^ (30 : Int).toNat - 1] i = some x ∧ 1 ≤ x ∧ x < 10 ^ 30 := by
      rcases (by omega : i = 0 ∨ i = 1 ∨ i = 2) with rfl | rfl | rfl
      · exact ⟨_, rfl, by decide, by decide⟩
      · exact ⟨_, rfl, by decide, by decide⟩
      · exact ⟨_, rfl, by decide, by decide⟩
    obtain ⟨x, hx, x1, x2⟩ := hx
    refine go_wkO (i := 0) (O' := oPen (c + 2)) rfl (fun o L => pen_mono (by omega) o L) ?_
    exact go_ret (P := pX (fun n : Int => 1 ≤ n ∧ n < 10 ^ 30) fun n => pI n) (Ev.imp (ev_ixL (f := fun i => pI i) (l := [(1 : Int), 2, (10 : Int) ^ (30 : Int).toNat - 1]) (i := i) (EvN.ev (evn_lstOf (f := fun i => pI i) (l := [(1 : Int), 2, (10 : Int) ^ (30 : Int).toNat - 1]) (ea_cons ev_c (ea_cons ev_c (ea_one (ev_I0 (ev_I ev_c ev_c ⟨by decide, by decide, by decide⟩) ev_c)))) (by show 3 ≤ 100000; decide))) (ev_var rfl) hx) fun v L h => ⟨x, ⟨x1, x2⟩, h⟩) (ret _ rfl)
  dsimp only
  refine go_ret (P := pX (fun n : Int => 1 ≤ n ∧ n < 10 ^ 30) fun n => pI n) (ev_bind (fun tl => tOp _ (tC _) (tOp _ (tOp _ tl (tC _)) (tOp _ (tOp _ (tC _) (tC _)) (tC _)))) (ev_callP (p := p) (O0 := oPen (c + 1)) (2147483000, c + 1) rfl (ea_one ev_c) rfl ⟨by show (0 : Int) < 2147483000; decide, by show (2147483000 : Int) ≤ 2147483000; decide, by show c + 1 ≤ 10000; omega⟩) ?_) (ret [.own p (oPen (c + 2)), .val (pI i)] rfl)
  rintro W1 x tl' ⟨x0, x1⟩ htl
  have hp : (0 : Int) < (10 : Int) ^ (30 : Int).toNat - 1 := by decide
  refine Ev.imp (ev_I0 ev_c (ev_I (ev_I (htl _) ev_c ⟨by decide, by decide, by show x.natAbs < 18446744073709551616; omega⟩) (ev_I0 (ev_I ev_c ev_c ⟨by decide, by decide, by decide⟩) ev_c) hp)) fun v L h => ⟨_, ⟨?_, ?_⟩, h⟩
  · have := Int.emod_nonneg (x ^ (4 : Int).toNat) (show (10 : Int) ^ (30 : Int).toNat - 1 ≠ 0 by decide)
    omega
  · have := Int.emod_lt_of_pos (x ^ (4 : Int).toNat) hp
    have e : (10 : Int) ^ (30 : Int).toNat = 10 ^ 30 := by decide
    rw [e] at this ⊢
    omega
def spAge : Sp := spP (fun (c : Nat) => c ≤ 1000) (fun c => oPen c) (fun _ => []) (fun _ => pX (fun n : Int => 0 ≤ n ∧ n < 10 ^ 60) fun n => pI n) (fun c => oPen (c + 2))
theorem ok_law_age {f : Addr} {fd : FuncData} (F : Fun K "_law_age" "_law_age" s_law_age f fd) (D_law_take : DefOk P w K mg base "_law_take" 1 p_law_take [] spTake) : FnOk P w K mg base CX0 2 f fd p_law_age spAge := by
  refine fn_pen F sc_law_age (fun _ => rfl) (fun cdv A outer s H E hr => ?_)
  refine ⟨_, (pss_cons (ps_set (i := 1) sc_law_age.nd rfl (Or.inl rfl) (pe_call D_law_take.ok (hr.mono (by decide)) (by rfl) D_law_take.mg D_law_take.kp D_law_take.b D_law_take.hd pass0 (pa_cons (pv 0) (pa_cons pe_int pa_nil))))
      (pss_cons (ps_if (pt_cmpR op_eq (pv 1) pe_int (nomark _)) (pss_one (ps_ret (pe_call D_law_take.ok (hr.mono (by decide)) (by rfl) D_law_take.mg D_law_take.kp D_law_take.b D_law_take.hd pass0 (pa_cons (pv 0) (pa_cons pe_int pa_nil))))) pss_nil)
      (pss_cons (ps_if (pt_cmpR op_eq (pv 1) pe_int (nomark _)) (pss_one (ps_ret (pe_call D_law_take.ok (hr.mono (by decide)) (by rfl) D_law_take.mg D_law_take.kp D_law_take.b D_law_take.hd pass0 (pa_cons (pv 0) (pa_cons (pe_op op_pow pe_int pe_int) pa_nil))))) pss_nil)
      (pss_one (ps_ret (pe_op op_mod (pe_op op_pow (pe_call D_law_take.ok (hr.mono (by decide)) (by rfl) D_law_take.mg D_law_take.kp D_law_take.b D_law_take.hd pass0 (pa_cons (pv 0) (pa_cons pe_int pa_nil))) pe_int) (pe_op op_pow pe_int pe_int))))))), ?_⟩
  intro c p W Q hc ret
  have hc : c ≤ 1000 := hc
  have e60 : (10 : Int) ^ 60 = 1000000000000000000000000000000000000000000000000000000000000 := by decide
  refine go_seq (go_asg (P := pR 3) (ev_callP (p := p) (O0 := oPen c) (3, c) rfl (ea_one ev_c) rfl ⟨by show (0 : Int) < 3; decide, by show (3 : Int) ≤ 2147483000; decide, by show c ≤ 10000; omega⟩) ?_)
  dsimp only
  refine go_ex (i := 1) rfl ?_
  rintro i ⟨i0, i1⟩
  refine go_seq (go_if (et_test (ev_eq (ev_var rfl) ev_c rfl)) (fun hb => ?_) (fun hb => go_next ?_))
  · exact go_ret (P := pX (fun n : Int => 0 ≤ n ∧ n < 10 ^ 60) fun n => pI n) (ev_mono (ev_callP (p := p) (O0 := oPen (c + 1)) (41, c + 1) rfl (ea_one ev_c) rfl ⟨by show (0 : Int) < 41; decide, by show (41 : Int) ≤ 2147483000; decide, by show c + 1 ≤ 10000; omega⟩) fun j hj => ⟨hj.1, by have : j < 41 := hj.2; omega⟩) (ret _ rfl)
  dsimp only
  refine go_seq (go_if (et_test (ev_eq (ev_var rfl) ev_c rfl)) (fun hb => ?_) (fun hb => go_next ?_))
  · have e9 : (10 : Int) ^ (9 : Int).toNat = 1000000000 := by decide
    exact go_ret (P := pX (fun n : Int => 0 ≤ n ∧ n < 10 ^ 60) fun n => pI n) (ev_mono (ev_callP (p := p) (O0 := oPen (c + 1)) ((10 : Int) ^ (9 : Int).toNat, c + 1) rfl (ea_one (ev_I ev_c ev_c ⟨by decide, by decide, by decide⟩)) rfl ⟨by show (0 : Int) < (10 : Int) ^ (9 : Int).toNat; decide, by show (10 : Int) ^ (9 : Int).toNat ≤ 2147483000; decide, by show c + 1 ≤ 10000; omega⟩) fun j hj => ⟨hj.1, by have : j < (10 : Int) ^ (9 : Int).toNat := hj.2; omega⟩) (ret _ rfl)
  dsimp only
  refine go_ret (P := pX (fun n : Int => 0 ≤ n ∧ n < 10 ^ 60) fun n => pI n) (ev_bind (fun tl => tOp _ (tOp _ tl (tC _)) (tOp _ (tC _) (tC _))) (ev_callP (p := p) (O0 := oPen (c + 1)) (2147483000, c + 1) rfl (ea_one ev_c) rfl ⟨by show (0 : Int) < 2147483000; decide, by show (2147483000 : Int) ≤ 2147483000; decide, by show c + 1 ≤ 10000; omega⟩) ?_) (ret [.own p (oPen (c + 2)), .val (pI i)] rfl)
  rintro W1 x tl' ⟨x0, x1⟩ htl
  have hp : (0 : Int) < (10 : Int) ^ (60 : Int).toNat := by decide
  refine Ev.imp (ev_I (ev_I (htl _) ev_c ⟨by decide, by decide, by show x.natAbs < 18446744073709551616; omega⟩) (ev_I ev_c ev_c ⟨by decide, by decide, by decide⟩) hp) fun v L h => ⟨_, ⟨?_, ?_⟩, h⟩
  · exact Int.emod_nonneg (x ^ (7 : Int).toNat) (show (10 : Int) ^ (60 : Int).toNat ≠ 0 by decide)
  · exact Int.emod_lt_of_pos (x ^ (7 : Int).toNat) hp
end
end Lg
namespace Lg
open PySem PySem.Spec PyProof.Rows L2 Ma
open Evl (Ex)
theorem range_sum (n : Nat) (f : Nat → Int) : ((List.range n).map f).sum = S n f := by
  induction n with
  | zero => rfl
  | succ n ih =>
    rw [List.range_succ, List.map_append, List.sum_append, ih]
    show S n f + (f n + 0) = S n f + f n
    omega
theorem BkB.mono {b : Book} {m k : Nat} (h : BkB b m) (hk : k ≤ m) : BkB b k := ⟨h.small, h.bt, fun t ht => h.bv t (by omega)⟩
section
variable {P : Program} {w : World} {K : PySem.W.Frag} {mg : Str → Option Value} {base : Heap}
/-! _law_counts -/
def spLCounts : Sp := spF (fun (a : Book × Nat) => BkB a.1 a.2 ∧ a.2 ≤ 100) (fun a => [pBook a.1, pI (a.2 : Int)]) (fun a => pLL ((List.range a.2).map (Vb a.1)))
theorem ok_law_counts {f : Addr} {fd : FuncData} (T : Txt mg) (F : Fun K "_law_counts" "_law_counts" s_law_counts f fd) : FnOk P w K mg base CX0 1 f fd p_law_counts spLCounts := by
  refine fn_pure F sc_law_counts (fun _ => rfl) (fun cdv A outer s H E hr => ?_)
  refine ⟨_, (pss_cons (ps_set (i := 2) sc_law_counts.nd rfl (Or.inr rfl) (pe_lc (own := [("_law_rule", 3)]) (tt := tYes) rfl sc_law_counts.nd (show PI _ _ _ (iTup K _) from pi_tup (pe_ix (show IxR _ (rIxT K) from ix_tup) (pv 0) pe_int (fun _ _ => rfl))) (blkOk_by (N := N_law_counts) (sc := defScope s_law_counts) (by decide +kernel)) (fun _ _ _ _ _ => (pg_name (i := 3) sc_law_counts.nd rfl (Or.inl rfl))) (fun _ _ _ _ _ => pts_nil) (fun _ _ _ _ _ => (pe_ix (show IxR _ (rIxT K) from ix_tup) (pv 3) pe_int (fun _ _ => rfl)))))
      (pss_cons (ps_set (i := 4) sc_law_counts.nd rfl (Or.inr rfl) (pe_lc (own := [("_law_rule", 3)]) (tt := tYes) rfl sc_law_counts.nd (show PI _ _ _ (iTup K _) from pi_tup (pe_ix (show IxR _ (rIxT K) from ix_tup) (pv 0) pe_int (fun _ _ => rfl))) (blkOk_by (N := N_law_counts) (sc := defScope s_law_counts) (by decide +kernel)) (fun _ _ _ _ _ => (pg_name (i := 3) sc_law_counts.nd rfl (Or.inr rfl))) (fun _ _ _ _ _ => pts_nil) (fun _ _ _ _ _ => (pe_lc (own := [("_law_sign", 5)]) (tt := tYes) rfl sc_law_counts.nd (show PI _ _ _ (iList K _) from pi_list (pv 2)) (blkOk_by rfl) (fun _ _ _ _ _ => (pg_name (i := 5) sc_law_counts.nd rfl (Or.inl rfl))) (fun _ _ _ _ _ => pts_nil) (fun _ _ _ _ _ => (pe_m1 PySem.F.slot_str_count PySem.F.type_str_count mt_count (pe_ix (show IxR _ (rIxT K) from ix_tup) (pv 3) pe_int (fun _ _ => rfl)) (pv 5)))))))
      (pss_cons (ps_set (i := 6) sc_law_counts.nd rfl (Or.inr rfl) (pe_lc (own := [("_law_sign", 5)]) (tt := tYes) rfl sc_law_counts.nd (show PI _ _ _ (iList K _) from pi_list (pv 2)) (blkOk_by (N := N_law_counts) (sc := defScope s_law_counts) (by decide +kernel)) (fun _ _ _ _ _ => (pg_name (i := 5) sc_law_counts.nd rfl (Or.inl rfl))) (fun _ _ _ _ _ => pts_nil) (fun _ _ _ _ _ => (pe_m1 PySem.F.slot_str_count PySem.F.type_str_count mt_count (pe_ix (show IxR _ (rIxT K) from ix_tup) (pv 0) pe_int (fun _ _ => rfl)) (pv 5)))))
      (pss_cons (ps_set (i := 7) sc_law_counts.nd rfl (Or.inl rfl) (pe_lst pa_nil))
      (pss_cons (ps_for PassesOwn.never rfl (pi_range1 (by rfl) T.range (pa_cons (pv 1) pa_nil)) (pg_name (i := 8) sc_law_counts.nd rfl (Or.inl rfl)) (pss_cons (ps_expr (show PE _ _ (tBM K _ _ _ _) from pe_bm PySem.F.plainAttrs_list PySem.F.slot_list_append PySem.F.type_list_append mt_append (pv 7) (pa_cons (pv 6) pa_nil)))
      (pss_one (ps_set (i := 6) sc_law_counts.nd rfl (Or.inr rfl) (pe_lc (own := [("_law_j", 10)]) (tt := tYes) rfl sc_law_counts.nd (pi_range1 (by rfl) T.range (pa_cons (pe_callB (show CallR _ _ (rLen K) from call_len1) (by rfl) T.len (by decide +kernel) (pa_cons (pv 2) pa_nil)) pa_nil)) (blkOk_by (N := N_law_counts) (sc := defScope s_law_counts) (by decide +kernel)) (fun _ _ _ _ _ => (pg_name (i := 10) sc_law_counts.nd rfl (Or.inr rfl))) (fun _ _ _ _ _ => pts_nil) (fun _ _ _ _ _ => (pe_callB (show CallR _ _ (rSum K) from cr_sum rfl) (by rfl) T.sum (by decide +kernel) (pa_cons (pe_lc (own := [("_law_i", 9)]) (tt := tYes) rfl sc_law_counts.nd (pi_range1 (by rfl) T.range (pa_cons (pe_callB (show CallR _ _ (rLen K) from call_len1) (by rfl) T.len (by decide +kernel) (pa_cons (pv 2) pa_nil)) pa_nil)) (blkOk_by rfl) (fun _ _ _ _ _ => (pg_name (i := 9) sc_law_counts.nd rfl (Or.inl rfl))) (fun _ _ _ _ _ => pts_nil) (fun _ _ _ _ _ => (pe_op op_mulW (pe_ix (show IxR _ (rIxL K) from ix_list) (pv 6) (pv 9) (fun _ _ => rfl)) (pe_ix (show IxR _ (rIxL K) from ix_list) (pe_ix (show IxR _ (rIxL K) from ix_list) (pv 4) (pv 9) (fun _ _ => rfl)) (pv 10) (fun _ _ => rfl))))) pa_nil))))))))
      (pss_one (ps_ret (pv 7)))))))), ?_⟩
  rintro ⟨b, m⟩ W Q ⟨pre, hm⟩ ret
  have pre : BkB b m := pre
  have hm : m ≤ 100 := hm
  have hs : b.2.length ≤ 8 := pre.small
  have hbk : ∀ {Γ : Cxt} {W : Wd}, Γ[0]? = some (Ent.val (pBook b)) → Ev W (tOp (rIxT K) (tVar 0) (tC (.int 1))) Γ (pT pRule b.2) Γ := fun h => ev_ixTu (Ps := [pS b.1, pT pRule b.2]) (i := 1) (ev_var h) ev_c rfl
  refine go_seq (go_asg (P := pLs (b.2.map (·.1))) (EvN.ev (evn_lc (out := b.2.map (·.1)) (r := fun c => pS (one c)) (ei_tup (f := pRule) (l := b.2) (hbk rfl)) (fun x => tg_name 3) ?_ ?_ ?_ ?_ ?_)) ?_)
  · decide
  · omega
  · rfl
  · simp
  · intro W1 i x y hi hx hy
    rw [List.getElem?_map, hx] at hy
    cases hy
    exact ev_ixTu (Ps := [pS (one x.1), pS x.2]) (i := 0) (ev_var rfl) ev_c rfl
  dsimp only
  refine go_seq (go_asg (P := pLL (tab b)) (EvN.ev (evn_lc (out := tab b) (r := pLI) (ei_tup (f := pRule) (l := b.2) (hbk rfl)) (fun x => tg_name 3) ?_ ?_ ?_ ?_ ?_)) ?_)
  · decide
  · omega
  · rfl
  · simp [tab]
  · intro W1 i x y hi hx hy
    unfold tab at hy
    rw [List.getElem?_map, hx] at hy
    cases hy
    refine EvN.ev (evn_lc (out := b.2.map fun r' => cnt x.2 r'.1) (r := fun i => pI i) (ei_list (f := fun c => pS (one c)) (l := b.2.map (·.1)) (ev_var rfl)) (fun x => tg_name 5) ?_ ?_ ?_ ?_ ?_)
    · decide
    · rw [List.length_map]; omega
    · rfl
    · simp
    · intro W2 j c y hj hc hy
      rw [List.getElem?_map] at hc hy
      cases e : b.2[j]? with
      | none => rw [e] at hc; cases hc
      | some r =>
        rw [e] at hc hy
        cases hc
        cases hy
        exact ev_count (ev_ixTu (Ps := [pS (one x.1), pS x.2]) (i := 1) (ev_var rfl) ev_c rfl) (ev_var rfl)
  dsimp only
  refine go_seq (go_asg (P := pLI (Vb b 0)) (EvN.ev (evn_lc (out := x0 b) (r := fun i => pI i) (ei_list (f := fun c => pS (one c)) (l := b.2.map (·.1)) (ev_var rfl)) (fun x => tg_name 5) ?_ ?_ ?_ ?_ ?_)) ?_)
  · decide
  · rw [List.length_map]; omega
  · rfl
  · simp [x0]
  · intro W2 j c y hj hc hy
    unfold x0 at hy
    rw [List.getElem?_map] at hc hy
    cases e : b.2[j]? with
    | none => rw [e] at hc; cases hc
    | some r =>
      rw [e] at hc hy
      cases hc
      cases hy
      exact ev_count (ev_ixTu (Ps := [pS b.1, pT pRule b.2]) (i := 0) (ev_var rfl) ev_c rfl) (ev_var rfl)
  dsimp only
  refine go_seq (go_new (evn_lstOf (f := pLI) (l := []) ea_nil (by decide)) (fun p => ?_))
  dsimp only
  refine go_seq (go_for (ei_rng1 (j := (m : Int)) (ea_one (ev_var rfl)) (by omega) (by omega)) (fun x => tg_name 8)
    (fun i Δ => Δ = [.val (pBook b), .val (pI (m : Int)), .val (pLs (b.2.map (·.1))), .no, .val (pLL (tab b)), .no, .val (pLI (Vb b i)), .own p (oL pLI ((List.range i).map (Vb b))), .no, .no, .no]) rfl ?_ ?_)
  · rintro W1 N t x Δ sb hi ex rfl hN
    cases (show t = x from ex.symm)
    have hi : t < m := by simpa using hi
    have hl : (Vb b t).length = b.2.length := V_len (x0_len b) t
    refine go_seq (go_app (f := pLI) (l := (List.range t).map (Vb b)) (y := Vb b t) rfl (ev_var rfl) (by simp; omega) ?_)
    dsimp only
    have e : (List.range t).map (Vb b) ++ [Vb b t] = (List.range (t + 1)).map (Vb b) := by rw [List.range_succ, List.map_append]; rfl
    rw [e]
    have sl : (b.2.map (·.1)).length = b.2.length := by simp
    refine go_asg (P := pLI (Vb b (t + 1))) (EvN.ev (evn_lc (out := Vb b (t + 1)) (r := fun i => pI i) (ei_rng1 (j := (b.2.length : Int)) (ea_one (ev_is (ev_len (f := fun c => pS (one c)) (l := b.2.map (·.1)) (ev_var rfl)) (by rw [sl]))) (by omega) (by omega)) (fun x => tg_name 10) ?_ ?_ ?_ ?_ ?_)) ?_
    · decide
    · simp; omega
    · rfl
    · rw [show (Vb b (t + 1)).length = b.2.length from V_len (x0_len b) (t + 1)]; simp
    · intro W2 j x y hj ex hy
      cases (show j = x from ex.symm)
      have hj : j < b.2.length := by simpa using hj
      have ey : y = S b.2.length fun i => g (Vb b t) i * g2 (tab b) i j := by
        have z : Vb b (t + 1) = vm b.2.length (Vb b t) (tab b) := rfl
        rw [z] at hy
        unfold vm at hy
        rw [List.getElem?_map, List.getElem?_range hj] at hy
        exact (Option.some.inj hy).symm
      rw [ey, ← range_sum]
      refine ev_sum (ns := (List.range b.2.length).map fun i => g (Vb b t) i * g2 (tab b) i j) (EvN.ev (evn_lc (out := (List.range b.2.length).map fun i => g (Vb b t) i * g2 (tab b) i j) (r := fun i => pI i)
        (ei_rng1 (j := (b.2.length : Int)) (ea_one (ev_is (ev_len (f := fun c => pS (one c)) (l := b.2.map (·.1)) (ev_var rfl)) (by rw [sl]))) (by omega) (by omega)) (fun x => tg_name 9) ?_ ?_ ?_ ?_ ?_))
      · decide
      · simp; omega
      · rfl
      · simp
      · intro W3 i x y hi ex hy
        cases (show i = x from ex.symm)
        have hi : i < b.2.length := by simpa using hi
        rw [List.getElem?_map, List.getElem?_range hi] at hy
        cases hy
        obtain ⟨r, hr1, hr2, hr3, hr4⟩ := (pre.tok (t := t) (by omega)).row (a := i) (by omega)
        have hx : (Vb b t)[i]? = some (g (Vb b t) i) := g_lt (by omega)
        have hz : r[j]? = some (g2 (tab b) i j) := by rw [hr4]; exact g_lt (by omega)
        exact ev_I (ev_ixL (f := fun i => pI i) (l := Vb b t) (i := (i : Int)) (ev_var rfl) (ev_var rfl) (atI_nat hx)) (ev_ixL (f := fun i => pI i) (l := r) (i := (j : Int)) (ev_ixL (f := pLI) (l := tab b) (i := (i : Int)) (ev_var rfl) (ev_var rfl) (atI_nat hr1)) (ev_var rfl) (atI_nat hz))
          (wide_mul (pre.bv t (by omega) _ (List.mem_of_getElem? hx)) (hr3 _ (List.mem_of_getElem? hz)) (by decide) (by decide) (by decide))
    · exact go_weak (.same (.same (.same (.same (.same (.same (.same (.same (.no (.same (.same .nil))))))))))) (hN _ rfl)
  · rintro Δ rfl
    have e : ((m : Int)).toNat = m := by simp
    rw [e]
    refine go_pub (i := 7) rfl ?_
    exact go_ret (ev_var rfl) (ret _)
end
end Lg
namespace Lg
open PySem PySem.Spec PyProof.Rows L2 Ma
open Evl (Ex)
/-- what the mathematics tells of a book -/
structure LM (b : Book) (d e : Nat) : Prop where
  bk : BkB b 41
  ft : FtOk b.2.length (vecs b) d
  dn : d ≤ b.2.length
  bs : ∀ t, t ≤ 41 → (Vb b t).sum.natAbs < 2 ^ 1000
  ft2 : FtOk b.2.length (wins b (ones b)) e
  ed : e ≤ d
  bc : Bd 9000 (fout b.2.length (vecs b) d)
  bc2 : Bd 9000 (fout b.2.length (wins b (ones b)) e)
  un : ∀ (k : Nat) (age N : Int), k < b.2.length → 0 ≤ age → 0 < N → unw N (fout b.2.length (vecs b) d) ((List.range d).map fun t => g (Vb b t) k) age.toNat = g (Vb b age.toNat) k % N
  un2 : ∀ (age N : Int), 0 ≤ age → 0 < N → unw N (fout b.2.length (wins b (ones b)) e) ((List.range e).map fun t => (Vb b t).sum) age.toNat = (md N (Vb b age.toNat)).sum % N
def LMath : Prop := ∀ b : Book, BSh b → ∃ d e, LM b d e
def spLaw (K : PySem.W.Frag) : Sp := fun vs H Q _ => ∃ (a : Addr) (ns : List Int), vs = [.ref a] ∧ SqL K H a (ns.map V.int) ∧ ns.length ≤ 63 ∧ ∀ H', Q (.bl true) H'
theorem fout_len (w : Nat) (vs : List (List Int)) (d : Nat) : (fout w vs d).length = d := by simp [fout]
section
variable {W : Wd} {K : PySem.W.Frag} {Γ Γ1 Γ2 : Cxt} {te : TE} {P : VP}
theorem ev_mono_i {c d : Int → Prop} (h : Ev W te Γ (pX c fun i => pI i) Γ1) (i : ∀ a, c a → d a) : Ev W te Γ (pX d fun i => pI i) Γ1 := ev_mono h i
end
section
variable {P : Program} {w : World} {K : PySem.W.Frag} {mg : Str → Option Value} {base : Heap}
theorem ok_law {f : Addr} {fd : FuncData} (hM : LMath) (T : Txt mg) (F : Fun K "law" "law" s_law f fd)
    (D_law_pen : DefOk P w K mg base "_law_pen" 1 p_law_pen [] (spPen K)) (D_law_age : DefOk P w K mg base "_law_age" 2 p_law_age [] spAge) (D_law_number : DefOk P w K mg base "_law_number" 2 p_law_number [] spNum) (D_law_take : DefOk P w K mg base "_law_take" 1 p_law_take [] spTake)
    (D_law_book : DefOk P w K mg base "_law_book" 4 p_law_book [] spBook) (D_tie : DefOk P w K mg base "tie" 5 p_tie [.non] spBookTie) (D_length_tie : DefOk P w K mg base "length_tie" 6 p_length_tie [] spLengthTie) (D_law_row : DefOk P w K mg base "_law_row" 2 p_law_row [] spLRow)
    (D_law_counts : DefOk P w K mg base "_law_counts" 1 p_law_counts [] spLCounts) (D_counts_at : DefOk P w K mg base "counts_at" 3 p_counts_at [] spCountsAt) (D_length_at : DefOk P w K mg base "length_at" 4 p_length_at [] spLengthAt) (D_law_whole : DefOk P w K mg base "_law_whole" 1 p_law_whole [] spWhole)
    (D_unwound : DefOk P w K mg base "unwound" 3 p_unwound [] spUnw) : FnOk P w K mg base CX0 10 f fd p_law (spLaw K) := by
  refine F.ok sc_law (fun vs H Q E h => ?_) (fun cdv A outer s H vs Q E hr h => ?_)
  · obtain ⟨a, ns, rfl, _⟩ := h
    rfl
  obtain ⟨a, ns, rfl, hS, hlen, q⟩ := h
  refine ⟨_, (pss_cons (ps_set (i := 1) sc_law.nd rfl (Or.inl rfl) (pe_call D_law_pen.ok (hr.mono (by decide)) (by rfl) D_law_pen.mg D_law_pen.kp D_law_pen.b D_law_pen.hd pass0 (pa_cons (pv 0) (pa_cons pe_int pa_nil))))
      (pss_cons (ps_set (i := 2) sc_law.nd rfl (Or.inl rfl) (pe_call D_law_age.ok (hr.mono (by decide)) (by rfl) D_law_age.mg D_law_age.kp D_law_age.b D_law_age.hd pass0 (pa_cons (pv 1) pa_nil)))
      (pss_cons (ps_set (i := 3) sc_law.nd rfl (Or.inr rfl) (pe_call D_law_number.ok (hr.mono (by decide)) (by rfl) D_law_number.mg D_law_number.kp D_law_number.b D_law_number.hd pass0 (pa_cons (pv 1) pa_nil)))
      (pss_cons (ps_set (i := 4) sc_law.nd rfl (Or.inl rfl) (pe_call D_law_take.ok (hr.mono (by decide)) (by rfl) D_law_take.mg D_law_take.kp D_law_take.b D_law_take.hd pass0 (pa_cons (pv 1) (pa_cons pe_int pa_nil))))
      (pss_cons (ps_set (i := 5) sc_law.nd rfl (Or.inl rfl) (pe_call D_law_book.ok (hr.mono (by decide)) (by rfl) D_law_book.mg D_law_book.kp D_law_book.b D_law_book.hd pass0 (pa_cons (pe_call D_law_pen.ok (hr.mono (by decide)) (by rfl) D_law_pen.mg D_law_pen.kp D_law_pen.b D_law_pen.hd pass0 (pa_cons (pv 0) (pa_cons pe_int pa_nil))) pa_nil)))
      (pss_cons (ps_set (i := 6) sc_law.nd rfl (Or.inl rfl) (pe_callB (show CallR _ _ (rLen K) from call_len1) (by rfl) T.len (by decide +kernel) (pa_cons (pe_ix (show IxR _ (rIxT K) from ix_tup) (pv 5) pe_int (fun _ _ => rfl)) pa_nil)))
      (pss_cons (ps_set (i := 7) sc_law.nd rfl (Or.inl rfl) (pe_call D_tie.ok (hr.mono (by decide)) (by rfl) D_tie.mg D_tie.kp D_tie.b D_tie.hd pass0 (pa_cons (pv 5) pa_nil)))
      (pss_cons (ps_set (i := 8) sc_law.nd rfl (Or.inl rfl) (pe_call D_length_tie.ok (hr.mono (by decide)) (by rfl) D_length_tie.mg D_length_tie.kp D_length_tie.b D_length_tie.hd pass0 (pa_cons (pv 5) pa_nil)))
      (pss_cons (ps_if (PW.pt (pw_or (pt_not (pt_val (pe_call D_law_row.ok (hr.mono (by decide)) (by rfl) D_law_row.mg D_law_row.kp D_law_row.b D_law_row.hd pass0 (pa_cons (pv 7) pa_nil)))) (pw_or (pt_not (pt_val (pe_call D_law_row.ok (hr.mono (by decide)) (by rfl) D_law_row.mg D_law_row.kp D_law_row.b D_law_row.hd pass0 (pa_cons (pv 8) pa_nil)))) (pw_or (pt_cmpR op_gt (pe_callB (show CallR _ _ (rLen K) from call_len1) (by rfl) T.len (by decide +kernel) (pa_cons (pv 7) pa_nil)) (pv 6) (nomark _)) (pw_or1 (pt_cmpR op_gt (pe_callB (show CallR _ _ (rLen K) from call_len1) (by rfl) T.len (by decide +kernel) (pa_cons (pv 8) pa_nil)) (pe_callB (show CallR _ _ (rLen K) from call_len1) (by rfl) T.len (by decide +kernel) (pa_cons (pv 7) pa_nil)) (nomark _))))))) (pss_one (ps_ret pe_bl)) pss_nil)
      (pss_cons (ps_set (i := 9) sc_law.nd rfl (Or.inl rfl) (pe_call D_law_counts.ok (hr.mono (by decide)) (by rfl) D_law_counts.mg D_law_counts.kp D_law_counts.b D_law_counts.hd pass0 (pa_cons (pv 5) (pa_cons pe_int pa_nil))))
      (pss_cons (ps_set (i := 10) sc_law.nd rfl (Or.inl rfl) (pe_call D_counts_at.ok (hr.mono (by decide)) (by rfl) D_counts_at.mg D_counts_at.kp D_counts_at.b D_counts_at.hd pass0 (pa_cons (pv 5) (pa_cons (pv 2) (pa_cons (pv 3) pa_nil)))))
      (pss_cons (ps_set (i := 11) sc_law.nd rfl (Or.inl rfl) (pe_call D_length_at.ok (hr.mono (by decide)) (by rfl) D_length_at.mg D_length_at.kp D_length_at.b D_length_at.hd pass0 (pa_cons (pv 5) (pa_cons (pv 2) (pa_cons (pv 3) pa_nil)))))
      (pss_cons (ps_if (PW.pt (pw_or (pt_not (pt_val (pe_call D_law_row.ok (hr.mono (by decide)) (by rfl) D_law_row.mg D_law_row.kp D_law_row.b D_law_row.hd pass0 (pa_cons (pv 10) pa_nil)))) (pw_or1 (pt_cmpR op_ne (pe_callB (show CallR _ _ (rLen K) from call_len1) (by rfl) T.len (by decide +kernel) (pa_cons (pv 10) pa_nil)) (pv 6) (nomark _))))) (pss_one (ps_ret pe_bl)) pss_nil)
      (pss_cons (ps_if (PW.pt (pw_or (pt_not (pt_val (pe_call D_law_whole.ok (hr.mono (by decide)) (by rfl) D_law_whole.mg D_law_whole.kp D_law_whole.b D_law_whole.hd pass0 (pa_cons (pv 11) pa_nil)))) (pw_or1 (pt_cmpR op_ne (pv 11) (pe_op op_mod (pe_callB (show CallR _ _ (rSum K) from cr_sum rfl) (by rfl) T.sum (by decide +kernel) (pa_cons (pv 10) pa_nil)) (pv 3)) (nomark _))))) (pss_one (ps_ret pe_bl)) pss_nil)
      (pss_cons (ps_if (pt_cmpR op_le (pv 2) pe_int (nomark _)) (pss_cons (ps_set (i := 12) sc_law.nd rfl (Or.inl rfl) (pe_ix (show IxR _ (rIxL K) from ix_list) (pe_call D_law_counts.ok (hr.mono (by decide)) (by rfl) D_law_counts.mg D_law_counts.kp D_law_counts.b D_law_counts.hd pass0 (pa_cons (pv 5) (pa_cons (pe_op op_add (pv 2) pe_int) pa_nil))) (pv 2) (fun _ _ => rfl)))
      (pss_one (ps_if (pt_cmpR (show OpR _ _ (rNeD K) from op_neD hr.units) (pv 10) (pe_lc (own := [("_law_one", 13)]) (tt := tYes) rfl sc_law.nd (show PI _ _ _ (iList K _) from pi_list (pv 12)) (blkOk_by (N := N_law) (sc := defScope s_law) (by decide +kernel)) (fun _ _ _ _ _ => (pg_name (i := 13) sc_law.nd rfl (Or.inl rfl))) (fun _ _ _ _ _ => pts_nil) (fun _ _ _ _ _ => (pe_op op_mod (pv 13) (pv 3)))) (nomark _)) (pss_one (ps_ret pe_bl)) pss_nil))) pss_nil)
      (pss_cons (ps_set (i := 14) sc_law.nd rfl (Or.inl rfl) (pe_listRg rfl (by rfl) T.list (prg_1 (by rfl) T.range (pv 6))))
      (pss_cons (ps_if (pt_cmpR op_gt (pv 6) pe_int (nomark _)) (pss_one (ps_set (i := 14) sc_law.nd rfl (Or.inl rfl) (pe_lst (pa_cons (pe_op op_mod (pv 4) (pv 6)) pa_nil)))) pss_nil)
      (pss_cons (ps_for PassesOwn.never rfl (show PI _ _ _ (iList K _) from pi_list (pv 14)) (pg_name (i := 15) sc_law.nd rfl (Or.inr rfl)) (pss_cons (ps_set (i := 16) sc_law.nd rfl (Or.inl rfl) (pe_call D_unwound.ok (hr.mono (by decide)) (by rfl) D_unwound.mg D_unwound.kp D_unwound.b D_unwound.hd pass0 (pa_cons (pv 7) (pa_cons (pe_lc (own := [("_law_one", 13)]) (tt := tYes) rfl sc_law.nd (show PI _ _ _ (iList K _) from pi_list (pe_slice (show SlR _ (rSlL K) from sl_list) (pv 9) po_none (po_some (pe_callB (show CallR _ _ (rLen K) from call_len1) (by rfl) T.len (by decide +kernel) (pa_cons (pv 7) pa_nil))))) (blkOk_by (N := N_law) (sc := defScope s_law) (by decide +kernel)) (fun _ _ _ _ _ => (pg_name (i := 13) sc_law.nd rfl (Or.inl rfl))) (fun _ _ _ _ _ => pts_nil) (fun _ _ _ _ _ => (pe_ix (show IxR _ (rIxL K) from ix_list) (pv 13) (pv 15) (fun _ _ => rfl)))) (pa_cons (pv 2) (pa_cons (pv 3) pa_nil))))))
      (pss_one (ps_if (PW.pt (pw_or (pt_not (pt_val (pe_call D_law_whole.ok (hr.mono (by decide)) (by rfl) D_law_whole.mg D_law_whole.kp D_law_whole.b D_law_whole.hd pass0 (pa_cons (pv 16) pa_nil)))) (pw_or1 (pt_cmpR op_ne (pv 16) (pe_ix (show IxR _ (rIxL K) from ix_list) (pv 10) (pv 15) (fun _ _ => rfl)) (nomark _))))) (pss_one (ps_ret pe_bl)) pss_nil))))
      (pss_cons (ps_set (i := 16) sc_law.nd rfl (Or.inl rfl) (pe_call D_unwound.ok (hr.mono (by decide)) (by rfl) D_unwound.mg D_unwound.kp D_unwound.b D_unwound.hd pass0 (pa_cons (pv 8) (pa_cons (pe_lc (own := [("_law_one", 13)]) (tt := tYes) rfl sc_law.nd (show PI _ _ _ (iList K _) from pi_list (pe_slice (show SlR _ (rSlL K) from sl_list) (pv 9) po_none (po_some (pe_callB (show CallR _ _ (rLen K) from call_len1) (by rfl) T.len (by decide +kernel) (pa_cons (pv 8) pa_nil))))) (blkOk_by (N := N_law) (sc := defScope s_law) (by decide +kernel)) (fun _ _ _ _ _ => (pg_name (i := 13) sc_law.nd rfl (Or.inl rfl))) (fun _ _ _ _ _ => pts_nil) (fun _ _ _ _ _ => (pe_callB (show CallR _ _ (rSum K) from cr_sum rfl) (by rfl) T.sum (by decide +kernel) (pa_cons (pv 13) pa_nil)))) (pa_cons (pv 2) (pa_cons (pv 3) pa_nil))))))
      (pss_one (ps_ret (pe_and (pe_call D_law_whole.ok (hr.mono (by decide)) (by rfl) D_law_whole.mg D_law_whole.kp D_law_whole.b D_law_whole.hd pass0 (pa_cons (pv 16) pa_nil)) (pe_one (pe_cmpR op_eq (pv 16) (pv 11) (nomark _))))))))))))))))))))))))), ?_⟩
  generalize hD : ({ nx := fun _ H' => Q .non H', rt := Q } : Ends) = D
  have hrt : D.rt = Q := by rw [← hD]
  have h0 : Has ⟨fun p => H p = none, H, H, fun _ z => z⟩ (ctx0 17 [pQ K (fun i => pI i) ns]) (L2.start N_law [.ref a]) H H :=
    has0 (N := N_law) (n := 17) rfl (Ex.refl H) (.cons (show (pQ K (fun i => pI i) ns).is (.ref a) H from ⟨a, ns.map V.int, rfl, hS, pC_pair (g := V.int) ns⟩) .nil) (fun _ z => z) rfl rfl
  refine (?_ : Go _ _ _) _ H H h0
  have ret : ∀ (W : Wd) (Γ : Cxt), RetOk W D.rt (pB true) Γ := fun W Γ σ v L H hs hv => by
    rw [hrt, show v = .bl true from hv]
    exact q H
  generalize (⟨fun p => H p = none, H, H, fun _ z => z⟩ : Wd) = W
  clear h0 hS q hD hrt
  -- the pen, the age, the number
  refine go_seq (go_new (evn_call (ns, 1) (ea_cons (ev_var rfl) (ea_one ev_c)) (Nat.le_refl 1)) (fun p => ?_))
  dsimp only
  refine go_cast (Γ' := [.val (pQ K (fun i => pI i) ns), .own p (oPen 0), .no, .no, .no, .no, .no, .no, .no, .no, .no, .no, .no, .no, .no, .no, .no]) ?_ rfl
  refine go_seq (go_asg (P := pX (fun n : Int => 0 ≤ n ∧ n < 10 ^ 60) fun n => pI n) (ev_callP (p := p) (O0 := oPen 0) (0 : Nat) rfl ea_nil rfl (by show 0 ≤ 1000; decide)) ?_)
  dsimp only
  refine go_ex (i := 2) rfl ?_
  rintro age ⟨a0, a1⟩
  refine go_cast (Γ' := [.val (pQ K (fun i => pI i) ns), .own p (oPen 2), .val (pI age), .no, .no, .no, .no, .no, .no, .no, .no, .no, .no, .no, .no, .no, .no]) ?_ rfl
  refine go_seq (go_asg (P := pX (fun n : Int => 1 ≤ n ∧ n < 10 ^ 30) fun n => pI n) (ev_callP (p := p) (O0 := oPen 2) (2 : Nat) rfl ea_nil rfl (by show 2 ≤ 1000; decide)) ?_)
  dsimp only
  refine go_ex (i := 3) rfl ?_
  rintro N ⟨n0, n1⟩
  have far : Far age N := ⟨a0, a1, n0, n1⟩
  have hN : 0 < N := by omega
  refine go_cast (Γ' := [.val (pQ K (fun i => pI i) ns), .own p (oPen 4), .val (pI age), .val (pI N), .no, .no, .no, .no, .no, .no, .no, .no, .no, .no, .no, .no, .no]) ?_ rfl
  refine go_seq (go_asg (P := pR 8) (ev_callP (p := p) (O0 := oPen 4) (8, 4) rfl (ea_one ev_c) rfl ⟨by show (0 : Int) < 8; decide, by show (8 : Int) ≤ 2147483000; decide, by show 4 ≤ 10000; decide⟩) ?_)
  dsimp only
  refine go_ex (i := 4) rfl ?_
  rintro at_ ⟨t0, t1⟩
  refine go_cast (Γ' := [.val (pQ K (fun i => pI i) ns), .own p (oPen 5), .val (pI age), .val (pI N), .val (pI at_), .no, .no, .no, .no, .no, .no, .no, .no, .no, .no, .no, .no]) ?_ rfl
  -- the book
  refine go_seq (go_asg (P := pX BSh pBook) (ev_callPN (0 : Nat) (evn_call (ns, 0) (ea_cons (ev_var rfl) (ea_one ev_c)) (Nat.zero_le 1)) rfl (by show 0 ≤ 1000; decide)) ?_)
  dsimp only
  refine go_ex (i := 5) rfl ?_
  intro b bsh
  obtain ⟨d, e, lm⟩ := hM b bsh
  have hs : b.2.length ≤ 8 := bsh.small
  have dn := lm.dn
  have ed := lm.ed
  have bk := lm.bk
  have c_len := fout_len b.2.length (vecs b) d
  have s_len := fout_len b.2.length (wins b (ones b)) e
  have lbc := lm.bc
  have lbc2 := lm.bc2
  have lun := lm.un
  have lun2 := lm.un2
  obtain ⟨c, hc⟩ : ∃ c, fout b.2.length (vecs b) d = c := ⟨_, rfl⟩
  obtain ⟨sh, hsh⟩ : ∃ sh, fout b.2.length (wins b (ones b)) e = sh := ⟨_, rfl⟩
  rw [hc] at c_len lbc lun
  rw [hsh] at s_len lbc2 lun2
  refine go_cast (Γ' := [.val (pQ K (fun i => pI i) ns), .own p (oPen 5), .val (pI age), .val (pI N), .val (pI at_), .val (pBook b), .no, .no, .no, .no, .no, .no, .no, .no, .no, .no, .no]) ?_ rfl
  refine go_seq (go_asg (P := pI (b.2.length : Int)) (ev_lenT (f := pRule) (l := b.2) (ev_ixTu (Ps := [pS b.1, pT pRule b.2]) (i := 1) (ev_var rfl) ev_c rfl)) ?_)
  dsimp only
  refine go_cast (Γ' := [.val (pQ K (fun i => pI i) ns), .own p (oPen 5), .val (pI age), .val (pI N), .val (pI at_), .val (pBook b), .val (pI (b.2.length : Int)), .no, .no, .no, .no, .no, .no, .no, .no, .no, .no]) ?_ rfl
  refine go_seq (go_asg (P := pLI c) (ev_is (ev_call (Ps := [pBook b]) (Ds := [pC .non]) (b, d) (ea_one (ev_var rfl)) ⟨bk.mono (by show b.2.length + 1 ≤ 41; omega), lm.ft⟩ (fun L => .cons rfl .nil) rfl) (congrArg pLI hc)) ?_)
  dsimp only
  refine go_cast (Γ' := [.val (pQ K (fun i => pI i) ns), .own p (oPen 5), .val (pI age), .val (pI N), .val (pI at_), .val (pBook b), .val (pI (b.2.length : Int)), .val (pLI c), .no, .no, .no, .no, .no, .no, .no, .no, .no]) ?_ rfl
  refine go_seq (go_asg (P := pLI sh) (ev_is (ev_call' (b, e) (ea_one (ev_var rfl)) ⟨bk.mono (by show 2 * b.2.length ≤ 41; omega), lm.ft2⟩) (congrArg pLI hsh)) ?_)
  dsimp only
  refine go_cast (Γ' := [.val (pQ K (fun i => pI i) ns), .own p (oPen 5), .val (pI age), .val (pI N), .val (pI at_), .val (pBook b), .val (pI (b.2.length : Int)), .val (pLI c), .val (pLI sh), .no, .no, .no, .no, .no, .no, .no, .no]) ?_ rfl
  refine go_seq (go_if (b := false) (et_is (et_or (et_not (b := true) (et_B (ev_call' c (ea_one (ev_var rfl)) trivial))) fun _ => et_or (et_not (b := true) (et_B (ev_call' sh (ea_one (ev_var rfl)) trivial))) fun _ => et_or (et_B0 (ev_len (f := fun i => pI i) (l := c) (ev_var rfl)) (ev_var rfl)) fun _ => et_B0 (ev_len (f := fun i => pI i) (l := sh) (ev_var rfl)) (ev_len (f := fun i => pI i) (l := c) (ev_var rfl))) ?_) (fun hb => ?_) (fun hb => go_next ?_))
  · simp only [Bool.not_true, Bool.false_or, Bool.or_eq_false_iff, decide_eq_false_iff_not]
    omega
  · cases hb
  dsimp only
  -- the vectors, the counts, the length
  refine go_seq (go_asg (P := pLL ((List.range 9).map (Vb b))) (ev_call' (b, 9) (ea_cons (ev_var rfl) (ea_one ev_c)) ⟨bk.mono (by show 9 ≤ 41; decide), by show 9 ≤ 100; decide⟩) ?_)
  dsimp only
  refine go_cast (Γ' := [.val (pQ K (fun i => pI i) ns), .own p (oPen 5), .val (pI age), .val (pI N), .val (pI at_), .val (pBook b), .val (pI (b.2.length : Int)), .val (pLI c), .val (pLI sh), .val (pLL ((List.range 9).map (Vb b))), .no, .no, .no, .no, .no, .no, .no]) ?_ rfl
  have tl : (md N (Vb b age.toNat)).length = b.2.length := by rw [md_len]; exact V_len (x0_len b) _
  refine go_seq (go_asg (P := pLI (md N (Vb b age.toNat))) (ev_call' (b, age, N) (ea_cons (ev_var rfl) (ea_cons (ev_var rfl) (ea_one (ev_var rfl)))) ⟨bsh.small, far⟩) ?_)
  dsimp only
  refine go_cast (Γ' := [.val (pQ K (fun i => pI i) ns), .own p (oPen 5), .val (pI age), .val (pI N), .val (pI at_), .val (pBook b), .val (pI (b.2.length : Int)), .val (pLI c), .val (pLI sh), .val (pLL ((List.range 9).map (Vb b))), .val (pLI (md N (Vb b age.toNat))), .no, .no, .no, .no, .no, .no]) ?_ rfl
  refine go_seq (go_asg (P := pI ((md N (Vb b age.toNat)).sum % N)) (ev_call' (b, age, N) (ea_cons (ev_var rfl) (ea_cons (ev_var rfl) (ea_one (ev_var rfl)))) ⟨bsh.small, far⟩) ?_)
  dsimp only
  refine go_cast (Γ' := [.val (pQ K (fun i => pI i) ns), .own p (oPen 5), .val (pI age), .val (pI N), .val (pI at_), .val (pBook b), .val (pI (b.2.length : Int)), .val (pLI c), .val (pLI sh), .val (pLL ((List.range 9).map (Vb b))), .val (pLI (md N (Vb b age.toNat))), .val (pI ((md N (Vb b age.toNat)).sum % N)), .no, .no, .no, .no, .no]) ?_ rfl
  refine go_seq (go_if (b := false) (et_is (et_or (et_not (b := true) (et_B (ev_call' (md N (Vb b age.toNat)) (ea_one (ev_var rfl)) trivial))) fun _ => et_test (ev_ne (ev_len (f := fun i => pI i) (l := md N (Vb b age.toNat)) (ev_var rfl)) (ev_var rfl) rfl)) ?_) (fun hb => ?_) (fun hb => go_next ?_))
  · rw [tl]
    simp
  · cases hb
  dsimp only
  refine go_seq (go_if (b := false) (et_is (et_or (et_not (b := true) (et_B (ev_call' ((md N (Vb b age.toNat)).sum % N) (ea_one (ev_var rfl)) trivial))) fun _ => et_test (ev_ne (ev_var rfl) (ev_I (ev_sum (ns := md N (Vb b age.toNat)) (ev_var rfl)) (ev_var rfl) hN) rfl)) ?_) (fun hb => ?_) (fun hb => go_next ?_))
  · simp
  · cases hb
  dsimp only
  -- small ages
  refine go_ifJ (fun Δ => ∃ E1, Δ = [.val (pQ K (fun i => pI i) ns), .own p (oPen 5), .val (pI age), .val (pI N), .val (pI at_), .val (pBook b), .val (pI (b.2.length : Int)), .val (pLI c), .val (pLI sh), .val (pLL ((List.range 9).map (Vb b))), .val (pLI (md N (Vb b age.toNat))), .val (pI ((md N (Vb b age.toNat)).sum % N)), E1, .no, .no, .no, .no])
    (et_B0 (ev_var rfl) ev_c) (fun h40 N2 hN2 => ?_) (fun h40 N2 hN2 => go_next (hN2 _ ⟨_, rfl⟩)) ?_
  · have h40 : age ≤ 40 := of_decide_eq_true h40
    have e1 : age + 1 = ((age.toNat + 1 : Nat) : Int) := by omega
    have e2 : age = ((age.toNat : Nat) : Int) := by omega
    refine go_seq (go_asg (P := pLI (Vb b age.toNat)) (ev_ixL (f := pLI) (l := (List.range (age.toNat + 1)).map (Vb b)) (i := age) (ev_call' (b, age.toNat + 1) (ea_cons (ev_var rfl) (ea_one (ev_is (ev_I0 (ev_var rfl) ev_c) (by rw [e1])))) ⟨bk.mono (by show age.toNat + 1 ≤ 41; omega), by show age.toNat + 1 ≤ 100; omega⟩) (ev_var rfl) ?_) ?_)
    · have z := atI_nat (xs := (List.range (age.toNat + 1)).map (Vb b)) (j := age.toNat) (v := Vb b age.toNat) (by rw [List.getElem?_map, List.getElem?_range (by omega)]; rfl)
      rw [← e2] at z
      exact z
    dsimp only
    refine go_if (b := false) (et_test (ev_neL (ns := md N (Vb b age.toNat)) (ev_var rfl) (EvN.ev (evn_lc (out := md N (Vb b age.toNat)) (r := fun i => pI i) (ei_list (f := fun i => pI i) (l := Vb b age.toNat) (ev_var rfl)) (fun x => tg_name 13) ?_ ?_ ?_ ?_ ?_)))) (fun hb => ?_) (fun hb => go_next (hN2 _ ⟨_, rfl⟩))
    · decide
    · rw [show (Vb b age.toNat).length = b.2.length from V_len (x0_len b) _]; omega
    · rfl
    · rw [md_len]
    · intro W2 i x y hi hx hy
      unfold md at hy
      rw [List.getElem?_map, hx] at hy
      cases hy
      exact ev_I (ev_var rfl) (ev_var rfl) hN
    · cases hb
  rintro Δ ⟨E1, rfl⟩
  -- the places
  refine go_seq (go_asg (P := pL (fun i : Nat => pI (i : Int)) (List.range b.2.length)) (EvN.ev (evn_listRg (ev_var rfl) (by omega))) ?_)
  dsimp only
  refine go_cast (Γ' := [.val (pQ K (fun i => pI i) ns), .own p (oPen 5), .val (pI age), .val (pI N), .val (pI at_), .val (pBook b), .val (pI (b.2.length : Int)), .val (pLI c), .val (pLI sh), .val (pLL ((List.range 9).map (Vb b))), .val (pLI (md N (Vb b age.toNat))), .val (pI ((md N (Vb b age.toNat)).sum % N)), E1, .no, .val (pL (fun i : Nat => pI (i : Int)) (List.range b.2.length)), .no, .no]) ?_ rfl
  refine go_ifJ (fun Δ => ∃ pl : List Nat, (∀ x ∈ pl, x < b.2.length) ∧ Δ = [.val (pQ K (fun i => pI i) ns), .own p (oPen 5), .val (pI age), .val (pI N), .val (pI at_), .val (pBook b), .val (pI (b.2.length : Int)), .val (pLI c), .val (pLI sh), .val (pLL ((List.range 9).map (Vb b))), .val (pLI (md N (Vb b age.toNat))), .val (pI ((md N (Vb b age.toNat)).sum % N)), E1, .no, .val (pL (fun i : Nat => pI (i : Int)) pl), .no, .no])
    (et_B0 (ev_var rfl) ev_c) (fun h5 N2 hN2 => ?_) (fun h5 N2 hN2 => go_next (hN2 _ ⟨List.range b.2.length, fun x hx => List.mem_range.mp hx, rfl⟩)) ?_
  · have h5 : (5 : Int) < b.2.length := of_decide_eq_true h5
    have hlt : (at_ % (b.2.length : Int)).toNat < b.2.length := by
      have z1 := Int.emod_nonneg at_ (show (b.2.length : Int) ≠ 0 by omega)
      have z2 := Int.emod_lt_of_pos at_ (show (0 : Int) < b.2.length by omega)
      omega
    have e3 : (((at_ % (b.2.length : Int)).toNat : Nat) : Int) = at_ % (b.2.length : Int) := Int.toNat_of_nonneg (Int.emod_nonneg at_ (show (b.2.length : Int) ≠ 0 by omega))
    refine go_asg (P := pL (fun i : Nat => pI (i : Int)) [(at_ % (b.2.length : Int)).toNat]) (EvN.ev (evn_lstOf (f := fun i : Nat => pI (i : Int)) (l := [(at_ % (b.2.length : Int)).toNat]) (ea_one (ev_is (ev_I (ev_var rfl) (ev_var rfl) (by show (0 : Int) < b.2.length; omega)) (by show pI _ = pI _; rw [e3]))) (by show 1 ≤ 100000; decide))) (hN2 _ ⟨_, fun x hx => ?_, rfl⟩)
    rw [List.mem_singleton.mp hx]
    exact hlt
  rintro Δ ⟨pl, hpl, rfl⟩
  have vt : ∀ k : Nat, k ≤ 9 → cutL ((List.range 9).map (Vb b)) none (some (k : Int)) = (List.range k).map (Vb b) := fun k hk => by
    rw [cutL_take, ← List.map_take, List.take_range, Nat.min_eq_left hk]
  have gb : ∀ t, t ≤ 41 → ∀ k, (g (Vb b t) k).natAbs < 2 ^ 1000 := fun t ht k => bd_at (bk.bv t ht) (by decide) k
  have up9 : ∀ {x : Int}, x.natAbs < 2 ^ 1000 → x.natAbs < 2 ^ 9000 := fun h => Nat.lt_of_lt_of_le h (Nat.pow_le_pow_right (by decide) (by decide))
  refine go_seq (go_for (ei_list (f := fun i : Nat => pI (i : Int)) (l := pl) (ev_var rfl)) (fun x => tg_name 15)
    (fun i Δ => Δ = [.val (pQ K (fun i => pI i) ns), .own p (oPen 5), .val (pI age), .val (pI N), .val (pI at_), .val (pBook b), .val (pI (b.2.length : Int)), .val (pLI c), .val (pLI sh), .val (pLL ((List.range 9).map (Vb b))), .val (pLI (md N (Vb b age.toNat))), .val (pI ((md N (Vb b age.toNat)).sum % N)), E1, .no, .val (pL (fun i : Nat => pI (i : Int)) pl), .no, .no]) rfl ?_ ?_)
  · rintro W1 N2 i k Δ sb hi hk rfl hN2
    have hkl : k < b.2.length := hpl k (List.mem_of_getElem? hk)
    have un := lun k age N hkl a0 hN
    have gk : (md N (Vb b age.toNat))[k]? = some (g (Vb b age.toNat) k % N) := by
      rw [← g_md]
      exact g_lt (by omega)
    refine go_seq (go_asg (P := pI (g (Vb b age.toNat) k % N)) (ev_is (ev_call' (c, (List.range d).map fun t => g (Vb b t) k, age, N) (ea_cons (ev_var rfl) (ea_cons (EvN.ev (evn_lc (out := (List.range d).map fun t => g (Vb b t) k) (r := fun i => pI i)
      (ei_list (f := pLI) (l := (List.range d).map (Vb b)) (ev_is (EvN.ev (evn_sl (f := pLI) (l := (List.range 9).map (Vb b)) (ev_var rfl) eo_none (eo_some (ev_len (f := fun i => pI i) (l := c) (ev_var rfl))))) (by rw [c_len, vt d (by omega)]))) (fun x => tg_name 13) ?_ ?_ ?_ ?_ ?_)) (ea_cons (ev_var rfl) (ea_one (ev_var rfl))))) ⟨?_, ?_, lbc, ?_, far⟩) (congrArg pI un)) ?_)
    · decide
    · simp; omega
    · rfl
    · simp
    · intro W2 j x y hj hx hy
      have hj : j < d := by simpa using hj
      rw [List.getElem?_map, List.getElem?_range hj] at hx hy
      cases hx
      cases hy
      exact ev_ixL (f := fun i => pI i) (l := Vb b j) (i := (k : Int)) (ev_var rfl) (ev_var rfl) (atI_nat (g_lt (by rw [show (Vb b j).length = b.2.length from V_len (x0_len b) _]; omega)))
    · show c.length ≤ 16
      omega
    · show ((List.range d).map _).length = c.length
      simp [c_len]
    · intro x hx
      obtain ⟨t, ht, rfl⟩ := List.mem_map.mp hx
      have ht : t < d := List.mem_range.mp ht
      exact up9 (gb t (by omega) k)
    dsimp only
    refine go_if (b := false) (et_is (et_or (et_not (b := true) (et_B (ev_call' (g (Vb b age.toNat) k % N) (ea_one (ev_var rfl)) trivial))) fun _ => et_test (ev_ne (ev_var rfl) (ev_ixL (f := fun i => pI i) (l := md N (Vb b age.toNat)) (i := (k : Int)) (ev_var rfl) (ev_var rfl) (atI_nat gk)) rfl)) ?_) (fun hb => ?_) (fun hb => go_next ?_)
    · simp
    · cases hb
    · exact go_weak (.same (.same (.same (.same (.same (.same (.same (.same (.same (.same (.same (.same (.same (.same (.same (.no (.no .nil))))))))))))))))) (hN2 _ rfl)
  · rintro Δ rfl
    dsimp only
    have un2 := lun2 age N a0 hN
    refine go_seq (go_asg (P := pI ((md N (Vb b age.toNat)).sum % N)) (ev_is (ev_call' (sh, (List.range e).map fun t => (Vb b t).sum, age, N) (ea_cons (ev_var rfl) (ea_cons (EvN.ev (evn_lc (out := (List.range e).map fun t => (Vb b t).sum) (r := fun i => pI i)
      (ei_list (f := pLI) (l := (List.range e).map (Vb b)) (ev_is (EvN.ev (evn_sl (f := pLI) (l := (List.range 9).map (Vb b)) (ev_var rfl) eo_none (eo_some (ev_len (f := fun i => pI i) (l := sh) (ev_var rfl))))) (by rw [s_len, vt e (by omega)]))) (fun x => tg_name 13) ?_ ?_ ?_ ?_ ?_)) (ea_cons (ev_var rfl) (ea_one (ev_var rfl))))) ⟨?_, ?_, lbc2, ?_, far⟩) (congrArg pI un2)) ?_)
    · decide
    · simp; omega
    · rfl
    · simp
    · intro W2 j x y hj hx hy
      have hj : j < e := by simpa using hj
      rw [List.getElem?_map, List.getElem?_range hj] at hx hy
      cases hx
      cases hy
      exact ev_sum (ns := Vb b j) (ev_var rfl)
    · show sh.length ≤ 16
      omega
    · show ((List.range e).map _).length = sh.length
      simp [s_len]
    · intro x hx
      obtain ⟨t, ht, rfl⟩ := List.mem_map.mp hx
      have ht : t < e := List.mem_range.mp ht
      exact up9 (lm.bs t (by omega))
    dsimp only
    refine go_ret (ev_is (ev_andV (ev_call' ((md N (Vb b age.toNat)).sum % N) (ea_one (ev_var rfl)) trivial) fun _ => ev_eq (ev_var rfl) (ev_var rfl) rfl) ?_) (ret _ _)
    simp
end
end Lg
/-! elimination: rows, leads, independence -/
namespace Ma
theorem S_succ_left (n : Nat) (f : Nat → Int) : S (n + 1) f = f 0 + S n (fun k => f (k + 1)) := by
  induction n with
  | zero => show S 0 f + f 0 = f 0 + S 0 _; show (0 : Int) + f 0 = f 0 + 0; omega
  | succ n ih => show S (n + 1) f + f (n + 1) = f 0 + (S n _ + f (n + 1)); rw [ih]; omega
theorem S_single {n k : Nat} (hk : k < n) (f : Nat → Int) (h : ∀ i, i < n → i ≠ k → f i = 0) : S n f = f k := by
  induction n with
  | zero => omega
  | succ n ih =>
    show S n f + f n = f k
    by_cases e : k = n
    · subst e
      rw [S_congr (h := fun _ => 0) (fun i hi => h i (by omega) (by omega)), S_zero]
      omega
    · rw [ih (by omega) (fun i hi => h i (by omega)), h n (by omega) (fun z => e z.symm)]
      omega
/-- what stands behind k is nought -/
theorem S_cut {n k : Nat} (hk : k ≤ n) (f : Nat → Int) (h : ∀ i, k ≤ i → i < n → f i = 0) : S n f = S k f := by
  induction n with
  | zero => have : k = 0 := by omega
            rw [this]
  | succ n ih =>
    by_cases e : k = n + 1
    · rw [e]
    · show S n f + f n = S k f
      rw [ih (by omega) (fun i h1 h2 => h i h1 (by omega)), h n (by omega) (by omega)]
      omega
/-! ### the content -/
theorem cont_dvd0 : ∀ (xs : List Int) (p : Int), (xs.foldl (fun p x => (Int.gcd p x : Int)) p ∣ p) ∧ ∀ x ∈ xs, xs.foldl (fun p x => (Int.gcd p x : Int)) p ∣ x
  | [], p => ⟨Int.dvd_refl p, fun x hx => nomatch hx⟩
  | y :: r, p => by
    obtain ⟨h1, h2⟩ := cont_dvd0 r (Int.gcd p y : Int)
    refine ⟨Int.dvd_trans h1 (Int.gcd_dvd_left ..), fun x hx => ?_⟩
    rcases List.mem_cons.mp hx with e | e
    · rw [e]
      exact Int.dvd_trans h1 (Int.gcd_dvd_right ..)
    · exact h2 x e
theorem cont_dvd (xs : List Int) (i : Nat) : cont xs ∣ g xs i := by
  by_cases hi : i < xs.length
  · exact (cont_dvd0 xs 0).2 _ (List.mem_of_getElem? (g_lt hi))
  · rw [g_ge (by omega)]
    exact Int.dvd_zero _
theorem dvd_cont0 {c : Int} : ∀ (xs : List Int) (p : Int), c ∣ p → (∀ x ∈ xs, c ∣ x) → c ∣ xs.foldl (fun p x => (Int.gcd p x : Int)) p
  | [], p, h, _ => h
  | y :: r, p, h, hx => dvd_cont0 r _ (Int.dvd_coe_gcd h (hx y (List.mem_cons_self ..))) fun x h => hx x (List.mem_cons_of_mem _ h)
theorem cont_nn0 : ∀ (xs : List Int) (p : Int), 0 ≤ p → 0 ≤ xs.foldl (fun p x => (Int.gcd p x : Int)) p
  | [], _, h => h
  | y :: r, p, _ => cont_nn0 r _ (Int.natCast_nonneg _)
theorem cont_nn (xs : List Int) : 0 ≤ cont xs := cont_nn0 xs 0 (Int.le_refl 0)
theorem unit_of {c : Int} (h : c ∣ 1) : c.natAbs = 1 := by
  obtain ⟨k, hk⟩ := h
  have z := congrArg Int.natAbs hk
  rw [Int.natAbs_mul] at z
  exact Nat.dvd_one.mp ⟨_, z⟩
/-- no number but 1 and -1 divides all -/
def Prim (f : Nat → Int) : Prop := ∀ c : Int, (∀ i, c ∣ f i) → c.natAbs = 1
theorem low_spec {xs : List Int} (hne : ∃ i, g xs i ≠ 0) : (∃ c : Int, c ≠ 0 ∧ ∀ i, c * g (low xs) i = g xs i) ∧ Prim (g (low xs)) := by
  have hc0 : cont xs ≠ 0 := by
    intro z
    obtain ⟨i, hi⟩ := hne
    have h := cont_dvd xs i
    rw [z] at h
    exact hi (Int.zero_dvd.mp h)
  have hcn := cont_nn xs
  have mem_dvd : ∀ c : Int, (∀ i, c ∣ g xs i) → c ∣ cont xs := fun c h => dvd_cont0 xs 0 (Int.dvd_zero c) fun x hx => by
    obtain ⟨i, hi⟩ := List.mem_iff_getElem?.mp hx
    rw [← g_at hi]
    exact h i
  unfold low
  split
  · rename_i hlt
    have h1 : cont xs = 1 := by omega
    refine ⟨⟨1, by decide, fun i => Int.one_mul _⟩, fun c h => ?_⟩
    have z := mem_dvd c h
    rw [h1] at z
    exact unit_of z
  · have key : ∀ i, cont xs * g (xs.map (· / cont xs)) i = g xs i := fun i => by
      by_cases hi : i < xs.length
      · have e : g (xs.map (· / cont xs)) i = g xs i / cont xs := g_at (by rw [List.getElem?_map, g_lt hi]; rfl)
        rw [e]
        exact Int.mul_ediv_cancel' (cont_dvd xs i)
      · rw [g_ge (by simpa using hi), g_ge (by omega)]
        simp
    refine ⟨⟨cont xs, hc0, key⟩, fun c h => ?_⟩
    have z : c * cont xs ∣ cont xs := by
      apply mem_dvd
      intro i
      rw [← key i, Int.mul_comm c]
      exact Int.mul_dvd_mul_left _ (h i)
    obtain ⟨k, hk⟩ := z
    have e : c * k = 1 := by
      have : cont xs * (c * k) = cont xs * 1 := by rw [Int.mul_one, ← Int.mul_assoc, Int.mul_comm (cont xs) c, ← hk]
      exact Int.eq_of_mul_eq_mul_left hc0 this
    exact unit_of ⟨k, e.symm⟩
/-! ### one clearing -/
structure Clr1 (r r' b : List Int) (l : Nat) : Prop where
  len : r'.length = r.length
  lin : ∃ c p q : Int, c ≠ 0 ∧ p ≠ 0 ∧ ∀ i, c * g r' i = p * g r i - q * g b i
  at0 : g r' l = 0
  prim : Prim (g r')
theorem clr1_spec {r b : List Int} {l : Nat} (hl : b.length = r.length) (hb : g b l ≠ 0) (hr : Prim (g r)) (own : ∃ i, g r i ≠ 0 ∧ g b i = 0) : Clr1 r (clr1 r (l, b)) b l := by
  have llt : l < r.length := by
    apply Classical.byContradiction
    intro z
    exact hb (g_ge (by omega))
  unfold clr1
  by_cases h : g r l = 0
  · rw [if_pos h]
    exact ⟨rfl, ⟨1, 1, 0, by decide, by decide, fun i => by omega⟩, h, hr⟩
  · rw [if_neg h]
    have zg : ∀ i, g (List.zipWith (fun u v => g b l * u - g r l * v) r b) i = g b l * g r i - g r l * g b i := fun i => by
      by_cases hi : i < r.length
      · exact g_at (by rw [List.getElem?_zipWith, g_lt hi, g_lt (by omega)])
      · rw [g_ge (by rw [List.length_zipWith]; omega), g_ge (xs := r) (i := i) (by omega), g_ge (xs := b) (i := i) (by omega)]
        simp
    obtain ⟨i, h1, h2⟩ := own
    have ne : ∃ i, g (List.zipWith (fun u v => g b l * u - g r l * v) r b) i ≠ 0 := ⟨i, by
      rw [zg, h2, Int.mul_zero, Int.sub_zero]
      exact Int.mul_ne_zero hb h1⟩
    obtain ⟨⟨c, c0, hc⟩, pr⟩ := low_spec ne
    refine ⟨by rw [low_len, List.length_zipWith, hl, Nat.min_self], ⟨c, g b l, g r l, c0, hb, fun i => by rw [hc, zg]⟩, ?_, pr⟩
    have z := hc l
    rw [zg, Int.mul_comm (g r l), Int.sub_self] at z
    rcases Int.mul_eq_zero.mp z with e | e
    · exact absurd e c0
    · exact e
/-! ### the rows -/
section
variable (w : Nat) (vs : List (List Int))
abbrev uu (k i : Nat) : Int := g (vs.getD k []) i
/-- a row that is put together of the first t + 1 vectors, the last one really -/
structure RowB (t : Nat) (r : List Int) : Prop where
  len : r.length = w + vs.length
  comb : ∀ i, i < w → g r i = S vs.length (fun k => g r (w + k) * uu vs k i)
  own : g r (w + t) ≠ 0
  up : ∀ k, t < k → k < vs.length → g r (w + k) = 0
  prim : Prim (g r)
end
section
variable {w : Nat} {vs : List (List Int)}
theorem init_row (hw : ∀ v ∈ vs, v.length = w) {t : Nat} (ht : t < vs.length) : RowB w vs t (vs.getD t [] ++ marks vs.length t) := by
  have hv : (vs.getD t []).length = w := by
    rw [List.getD_eq_getElem?_getD, List.getElem?_eq_getElem ht]
    exact hw _ (List.getElem_mem ht)
  have lo : ∀ i, i < w → g (vs.getD t [] ++ marks vs.length t) i = uu vs t i := fun i hi => by
    show (_ : List Int).getD i 0 = _
    rw [List.getD_eq_getElem?_getD, List.getElem?_append_left (by omega), ← List.getD_eq_getElem?_getD]
    rfl
  have hi : ∀ k, k < vs.length → g (vs.getD t [] ++ marks vs.length t) (w + k) = if k = t then 1 else 0 := fun k hk => by
    apply g_at
    rw [List.getElem?_append_right (by omega), hv, Nat.add_sub_cancel_left]
    unfold marks
    rw [List.getElem?_map, List.getElem?_range hk]
    rfl
  refine ⟨by rw [List.length_append, hv]; simp [marks], fun i h => ?_, ?_, fun k h1 h2 => ?_, fun c h => ?_⟩
  · rw [lo i h, S_single ht _ (fun k hk ne => by rw [hi k hk, if_neg ne, Int.zero_mul]), hi t ht, if_pos rfl, Int.one_mul]
  · rw [hi t ht, if_pos rfl]
    decide
  · rw [hi k h2, if_neg (by omega)]
  · have z := h (w + t)
    rw [hi t ht, if_pos rfl] at z
    exact unit_of z
theorem RowB.clr {t s : Nat} {r r' b : List Int} {l : Nat} (hr : RowB w vs t r) (hb : RowB w vs s b) (hs : s < t) (ht : t < vs.length) (h : Clr1 r r' b l) : RowB w vs t r' := by
  obtain ⟨c, p, q, c0, p0, lin⟩ := h.lin
  refine ⟨by rw [h.len, hr.len], fun i hi => ?_, ?_, fun k h1 h2 => ?_, h.prim⟩
  · apply Int.eq_of_mul_eq_mul_left c0
    rw [lin i, hr.comb i hi, hb.comb i hi, ← S_mul, ← S_mul, ← S_sub, ← S_mul]
    apply S_congr
    intro k _
    rw [← Int.mul_assoc c, lin (w + k), Int.sub_mul, Int.mul_assoc, Int.mul_assoc]
  · intro z
    have e := lin (w + t)
    rw [z, hb.up t hs ht, Int.mul_zero, Int.mul_zero, Int.sub_zero] at e
    exact Int.mul_ne_zero p0 hr.own e.symm
  · have e := lin (w + k)
    rw [hr.up k h1 h2, hb.up k (by omega) h2, Int.mul_zero, Int.mul_zero, Int.sub_zero] at e
    rcases Int.mul_eq_zero.mp e with z | z
    · exact absurd z c0
    · exact z
/-- the lead of the row at t -/
abbrev la (w : Nat) (vs : List (List Int)) (t : Nat) : Nat := ld ((row w vs t).take w)
theorem take_g {xs : List Int} {n i : Nat} (h : i < n) : g (xs.take n) i = g xs i := by
  unfold g
  rw [List.getD_eq_getElem?_getD, List.getD_eq_getElem?_getD, List.getElem?_take_of_lt h]
theorem kp_at {t s : Nat} (h : s < t) : (kp w vs t)[s]? = some (la w vs s, row w vs s) := by
  induction t with
  | zero => omega
  | succ t ih =>
    rw [kp_succ]
    by_cases e : s = t
    · subst e
      rw [List.getElem?_append_right (by rw [kp_len]; exact Nat.le_refl _), kp_len, Nat.sub_self]
      rfl
    · rw [List.getElem?_append_left (by rw [kp_len]; omega)]
      exact ih (by omega)
/-- a row, and its noughts at the leads ahead -/
structure RowP (w : Nat) (vs : List (List Int)) (t : Nat) (r : List Int) (n : Nat) : Prop where
  b : RowB w vs t r
  z : ∀ s, s < n → g r (la w vs s) = 0
theorem row_ok (hw : ∀ v ∈ vs, v.length = w) : ∀ t, t < vs.length → (∀ s, s < t → la w vs s < w) → RowP w vs t (row w vs t) t := by
  intro t
  induction t using Nat.strongRecOn with
  | _ t ih =>
    intro ht hla
    have rows : ∀ s, s < t → RowP w vs s (row w vs s) s := fun s hs => ih s hs (by omega) fun k hk => hla k (by omega)
    have lead_ne : ∀ s, s < t → g (row w vs s) (la w vs s) ≠ 0 := fun s hs => by
      have h := hla s hs
      have hl : ((row w vs s).take w).length = w := by rw [List.length_take, (rows s hs).b.len]; omega
      have z := ld_ne (xs := (row w vs s).take w) (by rw [hl]; exact h)
      rw [take_g h] at z
      exact z
    have step : ∀ n, n ≤ t → RowP w vs t (clr (vs.getD t [] ++ marks vs.length t) ((kp w vs t).take n)) n := by
      intro n
      induction n with
      | zero => exact fun _ => ⟨init_row hw ht, fun s hs => absurd hs (Nat.not_lt_zero s)⟩
      | succ n ihn =>
        intro hn
        have p := ihn (by omega)
        have rn := rows n (by omega)
        rw [clr_take (kp_at (by omega))]
        have c := clr1_spec (r := clr (vs.getD t [] ++ marks vs.length t) ((kp w vs t).take n)) (b := row w vs n) (l := la w vs n) (by rw [rn.b.len, p.b.len]) (lead_ne n (by omega)) p.b.prim ⟨w + t, p.b.own, rn.b.up t (by omega) ht⟩
        refine ⟨p.b.clr rn.b (by omega) ht c, fun s hs => ?_⟩
        by_cases e : s = n
        · rw [e]
          exact c.at0
        · obtain ⟨cc, pp, qq, c0, _, lin⟩ := c.lin
          have z := lin (la w vs s)
          rw [p.z s (by omega), rn.z s (by omega), Int.mul_zero, Int.mul_zero, Int.sub_zero] at z
          rcases Int.mul_eq_zero.mp z with y | y
          · exact absurd y c0
          · exact y
    have f := step t (Nat.le_refl t)
    rw [show (kp w vs t).take t = kp w vs t from List.take_of_length_le (by rw [kp_len]; exact Nat.le_refl t)] at f
    exact f
/-- all that is told of the first t rows, each with a lead -/
structure Ech (w : Nat) (vs : List (List Int)) (t : Nat) : Prop where
  tv : t ≤ vs.length
  rp : ∀ s, s < t → RowP w vs s (row w vs s) s
  lt : ∀ s, s < t → la w vs s < w
  ne : ∀ s, s < t → g (row w vs s) (la w vs s) ≠ 0
theorem ech_of (hw : ∀ v ∈ vs, v.length = w) {t : Nat} (ht : t ≤ vs.length) (h : ∀ s, s < t → la w vs s < w) : Ech w vs t := by
  have rows : ∀ s, s < t → RowP w vs s (row w vs s) s := fun s hs => row_ok hw s (by omega) fun k hk => h k (by omega)
  refine ⟨ht, rows, h, fun s hs => ?_⟩
  have hl : ((row w vs s).take w).length = w := by rw [List.length_take, (rows s hs).b.len]; omega
  have z := ld_ne (xs := (row w vs s).take w) (by rw [hl]; exact h s hs)
  rw [take_g (h s hs)] at z
  exact z
theorem RowB.comb' {t : Nat} {r : List Int} (h : RowB w vs t r) (ht : t < vs.length) {i : Nat} (hi : i < w) : g r i = S (t + 1) (fun k => g r (w + k) * uu vs k i) := by
  rw [h.comb i hi]
  exact S_cut (by omega) _ fun k h1 h2 => by rw [h.up k (by omega) h2, Int.zero_mul]
/-- what is put together of the first t vectors and is nought at their leads is nought -/
theorem Ech.zero {t : Nat} (h : Ech w vs t) : ∀ T, T ≤ t → ∀ z : Nat → Int, (∀ s, s < T → S T (fun k => z k * uu vs k (la w vs s)) = 0) → ∀ i, i < w → S T (fun k => z k * uu vs k i) = 0
  | 0, _, _, _, _, _ => rfl
  | T + 1, hT, z, hz, i, hi => by
    have hTt : T < t := by omega
    have hTv : T < vs.length := by have := h.tv; omega
    have rT := h.rp T hTt
    -- m * w - z_T * b
    have key : ∀ j, j < w → S T (fun k => (g (row w vs T) (w + T) * z k - z T * g (row w vs T) (w + k)) * uu vs k j) = g (row w vs T) (w + T) * S (T + 1) (fun k => z k * uu vs k j) - z T * g (row w vs T) j := fun j hj => by
      rw [rT.b.comb' hTv hj]
      show _ = g (row w vs T) (w + T) * (S T (fun k => z k * uu vs k j) + z T * uu vs T j) - z T * (S T (fun k => g (row w vs T) (w + k) * uu vs k j) + g (row w vs T) (w + T) * uu vs T j)
      rw [Int.mul_add, Int.mul_add, ← S_mul, ← S_mul]
      have e : S T (fun k => (g (row w vs T) (w + T) * z k - z T * g (row w vs T) (w + k)) * uu vs k j) = S T (fun k => g (row w vs T) (w + T) * (z k * uu vs k j)) - S T (fun k => z T * (g (row w vs T) (w + k) * uu vs k j)) := by
        rw [← S_sub]
        apply S_congr
        intro k _
        rw [Int.sub_mul, Int.mul_assoc, Int.mul_assoc]
      rw [e]
      have e2 : g (row w vs T) (w + T) * (z T * uu vs T j) = z T * (g (row w vs T) (w + T) * uu vs T j) := by rw [← Int.mul_assoc, ← Int.mul_assoc, Int.mul_comm (g (row w vs T) (w + T))]
      rw [e2]
      omega
    have z1 : ∀ j, j < w → S T (fun k => (g (row w vs T) (w + T) * z k - z T * g (row w vs T) (w + k)) * uu vs k j) = 0 := h.zero T (by omega) _ fun s hs => by
      rw [key _ (h.lt s (by omega)), hz s (by omega), rT.z s hs]
      simp
    have zT : z T = 0 := by
      have e := key _ (h.lt T hTt)
      rw [z1 _ (h.lt T hTt), hz T (by omega), Int.mul_zero, Int.zero_sub] at e
      have e3 : z T * g (row w vs T) (la w vs T) = 0 := by omega
      rcases Int.mul_eq_zero.mp e3 with y | y
      · exact y
      · exact absurd y (h.ne T hTt)
    have e := key i hi
    rw [z1 i hi, zT, Int.zero_mul, Int.sub_zero] at e
    rcases Int.mul_eq_zero.mp e.symm with y | y
    · exact absurd y rT.b.own
    · exact y
/-- the first t vectors hang on nothing -/
theorem Ech.indep {t : Nat} (h : Ech w vs t) : ∀ T, T ≤ t → ∀ x : Nat → Int, (∀ i, i < w → S T (fun k => x k * uu vs k i) = 0) → ∀ k, k < T → x k = 0
  | 0, _, _, _, k, hk => absurd hk (Nat.not_lt_zero k)
  | T + 1, hT, x, hx, k, hk => by
    have hTt : T < t := by omega
    have hTv : T < vs.length := by have := h.tv; omega
    have rT := h.rp T hTt
    have key : ∀ j, j < w → S T (fun k => (g (row w vs T) (w + T) * x k - x T * g (row w vs T) (w + k)) * uu vs k j) = - (x T * g (row w vs T) j) := fun j hj => by
      rw [rT.b.comb' hTv hj]
      have h0 := hx j hj
      have h0 : S T (fun k => x k * uu vs k j) + x T * uu vs T j = 0 := h0
      show _ = - (x T * (S T (fun k => g (row w vs T) (w + k) * uu vs k j) + g (row w vs T) (w + T) * uu vs T j))
      have e : S T (fun k => (g (row w vs T) (w + T) * x k - x T * g (row w vs T) (w + k)) * uu vs k j) = g (row w vs T) (w + T) * S T (fun k => x k * uu vs k j) - x T * S T (fun k => g (row w vs T) (w + k) * uu vs k j) := by
        rw [← S_mul, ← S_mul, ← S_sub]
        apply S_congr
        intro k _
        rw [Int.sub_mul, Int.mul_assoc, Int.mul_assoc]
      have e2 : S T (fun k => x k * uu vs k j) = - (x T * uu vs T j) := by omega
      rw [e, e2, Int.mul_add, Int.mul_neg, ← Int.mul_assoc (g (row w vs T) (w + T)), ← Int.mul_assoc (x T) (g (row w vs T) (w + T)), Int.mul_comm (g (row w vs T) (w + T)) (x T)]
      omega
    have z1 := h.zero T (by omega) _ (fun s hs => by rw [key _ (h.lt s (by omega)), rT.z s hs]; simp)
    have xT : x T = 0 := by
      have e := key _ (h.lt T hTt)
      rw [z1 _ (h.lt T hTt)] at e
      have e3 : x T * g (row w vs T) (la w vs T) = 0 := by omega
      rcases Int.mul_eq_zero.mp e3 with y | y
      · exact y
      · exact absurd y (h.ne T hTt)
    by_cases e : k = T
    · rw [e]
      exact xT
    · refine h.indep T (by omega) x (fun i hi => ?_) k (by omega)
      have h0 := hx i hi
      have h0 : S T (fun k => x k * uu vs k i) + x T * uu vs T i = 0 := h0
      rw [xT, Int.zero_mul, Int.add_zero] at h0
      exact h0
/-! ### there is a row without a lead -/
theorem pigeon : ∀ (n : Nat) (f : Nat → Nat), (∀ i, i ≤ n → f i < n) → ∃ i j, i < j ∧ j ≤ n ∧ f i = f j
  | 0, f, h => absurd (h 0 (Nat.le_refl 0)) (Nat.not_lt_zero _)
  | n + 1, f, h => by
    by_cases hh : ∃ i, i ≤ n ∧ f i = f (n + 1)
    · obtain ⟨i, h1, h2⟩ := hh
      exact ⟨i, n + 1, by omega, Nat.le_refl _, h2⟩
    · have hne : ∀ i, i ≤ n → f i ≠ f (n + 1) := fun i hi e => hh ⟨i, hi, e⟩
      obtain ⟨i, j, h1, h2, h3⟩ := pigeon n (fun i => if f i < f (n + 1) then f i else f i - 1) (fun i hi => by
        have a := h i (by omega)
        have b := h (n + 1) (Nat.le_refl _)
        have c := hne i hi
        show (if f i < f (n + 1) then f i else f i - 1) < n
        split <;> omega)
      refine ⟨i, j, h1, by omega, ?_⟩
      have a := hne i (by omega)
      have b := hne j (by omega)
      have h3 : (if f i < f (n + 1) then f i else f i - 1) = (if f j < f (n + 1) then f j else f j - 1) := h3
      split at h3 <;> split at h3 <;> omega
theorem least {P : Nat → Prop} : ∀ n, P n → ∃ m, m ≤ n ∧ P m ∧ ∀ k, k < m → ¬ P k := by
  intro n
  induction n using Nat.strongRecOn with
  | _ n ih =>
    intro h
    by_cases q : ∃ k, k < n ∧ P k
    · obtain ⟨k, h1, h2⟩ := q
      obtain ⟨m, a, b, c⟩ := ih k h1 h2
      exact ⟨m, by omega, b, c⟩
    · exact ⟨n, Nat.le_refl n, h, fun k hk hp => q ⟨k, hk, hp⟩⟩
theorem has_d (hw : ∀ v ∈ vs, v.length = w) (hm : vs.length = w + 1) : ∃ d, d ≤ w ∧ ¬ la w vs d < w ∧ Ech w vs d := by
  have ex : ∃ d, d ≤ w ∧ ¬ la w vs d < w := by
    apply Classical.byContradiction
    intro z
    have all : ∀ s, s < w + 1 → la w vs s < w := fun s hs => by
      apply Classical.byContradiction
      intro y
      exact z ⟨s, by omega, y⟩
    have e := ech_of hw (t := w + 1) (by omega) all
    obtain ⟨i, j, h1, h2, h3⟩ := pigeon w (la w vs) fun i hi => all i (by omega)
    have a := (e.rp j (by omega)).z i h1
    rw [h3] at a
    exact e.ne j (by omega) a
  obtain ⟨d, h1, h2⟩ := ex
  obtain ⟨m, a, b, c⟩ := least (P := fun d => ¬ la w vs d < w) d h2
  exact ⟨m, by omega, b, ech_of hw (by omega) fun s hs => Classical.byContradiction fun y => c s hs y⟩
end
end Ma
/-! Gauss: the least relation, in lowest terms, begins with a unit -/
namespace Ma
theorem S_rev (n : Nat) (f : Nat → Int) : S n (fun k => f (n - 1 - k)) = S n f := by
  induction n with
  | zero => rfl
  | succ n ih =>
    rw [S_succ_left]
    show f (n + 1 - 1 - 0) + S n (fun k => f (n + 1 - 1 - (k + 1))) = S n f + f n
    have e : S n (fun k => f (n + 1 - 1 - (k + 1))) = S n (fun k => f (n - 1 - k)) := S_congr fun k _ => by
      congr 1
      omega
    rw [e, ih]
    show f n + S n f = S n f + f n
    omega
theorem S_split {n i : Nat} (hi : i < n) (f : Nat → Int) : S n f = f i + S n (fun a => if a = i then 0 else f a) := by
  have e : S n (fun a => if a = i then f a else 0) = f i := by
    rw [S_single hi _ (fun a _ ne => if_neg ne), if_pos rfl]
  rw [← e, ← S_add]
  apply S_congr
  intro a _
  by_cases h : a = i
  · simp [h]
  · simp [h]
theorem S_dvd {n : Nat} {c : Int} {f : Nat → Int} (h : ∀ a, a < n → c ∣ f a) : c ∣ S n f := by
  induction n with
  | zero => exact Int.dvd_zero c
  | succ n ih => exact Int.dvd_add (ih fun a ha => h a (by omega)) (h n (by omega))
theorem S_dvd_one {n i : Nat} {c : Int} {f : Nat → Int} (hi : i < n) (h : ∀ a, a < n → a ≠ i → c ∣ f a) (hs : c ∣ S n f) : c ∣ f i := by
  rw [S_split hi] at hs
  have z : c ∣ S n (fun a => if a = i then 0 else f a) := S_dvd fun a ha => by
    show c ∣ if a = i then 0 else f a
    split
    · exact Int.dvd_zero c
    · exact h a ha (by assumption)
  exact (Int.dvd_add_left z).mp hs
def conv (Q G : Nat → Int) (k : Nat) : Int := S (k + 1) (fun a => Q a * G (k - a))
def IsP (p : Nat) : Prop := 2 ≤ p ∧ ∀ a, a ∣ p → a = 1 ∨ a = p
theorem has_prime {n : Nat} (h : 2 ≤ n) : ∃ p, IsP p ∧ p ∣ n := by
  obtain ⟨m, _, ⟨h1, h2⟩, h3⟩ := least (P := fun k => 2 ≤ k ∧ k ∣ n) n ⟨h, Nat.dvd_refl n⟩
  refine ⟨m, ⟨h1, fun a ha => ?_⟩, h2⟩
  by_cases e : a = m
  · exact .inr e
  · left
    have hm : a ≤ m := Nat.le_of_dvd (by omega) ha
    have hp : 0 < a := Nat.pos_of_dvd_of_pos ha (by omega)
    apply Classical.byContradiction
    intro z
    exact h3 a (by omega) ⟨by omega, Nat.dvd_trans ha h2⟩
theorem IsP.mul {p : Nat} (h : IsP p) {x y : Int} (hd : (p : Int) ∣ x * y) : (p : Int) ∣ x ∨ (p : Int) ∣ y := by
  rw [Int.ofNat_dvd_left, Int.natAbs_mul] at hd
  rw [Int.ofNat_dvd_left, Int.ofNat_dvd_left]
  by_cases hx : p ∣ x.natAbs
  · exact .inl hx
  · right
    have hg : Nat.gcd p x.natAbs = 1 := by
      rcases h.2 _ (Nat.gcd_dvd_left p x.natAbs) with e | e
      · exact e
      · exact absurd (by rw [← e]; exact Nat.gcd_dvd_right p x.natAbs) hx
    exact Nat.Coprime.dvd_of_dvd_mul_left (show Nat.Coprime p x.natAbs from hg) hd
theorem gauss_p {p : Nat} (hp : IsP p) {Q G : Nat → Int} (hQ : ¬ ∀ i, (p : Int) ∣ Q i) (h : ∀ k, (p : Int) ∣ conv Q G k) : ∀ j, (p : Int) ∣ G j := by
  have ex : ∃ i, ¬ (p : Int) ∣ Q i := Classical.byContradiction fun z => hQ fun i => Classical.byContradiction fun y => z ⟨i, y⟩
  obtain ⟨i0, hi0⟩ := ex
  obtain ⟨i, _, hi, hl⟩ := least (P := fun i => ¬ (p : Int) ∣ Q i) i0 hi0
  intro j
  induction j using Nat.strongRecOn with
  | _ j ih =>
    have z := S_dvd_one (i := i) (n := i + j + 1) (f := fun a => Q a * G (i + j - a)) (by omega) (fun a ha ne => ?_) (h (i + j))
    · rcases hp.mul z with y | y
      · exact absurd y hi
      · rw [Nat.add_sub_cancel_left] at y
        exact y
    · rcases Nat.lt_or_gt_of_ne ne with y | y
      · exact Int.dvd_trans (Classical.byContradiction fun q => hl a y q) (Int.dvd_mul_right _ _)
      · exact Int.dvd_trans (ih (i + j - a) (by omega)) (Int.dvd_mul_left _ _)
theorem gauss_c {Q : Nat → Int} (hQ : Prim Q) : ∀ (n : Nat), 0 < n → ∀ G : Nat → Int, (∀ k, (n : Int) ∣ conv Q G k) → ∀ j, (n : Int) ∣ G j := by
  intro n
  induction n using Nat.strongRecOn with
  | _ n ih =>
    intro hn G h j
    by_cases h1 : n = 1
    · rw [h1]
      exact Int.one_dvd _
    · obtain ⟨p, hp, q, rfl⟩ := has_prime (n := n) (by omega)
      have hp2 := hp.1
      have pG := gauss_p hp (G := G) (fun z => by
        have := hQ (p : Int) z
        simp at this
        omega) (fun k => Int.dvd_trans (by rw [Int.natCast_mul]; exact Int.dvd_mul_right _ _) (h k))
      have p0 : (p : Int) ≠ 0 := by omega
      have eG : ∀ j, G j = p * (G j / p) := fun j => (Int.mul_ediv_cancel' (pG j)).symm
      have q0 : 0 < q := by
        rcases Nat.eq_zero_or_pos q with z | z
        · rw [z] at hn
          simp at hn
        · exact z
      have hc : ∀ k, conv Q G k = p * conv Q (fun j => G j / p) k := fun k => by
        unfold conv
        rw [← S_mul]
        apply S_congr
        intro a _
        rw [← Int.mul_assoc, Int.mul_comm (p : Int), Int.mul_assoc, ← eG]
      have hq := ih q (by
        have : 2 * q ≤ p * q := Nat.mul_le_mul_right q hp2
        omega) q0 (fun j => G j / p) (fun k => by
        have z := h k
        rw [hc, Int.natCast_mul] at z
        exact Int.dvd_of_mul_dvd_mul_left p0 z)
      rw [eG j, Int.natCast_mul]
      exact Int.mul_dvd_mul_left _ (hq j)
section
variable {σ : Nat → Nat → Int} {w d : Nat} {m : Nat → Int}
def Qr (d : Nat) (m : Nat → Int) (k : Nat) : Int := if k ≤ d then m (d - k) else 0
def Ann (σ : Nat → Nat → Int) (w : Nat) (F : Nat → Int) (n : Nat) : Prop := ∀ t i, i < w → S n (fun k => F k * σ (t + (n - 1 - k)) i) = 0
theorem conv_zero (Q : Nat → Int) (k : Nat) : conv Q (fun _ => 0) k = 0 := by
  unfold conv
  rw [S_congr (h := fun _ => 0) (fun a _ => Int.mul_zero _), S_zero]
theorem pd (H1 : ∀ t i, i < w → S (d + 1) (fun k => m k * σ (t + k) i) = 0) (H2 : ∀ x : Nat → Int, (∀ i, i < w → S d (fun k => x k * σ k i) = 0) → ∀ k, k < d → x k = 0) :
    ∀ (N : Nat) (F : Nat → Int), (∀ k, N + d ≤ k → F k = 0) → Ann σ w F (N + d) → ∃ G : Nat → Int, ∀ k, m d ^ N * F k = conv (Qr d m) G k
  | 0, F, hF, hA => by
    refine ⟨fun _ => 0, fun k => ?_⟩
    rw [conv_zero, Int.pow_zero, Int.one_mul]
    by_cases hk : d ≤ k
    · exact hF k (by omega)
    · have z := H2 (fun k => F (d - 1 - k)) (fun i hi => ?_) (d - 1 - k) (by omega)
      · have e : d - 1 - (d - 1 - k) = k := by omega
        rw [← e]
        exact z
      · have a := hA 0 i hi
        rw [← a, Nat.zero_add, ← S_rev]
        apply S_congr
        intro k hk
        congr 2
        · omega
        · omega
  | N + 1, F, hF, hA => by
    obtain ⟨G, hG⟩ := pd H1 H2 N (fun k => m d * F (k + 1) - F 0 * Qr d m (k + 1)) (fun k hk => by
      show m d * F (k + 1) - F 0 * Qr d m (k + 1) = 0
      rw [hF (k + 1) (by omega)]
      unfold Qr
      rw [if_neg (by omega)]
      simp) (fun t i hi => by
      have a := hA t i hi
      rw [show N + 1 + d = N + d + 1 by omega, S_succ_left] at a
      have a : F 0 * σ (t + (N + d)) i + S (N + d) (fun k => F (k + 1) * σ (t + (N + d - (k + 1))) i) = 0 := a
      have b := H1 (t + N) i hi
      rw [← S_rev, S_succ_left] at b
      have b : m d * σ (t + N + d) i + S d (fun k => m (d - (k + 1)) * σ (t + N + (d - (k + 1))) i) = 0 := b
      have c : S (N + d) (fun k => Qr d m (k + 1) * σ (t + (N + d - (k + 1))) i) = S d (fun k => m (d - (k + 1)) * σ (t + N + (d - (k + 1))) i) := by
        rw [S_cut (k := d) (by omega) _ (fun k h1 h2 => by
          show Qr d m (k + 1) * _ = 0
          unfold Qr
          rw [if_neg (by omega), Int.zero_mul])]
        apply S_congr
        intro k hk
        unfold Qr
        rw [if_pos (by omega)]
        congr 2
        omega
      have e : S (N + d) (fun k => (m d * F (k + 1) - F 0 * Qr d m (k + 1)) * σ (t + (N + d - 1 - k)) i) = m d * S (N + d) (fun k => F (k + 1) * σ (t + (N + d - (k + 1))) i) - F 0 * S (N + d) (fun k => Qr d m (k + 1) * σ (t + (N + d - (k + 1))) i) := by
        rw [← S_mul, ← S_mul, ← S_sub]
        apply S_congr
        intro k hk
        rw [show N + d - 1 - k = N + d - (k + 1) by omega, Int.sub_mul, Int.mul_assoc, Int.mul_assoc]
      rw [e, c]
      have e1 : S (N + d) (fun k => F (k + 1) * σ (t + (N + d - (k + 1))) i) = - (F 0 * σ (t + (N + d)) i) := by omega
      have e2 : S d (fun k => m (d - (k + 1)) * σ (t + N + (d - (k + 1))) i) = - (m d * σ (t + N + d) i) := by omega
      rw [e1, e2, Nat.add_assoc, Int.mul_neg, Int.mul_neg, ← Int.mul_assoc, ← Int.mul_assoc, Int.mul_comm (m d) (F 0)]
      omega)
    refine ⟨fun k => match k with | 0 => m d ^ N * F 0 | k + 1 => G k, fun k => ?_⟩
    cases k with
    | zero =>
      unfold conv
      show m d ^ (N + 1) * F 0 = 0 + Qr d m 0 * (m d ^ N * F 0)
      unfold Qr
      rw [if_pos (by omega), Int.pow_succ, Nat.sub_zero, Int.zero_add, ← Int.mul_assoc, Int.mul_comm (m d ^ N)]
    | succ k =>
      have h := hG k
      have h : m d ^ N * (m d * F (k + 1) - F 0 * Qr d m (k + 1)) = conv (Qr d m) G k := h
      have e : conv (Qr d m) (fun k => match k with | 0 => m d ^ N * F 0 | k + 1 => G k) (k + 1) = conv (Qr d m) G k + Qr d m (k + 1) * (m d ^ N * F 0) := by
        unfold conv
        show S (k + 1) _ + _ = S (k + 1) _ + _
        congr 1
        · apply S_congr
          intro a ha
          rw [show k + 1 - a = (k - a) + 1 by omega]
        · show Qr d m (k + 1) * (fun k => match k with | 0 => m d ^ N * F 0 | k + 1 => G k) (k + 1 - (k + 1)) = _
          rw [Nat.sub_self]
      rw [e, ← h, Int.pow_succ, Int.mul_sub, Int.mul_assoc]
      have : Qr d m (k + 1) * (m d ^ N * F 0) = m d ^ N * (F 0 * Qr d m (k + 1)) := by rw [Int.mul_comm, Int.mul_assoc]
      rw [this]
      omega
/-- the number ahead of the least relation, in lowest terms, is 1 or -1 -/
theorem gauss (H1 : ∀ t i, i < w → S (d + 1) (fun k => m k * σ (t + k) i) = 0) (H2 : ∀ x : Nat → Int, (∀ i, i < w → S d (fun k => x k * σ k i) = 0) → ∀ k, k < d → x k = 0)
    (H4 : ∀ c : Int, (∀ k, k ≤ d → c ∣ m k) → c.natAbs = 1) (H5 : m d ≠ 0) {e : Nat} (he : d ≤ e) {f : Nat → Int} (H3 : ∀ t i, i < w → σ (t + e) i = S e (fun k => f k * σ (t + k) i)) : (m d).natAbs = 1 := by
  obtain ⟨N, hN⟩ : ∃ N, N + d = e + 1 := ⟨e + 1 - d, by omega⟩
  have prim : Prim (Qr d m) := fun c h => H4 c fun k hk => by
    have z := h (d - k)
    unfold Qr at z
    rw [if_pos (by omega), show d - (d - k) = k by omega] at z
    exact z
  obtain ⟨G, hG⟩ := pd H1 H2 N (fun k => if k = 0 then 1 else if k ≤ e then - f (e - k) else 0) (fun k hk => by
      show (if k = 0 then (1 : Int) else if k ≤ e then - f (e - k) else 0) = 0
      rw [if_neg (by omega), if_neg (by omega)]) (fun t i hi => by
      rw [hN, S_succ_left]
      have h := H3 t i hi
      rw [← S_rev] at h
      have e2 : S e (fun k => (if k + 1 = 0 then (1 : Int) else if k + 1 ≤ e then - f (e - (k + 1)) else 0) * σ (t + (e + 1 - 1 - (k + 1))) i) = - S e (fun k => f (e - 1 - k) * σ (t + (e - 1 - k)) i) := by
        rw [← S_neg]
        apply S_congr
        intro k hk
        rw [if_neg (by omega), if_pos (by omega), Int.neg_mul, show e - (k + 1) = e - 1 - k by omega, show e + 1 - 1 - (k + 1) = e - 1 - k by omega]
      rw [e2]
      show (if 0 = 0 then (1 : Int) else _) * σ (t + (e + 1 - 1 - 0)) i + - _ = 0
      rw [if_pos rfl]
      rw [show e + 1 - 1 - 0 = e by omega, h]
      omega)
  have hp : 0 < (m d ^ N).natAbs := by
    rw [Int.natAbs_pow]
    exact Nat.pow_pos (by omega)
  have dv := gauss_c prim _ hp G (fun k => by
    rw [← hG k, Int.natAbs_dvd]
    exact Int.dvd_mul_right _ _)
  have g0 := hG 0
  have g0 : m d ^ N * 1 = 0 + Qr d m 0 * G 0 := g0
  have q0 : Qr d m 0 = m d := by
    unfold Qr
    rw [if_pos (by omega), Nat.sub_zero]
  obtain ⟨h, hh⟩ := dv 0
  rw [q0, Int.mul_one, Int.zero_add] at g0
  have key : (m d ^ N).natAbs = (m d).natAbs * ((m d ^ N).natAbs * h.natAbs) := by
    have z := congrArg Int.natAbs g0
    rw [Int.natAbs_mul, hh, Int.natAbs_mul, Int.natAbs_natCast] at z
    exact z
  have : (m d).natAbs * h.natAbs = 1 := by
    have z : (m d ^ N).natAbs * ((m d).natAbs * h.natAbs) = (m d ^ N).natAbs * 1 := by
      rw [Nat.mul_one, ← Nat.mul_assoc, Nat.mul_comm ((m d ^ N).natAbs), Nat.mul_assoc]
      exact key.symm
    exact Nat.eq_of_mul_eq_mul_left hp z
  exact Nat.dvd_one.mp ⟨_, this.symm⟩
end
end Ma
/-! rows that are led on by a table: there is a relation with 1 ahead -/
namespace Ma
theorem pigeon_list {α : Type} : ∀ (L : List α) (f : Nat → α), (∀ i, f i ∈ L) → ∃ a b, a < b ∧ f a = f b
  | [], f, h => nomatch h 0
  | x :: L, f, h => by
    by_cases e : ∃ i, f i = x
    · obtain ⟨i, hi⟩ := e
      by_cases e2 : ∃ j, i < j ∧ f j = x
      · obtain ⟨j, h1, h2⟩ := e2
        exact ⟨i, j, h1, by rw [hi, h2]⟩
      · obtain ⟨a, b, h1, h2⟩ := pigeon_list L (fun k => f (k + i + 1)) fun k => by
          rcases List.mem_cons.mp (h (k + i + 1)) with y | y
          · exact absurd ⟨k + i + 1, by omega, y⟩ e2
          · exact y
        exact ⟨a + i + 1, b + i + 1, by omega, h2⟩
    · exact pigeon_list L f fun i => by
        rcases List.mem_cons.mp (h i) with y | y
        · exact absurd ⟨i, y⟩ e
        · exact y
def cube (E : List Int) : Nat → List (List Int)
  | 0 => [[]]
  | d + 1 => E.flatMap fun e => (cube E d).map (e :: ·)
theorem mem_cube {E : List Int} : ∀ (l : List Int), (∀ x ∈ l, x ∈ E) → l ∈ cube E l.length
  | [], _ => List.mem_singleton.mpr rfl
  | x :: r, h => List.mem_flatMap.mpr ⟨x, h x (List.mem_cons_self ..), List.mem_map.mpr ⟨r, mem_cube r fun y hy => h y (List.mem_cons_of_mem _ hy), rfl⟩⟩
section
variable {σ : Nat → Nat → Int} {w d : Nat} {A : Nat → Nat → Int} {vs : List (List Int)} {m : Nat → Int}
/-- what holds of some ages holds of later ones -/
theorem ap1 (hA : ∀ t j, j < w → σ (t + 1) j = S w (fun i => σ t i * A i j)) {n : Nat} {z : Nat → Int} {p : Nat → Nat} (h : ∀ i, i < w → S n (fun k => z k * σ (p k) i) = 0) {j : Nat} (hj : j < w) : S n (fun k => z k * σ (p k + 1) j) = 0 := by
  have e : S n (fun k => z k * σ (p k + 1) j) = S n (fun k => S w (fun i => z k * σ (p k) i * A i j)) := S_congr fun k _ => by
    rw [hA (p k) j hj, ← S_mul]
    exact S_congr fun i _ => by rw [Int.mul_assoc]
  rw [e, S_swap]
  have e2 : S w (fun i => S n (fun k => z k * σ (p k) i * A i j)) = S w (fun _ => 0) := S_congr fun i hi => by
    rw [S_mulr, h i hi, Int.zero_mul]
  rw [e2, S_zero]
theorem ap (hA : ∀ t j, j < w → σ (t + 1) j = S w (fun i => σ t i * A i j)) {n : Nat} {z : Nat → Int} {p : Nat → Nat} (h : ∀ i, i < w → S n (fun k => z k * σ (p k) i) = 0) : ∀ t j, j < w → S n (fun k => z k * σ (t + p k) j) = 0
  | 0, j, hj => by
    have z := h j hj
    rw [← z]
    exact S_congr fun k _ => by rw [Nat.zero_add]
  | t + 1, j, hj => by
    have z := ap1 hA (p := fun k => t + p k) (ap hA h t) hj
    rw [← z]
    exact S_congr fun k _ => by rw [show t + 1 + p k = t + p k + 1 by omega]
/-- every age's row, times a power of the number ahead, is put together of the first d -/
theorem span (hA : ∀ t j, j < w → σ (t + 1) j = S w (fun i => σ t i * A i j)) (hm : m d ≠ 0) (H0 : ∀ i, i < w → S (d + 1) (fun k => m k * σ k i) = 0) :
    ∀ t, ∃ z : Nat → Int, ∀ i, i < w → m d ^ t * σ t i = S d (fun k => z k * σ k i)
  | 0 => by
    by_cases hd : d = 0
    · subst hd
      refine ⟨fun _ => 0, fun i hi => ?_⟩
      have h := H0 i hi
      have h : 0 + m 0 * σ 0 i = 0 := h
      rw [Int.zero_add] at h
      rcases Int.mul_eq_zero.mp h with y | y
      · exact absurd y hm
      · rw [y]
        simp [S]
    · refine ⟨fun k => if k = 0 then 1 else 0, fun i hi => ?_⟩
      rw [S_single (k := 0) (by omega) _ (fun k _ ne => by show (if k = 0 then (1 : Int) else 0) * _ = 0; rw [if_neg ne, Int.zero_mul])]
      show m d ^ 0 * σ 0 i = (if (0 : Nat) = 0 then (1 : Int) else 0) * σ 0 i
      rw [if_pos rfl, Int.pow_zero]
  | t + 1 => by
    obtain ⟨z, hz⟩ := span hA hm H0 t
    have h1 : ∀ j, j < w → m d ^ t * σ (t + 1) j = S d (fun k => z k * σ (k + 1) j) := fun j hj => by
      have a := ap1 (n := d + 1) (z := fun k => if k = d then - (m d ^ t) else z k) (p := fun k => if k = d then t else k) hA (fun i hi => by
        show S d _ + (if d = d then - (m d ^ t) else z d) * σ (if d = d then t else d) i = 0
        rw [if_pos rfl, if_pos rfl, Int.neg_mul, hz i hi]
        have e : S d (fun k => (if k = d then - (m d ^ t) else z k) * σ (if k = d then t else k) i) = S d (fun k => z k * σ k i) := S_congr fun k hk => by
          rw [if_neg (by omega), if_neg (by omega)]
        rw [e]
        omega) hj
      have a : S d (fun k => (if k = d then - (m d ^ t) else z k) * σ ((if k = d then t else k) + 1) j) + (if d = d then - (m d ^ t) else z d) * σ ((if d = d then t else d) + 1) j = 0 := a
      rw [if_pos rfl, if_pos rfl, Int.neg_mul] at a
      have e : S d (fun k => (if k = d then - (m d ^ t) else z k) * σ ((if k = d then t else k) + 1) j) = S d (fun k => z k * σ (k + 1) j) := S_congr fun k hk => by
        rw [if_neg (by omega), if_neg (by omega)]
      rw [e] at a
      omega
    by_cases hd : d = 0
    · subst hd
      refine ⟨z, fun i hi => ?_⟩
      have h := h1 i hi
      have h : m 0 ^ t * σ (t + 1) i = 0 := h
      show m 0 ^ (t + 1) * σ (t + 1) i = 0
      rw [Int.pow_succ, Int.mul_comm (m 0 ^ t), Int.mul_assoc, h, Int.mul_zero]
    · obtain ⟨c, rfl⟩ : ∃ c, d = c + 1 := ⟨d - 1, by omega⟩
      refine ⟨fun k => (if k = 0 then 0 else m (c + 1) * z (k - 1)) - z c * m k, fun i hi => ?_⟩
      have h := h1 i hi
      have h : m (c + 1) ^ t * σ (t + 1) i = S c (fun k => z k * σ (k + 1) i) + z c * σ (c + 1) i := h
      have h0 := H0 i hi
      have h0 : S (c + 1) (fun k => m k * σ k i) + m (c + 1) * σ (c + 1) i = 0 := h0
      have e1 : S (c + 1) (fun k => ((if k = 0 then 0 else m (c + 1) * z (k - 1)) - z c * m k) * σ k i) = m (c + 1) * S c (fun k => z k * σ (k + 1) i) - z c * S (c + 1) (fun k => m k * σ k i) := by
        have e2 : S (c + 1) (fun k => ((if k = 0 then 0 else m (c + 1) * z (k - 1)) - z c * m k) * σ k i) = S (c + 1) (fun k => (if k = 0 then 0 else m (c + 1) * z (k - 1)) * σ k i) - S (c + 1) (fun k => z c * (m k * σ k i)) := by
          rw [← S_sub]
          exact S_congr fun k _ => by rw [Int.sub_mul, Int.mul_assoc (z c)]
        rw [e2, S_mul, S_succ_left]
        congr 1
        rw [if_pos rfl, Int.zero_mul, Int.zero_add, ← S_mul]
        exact S_congr fun k _ => by rw [if_neg (by omega), Nat.add_sub_cancel, Int.mul_assoc]
      rw [e1, Int.pow_succ, Int.mul_comm (m (c + 1) ^ t), Int.mul_assoc, h, Int.mul_add]
      have e3 : S (c + 1) (fun k => m k * σ k i) = - (m (c + 1) * σ (c + 1) i) := by omega
      rw [e3, Int.mul_neg, ← Int.mul_assoc, ← Int.mul_assoc, Int.mul_comm (m (c + 1)) (z c)]
      omega
/-- one number for all: times it, every row is put together of the first d as far as the leads see -/
theorem clear_all (h : Ech w vs d) (hu : ∀ k, k < d → ∀ i, i < w → uu vs k i = σ k i) : ∀ s, s ≤ d → ∃ D : Int, D ≠ 0 ∧ ∀ x : Nat → Int, ∃ y : Nat → Int, ∀ j, j < s → D * x (la w vs j) = S d (fun k => y k * σ k (la w vs j))
  | 0, _ => ⟨1, by decide, fun x => ⟨fun _ => 0, fun j hj => absurd hj (Nat.not_lt_zero j)⟩⟩
  | s + 1, hs => by
    obtain ⟨D, hD, hx⟩ := clear_all h hu s (by omega)
    have hsd : s < d := by omega
    have hsv : s < vs.length := by have := h.tv; omega
    have rs := h.rp s hsd
    have comb : ∀ i, i < w → g (row w vs s) i = S d (fun k => g (row w vs s) (w + k) * σ k i) := fun i hi => by
      rw [rs.b.comb' hsv hi]
      have e : S d (fun k => g (row w vs s) (w + k) * σ k i) = S (s + 1) (fun k => g (row w vs s) (w + k) * σ k i) := S_cut (by omega) _ fun k h1 h2 => by
        rw [rs.b.up k (by omega) (by have := h.tv; omega), Int.zero_mul]
      rw [e]
      exact S_congr fun k hk => by rw [hu k (by omega) i hi]
    refine ⟨g (row w vs s) (la w vs s) * D, Int.mul_ne_zero (h.ne s hsd) hD, fun x => ?_⟩
    obtain ⟨y, hy⟩ := hx x
    refine ⟨fun k => g (row w vs s) (la w vs s) * y k + (D * x (la w vs s) - S d (fun k => y k * σ k (la w vs s))) * g (row w vs s) (w + k), fun j hj => ?_⟩
    have hjw : la w vs j < w := h.lt j (by omega)
    have e1 : S d (fun k => (g (row w vs s) (la w vs s) * y k + (D * x (la w vs s) - S d (fun k => y k * σ k (la w vs s))) * g (row w vs s) (w + k)) * σ k (la w vs j)) =
        g (row w vs s) (la w vs s) * S d (fun k => y k * σ k (la w vs j)) + (D * x (la w vs s) - S d (fun k => y k * σ k (la w vs s))) * g (row w vs s) (la w vs j) := by
      rw [comb _ hjw, ← S_mul, ← S_mul, ← S_add]
      exact S_congr fun k _ => by rw [Int.add_mul, Int.mul_assoc, Int.mul_assoc]
    rw [e1, Int.mul_assoc]
    by_cases e : j = s
    · subst e
      rw [Int.mul_comm (D * x (la w vs j) - S d (fun k => y k * σ k (la w vs j))), Int.mul_sub]
      omega
    · rw [rs.z j (by omega), Int.mul_zero, Int.add_zero, hy j (by omega)]
theorem monic (hA : ∀ t j, j < w → σ (t + 1) j = S w (fun i => σ t i * A i j)) (hm : m d ≠ 0) (H0 : ∀ i, i < w → S (d + 1) (fun k => m k * σ k i) = 0) (h : Ech w vs d) (hu : ∀ k, k < d → ∀ i, i < w → uu vs k i = σ k i) :
    ∃ (e : Nat) (f : Nat → Int), d ≤ e ∧ ∀ t i, i < w → σ (t + e) i = S e (fun k => f k * σ (t + k) i) := by
  obtain ⟨D, hD, hx⟩ := clear_all h hu d (Nat.le_refl d)
  have ally : ∀ t, ∃ y : Nat → Int, ∀ i, i < w → D * σ t i = S d (fun k => y k * σ k i) := fun t => by
    obtain ⟨y, hy⟩ := hx (σ t)
    obtain ⟨z, hz⟩ := span hA hm H0 t
    refine ⟨y, fun i hi => ?_⟩
    have key : ∀ i, i < w → S d (fun k => (D * z k - m d ^ t * y k) * uu vs k i) = m d ^ t * (D * σ t i - S d (fun k => y k * σ k i)) := fun i hi => by
      rw [Int.mul_sub, ← Int.mul_assoc, Int.mul_comm (m d ^ t) D, Int.mul_assoc, hz i hi, ← S_mul, ← S_mul, ← S_sub]
      exact S_congr fun k hk => by rw [hu k hk i hi, Int.sub_mul, Int.mul_assoc, Int.mul_assoc]
    have z0 := h.zero d (Nat.le_refl d) (fun k => D * z k - m d ^ t * y k) (fun s hs => by
      rw [key _ (h.lt s hs), hy s hs]
      simp) i hi
    rw [key i hi] at z0
    rcases Int.mul_eq_zero.mp z0 with q | q
    · exact absurd q (Int.pow_ne_zero hm)
    · omega
  have ch : ∃ Y : Nat → Nat → Int, ∀ t i, i < w → D * σ t i = S d (fun k => Y t k * σ k i) := ⟨fun t => Classical.choose (ally t), fun t => Classical.choose_spec (ally t)⟩
  obtain ⟨Y, hY⟩ := ch
  have D0 : 0 < D.natAbs := by omega
  obtain ⟨a, b, hab, hc⟩ := pigeon_list (cube ((List.range D.natAbs).map fun n : Nat => (n : Int)) d) (fun t => (List.range d).map fun k => Y (t + d) k % D) fun t => by
    have z := mem_cube (E := (List.range D.natAbs).map fun n : Nat => (n : Int)) ((List.range d).map fun k => Y (t + d) k % D) (fun x hx => by
      obtain ⟨k, _, rfl⟩ := List.mem_map.mp hx
      have h1 := Int.emod_nonneg (Y (t + d) k) hD
      have h2 : Y (t + d) k % D < D.natAbs := by
        rcases Int.lt_or_gt_of_ne hD with q | q
        · have := Int.emod_lt_of_pos (Y (t + d) k) (show 0 < -D by omega)
          rw [Int.emod_neg] at this
          omega
        · have := Int.emod_lt_of_pos (Y (t + d) k) q
          omega
      exact List.mem_map.mpr ⟨(Y (t + d) k % D).toNat, List.mem_range.mpr (by omega), by omega⟩)
    have e : ((List.range d).map fun k => Y (t + d) k % D).length = d := by simp
    rw [e] at z
    exact z
  have hz : ∀ k, k < d → ∃ z, Y (b + d) k - Y (a + d) k = D * z := fun k hk => by
    have e := congrArg (fun l => g l k) hc
    have e : g ((List.range d).map fun k => Y (a + d) k % D) k = g ((List.range d).map fun k => Y (b + d) k % D) k := e
    rw [g_map, g_map, if_pos hk, if_pos hk] at e
    exact Int.dvd_of_emod_eq_zero (Int.emod_eq_emod_iff_emod_sub_eq_zero.mp e.symm)
  have ch2 : ∃ z : Nat → Int, ∀ k, k < d → Y (b + d) k - Y (a + d) k = D * z k := by
    refine ⟨fun k => if hk : k < d then Classical.choose (hz k hk) else 0, fun k hk => ?_⟩
    dsimp only
    rw [dif_pos hk]
    exact Classical.choose_spec (hz k hk)
  obtain ⟨z, hz⟩ := ch2
  have rel : ∀ i, i < w → σ (b + d) i = σ (a + d) i + S d (fun k => z k * σ k i) := fun i hi => by
    apply Int.eq_of_mul_eq_mul_left hD
    rw [Int.mul_add, hY (b + d) i hi, hY (a + d) i hi, ← S_mul, ← S_add]
    apply S_congr
    intro k hk
    have q := hz k hk
    have q2 : Y (b + d) k = Y (a + d) k + D * z k := by omega
    rw [q2, Int.add_mul, Int.mul_assoc]
  refine ⟨b + d, fun k => (if k < d then z k else 0) + (if k = a + d then 1 else 0), by omega, fun t i hi => ?_⟩
  have sum : ∀ (τ : Nat → Int), S (b + d) (fun k => ((if k < d then z k else 0) + (if k = a + d then 1 else 0)) * τ k) = S d (fun k => z k * τ k) + τ (a + d) := fun τ => by
    have e : S (b + d) (fun k => ((if k < d then z k else 0) + (if k = a + d then 1 else 0)) * τ k) = S (b + d) (fun k => (if k < d then z k else 0) * τ k) + S (b + d) (fun k => (if k = a + d then 1 else 0) * τ k) := by
      rw [← S_add]
      exact S_congr fun k _ => by rw [Int.add_mul]
    rw [e]
    congr 1
    · rw [S_cut (k := d) (by omega) _ fun k h1 h2 => by rw [if_neg (by omega), Int.zero_mul]]
      exact S_congr fun k hk => by rw [if_pos hk]
    · rw [S_single (k := a + d) (by omega) _ fun k _ ne => by rw [if_neg ne, Int.zero_mul], if_pos rfl, Int.one_mul]
  have all := ap hA (n := b + d + 1) (z := fun k => if k = b + d then -1 else (if k < d then z k else 0) + (if k = a + d then 1 else 0)) (p := fun k => k) (fun i hi => by
    show S (b + d) _ + (if b + d = b + d then (-1 : Int) else _) * σ (b + d) i = 0
    rw [if_pos rfl]
    have e : S (b + d) (fun k => (if k = b + d then -1 else (if k < d then z k else 0) + (if k = a + d then 1 else 0)) * σ k i) = S (b + d) (fun k => ((if k < d then z k else 0) + (if k = a + d then 1 else 0)) * σ k i) := S_congr fun k hk => by rw [if_neg (by omega)]
    rw [e, sum (fun k => σ k i), rel i hi]
    omega) t i hi
  have all : S (b + d) (fun k => (if k = b + d then -1 else (if k < d then z k else 0) + (if k = a + d then 1 else 0)) * σ (t + k) i) + (if b + d = b + d then (-1 : Int) else _) * σ (t + (b + d)) i = 0 := all
  rw [if_pos rfl] at all
  have e : S (b + d) (fun k => (if k = b + d then -1 else (if k < d then z k else 0) + (if k = a + d then 1 else 0)) * σ (t + k) i) = S (b + d) (fun k => ((if k < d then z k else 0) + (if k = a + d then 1 else 0)) * σ (t + k) i) := S_congr fun k hk => by rw [if_neg (by omega)]
  rw [e] at all
  show σ (t + (b + d)) i = S (b + d) (fun k => ((if k < d then z k else 0) + (if k = a + d then 1 else 0)) * σ (t + k) i)
  omega
end
end Ma
/-! the sizes of the rows; the tie that the elimination leaves -/
namespace Ma
/-! ### sizes -/
def Xb : Nat → Nat
  | 0 => 0
  | t + 1 => Xb t + (22 + 3 * t + Xb t + 1)
def βb (t : Nat) : Nat := 22 + 3 * t + Xb t
theorem sb_X : ∀ t, sb βb t = Xb t
  | 0 => rfl
  | t + 1 => by
    show sb βb t + (βb t + 1) = Xb t + (22 + 3 * t + Xb t + 1)
    rw [sb_X t]
    rfl
theorem Xb_mono {i j : Nat} (h : i ≤ j) : Xb i ≤ Xb j := by
  rw [← sb_X, ← sb_X]
  exact sb_mono βb h
theorem size_ok {t : Nat} (h : t ≤ 8) : 22 + 3 * t + Xb t ≤ 8990 := by
  have h1 := Xb_mono h
  have h2 : Xb 8 = 6606 := by decide
  omega
section
variable {w : Nat} {vs : List (List Int)}
theorem first_len (hw : ∀ v ∈ vs, v.length = w) {t : Nat} (ht : t < vs.length) : (vs.getD t [] ++ marks vs.length t).length = w + vs.length := by
  have e : (vs.getD t []).length = w := by
    rw [List.getD_eq_getElem?_getD, List.getElem?_eq_getElem ht]
    exact hw _ (List.getElem_mem ht)
  rw [List.length_append, e]
  simp [marks]
theorem first_bd (hb : ∀ t, t < vs.length → Bd (22 + 3 * t) (vs.getD t [])) {t : Nat} (ht : t < vs.length) : Bd (22 + 3 * t) (vs.getD t [] ++ marks vs.length t) := by
  intro x hx
  rcases List.mem_append.mp hx with h | h
  · exact hb t ht x h
  · obtain ⟨k, _, rfl⟩ := List.mem_map.mp h
    split
    · exact Nat.one_lt_two_pow (by omega)
    · exact Nat.two_pow_pos _
theorem kp_mem {t : Nat} {i : Nat} {k : Nat × List Int} (h : (kp w vs t)[i]? = some k) : i < t ∧ k = (la w vs i, row w vs i) := by
  have hi : i < t := by
    obtain ⟨z, _⟩ := List.getElem?_eq_some_iff.mp h
    rw [kp_len] at z
    exact z
  refine ⟨hi, ?_⟩
  rw [kp_at hi] at h
  exact (Option.some.inj h).symm
theorem kp_lens (hw : ∀ v ∈ vs, v.length = w) {d : Nat} (h : Ech w vs d) {t : Nat} (ht : t ≤ d) (hv : t < vs.length) : ∀ k ∈ kp w vs t, k.2.length = (vs.getD t [] ++ marks vs.length t).length ∧ k.1 < (vs.getD t [] ++ marks vs.length t).length := by
  intro k hk
  obtain ⟨i, hi⟩ := List.mem_iff_getElem?.mp hk
  obtain ⟨h1, rfl⟩ := kp_mem hi
  rw [first_len hw hv]
  have a := h.lt i (by omega)
  exact ⟨(h.rp i (by omega)).b.len, by show la w vs i < _; omega⟩
theorem row_bd (hw : ∀ v ∈ vs, v.length = w) (hb : ∀ t, t < vs.length → Bd (22 + 3 * t) (vs.getD t [])) {d : Nat} (h : Ech w vs d) (hv : d < vs.length) : ∀ t, t ≤ d → Bd (βb t) (row w vs t) := by
  intro t
  induction t using Nat.strongRecOn with
  | _ t ih =>
    intro ht
    have z := (clr_bd (first_bd hb (t := t) (by omega)) (kp_lens hw h ht (by omega)) (β := βb) (fun i k hk => by
      obtain ⟨h1, rfl⟩ := kp_mem hk
      exact ih i h1 (by omega)) (kp w vs t).length (Nat.le_refl _)).2
    rw [List.take_length, kp_len, sb_X] at z
    exact z
structure TieOk (w : Nat) (vs : List (List Int)) (d : Nat) : Prop where
  ft : FtOk w vs d
  bd : Bd 9000 (fout w vs d)
theorem stop_of {d : Nat} (hd : d < vs.length) (hw : ∀ v ∈ vs, v.length = w) (hla : ¬ la w vs d < w) (h : Ech w vs d) {i : Nat} (hi : i < w) : g (row w vs d) i = 0 := by
  have z := ld_zero (xs := (row w vs d).take w) (k := i) (by
    have : la w vs d = ld ((row w vs d).take w) := rfl
    omega)
  rw [take_g hi] at z
  exact z
theorem tie_ok (hw : ∀ v ∈ vs, v.length = w) (hm : vs.length = w + 1) (h8 : w ≤ 8) (hb : ∀ t, t < vs.length → Bd (22 + 3 * t) (vs.getD t [])) {d : Nat} (hd : d ≤ w) (hla : ¬ la w vs d < w) (h : Ech w vs d) (own : (g (row w vs d) (w + d)).natAbs = 1) : TieOk w vs d := by
  have dv : d < vs.length := by omega
  have hB := row_bd hw hb h dv d (Nat.le_refl d)
  have one : g (row w vs d) (w + d) = 1 ∨ g (row w vs d) (w + d) = -1 := by omega
  refine ⟨⟨dv, hw, by omega, fun t ht => h.lt t ht, fun i hi => stop_of dv hw hla h hi, fun t ht => ?_, one⟩, ?_⟩
  · refine ⟨by rw [first_len hw (by omega)]; omega, by rw [kp_len]; omega, kp_lens hw h ht (by omega), 22 + 3 * t, βb, first_bd hb (by omega), fun i k hk => ?_, ?_⟩
    · obtain ⟨h1, rfl⟩ := kp_mem hk
      exact row_bd hw hb h dv i (by omega)
    · rw [kp_len, sb_X]
      exact size_ok (by omega)
  · intro x hx
    obtain ⟨k, _, rfl⟩ := List.mem_map.mp hx
    have b1 : (g (row w vs d) (w + k)).natAbs < 2 ^ βb d := bd_at hB (by unfold βb; omega) _
    have b2 : 2 ^ βb d ≤ 2 ^ 9000 := Nat.pow_le_pow_right (by decide) (by have := size_ok (t := d) (by omega); unfold βb; omega)
    have e : ((-(g (row w vs d) (w + k))).fdiv (g (row w vs d) (w + d))).natAbs = (g (row w vs d) (w + k)).natAbs := by
      rcases one with e | e
      · rw [e, Int.fdiv_one, Int.natAbs_neg]
      · rw [e]
        have : (-(g (row w vs d) (w + k))).fdiv (-1) = g (row w vs d) (w + k) := by
          rw [Int.neg_fdiv_neg, Int.fdiv_one]
        rw [this]
    rw [e]
    exact Nat.lt_of_lt_of_le b1 b2
/-! ### the relation that the last row tells -/
variable {σ : Nat → Nat → Int}
theorem base_rel (hw : ∀ v ∈ vs, v.length = w) (hm : vs.length = w + 1) {d : Nat} (hd : d ≤ w) (hla : ¬ la w vs d < w) (h : Ech w vs d) (hu : ∀ k, k ≤ w → ∀ i, i < w → uu vs k i = σ k i) :
    ∀ i, i < w → S (d + 1) (fun k => g (row w vs d) (w + k) * σ k i) = 0 := fun i hi => by
  have dv : d < vs.length := by omega
  have rp := row_ok hw d dv h.lt
  have z := rp.b.comb' dv hi
  rw [stop_of dv hw hla h hi] at z
  rw [z]
  exact S_congr fun k hk => by rw [hu k (by omega) i hi]
theorem unit_rel (hw : ∀ v ∈ vs, v.length = w) (hm : vs.length = w + 1) {d : Nat} (hd : d ≤ w) (hla : ¬ la w vs d < w) (h : Ech w vs d) (hu : ∀ k, k ≤ w → ∀ i, i < w → uu vs k i = σ k i)
    (H1 : ∀ t i, i < w → S (d + 1) (fun k => g (row w vs d) (w + k) * σ (t + k) i) = 0) {e : Nat} (he : d ≤ e) {f : Nat → Int} (H3 : ∀ t i, i < w → σ (t + e) i = S e (fun k => f k * σ (t + k) i)) : (g (row w vs d) (w + d)).natAbs = 1 := by
  have dv : d < vs.length := by omega
  have rp := row_ok hw d dv h.lt
  refine gauss (m := fun k => g (row w vs d) (w + k)) H1 (fun x hx => h.indep d (Nat.le_refl d) x fun i hi => ?_) (fun c hc => rp.b.prim c fun i => ?_) rp.b.own he H3
  · rw [← hx i hi]
    exact S_congr fun k hk => by rw [hu k (by omega) i hi]
  · by_cases h1 : i < w
    · rw [stop_of dv hw hla h h1]
      exact Int.dvd_zero c
    · obtain ⟨k, rfl⟩ : ∃ k, i = w + k := ⟨i - w, by omega⟩
      by_cases h2 : k ≤ d
      · exact hc k h2
      · by_cases h3 : k < vs.length
        · rw [rp.b.up k (by omega) h3]
          exact Int.dvd_zero c
        · rw [g_ge (by rw [rp.b.len]; omega)]
          exact Int.dvd_zero c
theorem fout_rel {d : Nat} (own : (g (row w vs d) (w + d)).natAbs = 1) (H1 : ∀ t i, i < w → S (d + 1) (fun k => g (row w vs d) (w + k) * σ (t + k) i) = 0) : ∀ t i, i < w → σ (t + d) i = S d (fun k => g (fout w vs d) k * σ (t + k) i) := by
  intro t i hi
  have h := H1 t i hi
  have h : S d (fun k => g (row w vs d) (w + k) * σ (t + k) i) + g (row w vs d) (w + d) * σ (t + d) i = 0 := h
  have one : g (row w vs d) (w + d) = 1 ∨ g (row w vs d) (w + d) = -1 := by omega
  rcases one with e | e
  · have q : S d (fun k => g (fout w vs d) k * σ (t + k) i) = - S d (fun k => g (row w vs d) (w + k) * σ (t + k) i) := by
      rw [← S_neg]
      refine S_congr fun k hk => ?_
      unfold fout
      rw [g_map, if_pos hk, e, Int.fdiv_one, Int.neg_mul]
    rw [q]
    rw [e] at h
    omega
  · have q : S d (fun k => g (fout w vs d) k * σ (t + k) i) = S d (fun k => g (row w vs d) (w + k) * σ (t + k) i) := by
      refine S_congr fun k hk => ?_
      unfold fout
      rw [g_map, if_pos hk, e, Int.neg_fdiv_neg, Int.fdiv_one]
    rw [q]
    rw [e] at h
    omega
end
/-- rows that a table leads on: the tie holds at every age -/
theorem tie_led {w : Nat} {vs : List (List Int)} {σ A : Nat → Nat → Int} (hw : ∀ v ∈ vs, v.length = w) (hm : vs.length = w + 1) (h8 : w ≤ 8) (hb : ∀ t, t < vs.length → Bd (22 + 3 * t) (vs.getD t [])) (hu : ∀ k, k ≤ w → ∀ i, i < w → uu vs k i = σ k i)
    (hA : ∀ t j, j < w → σ (t + 1) j = S w (fun i => σ t i * A i j)) : ∃ d, d ≤ w ∧ TieOk w vs d ∧ ∀ t i, i < w → σ (t + d) i = S d (fun k => g (fout w vs d) k * σ (t + k) i) := by
  obtain ⟨d, hd, hla, h⟩ := has_d hw hm
  have H0 := base_rel hw hm hd hla h hu
  have H1 : ∀ t i, i < w → S (d + 1) (fun k => g (row w vs d) (w + k) * σ (t + k) i) = 0 := fun t i hi => ap hA (p := fun k => k) H0 t i hi
  have rp := row_ok hw d (by omega) h.lt
  obtain ⟨e, f, he, H3⟩ := monic hA (m := fun k => g (row w vs d) (w + k)) rp.b.own H0 h fun k hk i hi => hu k (by omega) i hi
  have own := unit_rel hw hm hd hla h hu H1 he H3
  exact ⟨d, hd, tie_ok hw hm h8 hb hd hla h own, fout_rel own H1⟩
/-- the windows of a row of numbers that has a tie -/
theorem tie_win {w : Nat} {vs : List (List Int)} {s : Nat → Int} {c : Nat → Int} {r : Nat} (hw : ∀ v ∈ vs, v.length = w) (hm : vs.length = w + 1) (h8 : w ≤ 8) (hb : ∀ t, t < vs.length → Bd (22 + 3 * t) (vs.getD t [])) (hu : ∀ k, k ≤ w → ∀ i, i < w → uu vs k i = s (k + i))
    (hr : r ≤ w) (hc : ∀ t, s (t + r) = S r (fun k => c k * s (t + k))) : ∃ d, d ≤ r ∧ TieOk w vs d ∧ (0 < w → ∀ t, s (t + d) = S d (fun k => g (fout w vs d) k * s (t + k))) := by
  obtain ⟨d, hd, hla, h⟩ := has_d hw hm
  have H0 := base_rel (σ := fun t i => s (t + i)) hw hm hd hla h hu
  have E : ∀ t, S (d + 1) (fun k => g (row w vs d) (w + k) * s (k + t)) = 0 := by
    intro t
    induction t using Nat.strongRecOn with
    | _ t ih =>
      by_cases ht : t < w
      · exact H0 t ht
      · have e : S (d + 1) (fun k => g (row w vs d) (w + k) * s (k + t)) = S (d + 1) (fun k => S r (fun j => c j * (g (row w vs d) (w + k) * s (k + (t - r + j))))) := by
          refine S_congr fun k _ => ?_
          rw [show k + t = (k + (t - r)) + r by omega, hc, ← S_mul]
          refine S_congr fun j _ => ?_
          rw [Nat.add_assoc k, ← Int.mul_assoc, ← Int.mul_assoc, Int.mul_comm (c j)]
        rw [e, S_swap]
        have e2 : S r (fun j => S (d + 1) (fun k => c j * (g (row w vs d) (w + k) * s (k + (t - r + j))))) = S r (fun _ => 0) := S_congr fun j hj => by
          rw [S_mul, ih (t - r + j) (by omega), Int.mul_zero]
        rw [e2, S_zero]
  have H1 : ∀ t i, i < w → S (d + 1) (fun k => g (row w vs d) (w + k) * s (t + k + i)) = 0 := fun t i _ => by
    rw [← E (t + i)]
    exact S_congr fun k _ => by rw [show t + k + i = k + (t + i) by omega]
  have H3 : ∀ t i, i < w → s (t + r + i) = S r (fun k => c k * s (t + k + i)) := fun t i _ => by
    rw [show t + r + i = (t + i) + r by omega, hc]
    exact S_congr fun k _ => by rw [show t + i + k = t + k + i by omega]
  have dr : d ≤ r := by
    apply Classical.byContradiction
    intro z
    have q := h.indep d (Nat.le_refl d) (fun k => if k < r then c k else if k = r then -1 else 0) (fun i hi => by
      have e : S d (fun k => (if k < r then c k else if k = r then -1 else 0) * uu vs k i) = S d (fun k => (if k < r then c k else if k = r then -1 else 0) * s (k + i)) := S_congr fun k hk => by rw [hu k (by omega) i hi]
      rw [e, S_cut (k := r + 1) (by omega) _ fun k h1 h2 => by
        show (if k < r then c k else if k = r then -1 else 0) * _ = 0
        rw [if_neg (by omega), if_neg (by omega), Int.zero_mul]]
      show S r (fun k => (if k < r then c k else if k = r then -1 else 0) * s (k + i)) + (if r < r then c r else if r = r then -1 else 0) * s (r + i) = 0
      rw [if_neg (Nat.lt_irrefl r), if_pos rfl]
      have e2 : S r (fun k => (if k < r then c k else if k = r then -1 else 0) * s (k + i)) = S r (fun k => c k * s (i + k)) := S_congr fun k hk => by rw [if_pos hk, Nat.add_comm k i]
      rw [e2, ← hc i, Nat.add_comm i r]
      omega) r (by omega)
    have q : (if r < r then c r else if r = r then (-1 : Int) else 0) = 0 := q
    rw [if_neg (Nat.lt_irrefl r), if_pos rfl] at q
    exact absurd q (by decide)
  have own := unit_rel (σ := fun t i => s (t + i)) hw hm hd hla h hu H1 dr H3
  refine ⟨d, dr, tie_ok hw hm h8 hb hd hla h own, fun h0 t => ?_⟩
  exact fout_rel (σ := fun t i => s (t + i)) own H1 t 0 h0
end Ma
/-! ties walked by doubling: the answer is the row of numbers itself, modulo N -/
namespace Ma
section
variable {N : Int} {c : List Int} {s : Nat → Int}
def Ph (c : List Int) (s : Nat → Int) (f : List Int) (t : Nat) : Int := S c.length (fun k => g f k * s (t + k))
theorem Ph_mod {F : Nat → Int} {f : List Int} (h : ∀ k, k < c.length → g f k = F k % N) (t : Nat) : Ph c s f t % N = S c.length (fun k => F k * s (t + k)) % N :=
  S_mod _ N fun k hk => by rw [h k hk, Int.mul_emod, Int.emod_emod, ← Int.mul_emod]
theorem g_stp {p : List Int} (hp : p.length = c.length) {k : Nat} (hk : k < c.length) : g (stp N c p) k = ((if k = 0 then 0 else g p (k - 1)) + g p (c.length - 1) * g c k) % N := by
  have e1 : p.getLastD 0 = g p (c.length - 1) := by
    rw [List.getLastD_eq_getLast?, List.getLast?_eq_getElem?, hp]
    unfold g
    rw [List.getD_eq_getElem?_getD]
  have e2 : (0 :: p.dropLast)[k]? = some (if k = 0 then 0 else g p (k - 1)) := by
    cases k with
    | zero => rfl
    | succ k =>
      rw [List.getElem?_cons_succ, List.getElem?_dropLast, if_pos (by omega), g_lt (by omega), if_neg (by omega), Nat.add_sub_cancel]
  unfold stp
  apply g_at
  rw [List.getElem?_zipWith, e2, g_lt hk, e1]
theorem Ph_stp (hc : ∀ t, s (t + c.length) = S c.length (fun k => g c k * s (t + k))) (h0 : 0 < c.length) {p : List Int} (hp : p.length = c.length) (t : Nat) : Ph c s (stp N c p) t % N = Ph c s p (t + 1) % N := by
  rw [Ph_mod (N := N) (F := fun k => (if k = 0 then 0 else g p (k - 1)) + g p (c.length - 1) * g c k) (fun k hk => g_stp hp hk)]
  congr 1
  have e : S c.length (fun k => ((if k = 0 then 0 else g p (k - 1)) + g p (c.length - 1) * g c k) * s (t + k)) = S c.length (fun k => (if k = 0 then 0 else g p (k - 1)) * s (t + k)) + g p (c.length - 1) * S c.length (fun k => g c k * s (t + k)) := by
    rw [← S_mul, ← S_add]
    exact S_congr fun k _ => by rw [Int.add_mul, Int.mul_assoc]
  rw [e, ← hc]
  unfold Ph
  obtain ⟨r, hr⟩ : ∃ r, c.length = r + 1 := ⟨c.length - 1, by omega⟩
  rw [hr, S_succ_left]
  show (if (0 : Nat) = 0 then (0 : Int) else g p (0 - 1)) * s (t + 0) + S r (fun k => (if k + 1 = 0 then 0 else g p (k + 1 - 1)) * s (t + (k + 1))) + g p (r + 1 - 1) * s (t + (r + 1)) = S r (fun k => g p k * s (t + 1 + k)) + g p r * s (t + 1 + r)
  rw [if_pos rfl, Int.zero_mul, Int.zero_add, Nat.add_sub_cancel, show t + (r + 1) = t + 1 + r by omega]
  congr 1
  exact S_congr fun k _ => by rw [if_neg (by omega), Nat.add_sub_cancel, show t + (k + 1) = t + 1 + k by omega]
theorem Ph_jst (hc : ∀ t, s (t + c.length) = S c.length (fun k => g c k * s (t + k))) (h0 : 0 < c.length) {ps f : List Int} {p : Int} (h1 : ps.length = c.length) (h2 : f.length = c.length) (t : Nat) : Ph c s (jst N c ps f p) t % N = (Ph c s f (t + 1) + p * Ph c s ps t) % N := by
  have ne : f ≠ [] := fun z => by
    rw [z] at h2
    exact absurd h2 (by show ¬ 0 = c.length; omega)
  have hl := stp_len (N := N) h2 ne
  rw [Ph_mod (N := N) (F := fun k => g (stp N c f) k + p * g ps k) (fun k hk => by
    unfold jst
    apply g_at
    rw [List.getElem?_zipWith, g_lt (by omega), g_lt (by omega)])]
  have e : S c.length (fun k => (g (stp N c f) k + p * g ps k) * s (t + k)) = Ph c s (stp N c f) t + p * Ph c s ps t := by
    unfold Ph
    rw [← S_mul, ← S_add]
    exact S_congr fun k _ => by rw [Int.add_mul, Int.mul_assoc]
  rw [e, Int.add_emod, Ph_stp hc h0 h2, ← Int.add_emod]
theorem Ph_fold (hc : ∀ t, s (t + c.length) = S c.length (fun k => g c k * s (t + k))) (h0 : 0 < c.length) {ps : List Int} (h1 : ps.length = c.length) : ∀ l : List Int, (l.foldr (fun p f => jst N c ps f p) (List.replicate c.length 0)).length = c.length ∧
    ∀ t, Ph c s (l.foldr (fun p f => jst N c ps f p) (List.replicate c.length 0)) t % N = S l.length (fun k => g l k * Ph c s ps (t + k)) % N
  | [] => ⟨by simp, fun t => by
    show S c.length (fun k => g (List.replicate c.length 0) k * s (t + k)) % N = 0 % N
    rw [S_congr (h := fun _ => 0) (fun k hk => by rw [g_at (x := 0) (by rw [List.getElem?_replicate, if_pos hk]), Int.zero_mul]), S_zero]⟩
  | p :: l => by
    obtain ⟨hl, ih⟩ := Ph_fold hc h0 h1 l
    refine ⟨?_, fun t => ?_⟩
    · rw [List.foldr_cons]
      exact jst_len h1 hl fun z => by
        rw [z] at hl
        exact absurd hl (by show ¬ 0 = c.length; omega)
    · rw [List.foldr_cons, Ph_jst hc h0 h1 hl, Int.add_emod, ih, ← Int.add_emod, List.length_cons, S_succ_left]
      congr 1
      show S l.length (fun k => g l k * Ph c s ps (t + 1 + k)) + p * Ph c s ps t = p * Ph c s ps t + S l.length (fun k => g l k * Ph c s ps (t + (k + 1)))
      rw [Int.add_comm]
      congr 1
      exact S_congr fun k _ => by rw [show t + 1 + k = t + (k + 1) by omega]
def At (N : Int) (c : List Int) (s : Nat → Int) (f : List Int) (a : Nat) : Prop := f.length = c.length ∧ ∀ t, Ph c s f t % N = s (t + a) % N
theorem At.jnd (hc : ∀ t, s (t + c.length) = S c.length (fun k => g c k * s (t + k))) (h0 : 0 < c.length) {ps : List Int} {a : Nat} (h : At N c s ps a) : At N c s (jnd N c ps) (2 * a) := by
  have e : Ma.jnd N c ps = ps.foldr (fun p f => jst N c ps f p) (List.replicate c.length 0) := by rw [jnd_eq, List.foldl_reverse]
  obtain ⟨h1, h2⟩ := Ph_fold (N := N) hc h0 h.1 ps
  rw [← e] at h1 h2
  refine ⟨h1, fun t => ?_⟩
  rw [h2, h.1]
  have e2 : S c.length (fun k => g ps k * Ph c s ps (t + k)) % N = S c.length (fun k => g ps k * s (t + k + a)) % N := S_mod _ N fun k _ => by
    rw [Int.mul_emod, h.2, ← Int.mul_emod]
  rw [e2, show t + 2 * a = t + a + a by omega, ← h.2 (t + a)]
  congr 1
  exact S_congr fun k _ => by rw [show t + k + a = t + a + k by omega]
theorem At.stp (hc : ∀ t, s (t + c.length) = S c.length (fun k => g c k * s (t + k))) (h0 : 0 < c.length) {ps : List Int} {a : Nat} (h : At N c s ps a) : At N c s (stp N c ps) (a + 1) := by
  have ne : ps ≠ [] := fun z => by
    have := h.1
    rw [z] at this
    exact absurd this (by show ¬ 0 = c.length; omega)
  refine ⟨stp_len h.1 ne, fun t => ?_⟩
  rw [Ph_stp hc h0 h.1, h.2, show t + 1 + a = t + (a + 1) by omega]
theorem At.bits (hc : ∀ t, s (t + c.length) = S c.length (fun k => g c k * s (t + k))) (h0 : 0 < c.length) : ∀ n, At N c s ((bits n).foldr (fun b f => unw1 N c f b) (marks c.length 0)) n := by
  intro n
  induction n using Nat.strongRecOn with
  | _ n ih =>
    by_cases hn : n = 0
    · rw [hn, bits_zero]
      refine ⟨by simp [marks], fun t => ?_⟩
      show S c.length (fun k => g (marks c.length 0) k * s (t + k)) % N = _
      have gm : ∀ k, k < c.length → g (marks c.length 0) k = if k = 0 then 1 else 0 := fun k hk => by
        unfold marks
        rw [g_map, if_pos hk]
      rw [S_single h0 _ fun k hk ne => by
        show g (marks c.length 0) k * _ = 0
        rw [gm k hk, if_neg ne, Int.zero_mul]]
      show (g (marks c.length 0) 0 * s (t + 0)) % N = _
      rw [gm 0 h0, if_pos rfl, Int.one_mul]
    · rw [bits_pos (by omega), List.foldr_cons]
      have q := (ih (n / 2) (by omega)).jnd hc h0
      unfold unw1
      by_cases hb : n % 2 = 1
      · rw [if_pos (by omega)]
        have z := q.stp hc h0
        rw [show 2 * (n / 2) + 1 = n by omega] at z
        exact z
      · rw [if_neg (by omega)]
        rw [show 2 * (n / 2) = n by omega] at q
        exact q
theorem dot_S : ∀ (xs ys : List Int), xs.length = ys.length → dot xs ys = S xs.length (fun k => g xs k * g ys k)
  | [], [], _ => rfl
  | x :: xs, y :: ys, h => by
    have h : xs.length + 1 = ys.length + 1 := h
    rw [List.length_cons, S_succ_left]
    show (x * y :: List.zipWith (· * ·) xs ys).sum = x * y + S xs.length (fun k => g xs k * g ys k)
    rw [List.sum_cons, ← dot_S xs ys (by omega)]
    rfl
/-- the tie walked to an age -/
theorem unw_law (hc : ∀ t, s (t + c.length) = S c.length (fun k => g c k * s (t + k))) (age : Nat) : unw N c ((List.range c.length).map s) age = s age % N := by
  unfold unw
  by_cases h : c.length = 0
  · rw [if_pos h]
    have z := hc age
    rw [h] at z
    have z : s age = 0 := z
    rw [z]
    simp
  · rw [if_neg h, List.foldl_reverse]
    have q := At.bits (N := N) hc (by omega) age
    have e := q.2 0
    rw [Nat.zero_add] at e
    rw [← e, dot_S _ _ (by rw [q.1]; simp), q.1]
    congr 1
    exact S_congr fun k hk => by rw [g_map, if_pos hk, Nat.zero_add]
end
theorem g_sum : ∀ xs : List Int, xs.sum = S xs.length (g xs)
  | [] => rfl
  | x :: r => by
    rw [List.sum_cons, List.length_cons, S_succ_left, g_sum r]
    rfl
theorem sum_md (N : Int) (xs : List Int) : (md N xs).sum % N = xs.sum % N := by
  rw [g_sum, g_sum, md_len]
  exact S_mod _ N fun k _ => by rw [g_md, Int.emod_emod]
/-! ### sizes of the counts -/
theorem S_le {n : Nat} {f h : Nat → Int} (e : ∀ i, i < n → f i ≤ h i) : S n f ≤ S n h := by
  induction n with
  | zero => exact Int.le_refl 0
  | succ n ih => exact Int.add_le_add (ih fun i hi => e i (by omega)) (e n (by omega))
theorem S_nn {n : Nat} {f : Nat → Int} (e : ∀ i, i < n → 0 ≤ f i) : 0 ≤ S n f := by
  have := S_le (n := n) (f := fun _ => 0) e
  rw [S_zero] at this
  exact this
theorem le_S {n : Nat} {f : Nat → Int} (e : ∀ i, i < n → 0 ≤ f i) {k : Nat} (hk : k < n) : f k ≤ S n f := by
  have : S n (fun i => if i = k then f i else 0) ≤ S n f := S_le fun i hi => by
    split
    · exact Int.le_refl _
    · exact e i hi
  rw [S_single hk _ (fun i _ ne => by show (if i = k then f i else 0) = 0; rw [if_neg ne])] at this
  have : (if k = k then f k else 0) ≤ S n f := this
  rw [if_pos rfl] at this
  exact this
theorem count_sum {α : Type} [BEq α] [LawfulBEq α] (L : List α) (hL : L.Nodup) : ∀ l : List α, (L.map fun c => ((l.count c : Nat) : Int)).sum ≤ l.length
  | [] => by
    have : L.map (fun c => (([] : List α).count c : Int)) = L.map (fun _ => (0 : Int)) := List.map_congr_left fun _ _ => rfl
    rw [this]
    clear this hL
    induction L with
    | nil => exact Int.le_refl 0
    | cons x L ih => rw [List.map_cons, List.sum_cons]; show 0 + _ ≤ _; omega
  | x :: l => by
    have ih := count_sum L hL l
    have e : ∀ L : List α, (L.map fun c => (((x :: l).count c : Nat) : Int)).sum = (L.map fun c => ((l.count c : Nat) : Int)).sum + (L.count x : Nat) := fun L => by
      induction L with
      | nil => rfl
      | cons y L ih =>
        rw [List.map_cons, List.sum_cons, List.map_cons, List.sum_cons, ih, List.count_cons, List.count_cons]
        by_cases h : x = y
        · subst h
          simp
          omega
        · have h2 : ¬ y = x := fun z => h z.symm
          simp [h, h2]
          omega
    rw [e]
    have := List.nodup_iff_count.mp hL x
    rw [List.length_cons]
    omega
section
variable {n : Nat} {A : List (List Int)} {x : List Int}
theorem V_nn (hx : ∀ i, 0 ≤ g x i) (hA : ∀ i j, 0 ≤ g2 A i j) : ∀ t i, i < n → 0 ≤ g (V n A x t) i
  | 0, i, _ => hx i
  | t + 1, i, hi => by
    show 0 ≤ g (vm n (V n A x t) A) i
    rw [g_vm hi]
    exact S_nn fun k hk => Int.mul_nonneg (V_nn hx hA t k hk) (hA k i)
theorem V_sum {p q : Nat} (hx : ∀ i, 0 ≤ g x i) (hA : ∀ i j, 0 ≤ g2 A i j) (h1 : S n (g x) ≤ p) (h2 : ∀ i, i < n → S n (fun j => g2 A i j) ≤ q) : ∀ t, S n (g (V n A x t)) ≤ ((p * q ^ t : Nat) : Int)
  | 0 => by
    rw [Nat.pow_zero, Nat.mul_one]
    exact h1
  | t + 1 => by
    have e : S n (g (V n A x (t + 1))) = S n (fun i => g (V n A x t) i * S n (fun j => g2 A i j)) := by
      have e1 : S n (g (V n A x (t + 1))) = S n (fun j => S n (fun i => g (V n A x t) i * g2 A i j)) := S_congr fun j hj => g_vm hj
      rw [e1, S_swap]
      exact S_congr fun i _ => S_mul _ _ _
    rw [e]
    have l : S n (fun i => g (V n A x t) i * S n (fun j => g2 A i j)) ≤ S n (fun i => g (V n A x t) i * q) := S_le fun i hi => Int.mul_le_mul_of_nonneg_left (h2 i hi) (V_nn hx hA t i hi)
    rw [S_mulr] at l
    refine Int.le_trans l ?_
    rw [Nat.pow_succ, ← Nat.mul_assoc, Int.natCast_mul]
    exact Int.mul_le_mul_of_nonneg_right (V_sum hx hA h1 h2 t) (Int.natCast_nonneg q)
end
theorem size6 (t : Nat) : 12 * 6 ^ t < 2 ^ (22 + 3 * t) := by
  have h1 : 6 ^ t ≤ 8 ^ t := Nat.pow_le_pow_left (by decide) t
  have h2 : 2 ^ (22 + 3 * t) = 2 ^ 22 * 8 ^ t := by
    rw [Nat.pow_add, Nat.pow_mul]
  rw [h2]
  have h3 : 0 < 8 ^ t := Nat.pow_pos (by decide)
  have h4 : 12 * 8 ^ t < 2 ^ 22 * 8 ^ t := Nat.mul_lt_mul_of_pos_right (by decide) h3
  omega
theorem size6' {t j : Nat} (hj : j ≤ 7) : 12 * 6 ^ (t + j) < 2 ^ (22 + 3 * t) := by
  have h0 : 6 ^ (t + j) ≤ 6 ^ (t + 7) := Nat.pow_le_pow_right (by decide) (by omega)
  have h1 : 6 ^ (t + 7) = 6 ^ t * 279936 := by rw [Nat.pow_add]
  have h1' : 6 ^ t ≤ 8 ^ t := Nat.pow_le_pow_left (by decide) t
  have h2 : 2 ^ (22 + 3 * t) = 2 ^ 22 * 8 ^ t := by
    rw [Nat.pow_add, Nat.pow_mul]
  rw [h2]
  have h3 : 0 < 8 ^ t := Nat.pow_pos (by decide)
  omega
theorem size41 {t : Nat} (h : t ≤ 41) : 12 * 6 ^ t < 2 ^ 1000 := by
  refine Nat.lt_of_lt_of_le (size6 t) (Nat.pow_le_pow_right (by decide) (by omega))
end Ma
namespace Lg
open PySem PySem.Spec PyProof.Rows L2 Ma
section
variable {b : Book}
theorem S_map {α : Type} (l : List α) (F : α → Int) : S l.length (g (l.map F)) = (l.map F).sum := by
  rw [g_sum, List.length_map]
theorem cnt_sum {s : Str} (h : BSh b) : (b.2.map fun r => cnt s r.1).sum ≤ (s.length : Nat) := by
  have z := count_sum (b.2.map (·.1)) h.nd s.cps.toList
  rw [List.map_map] at z
  have e : (s.cps.toList.length : Nat) = s.length := by
    rw [Array.length_toList]
    rfl
  rw [e] at z
  exact z
theorem cnt_nn (s : Str) (c : Nat) : 0 ≤ cnt s c := Int.natCast_nonneg _
theorem g_nn {xs : List Int} (h : ∀ x ∈ xs, 0 ≤ x) (i : Nat) : 0 ≤ g xs i := by
  by_cases hi : i < xs.length
  · exact h _ (List.mem_of_getElem? (g_lt hi))
  · rw [g_ge (by omega)]
    exact Int.le_refl 0
theorem x0_nn (i : Nat) : 0 ≤ g (x0 b) i := g_nn (fun x hx => by
  obtain ⟨r, _, rfl⟩ := List.mem_map.mp hx
  exact cnt_nn _ _) i
theorem tab_nn (i j : Nat) : 0 ≤ g2 (tab b) i j := by
  unfold g2
  rw [List.getD_eq_getElem?_getD]
  cases e : (tab b)[i]? with
  | none => exact Int.le_refl 0
  | some r =>
    refine g_nn (fun x hx => ?_) j
    obtain ⟨q, _, rfl⟩ := List.mem_map.mp (List.mem_of_getElem? e)
    obtain ⟨r, _, rfl⟩ := List.mem_map.mp hx
    exact cnt_nn _ _
theorem x0_sum (h : BSh b) : S b.2.length (g (x0 b)) ≤ ((12 : Nat) : Int) := by
  show S b.2.length (g (b.2.map fun r => cnt b.1 r.1)) ≤ _
  rw [S_map]
  have := cnt_sum (s := b.1) h
  have := h.first
  omega
theorem tab_sum (h : BSh b) (i : Nat) (hi : i < b.2.length) : S b.2.length (fun j => g2 (tab b) i j) ≤ ((6 : Nat) : Int) := by
  have e : (tab b).getD i [] = b.2.map fun r' => cnt (b.2[i]).2 r'.1 := by
    rw [List.getD_eq_getElem?_getD]
    unfold tab
    rw [List.getElem?_map, List.getElem?_eq_getElem hi]
    rfl
  show S b.2.length (g ((tab b).getD i [])) ≤ _
  rw [e, S_map]
  have h1 := cnt_sum (s := (b.2[i]).2) h
  have h2 := h.words _ (List.getElem_mem hi)
  omega
theorem vb_sum (h : BSh b) (t : Nat) : S b.2.length (g (Vb b t)) ≤ ((12 * 6 ^ t : Nat) : Int) := V_sum x0_nn tab_nn (x0_sum h) (tab_sum h) t
theorem vb_nn (t i : Nat) (hi : i < b.2.length) : 0 ≤ g (Vb b t) i := V_nn x0_nn tab_nn t i hi
theorem vb_sum' (t : Nat) : (Vb b t).sum = S b.2.length (g (Vb b t)) := by
  rw [g_sum, show (Vb b t).length = b.2.length from V_len (x0_len b) t]
theorem vb_lt (h : BSh b) {t m : Nat} (hm : 12 * 6 ^ t < m) : (Vb b t).sum.natAbs < m := by
  have h1 := vb_sum h t
  have h2 : 0 ≤ S b.2.length (g (Vb b t)) := S_nn fun i hi => vb_nn t i hi
  rw [vb_sum']
  omega
theorem vb_bd (h : BSh b) {t e : Nat} (hm : 12 * 6 ^ t < 2 ^ e) : Bd e (Vb b t) := by
  intro x hx
  obtain ⟨i, hi⟩ := List.mem_iff_getElem?.mp hx
  have hl : i < b.2.length := by
    obtain ⟨z, _⟩ := List.getElem?_eq_some_iff.mp hi
    rw [show (Vb b t).length = b.2.length from V_len (x0_len b) t] at z
    exact z
  rw [← g_at hi]
  have h1 := vb_sum h t
  have h2 := le_S (f := g (Vb b t)) (fun i hi => vb_nn t i hi) hl
  have h3 := vb_nn t i hl
  omega
theorem tab_bd (h : BSh b) : BdR 1000 (tab b) := by
  intro r hr x hx
  obtain ⟨q, hq, rfl⟩ := List.mem_map.mp hr
  obtain ⟨p, _, rfl⟩ := List.mem_map.mp hx
  have h1 : q.2.cps.toList.count p.1 ≤ q.2.cps.toList.length := List.count_le_length
  have h2 := h.words q hq
  have e : (q.2.cps.toList.length : Nat) = q.2.length := by
    rw [Array.length_toList]
    rfl
  show ((q.2.cps.toList.count p.1 : Nat) : Int).natAbs < 2 ^ 1000
  rw [Int.natAbs_natCast]
  refine Nat.lt_of_le_of_lt (show _ ≤ 6 by omega) (Nat.lt_of_lt_of_le (show 6 < 2 ^ 3 by decide) (Nat.pow_le_pow_right (by decide) (by decide)))
theorem vecs_uu {k i : Nat} (hk : k ≤ b.2.length) : uu (vecs b) k i = g (Vb b k) i := by
  show g ((vecs b).getD k []) i = _
  have e : (vecs b).getD k [] = Vb b k := by
    unfold vecs
    rw [List.getD_eq_getElem?_getD, List.getElem?_map, List.getElem?_range (by omega)]
    rfl
  rw [e]
theorem vb_next (t j : Nat) (hj : j < b.2.length) : g (Vb b (t + 1)) j = S b.2.length (fun i => g (Vb b t) i * g2 (tab b) i j) := g_vm hj
theorem ones_dot (t : Nat) : wt b (ones b) t = (Vb b t).sum := by
  unfold wt
  have hl : (Vb b t).length = b.2.length := V_len (x0_len b) t
  have ol : (ones b).length = b.2.length := by simp [ones]
  rw [dot_S _ _ (by rw [ol, hl]), vb_sum', ol]
  exact S_congr fun k hk => by
    unfold ones
    rw [g_map, if_pos hk, Int.one_mul]
theorem wins_uu {k i : Nat} (hk : k ≤ b.2.length) (hi : i < b.2.length) : uu (wins b (ones b)) k i = (Vb b (k + i)).sum := by
  show g ((wins b (ones b)).getD k []) i = _
  have e : (wins b (ones b)).getD k [] = (List.range b.2.length).map fun j => wt b (ones b) (k + j) := by
    unfold wins
    rw [List.getD_eq_getElem?_getD, List.getElem?_map, List.getElem?_range (by omega)]
    rfl
  rw [e, g_map, if_pos hi, ones_dot]
end
theorem HM : LMath := by
  intro b h
  have h8 := h.small
  have vl : ∀ v ∈ vecs b, v.length = b.2.length := fun v hv => by
    obtain ⟨t, _, rfl⟩ := List.mem_map.mp hv
    exact V_len (x0_len b) t
  have wl : ∀ v ∈ wins b (ones b), v.length = b.2.length := fun v hv => by
    obtain ⟨t, _, rfl⟩ := List.mem_map.mp hv
    simp
  have vn : (vecs b).length = b.2.length + 1 := by simp [vecs]
  have wn : (wins b (ones b)).length = b.2.length + 1 := by simp [wins]
  have vb : ∀ t, t < (vecs b).length → Bd (22 + 3 * t) ((vecs b).getD t []) := fun t ht => by
    have e : (vecs b).getD t [] = Vb b t := by
      unfold vecs
      rw [List.getD_eq_getElem?_getD, List.getElem?_map, List.getElem?_range (by omega)]
      rfl
    rw [e]
    exact vb_bd h (size6 t)
  have wb : ∀ t, t < (wins b (ones b)).length → Bd (22 + 3 * t) ((wins b (ones b)).getD t []) := fun t ht => by
    have e : (wins b (ones b)).getD t [] = (List.range b.2.length).map fun j => wt b (ones b) (t + j) := by
      unfold wins
      rw [List.getD_eq_getElem?_getD, List.getElem?_map, List.getElem?_range (by omega)]
      rfl
    rw [e]
    intro x hx
    obtain ⟨j, hj, rfl⟩ := List.mem_map.mp hx
    have hj := List.mem_range.mp hj
    rw [ones_dot]
    exact vb_lt h (size6' (by omega))
  obtain ⟨d, hd, td, rd⟩ := tie_led (σ := fun t i => g (Vb b t) i) (A := g2 (tab b)) vl vn h8 vb (fun k hk i hi => vecs_uu hk) (fun t j hj => vb_next t j hj)
  have rs : ∀ t, (Vb b (t + d)).sum = S d (fun k => g (fout b.2.length (vecs b) d) k * (Vb b (t + k)).sum) := fun t => by
    rw [vb_sum', S_congr (fun i hi => rd t i hi), S_swap]
    exact S_congr fun k _ => by rw [S_mul, vb_sum']
  obtain ⟨e, he, te, re⟩ := tie_win (s := fun t => (Vb b t).sum) (c := g (fout b.2.length (vecs b) d)) (r := d) wl wn h8 wb (fun k hk i hi => wins_uu hk hi) hd rs
  have re : ∀ t, (Vb b (t + e)).sum = S e (fun k => g (fout b.2.length (wins b (ones b)) e) k * (Vb b (t + k)).sum) := by
    rcases Nat.eq_zero_or_pos b.2.length with z | z
    · intro t
      have e0 : e = 0 := by omega
      rw [vb_sum', z, e0]
      rfl
    · exact re z
  refine ⟨d, e, ⟨⟨h8, tab_bd h, fun t ht => vb_bd h (size41 ht)⟩, td.ft, hd, fun t ht => vb_lt h (size41 ht), te.ft, he, td.bd, te.bd, fun k age N hk _ _ => ?_, fun age N _ _ => ?_⟩⟩
  · have q := unw_law (N := N) (c := fout b.2.length (vecs b) d) (s := fun t => g (Vb b t) k) (fun t => by
      rw [fout_len]
      exact rd t k hk) age.toNat
    rw [fout_len] at q
    exact q
  · have q := unw_law (N := N) (c := fout b.2.length (wins b (ones b)) e) (s := fun t => (Vb b t).sum) (fun t => by
      rw [fout_len]
      exact re t) age.toNat
    rw [fout_len] at q
    rw [sum_md]
    exact q
end Lg
namespace Lg
open PySem PySem.Spec PyProof.Rows L2
theorem all_mk {l : PySem.W.OpenLaw} {w : World} {K : PySem.W.Frag} {h : Heap} {mg : Str → Option Value} {fa : Addr} (X : K.In h) (G : h.Ns mainGlobals mg) (hfa : mg "law" = some (.ref fa))
    {f_is_whole f_letters f_tally f_table f_passed f_need_far f_led f_laid f_counts_at f_length_at f_common f_lowered f_lead_of f_cleared f_first_tie f_first_counts f_joint_counts f_tie f_is_row f_first_weights f_weight_tie f_length_tie f_stepped f_joined f_bits_of f_unwound f_law_whole f_law_row f_law_pen f_law_take f_law_signs f_law_text f_law_word f_law_book f_law_counts f_law_number f_law_age f_law T_tie : Addr} {od_is_whole an_is_whole od_letters an_letters od_tally an_tally od_table an_table od_passed an_passed od_need_far an_need_far od_led an_led od_laid an_laid od_counts_at an_counts_at od_length_at an_length_at od_common an_common od_lowered an_lowered od_lead_of an_lead_of od_cleared an_cleared od_first_tie an_first_tie od_first_counts an_first_counts od_joint_counts an_joint_counts od_tie an_tie od_is_row an_is_row od_first_weights an_first_weights od_weight_tie an_weight_tie od_length_tie an_length_tie od_stepped an_stepped od_joined an_joined od_bits_of an_bits_of od_unwound an_unwound od_law_whole an_law_whole od_law_row an_law_row od_law_pen an_law_pen od_law_take an_law_take od_law_signs an_law_signs od_law_text an_law_text od_law_word an_law_word od_law_book an_law_book od_law_counts an_law_counts od_law_number an_law_number od_law_age an_law_age od_law an_law td_tie : Option Addr} {sl_is_whole sl_letters sl_tally sl_table sl_passed sl_need_far sl_led sl_laid sl_counts_at sl_length_at sl_common sl_lowered sl_lead_of sl_cleared sl_first_tie sl_first_counts sl_joint_counts sl_tie sl_is_row sl_first_weights sl_weight_tie sl_length_tie sl_stepped sl_joined sl_bits_of sl_unwound sl_law_whole sl_law_row sl_law_pen sl_law_take sl_law_signs sl_law_text sl_law_word sl_law_book sl_law_counts sl_law_number sl_law_age sl_law ts_tie : Array (Option Value)} {oc_is_whole kV_is_whole dc_is_whole pm_is_whole cd_is_whole ct_is_whole oc_letters kV_letters dc_letters pm_letters cd_letters ct_letters oc_tally kV_tally dc_tally pm_tally cd_tally ct_tally oc_table kV_table dc_table pm_table cd_table ct_table oc_passed kV_passed dc_passed pm_passed cd_passed ct_passed oc_need_far kV_need_far dc_need_far pm_need_far cd_need_far ct_need_far oc_led kV_led dc_led pm_led cd_led ct_led oc_laid kV_laid dc_laid pm_laid cd_laid ct_laid oc_counts_at kV_counts_at dc_counts_at pm_counts_at cd_counts_at ct_counts_at oc_length_at kV_length_at dc_length_at pm_length_at cd_length_at ct_length_at oc_common kV_common dc_common pm_common cd_common ct_common oc_lowered kV_lowered dc_lowered pm_lowered cd_lowered ct_lowered oc_lead_of kV_lead_of dc_lead_of pm_lead_of cd_lead_of ct_lead_of oc_cleared kV_cleared dc_cleared pm_cleared cd_cleared ct_cleared oc_first_tie kV_first_tie dc_first_tie pm_first_tie cd_first_tie ct_first_tie oc_first_counts kV_first_counts dc_first_counts pm_first_counts cd_first_counts ct_first_counts oc_joint_counts kV_joint_counts dc_joint_counts pm_joint_counts cd_joint_counts ct_joint_counts oc_tie kV_tie dc_tie pm_tie cd_tie ct_tie oc_is_row kV_is_row dc_is_row pm_is_row cd_is_row ct_is_row oc_first_weights kV_first_weights dc_first_weights pm_first_weights cd_first_weights ct_first_weights oc_weight_tie kV_weight_tie dc_weight_tie pm_weight_tie cd_weight_tie ct_weight_tie oc_length_tie kV_length_tie dc_length_tie pm_length_tie cd_length_tie ct_length_tie oc_stepped kV_stepped dc_stepped pm_stepped cd_stepped ct_stepped oc_joined kV_joined dc_joined pm_joined cd_joined ct_joined oc_bits_of kV_bits_of dc_bits_of pm_bits_of cd_bits_of ct_bits_of oc_unwound kV_unwound dc_unwound pm_unwound cd_unwound ct_unwound oc_law_whole kV_law_whole dc_law_whole pm_law_whole cd_law_whole ct_law_whole oc_law_row kV_law_row dc_law_row pm_law_row cd_law_row ct_law_row oc_law_pen kV_law_pen dc_law_pen pm_law_pen cd_law_pen ct_law_pen oc_law_take kV_law_take dc_law_take pm_law_take cd_law_take ct_law_take oc_law_signs kV_law_signs dc_law_signs pm_law_signs cd_law_signs ct_law_signs oc_law_text kV_law_text dc_law_text pm_law_text cd_law_text ct_law_text oc_law_word kV_law_word dc_law_word pm_law_word cd_law_word ct_law_word oc_law_book kV_law_book dc_law_book pm_law_book cd_law_book ct_law_book oc_law_counts kV_law_counts dc_law_counts pm_law_counts cd_law_counts ct_law_counts oc_law_number kV_law_number dc_law_number pm_law_number cd_law_number ct_law_number oc_law_age kV_law_age dc_law_age pm_law_age cd_law_age ct_law_age oc_law kV_law dc_law pm_law cd_law ct_law : Value} {tn_tie : Nat} {tk_far tk_great tk_most : Tok}
    (a_is_whole : PySem.W.nsIn K mainGlobals "is_whole" = some (some (.ref f_is_whole))) (l_is_whole : K.lookup f_is_whole = some ⟨oc_is_whole, od_is_whole, .func (PySem.W.fnOf "is_whole" "is_whole" (defArgs s_is_whole) (defBody s_is_whole) (defScope s_is_whole) .none kV_is_whole dc_is_whole pm_is_whole an_is_whole cd_is_whole ct_is_whole), sl_is_whole⟩) (c_is_whole : PySem.W.codeIn K cd_is_whole "is_whole" = true) (k_is_whole : PySem.W.keepIn K (.ref f_is_whole) = true)
    (a_letters : PySem.W.nsIn K mainGlobals "letters" = some (some (.ref f_letters))) (l_letters : K.lookup f_letters = some ⟨oc_letters, od_letters, .func (PySem.W.fnOf "letters" "letters" (defArgs s_letters) (defBody s_letters) (defScope s_letters) .none kV_letters dc_letters pm_letters an_letters cd_letters ct_letters), sl_letters⟩) (c_letters : PySem.W.codeIn K cd_letters "letters" = true) (k_letters : PySem.W.keepIn K (.ref f_letters) = true)
    (a_tally : PySem.W.nsIn K mainGlobals "tally" = some (some (.ref f_tally))) (l_tally : K.lookup f_tally = some ⟨oc_tally, od_tally, .func (PySem.W.fnOf "tally" "tally" (defArgs s_tally) (defBody s_tally) (defScope s_tally) .none kV_tally dc_tally pm_tally an_tally cd_tally ct_tally), sl_tally⟩) (c_tally : PySem.W.codeIn K cd_tally "tally" = true) (k_tally : PySem.W.keepIn K (.ref f_tally) = true)
    (a_table : PySem.W.nsIn K mainGlobals "table" = some (some (.ref f_table))) (l_table : K.lookup f_table = some ⟨oc_table, od_table, .func (PySem.W.fnOf "table" "table" (defArgs s_table) (defBody s_table) (defScope s_table) .none kV_table dc_table pm_table an_table cd_table ct_table), sl_table⟩) (c_table : PySem.W.codeIn K cd_table "table" = true) (k_table : PySem.W.keepIn K (.ref f_table) = true)
    (a_passed : PySem.W.nsIn K mainGlobals "passed" = some (some (.ref f_passed))) (l_passed : K.lookup f_passed = some ⟨oc_passed, od_passed, .func (PySem.W.fnOf "passed" "passed" (defArgs s_passed) (defBody s_passed) (defScope s_passed) .none kV_passed dc_passed pm_passed an_passed cd_passed ct_passed), sl_passed⟩) (c_passed : PySem.W.codeIn K cd_passed "passed" = true) (k_passed : PySem.W.keepIn K (.ref f_passed) = true)
    (a_need_far : PySem.W.nsIn K mainGlobals "need_far" = some (some (.ref f_need_far))) (l_need_far : K.lookup f_need_far = some ⟨oc_need_far, od_need_far, .func (PySem.W.fnOf "need_far" "need_far" (defArgs s_need_far) (defBody s_need_far) (defScope s_need_far) .none kV_need_far dc_need_far pm_need_far an_need_far cd_need_far ct_need_far), sl_need_far⟩) (c_need_far : PySem.W.codeIn K cd_need_far "need_far" = true) (k_need_far : PySem.W.keepIn K (.ref f_need_far) = true)
    (a_led : PySem.W.nsIn K mainGlobals "led" = some (some (.ref f_led))) (l_led : K.lookup f_led = some ⟨oc_led, od_led, .func (PySem.W.fnOf "led" "led" (defArgs s_led) (defBody s_led) (defScope s_led) .none kV_led dc_led pm_led an_led cd_led ct_led), sl_led⟩) (c_led : PySem.W.codeIn K cd_led "led" = true) (k_led : PySem.W.keepIn K (.ref f_led) = true)
    (a_laid : PySem.W.nsIn K mainGlobals "laid" = some (some (.ref f_laid))) (l_laid : K.lookup f_laid = some ⟨oc_laid, od_laid, .func (PySem.W.fnOf "laid" "laid" (defArgs s_laid) (defBody s_laid) (defScope s_laid) .none kV_laid dc_laid pm_laid an_laid cd_laid ct_laid), sl_laid⟩) (c_laid : PySem.W.codeIn K cd_laid "laid" = true) (k_laid : PySem.W.keepIn K (.ref f_laid) = true)
    (a_counts_at : PySem.W.nsIn K mainGlobals "counts_at" = some (some (.ref f_counts_at))) (l_counts_at : K.lookup f_counts_at = some ⟨oc_counts_at, od_counts_at, .func (PySem.W.fnOf "counts_at" "counts_at" (defArgs s_counts_at) (defBody s_counts_at) (defScope s_counts_at) .none kV_counts_at dc_counts_at pm_counts_at an_counts_at cd_counts_at ct_counts_at), sl_counts_at⟩) (c_counts_at : PySem.W.codeIn K cd_counts_at "counts_at" = true) (k_counts_at : PySem.W.keepIn K (.ref f_counts_at) = true)
    (a_length_at : PySem.W.nsIn K mainGlobals "length_at" = some (some (.ref f_length_at))) (l_length_at : K.lookup f_length_at = some ⟨oc_length_at, od_length_at, .func (PySem.W.fnOf "length_at" "length_at" (defArgs s_length_at) (defBody s_length_at) (defScope s_length_at) .none kV_length_at dc_length_at pm_length_at an_length_at cd_length_at ct_length_at), sl_length_at⟩) (c_length_at : PySem.W.codeIn K cd_length_at "length_at" = true) (k_length_at : PySem.W.keepIn K (.ref f_length_at) = true)
    (a_common : PySem.W.nsIn K mainGlobals "common" = some (some (.ref f_common))) (l_common : K.lookup f_common = some ⟨oc_common, od_common, .func (PySem.W.fnOf "common" "common" (defArgs s_common) (defBody s_common) (defScope s_common) .none kV_common dc_common pm_common an_common cd_common ct_common), sl_common⟩) (c_common : PySem.W.codeIn K cd_common "common" = true) (k_common : PySem.W.keepIn K (.ref f_common) = true)
    (a_lowered : PySem.W.nsIn K mainGlobals "lowered" = some (some (.ref f_lowered))) (l_lowered : K.lookup f_lowered = some ⟨oc_lowered, od_lowered, .func (PySem.W.fnOf "lowered" "lowered" (defArgs s_lowered) (defBody s_lowered) (defScope s_lowered) .none kV_lowered dc_lowered pm_lowered an_lowered cd_lowered ct_lowered), sl_lowered⟩) (c_lowered : PySem.W.codeIn K cd_lowered "lowered" = true) (k_lowered : PySem.W.keepIn K (.ref f_lowered) = true)
    (a_lead_of : PySem.W.nsIn K mainGlobals "lead_of" = some (some (.ref f_lead_of))) (l_lead_of : K.lookup f_lead_of = some ⟨oc_lead_of, od_lead_of, .func (PySem.W.fnOf "lead_of" "lead_of" (defArgs s_lead_of) (defBody s_lead_of) (defScope s_lead_of) .none kV_lead_of dc_lead_of pm_lead_of an_lead_of cd_lead_of ct_lead_of), sl_lead_of⟩) (c_lead_of : PySem.W.codeIn K cd_lead_of "lead_of" = true) (k_lead_of : PySem.W.keepIn K (.ref f_lead_of) = true)
    (a_cleared : PySem.W.nsIn K mainGlobals "cleared" = some (some (.ref f_cleared))) (l_cleared : K.lookup f_cleared = some ⟨oc_cleared, od_cleared, .func (PySem.W.fnOf "cleared" "cleared" (defArgs s_cleared) (defBody s_cleared) (defScope s_cleared) .none kV_cleared dc_cleared pm_cleared an_cleared cd_cleared ct_cleared), sl_cleared⟩) (c_cleared : PySem.W.codeIn K cd_cleared "cleared" = true) (k_cleared : PySem.W.keepIn K (.ref f_cleared) = true)
    (a_first_tie : PySem.W.nsIn K mainGlobals "first_tie" = some (some (.ref f_first_tie))) (l_first_tie : K.lookup f_first_tie = some ⟨oc_first_tie, od_first_tie, .func (PySem.W.fnOf "first_tie" "first_tie" (defArgs s_first_tie) (defBody s_first_tie) (defScope s_first_tie) .none kV_first_tie dc_first_tie pm_first_tie an_first_tie cd_first_tie ct_first_tie), sl_first_tie⟩) (c_first_tie : PySem.W.codeIn K cd_first_tie "first_tie" = true) (k_first_tie : PySem.W.keepIn K (.ref f_first_tie) = true)
    (a_first_counts : PySem.W.nsIn K mainGlobals "first_counts" = some (some (.ref f_first_counts))) (l_first_counts : K.lookup f_first_counts = some ⟨oc_first_counts, od_first_counts, .func (PySem.W.fnOf "first_counts" "first_counts" (defArgs s_first_counts) (defBody s_first_counts) (defScope s_first_counts) .none kV_first_counts dc_first_counts pm_first_counts an_first_counts cd_first_counts ct_first_counts), sl_first_counts⟩) (c_first_counts : PySem.W.codeIn K cd_first_counts "first_counts" = true) (k_first_counts : PySem.W.keepIn K (.ref f_first_counts) = true)
    (a_joint_counts : PySem.W.nsIn K mainGlobals "joint_counts" = some (some (.ref f_joint_counts))) (l_joint_counts : K.lookup f_joint_counts = some ⟨oc_joint_counts, od_joint_counts, .func (PySem.W.fnOf "joint_counts" "joint_counts" (defArgs s_joint_counts) (defBody s_joint_counts) (defScope s_joint_counts) .none kV_joint_counts dc_joint_counts pm_joint_counts an_joint_counts cd_joint_counts ct_joint_counts), sl_joint_counts⟩) (c_joint_counts : PySem.W.codeIn K cd_joint_counts "joint_counts" = true) (k_joint_counts : PySem.W.keepIn K (.ref f_joint_counts) = true)
    (a_tie : PySem.W.nsIn K mainGlobals "tie" = some (some (.ref f_tie))) (l_tie : K.lookup f_tie = some ⟨oc_tie, od_tie, .func (PySem.W.fnOf "tie" "tie" (defArgs s_tie) (defBody s_tie) (defScope s_tie) (.ref T_tie) kV_tie dc_tie pm_tie an_tie cd_tie ct_tie), sl_tie⟩) (t_tie : K.lookup T_tie = some ⟨.type "tuple", td_tie, .seq #[Value.none] tn_tie, ts_tie⟩) (c_tie : PySem.W.codeIn K cd_tie "tie" = true) (k_tie : PySem.W.keepIn K (.ref f_tie) = true)
    (a_is_row : PySem.W.nsIn K mainGlobals "is_row" = some (some (.ref f_is_row))) (l_is_row : K.lookup f_is_row = some ⟨oc_is_row, od_is_row, .func (PySem.W.fnOf "is_row" "is_row" (defArgs s_is_row) (defBody s_is_row) (defScope s_is_row) .none kV_is_row dc_is_row pm_is_row an_is_row cd_is_row ct_is_row), sl_is_row⟩) (c_is_row : PySem.W.codeIn K cd_is_row "is_row" = true) (k_is_row : PySem.W.keepIn K (.ref f_is_row) = true)
    (a_first_weights : PySem.W.nsIn K mainGlobals "first_weights" = some (some (.ref f_first_weights))) (l_first_weights : K.lookup f_first_weights = some ⟨oc_first_weights, od_first_weights, .func (PySem.W.fnOf "first_weights" "first_weights" (defArgs s_first_weights) (defBody s_first_weights) (defScope s_first_weights) .none kV_first_weights dc_first_weights pm_first_weights an_first_weights cd_first_weights ct_first_weights), sl_first_weights⟩) (c_first_weights : PySem.W.codeIn K cd_first_weights "first_weights" = true) (k_first_weights : PySem.W.keepIn K (.ref f_first_weights) = true)
    (a_weight_tie : PySem.W.nsIn K mainGlobals "weight_tie" = some (some (.ref f_weight_tie))) (l_weight_tie : K.lookup f_weight_tie = some ⟨oc_weight_tie, od_weight_tie, .func (PySem.W.fnOf "weight_tie" "weight_tie" (defArgs s_weight_tie) (defBody s_weight_tie) (defScope s_weight_tie) .none kV_weight_tie dc_weight_tie pm_weight_tie an_weight_tie cd_weight_tie ct_weight_tie), sl_weight_tie⟩) (c_weight_tie : PySem.W.codeIn K cd_weight_tie "weight_tie" = true) (k_weight_tie : PySem.W.keepIn K (.ref f_weight_tie) = true)
    (a_length_tie : PySem.W.nsIn K mainGlobals "length_tie" = some (some (.ref f_length_tie))) (l_length_tie : K.lookup f_length_tie = some ⟨oc_length_tie, od_length_tie, .func (PySem.W.fnOf "length_tie" "length_tie" (defArgs s_length_tie) (defBody s_length_tie) (defScope s_length_tie) .none kV_length_tie dc_length_tie pm_length_tie an_length_tie cd_length_tie ct_length_tie), sl_length_tie⟩) (c_length_tie : PySem.W.codeIn K cd_length_tie "length_tie" = true) (k_length_tie : PySem.W.keepIn K (.ref f_length_tie) = true)
    (a_stepped : PySem.W.nsIn K mainGlobals "stepped" = some (some (.ref f_stepped))) (l_stepped : K.lookup f_stepped = some ⟨oc_stepped, od_stepped, .func (PySem.W.fnOf "stepped" "stepped" (defArgs s_stepped) (defBody s_stepped) (defScope s_stepped) .none kV_stepped dc_stepped pm_stepped an_stepped cd_stepped ct_stepped), sl_stepped⟩) (c_stepped : PySem.W.codeIn K cd_stepped "stepped" = true) (k_stepped : PySem.W.keepIn K (.ref f_stepped) = true)
    (a_joined : PySem.W.nsIn K mainGlobals "joined" = some (some (.ref f_joined))) (l_joined : K.lookup f_joined = some ⟨oc_joined, od_joined, .func (PySem.W.fnOf "joined" "joined" (defArgs s_joined) (defBody s_joined) (defScope s_joined) .none kV_joined dc_joined pm_joined an_joined cd_joined ct_joined), sl_joined⟩) (c_joined : PySem.W.codeIn K cd_joined "joined" = true) (k_joined : PySem.W.keepIn K (.ref f_joined) = true)
    (a_bits_of : PySem.W.nsIn K mainGlobals "bits_of" = some (some (.ref f_bits_of))) (l_bits_of : K.lookup f_bits_of = some ⟨oc_bits_of, od_bits_of, .func (PySem.W.fnOf "bits_of" "bits_of" (defArgs s_bits_of) (defBody s_bits_of) (defScope s_bits_of) .none kV_bits_of dc_bits_of pm_bits_of an_bits_of cd_bits_of ct_bits_of), sl_bits_of⟩) (c_bits_of : PySem.W.codeIn K cd_bits_of "bits_of" = true) (k_bits_of : PySem.W.keepIn K (.ref f_bits_of) = true)
    (a_unwound : PySem.W.nsIn K mainGlobals "unwound" = some (some (.ref f_unwound))) (l_unwound : K.lookup f_unwound = some ⟨oc_unwound, od_unwound, .func (PySem.W.fnOf "unwound" "unwound" (defArgs s_unwound) (defBody s_unwound) (defScope s_unwound) .none kV_unwound dc_unwound pm_unwound an_unwound cd_unwound ct_unwound), sl_unwound⟩) (c_unwound : PySem.W.codeIn K cd_unwound "unwound" = true) (k_unwound : PySem.W.keepIn K (.ref f_unwound) = true)
    (a_law_whole : PySem.W.nsIn K mainGlobals "_law_whole" = some (some (.ref f_law_whole))) (l_law_whole : K.lookup f_law_whole = some ⟨oc_law_whole, od_law_whole, .func (PySem.W.fnOf "_law_whole" "_law_whole" (defArgs s_law_whole) (defBody s_law_whole) (defScope s_law_whole) .none kV_law_whole dc_law_whole pm_law_whole an_law_whole cd_law_whole ct_law_whole), sl_law_whole⟩) (c_law_whole : PySem.W.codeIn K cd_law_whole "_law_whole" = true) (k_law_whole : PySem.W.keepIn K (.ref f_law_whole) = true)
    (a_law_row : PySem.W.nsIn K mainGlobals "_law_row" = some (some (.ref f_law_row))) (l_law_row : K.lookup f_law_row = some ⟨oc_law_row, od_law_row, .func (PySem.W.fnOf "_law_row" "_law_row" (defArgs s_law_row) (defBody s_law_row) (defScope s_law_row) .none kV_law_row dc_law_row pm_law_row an_law_row cd_law_row ct_law_row), sl_law_row⟩) (c_law_row : PySem.W.codeIn K cd_law_row "_law_row" = true) (k_law_row : PySem.W.keepIn K (.ref f_law_row) = true)
    (a_law_pen : PySem.W.nsIn K mainGlobals "_law_pen" = some (some (.ref f_law_pen))) (l_law_pen : K.lookup f_law_pen = some ⟨oc_law_pen, od_law_pen, .func (PySem.W.fnOf "_law_pen" "_law_pen" (defArgs s_law_pen) (defBody s_law_pen) (defScope s_law_pen) .none kV_law_pen dc_law_pen pm_law_pen an_law_pen cd_law_pen ct_law_pen), sl_law_pen⟩) (c_law_pen : PySem.W.codeIn K cd_law_pen "_law_pen" = true) (k_law_pen : PySem.W.keepIn K (.ref f_law_pen) = true)
    (a_law_take : PySem.W.nsIn K mainGlobals "_law_take" = some (some (.ref f_law_take))) (l_law_take : K.lookup f_law_take = some ⟨oc_law_take, od_law_take, .func (PySem.W.fnOf "_law_take" "_law_take" (defArgs s_law_take) (defBody s_law_take) (defScope s_law_take) .none kV_law_take dc_law_take pm_law_take an_law_take cd_law_take ct_law_take), sl_law_take⟩) (c_law_take : PySem.W.codeIn K cd_law_take "_law_take" = true) (k_law_take : PySem.W.keepIn K (.ref f_law_take) = true)
    (a_law_signs : PySem.W.nsIn K mainGlobals "_law_signs" = some (some (.ref f_law_signs))) (l_law_signs : K.lookup f_law_signs = some ⟨oc_law_signs, od_law_signs, .func (PySem.W.fnOf "_law_signs" "_law_signs" (defArgs s_law_signs) (defBody s_law_signs) (defScope s_law_signs) .none kV_law_signs dc_law_signs pm_law_signs an_law_signs cd_law_signs ct_law_signs), sl_law_signs⟩) (c_law_signs : PySem.W.codeIn K cd_law_signs "_law_signs" = true) (k_law_signs : PySem.W.keepIn K (.ref f_law_signs) = true)
    (a_law_text : PySem.W.nsIn K mainGlobals "_law_text" = some (some (.ref f_law_text))) (l_law_text : K.lookup f_law_text = some ⟨oc_law_text, od_law_text, .func (PySem.W.fnOf "_law_text" "_law_text" (defArgs s_law_text) (defBody s_law_text) (defScope s_law_text) .none kV_law_text dc_law_text pm_law_text an_law_text cd_law_text ct_law_text), sl_law_text⟩) (c_law_text : PySem.W.codeIn K cd_law_text "_law_text" = true) (k_law_text : PySem.W.keepIn K (.ref f_law_text) = true)
    (a_law_word : PySem.W.nsIn K mainGlobals "_law_word" = some (some (.ref f_law_word))) (l_law_word : K.lookup f_law_word = some ⟨oc_law_word, od_law_word, .func (PySem.W.fnOf "_law_word" "_law_word" (defArgs s_law_word) (defBody s_law_word) (defScope s_law_word) .none kV_law_word dc_law_word pm_law_word an_law_word cd_law_word ct_law_word), sl_law_word⟩) (c_law_word : PySem.W.codeIn K cd_law_word "_law_word" = true) (k_law_word : PySem.W.keepIn K (.ref f_law_word) = true)
    (a_law_book : PySem.W.nsIn K mainGlobals "_law_book" = some (some (.ref f_law_book))) (l_law_book : K.lookup f_law_book = some ⟨oc_law_book, od_law_book, .func (PySem.W.fnOf "_law_book" "_law_book" (defArgs s_law_book) (defBody s_law_book) (defScope s_law_book) .none kV_law_book dc_law_book pm_law_book an_law_book cd_law_book ct_law_book), sl_law_book⟩) (c_law_book : PySem.W.codeIn K cd_law_book "_law_book" = true) (k_law_book : PySem.W.keepIn K (.ref f_law_book) = true)
    (a_law_counts : PySem.W.nsIn K mainGlobals "_law_counts" = some (some (.ref f_law_counts))) (l_law_counts : K.lookup f_law_counts = some ⟨oc_law_counts, od_law_counts, .func (PySem.W.fnOf "_law_counts" "_law_counts" (defArgs s_law_counts) (defBody s_law_counts) (defScope s_law_counts) .none kV_law_counts dc_law_counts pm_law_counts an_law_counts cd_law_counts ct_law_counts), sl_law_counts⟩) (c_law_counts : PySem.W.codeIn K cd_law_counts "_law_counts" = true) (k_law_counts : PySem.W.keepIn K (.ref f_law_counts) = true)
    (a_law_number : PySem.W.nsIn K mainGlobals "_law_number" = some (some (.ref f_law_number))) (l_law_number : K.lookup f_law_number = some ⟨oc_law_number, od_law_number, .func (PySem.W.fnOf "_law_number" "_law_number" (defArgs s_law_number) (defBody s_law_number) (defScope s_law_number) .none kV_law_number dc_law_number pm_law_number an_law_number cd_law_number ct_law_number), sl_law_number⟩) (c_law_number : PySem.W.codeIn K cd_law_number "_law_number" = true) (k_law_number : PySem.W.keepIn K (.ref f_law_number) = true)
    (a_law_age : PySem.W.nsIn K mainGlobals "_law_age" = some (some (.ref f_law_age))) (l_law_age : K.lookup f_law_age = some ⟨oc_law_age, od_law_age, .func (PySem.W.fnOf "_law_age" "_law_age" (defArgs s_law_age) (defBody s_law_age) (defScope s_law_age) .none kV_law_age dc_law_age pm_law_age an_law_age cd_law_age ct_law_age), sl_law_age⟩) (c_law_age : PySem.W.codeIn K cd_law_age "_law_age" = true) (k_law_age : PySem.W.keepIn K (.ref f_law_age) = true)
    (a_law : PySem.W.nsIn K mainGlobals "law" = some (some (.ref f_law))) (l_law : K.lookup f_law = some ⟨oc_law, od_law, .func (PySem.W.fnOf "law" "law" (defArgs s_law) (defBody s_law) (defScope s_law) .none kV_law dc_law pm_law an_law cd_law ct_law), sl_law⟩) (c_law : PySem.W.codeIn K cd_law "law" = true) (k_law : PySem.W.keepIn K (.ref f_law) = true)
    (g_far : PySem.W.nsIn K mainGlobals "FAR_AGE" = some (some (.int (10 ^ 60) tk_far)))
    (g_great : PySem.W.nsIn K mainGlobals "GREAT_NUMBER" = some (some (.int (10 ^ 30) tk_great)))
    (g_most : PySem.W.nsIn K mainGlobals "MOST_TIE" = some (some (.int 16 tk_most)))
    (z_len : PySem.W.nsIn K mainGlobals "len" = some none)
    (z_sum : PySem.W.nsIn K mainGlobals "sum" = some none)
    (z_abs : PySem.W.nsIn K mainGlobals "abs" = some none)
    (z_int : PySem.W.nsIn K mainGlobals "int" = some none)
    (z_bool : PySem.W.nsIn K mainGlobals "bool" = some none)
    (z_isinstance : PySem.W.nsIn K mainGlobals "isinstance" = some none)
    (z_list : PySem.W.nsIn K mainGlobals "list" = some none)
    (z_range : PySem.W.nsIn K mainGlobals "range" = some none)
    (z_enumerate : PySem.W.nsIn K mainGlobals "enumerate" = some none)
    (z_zip : PySem.W.nsIn K mainGlobals "zip" = some none)
    (z_reversed : PySem.W.nsIn K mainGlobals "reversed" = some none)
    (z_sorted : PySem.W.nsIn K mainGlobals "sorted" = some none)
    (z_tuple : PySem.W.nsIn K mainGlobals "tuple" = some none) :
    ∃ fd : FuncData, (∀ (s : Shared) (v : Value), BindsTo s fd ⟨[v], []⟩ [("_law_script", v)]) ∧ ∀ base : Heap, K.In base → base.Ns mainGlobals mg → FnOk l.prog w K mg base CX0 10 fa fd ["_law_script"] (spLaw K) := by
  have e := hfa.symm.trans (PySem.W.mg_of X G a_law)
  cases e
  have T : Txt mg := ⟨PySem.W.mg_none_of X G z_len, PySem.W.mg_none_of X G z_sum, PySem.W.mg_none_of X G z_abs, PySem.W.mg_none_of X G z_int, PySem.W.mg_none_of X G z_bool, PySem.W.mg_none_of X G z_isinstance, PySem.W.mg_none_of X G z_list, PySem.W.mg_none_of X G z_range, PySem.W.mg_none_of X G z_enumerate, PySem.W.mg_none_of X G z_zip, PySem.W.mg_none_of X G z_reversed, PySem.W.mg_none_of X G z_sorted, PySem.W.mg_none_of X G z_tuple, ⟨_, PySem.W.mg_of X G g_far⟩, ⟨_, PySem.W.mg_of X G g_great⟩, ⟨_, PySem.W.mg_of X G g_most⟩⟩
  have F_is_whole := fun_mk (st := s_is_whole) l_is_whole c_is_whole k_is_whole
  have b_is_whole := F_is_whole.binds (ps := p_is_whole) fun _ _ _ _ _ _ us hl => match us, hl with | [_], _ => rfl
  have F_letters := fun_mk (st := s_letters) l_letters c_letters k_letters
  have b_letters := F_letters.binds (ps := p_letters) fun _ _ _ _ _ _ us hl => match us, hl with | [_], _ => rfl
  have F_tally := fun_mk (st := s_tally) l_tally c_tally k_tally
  have b_tally := F_tally.binds (ps := p_tally) fun _ _ _ _ _ _ us hl => match us, hl with | [_, _], _ => rfl
  have F_table := fun_mk (st := s_table) l_table c_table k_table
  have b_table := F_table.binds (ps := p_table) fun _ _ _ _ _ _ us hl => match us, hl with | [_], _ => rfl
  have F_passed := fun_mk (st := s_passed) l_passed c_passed k_passed
  have b_passed := F_passed.binds (ps := p_passed) fun _ _ _ _ _ _ us hl => match us, hl with | [_, _], _ => rfl
  have F_need_far := fun_mk (st := s_need_far) l_need_far c_need_far k_need_far
  have b_need_far := F_need_far.binds (ps := p_need_far) fun _ _ _ _ _ _ us hl => match us, hl with | [_, _], _ => rfl
  have F_led := fun_mk (st := s_led) l_led c_led k_led
  have b_led := F_led.binds (ps := p_led) fun _ _ _ _ _ _ us hl => match us, hl with | [_, _, _], _ => rfl
  have F_laid := fun_mk (st := s_laid) l_laid c_laid k_laid
  have b_laid := F_laid.binds (ps := p_laid) fun _ _ _ _ _ _ us hl => match us, hl with | [_, _, _], _ => rfl
  have F_counts_at := fun_mk (st := s_counts_at) l_counts_at c_counts_at k_counts_at
  have b_counts_at := F_counts_at.binds (ps := p_counts_at) fun _ _ _ _ _ _ us hl => match us, hl with | [_, _, _], _ => rfl
  have F_length_at := fun_mk (st := s_length_at) l_length_at c_length_at k_length_at
  have b_length_at := F_length_at.binds (ps := p_length_at) fun _ _ _ _ _ _ us hl => match us, hl with | [_, _, _], _ => rfl
  have F_common := fun_mk (st := s_common) l_common c_common k_common
  have b_common := F_common.binds (ps := p_common) fun _ _ _ _ _ _ us hl => match us, hl with | [_, _], _ => rfl
  have F_lowered := fun_mk (st := s_lowered) l_lowered c_lowered k_lowered
  have b_lowered := F_lowered.binds (ps := p_lowered) fun _ _ _ _ _ _ us hl => match us, hl with | [_], _ => rfl
  have F_lead_of := fun_mk (st := s_lead_of) l_lead_of c_lead_of k_lead_of
  have b_lead_of := F_lead_of.binds (ps := p_lead_of) fun _ _ _ _ _ _ us hl => match us, hl with | [_], _ => rfl
  have F_cleared := fun_mk (st := s_cleared) l_cleared c_cleared k_cleared
  have b_cleared := F_cleared.binds (ps := p_cleared) fun _ _ _ _ _ _ us hl => match us, hl with | [_, _], _ => rfl
  have F_first_tie := fun_mk (st := s_first_tie) l_first_tie c_first_tie k_first_tie
  have b_first_tie := F_first_tie.binds (ps := p_first_tie) fun _ _ _ _ _ _ us hl => match us, hl with | [_], _ => rfl
  have F_first_counts := fun_mk (st := s_first_counts) l_first_counts c_first_counts k_first_counts
  have b_first_counts := F_first_counts.binds (ps := p_first_counts) fun _ _ _ _ _ _ us hl => match us, hl with | [_, _], _ => rfl
  have F_joint_counts := fun_mk (st := s_joint_counts) l_joint_counts c_joint_counts k_joint_counts
  have b_joint_counts := F_joint_counts.binds (ps := p_joint_counts) fun _ _ _ _ _ _ us hl => match us, hl with | [_, _, _], _ => rfl
  have F_tie : FunD K "tie" "tie" (defArgs s_tie) (defBody s_tie) (defScope s_tie) [.non] [] f_tie _ := ⟨⟨_, _, _, _, _, _, _, _, _, _, rfl, l_tie, c_tie, .inr ⟨by simp, T_tie, _, [Value.none], _, rfl, t_tie, rfl, .cons rfl .nil⟩, .inl rfl⟩, k_tie⟩
  obtain ⟨ds_tie, hd_tie, b_tie⟩ := F_tie.binds1 (ps := p_tie) 1 0 (by simp) rfl (fun _ _ _ _ _ _ _ us its h1 h2 => match us, its, h1, h2 with | [_], [_], _, _ => ⟨_, rfl, rfl⟩)
  have F_is_row := fun_mk (st := s_is_row) l_is_row c_is_row k_is_row
  have b_is_row := F_is_row.binds (ps := p_is_row) fun _ _ _ _ _ _ us hl => match us, hl with | [_], _ => rfl
  have F_first_weights := fun_mk (st := s_first_weights) l_first_weights c_first_weights k_first_weights
  have b_first_weights := F_first_weights.binds (ps := p_first_weights) fun _ _ _ _ _ _ us hl => match us, hl with | [_, _, _], _ => rfl
  have F_weight_tie := fun_mk (st := s_weight_tie) l_weight_tie c_weight_tie k_weight_tie
  have b_weight_tie := F_weight_tie.binds (ps := p_weight_tie) fun _ _ _ _ _ _ us hl => match us, hl with | [_, _], _ => rfl
  have F_length_tie := fun_mk (st := s_length_tie) l_length_tie c_length_tie k_length_tie
  have b_length_tie := F_length_tie.binds (ps := p_length_tie) fun _ _ _ _ _ _ us hl => match us, hl with | [_], _ => rfl
  have F_stepped := fun_mk (st := s_stepped) l_stepped c_stepped k_stepped
  have b_stepped := F_stepped.binds (ps := p_stepped) fun _ _ _ _ _ _ us hl => match us, hl with | [_, _, _], _ => rfl
  have F_joined := fun_mk (st := s_joined) l_joined c_joined k_joined
  have b_joined := F_joined.binds (ps := p_joined) fun _ _ _ _ _ _ us hl => match us, hl with | [_, _, _], _ => rfl
  have F_bits_of := fun_mk (st := s_bits_of) l_bits_of c_bits_of k_bits_of
  have b_bits_of := F_bits_of.binds (ps := p_bits_of) fun _ _ _ _ _ _ us hl => match us, hl with | [_], _ => rfl
  have F_unwound := fun_mk (st := s_unwound) l_unwound c_unwound k_unwound
  have b_unwound := F_unwound.binds (ps := p_unwound) fun _ _ _ _ _ _ us hl => match us, hl with | [_, _, _, _], _ => rfl
  have F_law_whole := fun_mk (st := s_law_whole) l_law_whole c_law_whole k_law_whole
  have b_law_whole := F_law_whole.binds (ps := p_law_whole) fun _ _ _ _ _ _ us hl => match us, hl with | [_], _ => rfl
  have F_law_row := fun_mk (st := s_law_row) l_law_row c_law_row k_law_row
  have b_law_row := F_law_row.binds (ps := p_law_row) fun _ _ _ _ _ _ us hl => match us, hl with | [_], _ => rfl
  have F_law_pen := fun_mk (st := s_law_pen) l_law_pen c_law_pen k_law_pen
  have b_law_pen := F_law_pen.binds (ps := p_law_pen) fun _ _ _ _ _ _ us hl => match us, hl with | [_, _], _ => rfl
  have F_law_take := fun_mk (st := s_law_take) l_law_take c_law_take k_law_take
  have b_law_take := F_law_take.binds (ps := p_law_take) fun _ _ _ _ _ _ us hl => match us, hl with | [_, _], _ => rfl
  have F_law_signs := fun_mk (st := s_law_signs) l_law_signs c_law_signs k_law_signs
  have b_law_signs := F_law_signs.binds (ps := p_law_signs) fun _ _ _ _ _ _ us hl => match us, hl with | [_, _], _ => rfl
  have F_law_text := fun_mk (st := s_law_text) l_law_text c_law_text k_law_text
  have b_law_text := F_law_text.binds (ps := p_law_text) fun _ _ _ _ _ _ us hl => match us, hl with | [_, _, _], _ => rfl
  have F_law_word := fun_mk (st := s_law_word) l_law_word c_law_word k_law_word
  have b_law_word := F_law_word.binds (ps := p_law_word) fun _ _ _ _ _ _ us hl => match us, hl with | [_, _, _, _], _ => rfl
  have F_law_book := fun_mk (st := s_law_book) l_law_book c_law_book k_law_book
  have b_law_book := F_law_book.binds (ps := p_law_book) fun _ _ _ _ _ _ us hl => match us, hl with | [_], _ => rfl
  have F_law_counts := fun_mk (st := s_law_counts) l_law_counts c_law_counts k_law_counts
  have b_law_counts := F_law_counts.binds (ps := p_law_counts) fun _ _ _ _ _ _ us hl => match us, hl with | [_, _], _ => rfl
  have F_law_number := fun_mk (st := s_law_number) l_law_number c_law_number k_law_number
  have b_law_number := F_law_number.binds (ps := p_law_number) fun _ _ _ _ _ _ us hl => match us, hl with | [_], _ => rfl
  have F_law_age := fun_mk (st := s_law_age) l_law_age c_law_age k_law_age
  have b_law_age := F_law_age.binds (ps := p_law_age) fun _ _ _ _ _ _ us hl => match us, hl with | [_], _ => rfl
  have F_law := fun_mk (st := s_law) l_law c_law k_law
  refine ⟨PySem.W.fnOf "law" "law" (defArgs s_law) (defBody s_law) (defScope s_law) .none kV_law dc_law pm_law an_law cd_law ct_law, fun s v => .of_eq rfl, fun base _ _ => ?_⟩
  let D_is_whole : DefOk l.prog w K mg base "is_whole" 1 p_is_whole [] spWhole := ⟨f_is_whole, _, [], ok_is_whole T F_is_whole, PySem.W.mg_of X G a_is_whole, k_is_whole, b_is_whole, .nil⟩
  let D_letters : DefOk l.prog w K mg base "letters" 1 p_letters [] spLetters := ⟨f_letters, _, [], ok_letters F_letters, PySem.W.mg_of X G a_letters, k_letters, b_letters, .nil⟩
  let D_tally : DefOk l.prog w K mg base "tally" 1 p_tally [] spTally := ⟨f_tally, _, [], ok_tally F_tally, PySem.W.mg_of X G a_tally, k_tally, b_tally, .nil⟩
  let D_table : DefOk l.prog w K mg base "table" 2 p_table [] spTable := ⟨f_table, _, [], ok_table F_table D_letters D_tally, PySem.W.mg_of X G a_table, k_table, b_table, .nil⟩
  let D_passed : DefOk l.prog w K mg base "passed" 1 p_passed [] spPassed := ⟨f_passed, _, [], ok_passed T F_passed, PySem.W.mg_of X G a_passed, k_passed, b_passed, .nil⟩
  let D_need_far : DefOk l.prog w K mg base "need_far" 2 p_need_far [] spNeed := ⟨f_need_far, _, [], ok_need_far T F_need_far D_is_whole, PySem.W.mg_of X G a_need_far, k_need_far, b_need_far, .nil⟩
  let D_led : DefOk l.prog w K mg base "led" 1 p_led [] spLed := ⟨f_led, _, [], ok_led T F_led, PySem.W.mg_of X G a_led, k_led, b_led, .nil⟩
  let D_laid : DefOk l.prog w K mg base "laid" 2 p_laid [] spLaid := ⟨f_laid, _, [], ok_laid F_laid D_led, PySem.W.mg_of X G a_laid, k_laid, b_laid, .nil⟩
  let D_counts_at : DefOk l.prog w K mg base "counts_at" 3 p_counts_at [] spCountsAt := ⟨f_counts_at, _, [], ok_counts_at F_counts_at D_need_far D_letters D_tally D_table D_led D_laid, PySem.W.mg_of X G a_counts_at, k_counts_at, b_counts_at, .nil⟩
  let D_length_at : DefOk l.prog w K mg base "length_at" 4 p_length_at [] spLengthAt := ⟨f_length_at, _, [], ok_length_at T F_length_at D_counts_at, PySem.W.mg_of X G a_length_at, k_length_at, b_length_at, .nil⟩
  let D_common : DefOk l.prog w K mg base "common" 1 p_common [] spCommon := ⟨f_common, _, [], ok_common T F_common, PySem.W.mg_of X G a_common, k_common, b_common, .nil⟩
  let D_lowered : DefOk l.prog w K mg base "lowered" 2 p_lowered [] spLowered := ⟨f_lowered, _, [], ok_lowered F_lowered D_common, PySem.W.mg_of X G a_lowered, k_lowered, b_lowered, .nil⟩
  let D_lead_of : DefOk l.prog w K mg base "lead_of" 1 p_lead_of [] spLead := ⟨f_lead_of, _, [], ok_lead_of T F_lead_of, PySem.W.mg_of X G a_lead_of, k_lead_of, b_lead_of, .nil⟩
  let D_cleared : DefOk l.prog w K mg base "cleared" 3 p_cleared [] spCleared := ⟨f_cleared, _, [], ok_cleared T F_cleared D_lowered, PySem.W.mg_of X G a_cleared, k_cleared, b_cleared, .nil⟩
  let D_first_tie : DefOk l.prog w K mg base "first_tie" 4 p_first_tie [] spTie := ⟨f_first_tie, _, [], ok_first_tie T F_first_tie D_cleared D_lead_of, PySem.W.mg_of X G a_first_tie, k_first_tie, b_first_tie, .nil⟩
  let D_first_counts : DefOk l.prog w K mg base "first_counts" 3 p_first_counts [] spFirstCounts := ⟨f_first_counts, _, [], ok_first_counts T F_first_counts D_letters D_tally D_table D_passed, PySem.W.mg_of X G a_first_counts, k_first_counts, b_first_counts, .nil⟩
  let D_joint_counts : DefOk l.prog w K mg base "joint_counts" 4 p_joint_counts [] spJoint := ⟨f_joint_counts, _, [], ok_joint_counts F_joint_counts D_first_counts, PySem.W.mg_of X G a_joint_counts, k_joint_counts, b_joint_counts, .nil⟩
  let D_tie : DefOk l.prog w K mg base "tie" 5 p_tie [.non] spBookTie := ⟨f_tie, _, ds_tie, ok_tie T F_tie D_letters D_first_tie D_joint_counts, PySem.W.mg_of X G a_tie, k_tie, b_tie, hd_tie⟩
  let D_is_row : DefOk l.prog w K mg base "is_row" 2 p_is_row [] spRow := ⟨f_is_row, _, [], ok_is_row T F_is_row D_is_whole, PySem.W.mg_of X G a_is_row, k_is_row, b_is_row, .nil⟩
  let D_first_weights : DefOk l.prog w K mg base "first_weights" 4 p_first_weights [] spWeights := ⟨f_first_weights, _, [], ok_first_weights T F_first_weights D_first_counts, PySem.W.mg_of X G a_first_weights, k_first_weights, b_first_weights, .nil⟩
  let D_weight_tie : DefOk l.prog w K mg base "weight_tie" 5 p_weight_tie [] spWeightTie := ⟨f_weight_tie, _, [], ok_weight_tie T F_weight_tie D_letters D_first_tie D_first_weights, PySem.W.mg_of X G a_weight_tie, k_weight_tie, b_weight_tie, .nil⟩
  let D_length_tie : DefOk l.prog w K mg base "length_tie" 6 p_length_tie [] spLengthTie := ⟨f_length_tie, _, [], ok_length_tie F_length_tie D_letters D_weight_tie, PySem.W.mg_of X G a_length_tie, k_length_tie, b_length_tie, .nil⟩
  let D_stepped : DefOk l.prog w K mg base "stepped" 1 p_stepped [] spStep := ⟨f_stepped, _, [], ok_stepped T F_stepped, PySem.W.mg_of X G a_stepped, k_stepped, b_stepped, .nil⟩
  let D_joined : DefOk l.prog w K mg base "joined" 2 p_joined [] spJoin := ⟨f_joined, _, [], ok_joined T F_joined D_stepped, PySem.W.mg_of X G a_joined, k_joined, b_joined, .nil⟩
  let D_bits_of : DefOk l.prog w K mg base "bits_of" 1 p_bits_of [] spBits := ⟨f_bits_of, _, [], ok_bits_of F_bits_of, PySem.W.mg_of X G a_bits_of, k_bits_of, b_bits_of, .nil⟩
  let D_unwound : DefOk l.prog w K mg base "unwound" 3 p_unwound [] spUnw := ⟨f_unwound, _, [], ok_unwound T F_unwound D_is_row D_need_far D_bits_of D_joined D_stepped, PySem.W.mg_of X G a_unwound, k_unwound, b_unwound, .nil⟩
  let D_law_whole : DefOk l.prog w K mg base "_law_whole" 1 p_law_whole [] spWhole := ⟨f_law_whole, _, [], ok_law_whole T F_law_whole, PySem.W.mg_of X G a_law_whole, k_law_whole, b_law_whole, .nil⟩
  let D_law_row : DefOk l.prog w K mg base "_law_row" 2 p_law_row [] spLRow := ⟨f_law_row, _, [], ok_law_row T F_law_row D_law_whole, PySem.W.mg_of X G a_law_row, k_law_row, b_law_row, .nil⟩
  let D_law_pen : DefOk l.prog w K mg base "_law_pen" 1 p_law_pen [] (spPen K) := ⟨f_law_pen, _, [], ok_law_pen T F_law_pen, PySem.W.mg_of X G a_law_pen, k_law_pen, b_law_pen, .nil⟩
  let D_law_take : DefOk l.prog w K mg base "_law_take" 1 p_law_take [] spTake := ⟨f_law_take, _, [], ok_law_take F_law_take, PySem.W.mg_of X G a_law_take, k_law_take, b_law_take, .nil⟩
  let D_law_signs : DefOk l.prog w K mg base "_law_signs" 2 p_law_signs [] spSigns := ⟨f_law_signs, _, [], ok_law_signs T F_law_signs D_law_take, PySem.W.mg_of X G a_law_signs, k_law_signs, b_law_signs, .nil⟩
  let D_law_text : DefOk l.prog w K mg base "_law_text" 2 p_law_text [] spText := ⟨f_law_text, _, [], ok_law_text T F_law_text D_law_take, PySem.W.mg_of X G a_law_text, k_law_text, b_law_text, .nil⟩
  let D_law_word : DefOk l.prog w K mg base "_law_word" 3 p_law_word [] spWord := ⟨f_law_word, _, [], ok_law_word T F_law_word D_law_take D_law_text, PySem.W.mg_of X G a_law_word, k_law_word, b_law_word, .nil⟩
  let D_law_book : DefOk l.prog w K mg base "_law_book" 4 p_law_book [] spBook := ⟨f_law_book, _, [], ok_law_book T F_law_book D_law_take D_law_text D_law_signs D_law_word, PySem.W.mg_of X G a_law_book, k_law_book, b_law_book, .nil⟩
  let D_law_counts : DefOk l.prog w K mg base "_law_counts" 1 p_law_counts [] spLCounts := ⟨f_law_counts, _, [], ok_law_counts T F_law_counts, PySem.W.mg_of X G a_law_counts, k_law_counts, b_law_counts, .nil⟩
  let D_law_number : DefOk l.prog w K mg base "_law_number" 2 p_law_number [] spNum := ⟨f_law_number, _, [], ok_law_number F_law_number D_law_take, PySem.W.mg_of X G a_law_number, k_law_number, b_law_number, .nil⟩
  let D_law_age : DefOk l.prog w K mg base "_law_age" 2 p_law_age [] spAge := ⟨f_law_age, _, [], ok_law_age F_law_age D_law_take, PySem.W.mg_of X G a_law_age, k_law_age, b_law_age, .nil⟩
  exact ok_law HM T F_law D_law_pen D_law_age D_law_number D_law_take D_law_book D_tie D_length_tie D_law_row D_law_counts D_counts_at D_length_at D_law_whole D_unwound
end Lg
open PySem PySem.W PyProof.Rows in
set_option maxRecDepth 100000 in
set_option maxHeartbeats 0 in
theorem PySem.Challenge.cw_linegrow_k42_whole_ties_at_great_ages_holds : PySem.Challenge.rw_linegrow_k42_whole_ties_at_great_ages.Holds := by
  w_on; o_law; k_head; (case hw => w_witness2)
  k_fill
  refine L2.walk_of (l := PySem.Challenge.rw_linegrow_k42_whole_ties_at_great_ages) (n := 63) (k := 10) (x := "_law_script") (CX := fun _ => L2.CX0) (sp := fun w => Lg.spLaw _) rfl (by decide) rfl ⟨rfl, by decide, by decide⟩ (fun w h Y => PySem.W.kIn_of Y) ?F (fun _ _ a ns hl _ hS => ⟨a, ns, rfl, hS, hl, fun _ => rfl⟩) (fun _ _ _ _ _ h => h)
  case F =>
    intro w mg fa h KX G hmg
    refine' Lg.all_mk KX G hmg ?a_is_whole ?l_is_whole ?c_is_whole ?k_is_whole ?a_letters ?l_letters ?c_letters ?k_letters ?a_tally ?l_tally ?c_tally ?k_tally ?a_table ?l_table ?c_table ?k_table ?a_passed ?l_passed ?c_passed ?k_passed ?a_need_far ?l_need_far ?c_need_far ?k_need_far ?a_led ?l_led ?c_led ?k_led ?a_laid ?l_laid ?c_laid ?k_laid ?a_counts_at ?l_counts_at ?c_counts_at ?k_counts_at ?a_length_at ?l_length_at ?c_length_at ?k_length_at ?a_common ?l_common ?c_common ?k_common ?a_lowered ?l_lowered ?c_lowered ?k_lowered ?a_lead_of ?l_lead_of ?c_lead_of ?k_lead_of ?a_cleared ?l_cleared ?c_cleared ?k_cleared ?a_first_tie ?l_first_tie ?c_first_tie ?k_first_tie ?a_first_counts ?l_first_counts ?c_first_counts ?k_first_counts ?a_joint_counts ?l_joint_counts ?c_joint_counts ?k_joint_counts ?a_tie ?l_tie ?t_tie ?c_tie ?k_tie ?a_is_row ?l_is_row ?c_is_row ?k_is_row ?a_first_weights ?l_first_weights ?c_first_weights ?k_first_weights ?a_weight_tie ?l_weight_tie ?c_weight_tie ?k_weight_tie ?a_length_tie ?l_length_tie ?c_length_tie ?k_length_tie ?a_stepped ?l_stepped ?c_stepped ?k_stepped ?a_joined ?l_joined ?c_joined ?k_joined ?a_bits_of ?l_bits_of ?c_bits_of ?k_bits_of ?a_unwound ?l_unwound ?c_unwound ?k_unwound ?a_law_whole ?l_law_whole ?c_law_whole ?k_law_whole ?a_law_row ?l_law_row ?c_law_row ?k_law_row ?a_law_pen ?l_law_pen ?c_law_pen ?k_law_pen ?a_law_take ?l_law_take ?c_law_take ?k_law_take ?a_law_signs ?l_law_signs ?c_law_signs ?k_law_signs ?a_law_text ?l_law_text ?c_law_text ?k_law_text ?a_law_word ?l_law_word ?c_law_word ?k_law_word ?a_law_book ?l_law_book ?c_law_book ?k_law_book ?a_law_counts ?l_law_counts ?c_law_counts ?k_law_counts ?a_law_number ?l_law_number ?c_law_number ?k_law_number ?a_law_age ?l_law_age ?c_law_age ?k_law_age ?a_law ?l_law ?c_law ?k_law ?g_far ?g_great ?g_most ?z_len ?z_sum ?z_abs ?z_int ?z_bool ?z_isinstance ?z_list ?z_range ?z_enumerate ?z_zip ?z_reversed ?z_sorted ?z_tuple
    (case a_is_whole => k_is)
    (case l_is_whole => k_is)
    (case c_is_whole => k_is)
    (case k_is_whole => k_is)
    (case a_letters => k_is)
    (case l_letters => k_is)
    (case c_letters => k_is)
    (case k_letters => k_is)
    (case a_tally => k_is)
    (case l_tally => k_is)
    (case c_tally => k_is)
    (case k_tally => k_is)
    (case a_table => k_is)
    (case l_table => k_is)
    (case c_table => k_is)
    (case k_table => k_is)
    (case a_passed => k_is)
    (case l_passed => k_is)
    (case c_passed => k_is)
    (case k_passed => k_is)
    (case a_need_far => k_is)
    (case l_need_far => k_is)
    (case c_need_far => k_is)
    (case k_need_far => k_is)
    (case a_led => k_is)
    (case l_led => k_is)
    (case c_led => k_is)
    (case k_led => k_is)
    (case a_laid => k_is)
    (case l_laid => k_is)
    (case c_laid => k_is)
    (case k_laid => k_is)
    (case a_counts_at => k_is)
    (case l_counts_at => k_is)
    (case c_counts_at => k_is)
    (case k_counts_at => k_is)
    (case a_length_at => k_is)
    (case l_length_at => k_is)
    (case c_length_at => k_is)
    (case k_length_at => k_is)
    (case a_common => k_is)
    (case l_common => k_is)
    (case c_common => k_is)
    (case k_common => k_is)
    (case a_lowered => k_is)
    (case l_lowered => k_is)
    (case c_lowered => k_is)
    (case k_lowered => k_is)
    (case a_lead_of => k_is)
    (case l_lead_of => k_is)
    (case c_lead_of => k_is)
    (case k_lead_of => k_is)
    (case a_cleared => k_is)
    (case l_cleared => k_is)
    (case c_cleared => k_is)
    (case k_cleared => k_is)
    (case a_first_tie => k_is)
    (case l_first_tie => k_is)
    (case c_first_tie => k_is)
    (case k_first_tie => k_is)
    (case a_first_counts => k_is)
    (case l_first_counts => k_is)
    (case c_first_counts => k_is)
    (case k_first_counts => k_is)
    (case a_joint_counts => k_is)
    (case l_joint_counts => k_is)
    (case c_joint_counts => k_is)
    (case k_joint_counts => k_is)
    (case a_tie => k_is)
    (case l_tie => k_is)
    (case t_tie => k_is)
    (case c_tie => k_is)
    (case k_tie => k_is)
    (case a_is_row => k_is)
    (case l_is_row => k_is)
    (case c_is_row => k_is)
    (case k_is_row => k_is)
    (case a_first_weights => k_is)
    (case l_first_weights => k_is)
    (case c_first_weights => k_is)
    (case k_first_weights => k_is)
    (case a_weight_tie => k_is)
    (case l_weight_tie => k_is)
    (case c_weight_tie => k_is)
    (case k_weight_tie => k_is)
    (case a_length_tie => k_is)
    (case l_length_tie => k_is)
    (case c_length_tie => k_is)
    (case k_length_tie => k_is)
    (case a_stepped => k_is)
    (case l_stepped => k_is)
    (case c_stepped => k_is)
    (case k_stepped => k_is)
    (case a_joined => k_is)
    (case l_joined => k_is)
    (case c_joined => k_is)
    (case k_joined => k_is)
    (case a_bits_of => k_is)
    (case l_bits_of => k_is)
    (case c_bits_of => k_is)
    (case k_bits_of => k_is)
    (case a_unwound => k_is)
    (case l_unwound => k_is)
    (case c_unwound => k_is)
    (case k_unwound => k_is)
    (case a_law_whole => k_is)
    (case l_law_whole => k_is)
    (case c_law_whole => k_is)
    (case k_law_whole => k_is)
    (case a_law_row => k_is)
    (case l_law_row => k_is)
    (case c_law_row => k_is)
    (case k_law_row => k_is)
    (case a_law_pen => k_is)
    (case l_law_pen => k_is)
    (case c_law_pen => k_is)
    (case k_law_pen => k_is)
    (case a_law_take => k_is)
    (case l_law_take => k_is)
    (case c_law_take => k_is)
    (case k_law_take => k_is)
    (case a_law_signs => k_is)
    (case l_law_signs => k_is)
    (case c_law_signs => k_is)
    (case k_law_signs => k_is)
    (case a_law_text => k_is)
    (case l_law_text => k_is)
    (case c_law_text => k_is)
    (case k_law_text => k_is)
    (case a_law_word => k_is)
    (case l_law_word => k_is)
    (case c_law_word => k_is)
    (case k_law_word => k_is)
    (case a_law_book => k_is)
    (case l_law_book => k_is)
    (case c_law_book => k_is)
    (case k_law_book => k_is)
    (case a_law_counts => k_is)
    (case l_law_counts => k_is)
    (case c_law_counts => k_is)
    (case k_law_counts => k_is)
    (case a_law_number => k_is)
    (case l_law_number => k_is)
    (case c_law_number => k_is)
    (case k_law_number => k_is)
    (case a_law_age => k_is)
    (case l_law_age => k_is)
    (case c_law_age => k_is)
    (case k_law_age => k_is)
    (case a_law => k_is)
    (case l_law => k_is)
    (case c_law => k_is)
    (case k_law => k_is)
    (case g_far => k_is)
    (case g_great => k_is)
    (case g_most => k_is)
    (case z_len => k_is)
    (case z_sum => k_is)
    (case z_abs => k_is)
    (case z_int => k_is)
    (case z_bool => k_is)
    (case z_isinstance => k_is)
    (case z_list => k_is)
    (case z_range => k_is)
    (case z_enumerate => k_is)
    (case z_zip => k_is)
    (case z_reversed => k_is)
    (case z_sorted => k_is)
    (case z_tuple => k_is)
