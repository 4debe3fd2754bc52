import PyProof.Rows.All
import Wide.All
import OpenK.AllK
import Wide.FinOn
import HandS.ForMost
import HandS.Wide
import HandS.IsInst
import HandS.Zip
import HandS.TupAny
import HandS.TupMul
import HandS.Style
import HandS.Walk
import PyProof.ReprRoads
import PyProof.ReprLen
import PyProof.CallFns
import HandS.SetFor
import HandS.Remove
import HandS.Text
import KE.IntBitsLaws
import HandS.Defaults
import KE.IntTextLaws
import PyProof.Rows.RegStrFacts
import PySem.Challenge.RW_slopehouse_k01_fractions_and_names
set_option Elab.async false
set_option linter.all false
set_option maxRecDepth 100000
set_option maxHeartbeats 4000000
/-! D1: values as data, a state of what may change, the judgements over it. -/
namespace D
open PySem PySem.Spec PyProof.Rows L2

/-! ### data -/
inductive A where
  | non | bl (b : Bool) | int (i : Int) | str (x : Str) | ty (n : String) | loc (p : Addr)
  | tup (xs : List A) | lst (xs : List A) | fls (xs : List A)
instance : Inhabited A := ⟨.non⟩

/-- Ex: all that stood stands -/
def Ex (H H' : Hp) : Prop := ∀ p u, H p = some u → H' p = some u
theorem Ex.refl (H : Hp) : Ex H H := by intro p u h; exact h
theorem Ex.trans {H H1 H2 : Hp} (f : Ex H H1) (g : Ex H1 H2) : Ex H H2 := by intro p u h; exact g p u (f p u h)
theorem Ex.rd {H H' : Hp} {a : Addr} {u : HO} (e : Ex H H') (h : Rd H a u) : Rd H' a u := by
  exact h.imp (e a _) fun q => q.imp fun o => e a _
theorem Ex.l {K : PySem.W.Frag} {H H' : Hp} {a : Addr} {xs : List V} (e : Ex H H') (h : SqL K H a xs) : SqL K H' a xs := h.elim (fun h => .inl (e.rd h)) .inr
theorem Ex.t {K : PySem.W.Frag} {H H' : Hp} {a : Addr} {xs : List V} (e : Ex H H') (h : SqT K H a xs) : SqT K H' a xs := h.elim (fun h => .inl (e.rd h)) .inr
theorem Ex.new {H : Hp} {p : Addr} {o : HO} (nl : H p = none) : Ex H (upd H p o) := by
  intro q u e
  exact (upd_ne (ne_of_none e nl)).trans e
theorem Ex.none {H H' : Hp} {p : Addr} (e : Ex H H') (h : H' p = Option.none) : H p = Option.none := by
  cases q : H p with
  | none => rfl
  | some o => rw [e p o q] at h; cases h

mutual
def Rep (K : PySem.W.Frag) (H : Hp) : A → V → Prop
  | .non, v => v = .non
  | .bl b, v => v = .bl b
  | .int i, v => v = .int i
  | .str x, v => v = .str x
  | .ty n, v => v = .ty n
  | .loc p, v => v = .ref p
  | .tup xs, v => ∃ a vs, v = .ref a ∧ SqT K H a vs ∧ RepL K H xs vs
  | .lst xs, v => ∃ a vs, v = .ref a ∧ H a = some (.lst vs) ∧ RepL K H xs vs
  | .fls xs, v => ∃ a vs, v = .ref a ∧ SqL K H a vs ∧ RepL K H xs vs
def RepL (K : PySem.W.Frag) (H : Hp) : List A → List V → Prop
  | [], vs => vs = []
  | x :: xs, vs => ∃ v r, vs = v :: r ∧ Rep K H x v ∧ RepL K H xs r
end
section
variable {K : PySem.W.Frag} {H H' : Hp}
mutual
theorem Rep.mono (e : Ex H H') : ∀ {x : A} {v : V}, Rep K H x v → Rep K H' x v
  | .non, _, h => by simp only [Rep] at h ⊢; exact h
  | .bl _, _, h => by simp only [Rep] at h ⊢; exact h
  | .int _, _, h => by simp only [Rep] at h ⊢; exact h
  | .str _, _, h => by simp only [Rep] at h ⊢; exact h
  | .ty _, _, h => by simp only [Rep] at h ⊢; exact h
  | .loc _, _, h => by simp only [Rep] at h ⊢; exact h
  | .tup xs, _, h => by
    simp only [Rep] at h ⊢
    obtain ⟨a, vs, h1, h2, h3⟩ := h
    exact ⟨a, vs, h1, e.t h2, RepL.mono e h3⟩
  | .lst xs, _, h => by
    simp only [Rep] at h ⊢
    obtain ⟨a, vs, h1, h2, h3⟩ := h
    exact ⟨a, vs, h1, e _ _ h2, RepL.mono e h3⟩
  | .fls xs, _, h => by
    simp only [Rep] at h ⊢
    obtain ⟨a, vs, h1, h2, h3⟩ := h
    exact ⟨a, vs, h1, e.l h2, RepL.mono e h3⟩
theorem RepL.mono (e : Ex H H') : ∀ {xs : List A} {vs : List V}, RepL K H xs vs → RepL K H' xs vs
  | [], _, h => by simp only [RepL] at h ⊢; exact h
  | x :: xs, _, h => by
    simp only [RepL] at h ⊢
    obtain ⟨v, r, h1, h2, h3⟩ := h
    exact ⟨v, r, h1, Rep.mono e h2, RepL.mono e h3⟩
end
theorem RepL.nil : RepL K H [] [] := by simp only [RepL]
theorem RepL.cons {x : A} {xs : List A} {v : V} {vs : List V} (h : Rep K H x v) (t : RepL K H xs vs) : RepL K H (x :: xs) (v :: vs) := by
  simp only [RepL]; exact ⟨v, vs, rfl, h, t⟩
theorem RepL.len : ∀ {xs : List A} {vs : List V}, RepL K H xs vs → vs.length = xs.length
  | [], _, h => by simp only [RepL] at h; rw [h]; rfl
  | x :: xs, _, h => by
    simp only [RepL] at h
    obtain ⟨v, r, rfl, _, h3⟩ := h
    simp [RepL.len h3]
theorem RepL.get : ∀ {xs : List A} {vs : List V} {i : Nat} {x : A}, RepL K H xs vs → xs[i]? = some x → ∃ v, vs[i]? = some v ∧ Rep K H x v
  | [], _, _, _, _, e => by simp at e
  | y :: xs, _, 0, x, h, e => by
    simp only [RepL] at h
    obtain ⟨v, r, rfl, h1, h3⟩ := h
    simp at e; subst e
    exact ⟨v, rfl, h1⟩
  | y :: xs, _, i + 1, x, h, e => by
    simp only [RepL] at h
    obtain ⟨v, r, rfl, h1, h3⟩ := h
    obtain ⟨w, e1, e2⟩ := RepL.get (i := i) h3 (by simpa using e)
    exact ⟨w, by simpa using e1, e2⟩
theorem RepL.rev {xs : List A} {vs : List V} {i : Nat} {v : V} (h : RepL K H xs vs) (e : vs[i]? = some v) : ∃ x, xs[i]? = some x ∧ Rep K H x v := by
  have hl : i < xs.length := by rw [← h.len]; exact (List.getElem?_eq_some_iff.mp e).1
  obtain ⟨w, e1, e2⟩ := h.get (List.getElem?_eq_getElem hl)
  rw [e1] at e; cases e
  exact ⟨_, List.getElem?_eq_getElem hl, e2⟩
theorem RepL.of {xs : List A} : ∀ {vs : List V}, vs.length = xs.length → (∀ (i : Nat) (x : A) (v : V), xs[i]? = some x → vs[i]? = some v → Rep K H x v) → RepL K H xs vs := by
  induction xs with
  | nil => intro vs hl _; cases vs with
    | nil => exact .nil
    | cons v vs => simp at hl
  | cons x xs ih => intro vs hl h; cases vs with
    | nil => simp at hl
    | cons v vs => exact .cons (h 0 x v rfl rfl) (ih (by simpa using hl) fun i y w e1 e2 => h (i + 1) y w (by simpa using e1) (by simpa using e2))
theorem RepL.append {xs ys : List A} {vs ws : List V} (h : RepL K H xs vs) (g : RepL K H ys ws) : RepL K H (xs ++ ys) (vs ++ ws) := by
  induction xs generalizing vs with
  | nil => simp only [RepL] at h; rw [h]; exact g
  | cons x xs ih =>
    simp only [RepL] at h
    obtain ⟨v, r, rfl, h1, h3⟩ := h
    exact .cons h1 (ih h3)
theorem RepL.snoc {xs : List A} {y : A} {vs : List V} {w : V} (h : RepL K H xs vs) (g : Rep K H y w) : RepL K H (xs ++ [y]) (vs ++ [w]) := h.append (.cons g .nil)
theorem RepL.take {xs : List A} {vs : List V} (n : Nat) (h : RepL K H xs vs) : RepL K H (xs.take n) (vs.take n) := by
  refine .of (by simp [h.len]) fun i x v e1 e2 => ?_
  rw [List.getElem?_take] at e1 e2
  split at e1
  · rename_i hi
    rw [if_pos hi] at e2
    obtain ⟨w, e3, r⟩ := h.get e1
    rw [e3] at e2; cases e2; exact r
  · cases e1
theorem RepL.drop {xs : List A} {vs : List V} (n : Nat) (h : RepL K H xs vs) : RepL K H (xs.drop n) (vs.drop n) := by
  refine .of (by simp [h.len]) fun i x v e1 e2 => ?_
  rw [List.getElem?_drop] at e1 e2
  obtain ⟨w, e3, r⟩ := h.get e1
  rw [e3] at e2; cases e2; exact r
theorem RepL.set {xs : List A} {vs : List V} {y : A} {w : V} (n : Nat) (h : RepL K H xs vs) (g : Rep K H y w) : RepL K H (xs.set n y) (vs.set n w) := by
  refine .of (by simp [h.len]) fun i x v e1 e2 => ?_
  rw [List.getElem?_set] at e1 e2
  split at e1
  · rename_i hi
    rw [if_pos hi] at e2
    split at e1
    · split at e2
      · cases e1; cases e2; exact g
      · cases e2
    · cases e1
  · rename_i hi
    rw [if_neg hi] at e2
    obtain ⟨w, e3, r⟩ := h.get e1
    rw [e3] at e2; cases e2; exact r
theorem RepL.reverse {xs : List A} {vs : List V} (h : RepL K H xs vs) : RepL K H xs.reverse vs.reverse := by
  induction xs generalizing vs with
  | nil => simp only [RepL] at h; subst h; exact .nil
  | cons x xs ih =>
    simp only [RepL] at h
    obtain ⟨v, r, rfl, h1, h3⟩ := h
    simp only [List.reverse_cons]
    exact (ih h3).snoc h1
theorem RepL.map {α : Type} {f : α → A} {g : α → V} (h : ∀ a, Rep K H (f a) (g a)) : ∀ l : List α, RepL K H (l.map f) (l.map g)
  | [] => .nil
  | a :: l => .cons (h a) (RepL.map h l)
theorem rep_int {i : Int} {v : V} : Rep K H (.int i) v ↔ v = .int i := by simp only [Rep]
theorem rep_bl {i : Bool} {v : V} : Rep K H (.bl i) v ↔ v = .bl i := by simp only [Rep]
theorem rep_str {i : Str} {v : V} : Rep K H (.str i) v ↔ v = .str i := by simp only [Rep]
theorem rep_non {v : V} : Rep K H .non v ↔ v = .non := by simp only [Rep]
theorem rep_ty {n : String} {v : V} : Rep K H (.ty n) v ↔ v = .ty n := by simp only [Rep]
theorem rep_loc {p : Addr} {v : V} : Rep K H (.loc p) v ↔ v = .ref p := by simp only [Rep]
theorem rep_tup {xs : List A} {v : V} : Rep K H (.tup xs) v ↔ ∃ a vs, v = .ref a ∧ SqT K H a vs ∧ RepL K H xs vs := by simp only [Rep]
theorem rep_lst {xs : List A} {v : V} : Rep K H (.lst xs) v ↔ ∃ a vs, v = .ref a ∧ H a = some (.lst vs) ∧ RepL K H xs vs := by simp only [Rep]
theorem rep_fls {xs : List A} {v : V} : Rep K H (.fls xs) v ↔ ∃ a vs, v = .ref a ∧ SqL K H a vs ∧ RepL K H xs vs := by simp only [Rep]
theorem repL_ints : ∀ {ns : List Int} {vs : List V}, RepL K H (ns.map A.int) vs → vs = ns.map V.int
  | [], _, h => by simp only [List.map_nil, RepL] at h; rw [h]; rfl
  | n :: ns, _, h => by
    simp only [List.map_cons, RepL] at h
    obtain ⟨v, r, rfl, h1, h3⟩ := h
    rw [rep_int] at h1
    rw [h1, repL_ints h3]; rfl
theorem repL_bls : ∀ {ns : List Bool} {vs : List V}, RepL K H (ns.map A.bl) vs → vs = ns.map V.bl
  | [], _, h => by simp only [List.map_nil, RepL] at h; rw [h]; rfl
  | n :: ns, _, h => by
    simp only [List.map_cons, RepL] at h
    obtain ⟨v, r, rfl, h1, h3⟩ := h
    rw [rep_bl] at h1
    rw [h1, repL_bls h3]; rfl
theorem repL_strs : ∀ {ns : List Str} {vs : List V}, RepL K H (ns.map A.str) vs → vs = ns.map V.str
  | [], _, h => by simp only [List.map_nil, RepL] at h; rw [h]; rfl
  | n :: ns, _, h => by
    simp only [List.map_cons, RepL] at h
    obtain ⟨v, r, rfl, h1, h3⟩ := h
    rw [rep_str] at h1
    rw [h1, repL_strs h3]; rfl
end

/-! ### what may change -/
inductive MO where
  | lst (xs : List A)
  | dic (kvs : List (Key × A))
  | ins (C dx : Addr) (fs : List (Str × A))
  | xd (fs : List (Str × A))
abbrev Mu := Addr → Option MO
def Mu.upd (μ : Mu) (p : Addr) (m : MO) : Mu := fun b => if b = p then some m else μ b
def Mu.del (μ : Mu) (p : Addr) : Mu := fun b => if b = p then none else μ b
theorem Mu.upd_same {μ : Mu} {p : Addr} {m : MO} : μ.upd p m p = some m := by unfold Mu.upd; rw [if_pos rfl]
theorem Mu.upd_ne {μ : Mu} {p q : Addr} {m : MO} (h : q ≠ p) : μ.upd p m q = μ q := by unfold Mu.upd; rw [if_neg h]
theorem Mu.del_ne {μ : Mu} {p q : Addr} (h : q ≠ p) : μ.del p q = μ q := by unfold Mu.del; rw [if_neg h]
theorem Mu.del_same {μ : Mu} {p : Addr} : μ.del p p = none := by unfold Mu.del; rw [if_pos rfl]
theorem Mu.del_upd {μ : Mu} {p : Addr} {m : MO} (h : μ p = none) : (μ.upd p m).del p = μ := by
  funext b; unfold Mu.del Mu.upd; split
  · rename_i e; rw [e, h]
  · rfl
theorem Mu.upd_upd {μ : Mu} {p : Addr} {m n : MO} : (μ.upd p m).upd p n = μ.upd p n := by
  funext b; unfold Mu.upd; split <;> rfl
/-- KV pairs -/
def RepK (K : PySem.W.Frag) (H : Hp) {κ : Type} : List (κ × A) → List (κ × V) → Prop
  | [], ws => ws = []
  | (k, x) :: r, ws => ∃ v t, ws = (k, v) :: t ∧ Rep K H x v ∧ RepK K H r t
def RepO (K : PySem.W.Frag) (F : Hp) : MO → HO → Prop
  | .lst xs, o => ∃ vs, o = .lst vs ∧ RepL K F xs vs
  | .dic kvs, o => ∃ ws, o = .dK ws ∧ RepK K F kvs ws
  | .ins C dx fs, o => ∃ ws, o = .ins C dx ws ∧ RepK K F fs ws
  | .xd fs, o => ∃ ws, o = .xd ws ∧ RepK K F fs ws
section
variable {K : PySem.W.Frag} {H H' : Hp} {κ : Type}
theorem RepK.mono (e : Ex H H') : ∀ {kvs : List (κ × A)} {ws : List (κ × V)}, RepK K H kvs ws → RepK K H' kvs ws
  | [], _, h => h
  | (k, x) :: r, _, ⟨v, t, h1, h2, h3⟩ => ⟨v, t, h1, h2.mono e, RepK.mono e h3⟩
theorem RepO.mono (e : Ex H H') : ∀ {m : MO} {o : HO}, RepO K H m o → RepO K H' m o
  | .lst _, _, ⟨vs, h1, h2⟩ => ⟨vs, h1, h2.mono e⟩
  | .dic _, _, ⟨vs, h1, h2⟩ => ⟨vs, h1, h2.mono e⟩
  | .ins _ _ _, _, ⟨vs, h1, h2⟩ => ⟨vs, h1, h2.mono e⟩
  | .xd _, _, ⟨vs, h1, h2⟩ => ⟨vs, h1, h2.mono e⟩
theorem RepK.len : ∀ {kvs : List (κ × A)} {ws : List (κ × V)}, RepK K H kvs ws → ws.length = kvs.length
  | [], _, h => by rw [show _ = [] from h]; rfl
  | (k, x) :: r, _, ⟨v, t, h1, h2, h3⟩ => by rw [h1]; simp [RepK.len h3]
end

/-- the state: F what stands for good, μ what may change, M what others own -/
structure Rel (K : PySem.W.Frag) (μ : Mu) (M F H : Hp) : Prop where
  sub : Ex F H
  own : ∀ p m, μ p = some m → F p = none ∧ ∃ o, H p = some o ∧ RepO K F m o
  frm : ∀ p o, M p = some o → F p = none ∧ μ p = none ∧ H p = some o
abbrev G := List (Option A)
structure RelS (K : PySem.W.Frag) (Γ : G) (F : Hp) (σ : L2.St) : Prop where
  len : Γ.length = σ.length
  at_ : ∀ (i : Nat) (x : A), Γ[i]? = some (some x) → ∃ v, σ[i]? = some (some v) ∧ Rep K F x v
section
variable {K : PySem.W.Frag} {μ μ' : Mu} {M F F' H H' : Hp} {Γ : G} {σ : L2.St}
theorem RelS.mono (e : Ex F F') (h : RelS K Γ F σ) : RelS K Γ F' σ := ⟨h.len, fun i x q => let ⟨v, h1, h2⟩ := h.at_ i x q; ⟨v, h1, h2.mono e⟩⟩
theorem RelS.set {i : Nat} {x : A} {v : V} (h : RelS K Γ F σ) (r : Rep K F x v) : RelS K (Γ.set i (some x)) F (σ.set i (some v)) := by
  refine ⟨by simp [h.len], fun j y q => ?_⟩
  rw [List.getElem?_set] at q ⊢
  split at q
  · rename_i e
    rw [if_pos e]
    split at q
    · rename_i hi
      rw [if_pos (by rw [← h.len]; exact hi)]
      cases q; exact ⟨v, rfl, r⟩
    · cases q
  · rename_i e
    rw [if_neg e]
    exact h.at_ j y q
theorem RelS.weak {Γ' : G} (h : RelS K Γ F σ) (hl : Γ'.length = Γ.length) (w : ∀ (i : Nat) x, Γ'[i]? = some (some x) → Γ[i]? = some (some x)) : RelS K Γ' F σ :=
  ⟨hl.trans h.len, fun i x q => h.at_ i x (w i x q)⟩
/-- fewer things known -/
theorem Rel.weak (h : Rel K μ M F H) (w : ∀ p m, μ' p = some m → μ p = some m) : Rel K μ' M F H := by
  refine ⟨h.sub, fun p m e => h.own p m (w p m e), fun p o e => ?_⟩
  obtain ⟨h1, h2, h3⟩ := h.frm p o e
  refine ⟨h1, ?_, h3⟩
  cases q : μ' p with
  | none => rfl
  | some m => rw [w p m q] at h2; cases h2
/-- a list stands for good from now on -/
theorem Rel.freeze {p : Addr} {xs : List A} (h : Rel K μ M F H) (e : μ p = some (.lst xs)) : ∃ F', Ex F F' ∧ Rel K (μ.del p) M F' H ∧ Rep K F' (.lst xs) (.ref p) := by
  obtain ⟨h1, o, h2, vs, rfl, h3⟩ := h.own p _ e
  have ex : Ex F (upd F p (.lst vs)) := .new h1
  refine ⟨upd F p (.lst vs), ex, ⟨fun a o q => ?_, fun q m e' => ?_, fun q o e' => ?_⟩, ?_⟩
  · by_cases ha : a = p
    · subst ha; rw [upd_same] at q; cases q; exact h2
    · rw [upd_ne ha] at q; exact h.sub a o q
  · have hq : q ≠ p := fun z => by rw [z, Mu.del_same] at e'; cases e'
    rw [Mu.del_ne hq] at e'
    obtain ⟨g1, o', g2, g3⟩ := h.own q m e'
    exact ⟨by rw [upd_ne hq]; exact g1, o', g2, g3.mono ex⟩
  · obtain ⟨g1, g2, g3⟩ := h.frm q o e'
    have hq : q ≠ p := fun z => by rw [z, e] at g2; cases g2
    exact ⟨by rw [upd_ne hq]; exact g1, by rw [Mu.del_ne hq]; exact g2, g3⟩
  · rw [rep_lst]; exact ⟨p, vs, rfl, upd_same, h3.mono ex⟩
/-- a new object that is ours -/
theorem Rel.new {p : Addr} {m : MO} {o : HO} (h : Rel K μ M F H) (n : H p = none) (r : RepO K F m o) : μ p = none ∧ Rel K (μ.upd p m) M F (upd H p o) := by
  have hF : F p = none := h.sub.none n
  have hμ : μ p = none := by
    cases q : μ p with
    | none => rfl
    | some m => obtain ⟨_, o, e, _⟩ := h.own p m q; rw [n] at e; cases e
  refine ⟨hμ, h.sub.trans (.new n), fun q m' e => ?_, fun q o' e => ?_⟩
  · by_cases hq : q = p
    · subst hq; rw [Mu.upd_same] at e; cases e
      exact ⟨hF, o, upd_same, r⟩
    · rw [Mu.upd_ne hq] at e
      obtain ⟨g1, o', g2, g3⟩ := h.own q m' e
      exact ⟨g1, o', by rw [upd_ne hq]; exact g2, g3⟩
  · obtain ⟨g1, g2, g3⟩ := h.frm q o' e
    have hq : q ≠ p := fun z => by rw [z, n] at g3; cases g3
    exact ⟨g1, by rw [Mu.upd_ne hq]; exact g2, by rw [upd_ne hq]; exact g3⟩
/-- a new object that stands for good -/
theorem Rel.newF {p : Addr} {o : HO} (h : Rel K μ M F H) (n : H p = none) : Ex F (upd F p o) ∧ Rel K μ M (upd F p o) (upd H p o) := by
  have hF : F p = none := h.sub.none n
  refine ⟨.new hF, fun a u q => ?_, fun q m' e => ?_, fun q o' e => ?_⟩
  · by_cases ha : a = p
    · subst ha; rw [upd_same] at q ⊢; exact q
    · rw [upd_ne ha] at q ⊢; exact h.sub a u q
  · obtain ⟨g1, o', g2, g3⟩ := h.own q m' e
    have hq : q ≠ p := fun z => by rw [z, n] at g2; cases g2
    exact ⟨by rw [upd_ne hq]; exact g1, o', by rw [upd_ne hq]; exact g2, g3.mono (.new hF)⟩
  · obtain ⟨g1, g2, g3⟩ := h.frm q o' e
    have hq : q ≠ p := fun z => by rw [z, n] at g3; cases g3
    exact ⟨by rw [upd_ne hq]; exact g1, g2, by rw [upd_ne hq]; exact g3⟩
/-- what is ours changes -/
theorem Rel.write {p : Addr} {m m' : MO} {o : HO} (h : Rel K μ M F H) (e : μ p = some m) (r : RepO K F m' o) : Rel K (μ.upd p m') M F (upd H p o) := by
  obtain ⟨h1, o0, h2, h3⟩ := h.own p _ e
  refine ⟨fun a u q => ?_, fun q m1 e1 => ?_, fun q o' e' => ?_⟩
  · have ha : a ≠ p := fun z => by rw [z, h1] at q; cases q
    rw [upd_ne ha]; exact h.sub a u q
  · by_cases hq : q = p
    · subst hq; rw [Mu.upd_same] at e1; cases e1
      exact ⟨h1, o, upd_same, r⟩
    · rw [Mu.upd_ne hq] at e1
      obtain ⟨g1, o', g2, g3⟩ := h.own q m1 e1
      exact ⟨g1, o', by rw [upd_ne hq]; exact g2, g3⟩
  · obtain ⟨g1, g2, g3⟩ := h.frm q o' e'
    have hq : q ≠ p := fun z => by rw [z, e] at g2; cases g2
    exact ⟨g1, by rw [Mu.upd_ne hq]; exact g2, by rw [upd_ne hq]; exact g3⟩
end

/-! ### readings by what runs -/
/-- a wrapped proposition: nothing looks through it unasked -/
structure Bx (p : Prop) : Prop where
  o : p
def rdE (X : Cx) (e : Expr) : TE := fun σ H Q => Bx (∀ (pins : List (Addr × Obj)) (s : Shared), Inv X pins σ H s → wpAny (model X.prog X.w) X.A (eval e X.env) (EP X pins σ Q) X.xe s)
theorem pe_rd {X : Cx} {e : Expr} : PE X e (rdE X e) := ⟨fun pins s _ _ _ I h => h.o pins s I⟩
theorem rd_pe {X : Cx} {e : Expr} {t : TE} (h : PE X e t) {σ : L2.St} {H : Hp} {Q : VK} (q : t σ H Q) : rdE X e σ H Q := ⟨fun pins s I => h.run pins s σ H Q I q⟩
theorem rdE_mono {X : Cx} {e : Expr} {σ : L2.St} {H : Hp} {Q Q' : VK} (h : rdE X e σ H Q) (w : ∀ v H', Q v H' → Q' v H') : rdE X e σ H Q' :=
  ⟨fun pins s I => thn (h.o pins s I) fun _ _ ⟨v, H', I', r, q⟩ => ⟨v, H', I', r, w v H' q⟩⟩
def rdT (X : Cx) (e : Expr) : TT := fun σ H Q => Bx (∀ (pins : List (Addr × Obj)) (s : Shared), Inv X pins σ H s → wpAny (model X.prog X.w) X.A (isTrue e X.env (eval e X.env)) (TP X pins σ Q) X.xe s)
theorem pt_rd {X : Cx} {e : Expr} : PT X e (rdT X e) := ⟨fun pins s _ _ _ I h => h.o pins s I⟩
theorem rd_pt {X : Cx} {e : Expr} {t : TT} (h : PT X e t) {σ : L2.St} {H : Hp} {Q : Bool → Hp → Prop} (q : t σ H Q) : rdT X e σ H Q := ⟨fun pins s I => h.run pins s σ H Q I q⟩
def rdA (X : Cx) (es : List Expr) : TA := fun σ H Q => Bx (∀ (pos : Pos) (pins : List (Addr × Obj)) (s : Shared), Inv X pins σ H s → wpAny (model X.prog X.w) X.A (spliced (backTo pos (starEach es X.env))) (AP X pins σ Q) X.xe s)
theorem pa_rd {X : Cx} {es : List Expr} : PA X es (rdA X es) := ⟨fun pos pins s _ _ _ I h => h.o pos pins s I⟩
theorem rd_pa {X : Cx} {es : List Expr} {t : TA} (h : PA X es t) {σ : L2.St} {H : Hp} {Q : List V → Hp → Prop} (q : t σ H Q) : rdA X es σ H Q := ⟨fun pos pins s I => h.run pos pins s σ H Q I q⟩
def rdS (X : Cx) (st : Stmt) : TS := fun D σ H => Bx (∀ (pins : List (Addr × Obj)) (s : Shared), Inv X pins σ H s → wpAny (model X.prog X.w) X.A (exec st X.env) (SP X pins D) X.xe s)
theorem ps_rd {X : Cx} {st : Stmt} : PS X st (rdS X st) := ⟨fun pins s _ _ _ I h => h.o pins s I⟩
theorem rd_ps {X : Cx} {st : Stmt} {t : TS} (h : PS X st t) {σ : L2.St} {H : Hp} {D : Ends} (q : t D σ H) : rdS X st D σ H := ⟨fun pins s I => h.run pins s σ H D I q⟩
def rdSs (X : Cx) (st : List Stmt) : TS := fun D σ H => Bx (∀ (pins : List (Addr × Obj)) (s : Shared), Inv X pins σ H s → wpAny (model X.prog X.w) X.A (execs st X.env) (SP X pins D) X.xe s)
theorem pss_rd {X : Cx} {st : List Stmt} : PSs X st (rdSs X st) := ⟨fun pins s _ _ _ I h => h.o pins s I⟩
theorem rd_pss {X : Cx} {st : List Stmt} {t : TS} (h : PSs X st t) {σ : L2.St} {H : Hp} {D : Ends} (q : t D σ H) : rdSs X st D σ H := ⟨fun pins s I => h.run pins s σ H D I q⟩
def rdG (X : Cx) (tg : Expr) : TG := fun v σ H Q => Bx (∀ (pins : List (Addr × Obj)) (s : Shared) (u : Value), Inv X pins σ H s → RelV v u →
    wpAny (model X.prog X.w) X.A (assign tg X.env u) (fun _ s' => ∃ σ' H', Inv X pins σ' H' s' ∧ Q σ' H') X.xe s)
theorem pg_rd {X : Cx} {e : Expr} : PG X e (rdG X e) := ⟨fun pins s _ _ _ u _ I r h => h.o pins s u I r⟩
theorem rd_pg {X : Cx} {e : Expr} {t : TG} (h : PG X e t) {v : V} {σ : L2.St} {H : Hp} {Q : L2.St → Hp → Prop} (q : t v σ H Q) : rdG X e v σ H Q := ⟨fun pins s u I r => h.run pins s σ H v u Q I r q⟩
/-- an operator, a call, by values -/
def rdOp (X : Cx) (f : Value → Value → Sem Value) : R2 := fun x y H Q => Bx (∀ (pins : List (Addr × Obj)) (s : Shared) (σ : L2.St) (v u : Value), Inv X pins σ H s → RelV x v → RelV y u → wpAny (model X.prog X.w) X.A (f v u) (EP X pins σ Q) X.xe s)
theorem opr_rd {X : Cx} {f : Value → Value → Sem Value} : OpR X f (rdOp X f) := fun pins s σ H x y v u Q I r1 r2 h => h.o pins s σ v u I r1 r2
theorem rd_opr {X : Cx} {f : Value → Value → Sem Value} {r : R2} (h : OpR X f r) {x y : V} {H : Hp} {Q : VK} (q : r x y H Q) : rdOp X f x y H Q := ⟨fun pins s σ v u I r1 r2 => h pins s σ H x y v u Q I r1 r2 q⟩

/-! ### the judgements -/
def QE (K : PySem.W.Frag) (M F : Hp) (Q : A → Mu → Prop) : VK := fun v H' => ∃ x F' μ', Ex F F' ∧ Rel K μ' M F' H' ∧ Rep K F' x v ∧ Q x μ'
def wE (X : Cx) (e : Expr) (Γ : G) (μ : Mu) (Q : A → Mu → Prop) : Prop := ∀ σ M F H, RelS X.K Γ F σ → Rel X.K μ M F H → rdE X e σ H (QE X.K M F Q)
def QT (K : PySem.W.Frag) (M F : Hp) (Q : Bool → Mu → Prop) : Bool → Hp → Prop := fun b H' => ∃ F' μ', Ex F F' ∧ Rel K μ' M F' H' ∧ Q b μ'
def wT (X : Cx) (e : Expr) (Γ : G) (μ : Mu) (Q : Bool → Mu → Prop) : Prop := ∀ σ M F H, RelS X.K Γ F σ → Rel X.K μ M F H → rdT X e σ H (QT X.K M F Q)
def QA (K : PySem.W.Frag) (M F : Hp) (Q : List A → Mu → Prop) : List V → Hp → Prop := fun vs H' => ∃ xs F' μ', Ex F F' ∧ Rel K μ' M F' H' ∧ RepL K F' xs vs ∧ Q xs μ'
def wA (X : Cx) (es : List Expr) (Γ : G) (μ : Mu) (Q : List A → Mu → Prop) : Prop := ∀ σ M F H, RelS X.K Γ F σ → Rel X.K μ M F H → rdA X es σ H (QA X.K M F Q)
structure AD where
  nx : G → Mu → Prop
  rt : A → Mu → Prop
  bk : G → Mu → Prop := fun _ _ => False
  ct : G → Mu → Prop := fun _ _ => False
def QS (K : PySem.W.Frag) (M F : Hp) (Q : G → Mu → Prop) : L2.St → Hp → Prop := fun σ' H' => ∃ Γ' F' μ', Ex F F' ∧ RelS K Γ' F' σ' ∧ Rel K μ' M F' H' ∧ Q Γ' μ'
def ends (K : PySem.W.Frag) (M F : Hp) (D : AD) : Ends := { nx := QS K M F D.nx, rt := QE K M F D.rt, bk := QS K M F D.bk, ct := QS K M F D.ct }
def wS (X : Cx) (st : Stmt) (Γ : G) (μ : Mu) (D : AD) : Prop := ∀ σ M F H, RelS X.K Γ F σ → Rel X.K μ M F H → rdS X st (ends X.K M F D) σ H
def wSs (X : Cx) (st : List Stmt) (Γ : G) (μ : Mu) (D : AD) : Prop := ∀ σ M F H, RelS X.K Γ F σ → Rel X.K μ M F H → rdSs X st (ends X.K M F D) σ H
def wG (X : Cx) (tg : Expr) (x : A) (Γ : G) (μ : Mu) (Q : G → Mu → Prop) : Prop := ∀ σ M F H v, RelS X.K Γ F σ → Rel X.K μ M F H → Rep X.K F x v → rdG X tg v σ H (QS X.K M F Q)
/-- operators by values -/
def wO (X : Cx) (f : Value → Value → Sem Value) (x y : A) (μ : Mu) (Q : A → Mu → Prop) : Prop := ∀ M F H v w, Rel X.K μ M F H → Rep X.K F x v → Rep X.K F y w → rdOp X f v w H (QE X.K M F Q)

section
variable {X : Cx} {Γ : G} {μ : Mu}
theorem QE.mono {K : PySem.W.Frag} {M F F1 : Hp} {Q : A → Mu → Prop} (e : Ex F F1) {v : V} {H : Hp} (h : QE K M F1 Q v H) : QE K M F Q v H :=
  let ⟨x, F', μ', h1, h2⟩ := h; ⟨x, F', μ', e.trans h1, h2⟩
theorem QT.mono {K : PySem.W.Frag} {M F F1 : Hp} {Q : Bool → Mu → Prop} (e : Ex F F1) {v : Bool} {H : Hp} (h : QT K M F1 Q v H) : QT K M F Q v H :=
  let ⟨F', μ', h1, h2⟩ := h; ⟨F', μ', e.trans h1, h2⟩
theorem QA.mono {K : PySem.W.Frag} {M F F1 : Hp} {Q : List A → Mu → Prop} (e : Ex F F1) {v : List V} {H : Hp} (h : QA K M F1 Q v H) : QA K M F Q v H :=
  let ⟨x, F', μ', h1, h2⟩ := h; ⟨x, F', μ', e.trans h1, h2⟩
theorem QS.mono {K : PySem.W.Frag} {M F F1 : Hp} {Q : G → Mu → Prop} (e : Ex F F1) {σ : L2.St} {H : Hp} (h : QS K M F1 Q σ H) : QS K M F Q σ H :=
  let ⟨x, F', μ', h1, h2⟩ := h; ⟨x, F', μ', e.trans h1, h2⟩
/-- what is wanted is weakened -/
theorem rdE.imp {e : Expr} {σ : L2.St} {H : Hp} {Q Q' : VK} (h : rdE X e σ H Q) (w : ∀ v H', Q v H' → Q' v H') : rdE X e σ H Q' := rdE_mono h w
theorem rdS.imp {e : Stmt} {σ : L2.St} {H : Hp} {D D' : Ends} (h : rdS X e D σ H) (w1 : ∀ σ H, D.nx σ H → D'.nx σ H) (w2 : ∀ v H, D.rt v H → D'.rt v H) (w3 : ∀ σ H, D.bk σ H → D'.bk σ H) (w4 : ∀ σ H, D.ct σ H → D'.ct σ H) : rdS X e D' σ H := ⟨fun pins s I => thn (h.o pins s I) fun f s' q => by
  cases f with
  | next => obtain ⟨a, b, c, d⟩ := q; exact ⟨a, b, c, w1 _ _ d⟩
  | brk => obtain ⟨a, b, c, d⟩ := q; exact ⟨a, b, c, w3 _ _ d⟩
  | cont => obtain ⟨a, b, c, d⟩ := q; exact ⟨a, b, c, w4 _ _ d⟩
  | ret u => obtain ⟨v, a, b, c, r, d⟩ := q; exact ⟨v, a, b, c, r, w2 _ _ d⟩⟩
theorem rdSs.imp {e : List Stmt} {σ : L2.St} {H : Hp} {D D' : Ends} (h : rdSs X e D σ H) (w1 : ∀ σ H, D.nx σ H → D'.nx σ H) (w2 : ∀ v H, D.rt v H → D'.rt v H) (w3 : ∀ σ H, D.bk σ H → D'.bk σ H) (w4 : ∀ σ H, D.ct σ H → D'.ct σ H) : rdSs X e D' σ H := ⟨fun pins s I => thn (h.o pins s I) fun f s' q => by
  cases f with
  | next => obtain ⟨a, b, c, d⟩ := q; exact ⟨a, b, c, w1 _ _ d⟩
  | brk => obtain ⟨a, b, c, d⟩ := q; exact ⟨a, b, c, w3 _ _ d⟩
  | cont => obtain ⟨a, b, c, d⟩ := q; exact ⟨a, b, c, w4 _ _ d⟩
  | ret u => obtain ⟨v, a, b, c, r, d⟩ := q; exact ⟨v, a, b, c, r, w2 _ _ d⟩⟩
theorem ends_mono {e : List Stmt} {σ : L2.St} {H M F F1 : Hp} {D : AD} (ex : Ex F F1) (h : rdSs X e (ends X.K M F1 D) σ H) : rdSs X e (ends X.K M F D) σ H :=
  h.imp (fun _ _ q => QS.mono ex q) (fun _ _ q => QE.mono ex q) (fun _ _ q => QS.mono ex q) (fun _ _ q => QS.mono ex q)
theorem ends_mono1 {e : Stmt} {σ : L2.St} {H M F F1 : Hp} {D : AD} (ex : Ex F F1) (h : rdS X e (ends X.K M F1 D) σ H) : rdS X e (ends X.K M F D) σ H :=
  h.imp (fun _ _ q => QS.mono ex q) (fun _ _ q => QE.mono ex q) (fun _ _ q => QS.mono ex q) (fun _ _ q => QS.mono ex q)
/-- the end of a pure step -/
theorem QE.pure {K : PySem.W.Frag} {M F H : Hp} {Q : A → Mu → Prop} {x : A} {v : V} (r : Rel K μ M F H) (h : Rep K F x v) (q : Q x μ) : QE K M F Q v H := ⟨x, F, μ, .refl _, r, h, q⟩
end
end D

set_option Elab.async false
set_option linter.all false
set_option maxRecDepth 100000
set_option maxHeartbeats 4000000
/-! D2: the rules over data: expressions, tests, arguments, statements. -/
namespace D
open PySem PySem.Spec PyProof.Rows L2

/-- a call, a method's call, a subscript by values -/
def rdC (X : Cx) (f : Value) : List V → Hp → VK → Prop := fun xs H Q => Bx (∀ (pins : List (Addr × Obj)) (s : Shared) (σ : L2.St) (us : List Value), Inv X pins σ H s → Vals xs us → wpAny (model X.prog X.w) X.A (call f us) (EP X pins σ Q) X.xe s)
def wC (X : Cx) (f : Value) (xs : List A) (μ : Mu) (Q : A → Mu → Prop) : Prop := ∀ M F H vs, Rel X.K μ M F H → RepL X.K F xs vs → rdC X f vs H (QE X.K M F Q)

section
variable {X : Cx} {Γ : G} {μ : Mu} {Q : A → Mu → Prop} {a b c e : Expr} {es : List Expr} {pos : Pos}

/-! ### weakening -/
theorem wE.imp {Q' : A → Mu → Prop} (h : wE X e Γ μ Q) (w : ∀ x μ', Q x μ' → Q' x μ') : wE X e Γ μ Q' := fun σ M F H rs r =>
  (h σ M F H rs r).imp fun v H' ⟨x, F', μ', h1, h2, h3, h4⟩ => ⟨x, F', μ', h1, h2, h3, w _ _ h4⟩
/-- a value that is a list of ours stands for good -/
theorem wE_frz (h : wE X e Γ μ fun x μ' => ∃ p xs, x = .loc p ∧ μ' p = some (.lst xs) ∧ Q (.lst xs) (μ'.del p)) : wE X e Γ μ Q := fun σ M F H rs r =>
  (h σ M F H rs r).imp fun v H' ⟨x, F', μ', h1, h2, h3, p, xs, h4, h5, h6⟩ => by
    subst h4
    rw [rep_loc] at h3
    obtain ⟨F2, e2, r2, q2⟩ := h2.freeze h5
    exact ⟨_, F2, _, h1.trans e2, r2, by rw [h3]; exact q2, h6⟩
/-- less is known of what may change -/
theorem wE_weak {μ' : Mu} (w : ∀ p m, μ' p = some m → μ p = some m) (h : wE X e Γ μ' Q) : wE X e Γ μ Q := fun σ M F H rs r => h σ M F H rs (r.weak w)
theorem wE_of {t : TE} (h : PE X e t) (q : ∀ σ M F H, RelS X.K Γ F σ → Rel X.K μ M F H → t σ H (QE X.K M F Q)) : wE X e Γ μ Q := fun σ M F H rs r => rd_pe h (q σ M F H rs r)

/-! names, and what is written out -/
theorem wE_name (i : Nat) {x : Str} {y : A} (hi : Γ[i]? = some (some y) := by rfl) (q : Q y μ) (hN : X.N[i]? = some x := by rfl)
    (hv : Vis X.env.scope x := by first | exact Or.inl rfl | exact Or.inr (Or.inl rfl) | exact Or.inr (Or.inr rfl)) (hd : (x == ("__debug__" : Str)) = false := by decide) (hcd : (x == ("__classdict__" : Str)) = false := by decide) :
    wE X (.Name x pos) Γ μ Q := wE_of (pe_var hN hv hd hcd) fun σ M F H rs r => by
  obtain ⟨v, h1, h2⟩ := rs.at_ i y hi
  exact ⟨v, h1, .pure r h2 q⟩
theorem wE_int {i : Int} {j} (q : Q (.int i) μ) : wE X (.Constant (.int i) j pos) Γ μ Q := wE_of pe_int fun σ M F H rs r => .pure r (rep_int.mpr rfl) q
theorem wE_bl {i : Bool} {j} (q : Q (.bl i) μ) : wE X (.Constant (.bool i) j pos) Γ μ Q := wE_of pe_bl fun σ M F H rs r => .pure r (rep_bl.mpr rfl) q
theorem wE_non {j} (q : Q .non μ) : wE X (.Constant .none j pos) Γ μ Q := wE_of pe_non fun σ M F H rs r => .pure r (rep_non.mpr rfl) q
theorem wE_str {x : Str} {j} (q : Q (.str x) μ) : wE X (.Constant (.str x) j pos) Γ μ Q := wE_of pe_str fun σ M F H rs r => .pure r (rep_str.mpr rfl) q
/-- what the module's name holds, for good -/
structure Kn (K : PySem.W.Frag) (mg : Str → Option Value) (x : Str) (y : A) : Prop where
  ex : ∃ v u, mg x = some u ∧ RelV v u ∧ ∀ F, Rep K F y v
theorem wE_glob {x : Str} {y : A} (k : Kn X.K X.mg x y) (q : Q y μ) (hg : Gl X x := by rfl) (hd : (x == ("__debug__" : Str)) = false := by decide) : wE X (.Name x pos) Γ μ Q := by
  obtain ⟨v, u, h1, h2, h3⟩ := k.ex
  exact wE_of (pe_glob hg h1 h2 hd) fun σ M F H rs r => .pure r (h3 F) q
/-- a built-in class as a value -/
theorem wE_type {x : Str} {n : String} (hm : X.mg x = none) (hv : bootBuiltins x = some (.type n)) (q : Q (.ty n) μ) (hg : Gl X x := by rfl) (hn : x ≠ "__name__" := by decide) (hd : (x == ("__debug__" : Str)) = false := by decide) : wE X (.Name x pos) Γ μ Q :=
  wE_of (pe_bltn (v := .ty n) hg hm hv rfl hn hd) fun σ M F H rs r => .pure r (rep_ty.mpr rfl) q

/-! ### operators -/
theorem wO_of {f : Value → Value → Sem Value} {r : R2} {x y : A} (h : OpR X f r) (q : ∀ M F H v w, Rel X.K μ M F H → Rep X.K F x v → Rep X.K F y w → r v w H (QE X.K M F Q)) : wO X f x y μ Q :=
  fun M F H v w rl r1 r2 => rd_opr h (q M F H v w rl r1 r2)
theorem wE_bin {op : Operator} (h : wE X a Γ μ fun x μ1 => wE X b Γ μ1 fun y μ2 => wO X (binaryOp op) x y μ2 Q) : wE X (.BinOp a op b pos) Γ μ Q := wE_of (pe_op opr_rd pe_rd pe_rd) fun σ M F H rs r => by
  refine (h σ M F H rs r).imp fun v H1 ⟨x, F1, μ1, e1, r1, p1, q1⟩ => ?_
  refine (q1 σ M F1 H1 (rs.mono e1) r1).imp fun w H2 ⟨y, F2, μ2, e2, r2, p2, q2⟩ => ?_
  exact ⟨fun pins s σ' v' u' I hv hw => thn ((q2 M F2 H2 v w r2 (p1.mono e2) p2).o pins s σ' v' u' I hv hw) fun _ _ ⟨z, H3, I3, r3, q3⟩ => ⟨z, H3, I3, r3, q3.mono (e1.trans e2)⟩⟩
theorem wE_cmp {op : CmpOp} (h : wE X a Γ μ fun x μ1 => wE X b Γ μ1 fun y μ2 => wO X (compareOp op) x y μ2 Q) (hm : behindInMarks op b = false := by first | exact nomark _ | rfl) : wE X (.Compare a [op] [b] pos) Γ μ Q := wE_of (pe_cmpR opr_rd pe_rd pe_rd hm) fun σ M F H rs r => by
  refine (h σ M F H rs r).imp fun v H1 ⟨x, F1, μ1, e1, r1, p1, q1⟩ => ?_
  refine (q1 σ M F1 H1 (rs.mono e1) r1).imp fun w H2 ⟨y, F2, μ2, e2, r2, p2, q2⟩ => ?_
  exact ⟨fun pins s σ' v' u' I hv hw => thn ((q2 M F2 H2 v w r2 (p1.mono e2) p2).o pins s σ' v' u' I hv hw) fun _ _ ⟨z, H3, I3, r3, q3⟩ => ⟨z, H3, I3, r3, q3.mono (e1.trans e2)⟩⟩
theorem wE_un {op : UnaryOp} {r : V → Hp → VK → Prop} (ho : UnR X (unaryOp op) r) (h : wE X a Γ μ fun x μ1 => ∀ M F H v, Rel X.K μ1 M F H → Rep X.K F x v → r v H (QE X.K M F Q))
    (mono : ∀ v H Q Q', (∀ z H', Q z H' → Q' z H') → r v H Q → r v H Q') : wE X (.UnaryOp op a pos) Γ μ Q := wE_of (pe_un ho pe_rd) fun σ M F H rs r => by
  refine (h σ M F H rs r).imp fun v H1 ⟨x, F1, μ1, e1, r1, p1, q1⟩ => ?_
  exact mono _ _ _ _ (fun _ _ q => q.mono e1) (q1 M F1 H1 v r1 p1)
theorem wE_neg (h : wE X a Γ μ fun x μ1 => ∃ i, x = .int i ∧ Q (.int (-i)) μ1) : wE X (.UnaryOp .USub a pos) Γ μ Q :=
  wE_un un_neg (h.imp fun x μ1 ⟨i, e, q⟩ M F H v rl rp => by
    subst e; rw [rep_int] at rp
    exact ⟨i, rp, .pure rl (rep_int.mpr rfl) q⟩) fun v H Q Q' w ⟨i, e, q⟩ => ⟨i, e, w _ _ q⟩
/-- not a, as a value -/
theorem wE_not (h : wE X a Γ μ fun x μ1 => ∃ k, x = .bl k ∧ Q (.bl (!k)) μ1) : wE X (.UnaryOp .Not a pos) Γ μ Q := wE_of (pe_not pe_rd) fun σ M F H rs r => by
  refine (h σ M F H rs r).imp fun v H1 ⟨x, F1, μ1, e1, r1, p1, k, ek, q1⟩ => ?_
  subst ek; rw [rep_bl] at p1
  exact ⟨k, p1, _, F1, μ1, e1, r1, rep_bl.mpr rfl, q1⟩
theorem wE_one {op} (h : wE X a Γ μ Q) : wE X (.BoolOp op [a] pos) Γ μ Q := wE_of (pe_one pe_rd) fun σ M F H rs r => h σ M F H rs r
theorem wE_and (h : wE X a Γ μ fun x μ1 => ∃ k, x = .bl k ∧ (k = true → wE X (.BoolOp .And (b :: es) pos) Γ μ1 Q) ∧ (k = false → Q (.bl false) μ1)) : wE X (.BoolOp .And (a :: b :: es) pos) Γ μ Q := wE_of (pe_and pe_rd pe_rd) fun σ M F H rs r => by
  refine (h σ M F H rs r).imp fun v H1 ⟨x, F1, μ1, e1, r1, p1, k, ek, q1, q2⟩ => ?_
  subst ek; rw [rep_bl] at p1
  refine ⟨k, p1, ?_⟩
  cases k with
  | true => exact iteT ((q1 rfl σ M F1 H1 (rs.mono e1) r1).imp fun _ _ q => q.mono e1)
  | false => exact iteF ⟨_, F1, μ1, e1, r1, rep_bl.mpr rfl, q2 rfl⟩
theorem wE_or (h : wE X a Γ μ fun x μ1 => ∃ k, x = .bl k ∧ (k = true → Q (.bl true) μ1) ∧ (k = false → wE X (.BoolOp .Or (b :: es) pos) Γ μ1 Q)) : wE X (.BoolOp .Or (a :: b :: es) pos) Γ μ Q := wE_of (pe_or pe_rd pe_rd) fun σ M F H rs r => by
  refine (h σ M F H rs r).imp fun v H1 ⟨x, F1, μ1, e1, r1, p1, k, ek, q1, q2⟩ => ?_
  subst ek; rw [rep_bl] at p1
  refine ⟨k, p1, ?_⟩
  cases k with
  | true => exact iteT ⟨_, F1, μ1, e1, r1, rep_bl.mpr rfl, q1 rfl⟩
  | false => exact iteF ((q2 rfl σ M F1 H1 (rs.mono e1) r1).imp fun _ _ q => q.mono e1)

/-! ### tests -/
theorem rdT.imp {σ : L2.St} {H : Hp} {Q Q' : Bool → Hp → Prop} (h : rdT X e σ H Q) (w : ∀ v H', Q v H' → Q' v H') : rdT X e σ H Q' :=
  ⟨fun pins s I => thn (h.o pins s I) fun _ _ ⟨H', I', q⟩ => ⟨H', I', w _ _ q⟩⟩
variable {QB : Bool → Mu → Prop}
theorem wT.imp {Q' : Bool → Mu → Prop} (h : wT X e Γ μ QB) (w : ∀ x μ', QB x μ' → Q' x μ') : wT X e Γ μ Q' := fun σ M F H rs r =>
  (h σ M F H rs r).imp fun v H' ⟨F', μ', h1, h2, h4⟩ => ⟨F', μ', h1, h2, w _ _ h4⟩
theorem wT_of {t : TT} (h : PT X e t) (q : ∀ σ M F H, RelS X.K Γ F σ → Rel X.K μ M F H → t σ H (QT X.K M F QB)) : wT X e Γ μ QB := fun σ M F H rs r => rd_pt h (q σ M F H rs r)
theorem wT_val (h : wE X e Γ μ fun x μ1 => ∃ k, x = .bl k ∧ QB k μ1) (he : ∀ whole, isTrue e X.env whole = (do let v ← whole; standAt e.pos; holding [v] (truthy v)) := by intro _; rfl) : wT X e Γ μ QB := wT_of (pt_val pe_rd he) fun σ M F H rs r => by
  refine (h σ M F H rs r).imp fun v H1 ⟨x, F1, μ1, e1, r1, p1, k, ek, q1⟩ => ?_
  subst ek; rw [rep_bl] at p1
  exact ⟨k, p1, F1, μ1, e1, r1, q1⟩
theorem wT_cmp {op : CmpOp} (h : wE X a Γ μ fun x μ1 => wE X b Γ μ1 fun y μ2 => wO X (compareOp op) x y μ2 fun z μ3 => ∃ k, z = .bl k ∧ QB k μ3) (hm : behindInMarks op b = false := by first | exact nomark _ | rfl) : wT X (.Compare a [op] [b] pos) Γ μ QB := wT_of (pt_cmpR opr_rd pe_rd pe_rd hm) fun σ M F H rs r => by
  refine (h σ M F H rs r).imp fun v H1 ⟨x, F1, μ1, e1, r1, p1, q1⟩ => ?_
  refine (q1 σ M F1 H1 (rs.mono e1) r1).imp fun w H2 ⟨y, F2, μ2, e2, r2, p2, q2⟩ => ?_
  exact ⟨fun pins s σ' v' u' I hv hw => thn ((q2 M F2 H2 v w r2 (p1.mono e2) p2).o pins s σ' v' u' I hv hw) fun _ _ ⟨z, H3, I3, r3, x3, F3, μ3, e3, rl3, p3, k, ek, q3⟩ => by
    subst ek; rw [rep_bl] at p3
    exact ⟨z, H3, I3, r3, k, p3, F3, μ3, (e1.trans e2).trans e3, rl3, q3⟩⟩
theorem wT_not (h : wT X a Γ μ fun k μ1 => QB (!k) μ1) : wT X (.UnaryOp .Not a pos) Γ μ QB := wT_of (pt_not pt_rd) fun σ M F H rs r =>
  (h σ M F H rs r).imp fun k H1 ⟨F1, μ1, e1, r1, q1⟩ => ⟨F1, μ1, e1, r1, q1⟩
/-- a test in a chain of and, or -/
def rdW (X : Cx) (e : Expr) : TT := fun σ H Q => Bx (∀ (whole : Sem Value) (pins : List (Addr × Obj)) (s : Shared), Inv X pins σ H s → wpAny (model X.prog X.w) X.A (isTrue e X.env whole) (TP X pins σ Q) X.xe s)
theorem pw_rd : PW X e (rdW X e) := ⟨fun wh pins s _ _ _ I h => h.o wh pins s I⟩
theorem rd_pw {t : TT} (h : PW X e t) {σ : L2.St} {H : Hp} {Q : Bool → Hp → Prop} (q : t σ H Q) : rdW X e σ H Q := ⟨fun wh pins s I => h.run wh pins s σ H Q I q⟩
theorem rdW.imp {σ : L2.St} {H : Hp} {Q Q' : Bool → Hp → Prop} (h : rdW X e σ H Q) (w : ∀ v H', Q v H' → Q' v H') : rdW X e σ H Q' :=
  ⟨fun wh pins s I => thn (h.o wh pins s I) fun _ _ ⟨H', I', q⟩ => ⟨H', I', w _ _ q⟩⟩
def wW (X : Cx) (e : Expr) (Γ : G) (μ : Mu) (Q : Bool → Mu → Prop) : Prop := ∀ σ M F H, RelS X.K Γ F σ → Rel X.K μ M F H → rdW X e σ H (QT X.K M F Q)
theorem wT_chain (h : wW X e Γ μ QB) : wT X e Γ μ QB := wT_of (PW.pt pw_rd) h
theorem wW_and1 (h : wT X a Γ μ QB) : wW X (.BoolOp .And [a] pos) Γ μ QB := fun σ M F H rs r => rd_pw (pw_and1 pt_rd) (h σ M F H rs r)
theorem wW_or1 (h : wT X a Γ μ QB) : wW X (.BoolOp .Or [a] pos) Γ μ QB := fun σ M F H rs r => rd_pw (pw_or1 pt_rd) (h σ M F H rs r)
theorem wW_and (h : wT X a Γ μ fun k μ1 => (k = true → wW X (.BoolOp .And (b :: es) pos) Γ μ1 QB) ∧ (k = false → QB false μ1)) : wW X (.BoolOp .And (a :: b :: es) pos) Γ μ QB := fun σ M F H rs r => rd_pw (pw_and pt_rd pw_rd) (by
  refine (h σ M F H rs r).imp fun k H1 ⟨F1, μ1, e1, r1, q1, q2⟩ => ?_
  cases k with
  | true => exact iteT ((q1 rfl σ M F1 H1 (rs.mono e1) r1).imp fun _ _ q => q.mono e1)
  | false => exact iteF ⟨F1, μ1, e1, r1, q2 rfl⟩)
theorem wW_or (h : wT X a Γ μ fun k μ1 => (k = true → QB true μ1) ∧ (k = false → wW X (.BoolOp .Or (b :: es) pos) Γ μ1 QB)) : wW X (.BoolOp .Or (a :: b :: es) pos) Γ μ QB := fun σ M F H rs r => rd_pw (pw_or pt_rd pw_rd) (by
  refine (h σ M F H rs r).imp fun k H1 ⟨F1, μ1, e1, r1, q1, q2⟩ => ?_
  cases k with
  | true => exact iteT ⟨F1, μ1, e1, r1, q1 rfl⟩
  | false => exact iteF ((q2 rfl σ M F1 H1 (rs.mono e1) r1).imp fun _ _ q => q.mono e1))
/-- a if t else b -/
theorem wE_if (h : wT X c Γ μ fun k μ1 => (k = true → wE X a Γ μ1 Q) ∧ (k = false → wE X b Γ μ1 Q)) : wE X (.IfExp c a b pos) Γ μ Q := wE_of (pe_ifExp pt_rd pe_rd pe_rd) fun σ M F H rs r => by
  refine (h σ M F H rs r).imp fun k H1 ⟨F1, μ1, e1, r1, q1, q2⟩ => ?_
  cases k with
  | true => exact iteT ((q1 rfl σ M F1 H1 (rs.mono e1) r1).imp fun _ _ q => q.mono e1)
  | false => exact iteF ((q2 rfl σ M F1 H1 (rs.mono e1) r1).imp fun _ _ q => q.mono e1)

/-! ### argument lists, displays -/
theorem rdA.imp {σ : L2.St} {H : Hp} {Q Q' : List V → Hp → Prop} (h : rdA X es σ H Q) (w : ∀ v H', Q v H' → Q' v H') : rdA X es σ H Q' :=
  ⟨fun pos pins s I => thn (h.o pos pins s I) fun _ _ ⟨v, H', I', r, q⟩ => ⟨v, H', I', r, w v H' q⟩⟩
variable {QL : List A → Mu → Prop}
theorem wA_nil (q : QL [] μ) : wA X [] Γ μ QL := fun σ M F H rs r => rd_pa pa_nil ⟨[], F, μ, .refl _, r, .nil, q⟩
theorem wA_cons (h : wE X e Γ μ fun x μ1 => wA X es Γ μ1 fun xs μ2 => QL (x :: xs) μ2) (hs : starEach (e :: es) X.env = (false, eval e X.env) :: starEach es X.env := by rfl) : wA X (e :: es) Γ μ QL := fun σ M F H rs r => rd_pa (pa_cons pe_rd pa_rd hs) (by
  refine (h σ M F H rs r).imp fun v H1 ⟨x, F1, μ1, e1, r1, p1, q1⟩ => ?_
  refine (q1 σ M F1 H1 (rs.mono e1) r1).imp fun vs H2 ⟨xs, F2, μ2, e2, r2, p2, q2⟩ => ?_
  exact ⟨x :: xs, F2, μ2, e1.trans e2, r2, .cons (p1.mono e2) p2, q2⟩)
theorem wE_tup {k : Nat} (h : wA X es Γ μ fun xs μ1 => xs.length ≤ sizeLine ∧ Q (.tup xs) μ1) : wE X (.Tuple es k pos) Γ μ Q := wE_of (pe_tup pa_rd) fun σ M F H rs r => by
  refine (h σ M F H rs r).imp fun vs H1 ⟨xs, F1, μ1, e1, r1, p1, z, q1⟩ => ⟨by rw [p1.len]; exact z, fun p np => ?_⟩
  obtain ⟨ex, rl⟩ := r1.newF (o := .tup vs) np
  exact ⟨_, _, μ1, e1.trans ex, rl, rep_tup.mpr ⟨p, vs, rfl, .inl (.inl upd_same), p1.mono ex⟩, q1⟩
/-- a list that is ours -/
theorem wE_lst (h : wA X es Γ μ fun xs μ1 => xs.length ≤ sizeLine ∧ ∀ p, μ1 p = none → Q (.loc p) (μ1.upd p (.lst xs))) : wE X (.List es pos) Γ μ Q := wE_of (pe_lst pa_rd) fun σ M F H rs r => by
  refine (h σ M F H rs r).imp fun vs H1 ⟨xs, F1, μ1, e1, r1, p1, z, q1⟩ => ⟨by rw [p1.len]; exact z, fun p np => ?_⟩
  obtain ⟨nμ, rl⟩ := r1.new (m := .lst xs) (o := .lst vs) np ⟨vs, rfl, p1⟩
  exact ⟨_, _, _, e1, rl, rep_loc.mpr rfl, q1 p nμ⟩
/-- a list that stands for good -/
theorem wE_lstF (h : wA X es Γ μ fun xs μ1 => xs.length ≤ sizeLine ∧ Q (.lst xs) μ1) : wE X (.List es pos) Γ μ Q := wE_of (pe_lst pa_rd) fun σ M F H rs r => by
  refine (h σ M F H rs r).imp fun vs H1 ⟨xs, F1, μ1, e1, r1, p1, z, q1⟩ => ⟨by rw [p1.len]; exact z, fun p np => ?_⟩
  obtain ⟨ex, rl⟩ := r1.newF (o := .lst vs) np
  exact ⟨_, _, μ1, e1.trans ex, rl, rep_lst.mpr ⟨p, vs, rfl, upd_same, p1.mono ex⟩, q1⟩

/-! ### subscripts, slices -/
def rdIx (X : Cx) : R2 := fun x y H Q => Bx (∀ (value slice : Expr) (pins : List (Addr × Obj)) (s : Shared) (σ : L2.St) (v u : Value), Inv X pins σ H s → RelV x v → RelV y u → subscripted slice false v u = operate [v, u] (getItem v u) → wpAny (model X.prog X.w) X.A (subscriptTail value slice v u) (EP X pins σ Q) X.xe s)
theorem ixr_rd : IxR X (rdIx X) := fun value slice pins s σ H x y v u Q I r1 r2 h hs => h.o value slice pins s σ v u I r1 r2 hs
theorem rd_ixr {r : R2} (h : IxR X r) {x y : V} {H : Hp} {Q : VK} (q : r x y H Q) : rdIx X x y H Q := ⟨fun value slice pins s σ v u I r1 r2 hs => h value slice pins s σ H x y v u Q I r1 r2 q hs⟩
def wI (X : Cx) (x y : A) (μ : Mu) (Q : A → Mu → Prop) : Prop := ∀ M F H v w, Rel X.K μ M F H → Rep X.K F x v → Rep X.K F y w → rdIx X v w H (QE X.K M F Q)
theorem wE_ix (h : wE X a Γ μ fun x μ1 => wE X b Γ μ1 fun y μ2 => wI X x y μ2 Q) (hs : PlainIx b := by exact fun _ _ => rfl) : wE X (.Subscript a b pos) Γ μ Q := wE_of (pe_ix ixr_rd pe_rd pe_rd hs) fun σ M F H rs r => by
  refine (h σ M F H rs r).imp fun v H1 ⟨x, F1, μ1, e1, r1, p1, q1⟩ => ?_
  refine (q1 σ M F1 H1 (rs.mono e1) r1).imp fun w H2 ⟨y, F2, μ2, e2, r2, p2, q2⟩ => ?_
  exact ⟨fun value slice pins s σ' v' u' I hv hw hs => thn ((q2 M F2 H2 v w r2 (p1.mono e2) p2).o value slice pins s σ' v' u' I hv hw hs) fun _ _ ⟨z, H3, I3, r3, q3⟩ => ⟨z, H3, I3, r3, q3.mono (e1.trans e2)⟩⟩
theorem atI_rep {K : PySem.W.Frag} {F : Hp} {xs : List A} {vs : List V} {i : Int} {y : A} (h : RepL K F xs vs) (e : atI xs i = some y) : ∃ v, atI vs i = some v ∧ Rep K F y v := by
  unfold atI at e ⊢
  rw [h.len]
  cases q : ixN xs.length i with
  | none => simp [q] at e
  | some j => rw [q] at e; exact h.get e
theorem wI_tup {xs : List A} {i : Int} {y : A} (e : atI xs i = some y) (q : Q y μ) : wI X (.tup xs) (.int i) μ Q := fun M F H v w rl r1 r2 => rd_ixr ix_tup (by
  rw [rep_tup] at r1; rw [rep_int] at r2
  obtain ⟨p, vs, rfl, h1, h2⟩ := r1
  obtain ⟨z, e1, e2⟩ := atI_rep h2 e
  exact ⟨p, vs, i, z, rfl, r2, rl.sub.t h1, e1, .pure rl e2 q⟩)
theorem wI_lst {xs : List A} {i : Int} {y : A} (e : atI xs i = some y) (q : Q y μ) : wI X (.lst xs) (.int i) μ Q := fun M F H v w rl r1 r2 => rd_ixr ix_list (by
  rw [rep_lst] at r1; rw [rep_int] at r2
  obtain ⟨p, vs, rfl, h1, h2⟩ := r1
  obtain ⟨z, e1, e2⟩ := atI_rep h2 e
  exact ⟨p, vs, i, z, rfl, r2, .inl (.inl (rl.sub _ _ h1)), e1, .pure rl e2 q⟩)
theorem wI_fls {xs : List A} {i : Int} {y : A} (e : atI xs i = some y) (q : Q y μ) : wI X (.fls xs) (.int i) μ Q := fun M F H v w rl r1 r2 => rd_ixr ix_list (by
  rw [rep_fls] at r1; rw [rep_int] at r2
  obtain ⟨p, vs, rfl, h1, h2⟩ := r1
  obtain ⟨z, e1, e2⟩ := atI_rep h2 e
  exact ⟨p, vs, i, z, rfl, r2, rl.sub.l h1, e1, .pure rl e2 q⟩)
theorem wI_loc {p : Addr} {xs : List A} {i : Int} {y : A} (hp : μ p = some (.lst xs)) (e : atI xs i = some y) (q : Q y μ) : wI X (.loc p) (.int i) μ Q := fun M F H v w rl r1 r2 => rd_ixr ix_list (by
  rw [rep_loc] at r1; rw [rep_int] at r2
  obtain ⟨_, o, h1, vs, rfl, h2⟩ := rl.own p _ hp
  obtain ⟨z, e1, e2⟩ := atI_rep h2 e
  exact ⟨p, vs, i, z, r1, r2, .inl (.inl h1), e1, .pure rl e2 q⟩)
theorem wI_str {x : Str} {i : Int} {ch : Nat} (hz : x.length ≤ sizeLine) (e : atI x.cps.toList i = some ch) (q : Q (.str ⟨#[ch]⟩) μ) : wI X (.str x) (.int i) μ Q := fun M F H v w rl r1 r2 => rd_ixr ix_str (by
  rw [rep_str] at r1; rw [rep_int] at r2
  exact ⟨x, i, ch, r1, r2, hz, e, .pure rl (rep_str.mpr rfl) q⟩)

def wP (X : Cx) (e : Option Expr) (Γ : G) (μ : Mu) (Q : Option Int → Mu → Prop) : Prop := match e with
  | none => Q none μ
  | some e => wE X e Γ μ fun x μ1 => ∃ i, x = .int i ∧ Q (some i) μ1
def cutA (xs : List A) (lo hi : Option Int) : List A := (xs.drop (HT.sIx xs.length 0 lo)).take (HT.sIx xs.length xs.length hi - HT.sIx xs.length 0 lo)
theorem cut_rep {K : PySem.W.Frag} {F : Hp} {xs : List A} {vs : List V} {lo hi : Option Int} (h : RepL K F xs vs) : RepL K F (cutA xs lo hi) (cutV vs lo hi) := by
  unfold cutA cutV; rw [h.len]; exact (h.drop _).take _
def rdSl (X : Cx) : V → Option Int → Option Int → Hp → VK → Prop := fun x lo hi H Q => Bx (∀ (pins : List (Addr × Obj)) (s : Shared) (σ : L2.St) (v vl vu : Value) (sl : Addr), Inv X pins σ H s → RelV x v → s.heap.IsSliceOf sl vl vu .none → IsPart vl lo → IsPart vu hi →
    ∃ T id, typeLookup (.type T) "__getitem__" = pure (some (.builtin id)) ∧ s.TypeIs v T ∧ wpAny (model X.prog X.w) X.A (getItem v (.ref sl)) (EP X pins σ Q) X.xe s)
theorem slr_rd : SlR X (rdSl X) := fun pins s σ H x v vl vu lo hi sl Q I rx hs pl pu h => h.o pins s σ v vl vu sl I rx hs pl pu
theorem rd_slr {r : V → Option Int → Option Int → Hp → VK → Prop} (h : SlR X r) {x : V} {lo hi : Option Int} {H : Hp} {Q : VK} (q : r x lo hi H Q) : rdSl X x lo hi H Q := ⟨fun pins s σ v vl vu sl I rx hs pl pu => h pins s σ H x v vl vu lo hi sl Q I rx hs pl pu q⟩
def wSl (X : Cx) (x : A) (lo hi : Option Int) (μ : Mu) (Q : A → Mu → Prop) : Prop := ∀ M F H v, Rel X.K μ M F H → Rep X.K F x v → rdSl X v lo hi H (QE X.K M F Q)
def toP (X : Cx) (e : Option Expr) : TO := match e with
  | none => tNoPart
  | some e => tPart (rdE X e)
theorem po_rd : ∀ {e : Option Expr}, PO X e (toP X e)
  | none => po_none
  | some _ => po_some pe_rd
theorem toP_of {o : Option Expr} {Q0 : Option Int → Mu → Prop} (h : wP X o Γ μ Q0) {σ : L2.St} {M F H : Hp} {R : Option Int → Hp → Prop} (rs : RelS X.K Γ F σ) (r : Rel X.K μ M F H)
    (w : ∀ i F' μ' H', Ex F F' → Rel X.K μ' M F' H' → Q0 i μ' → R i H') : toP X o σ H R := by
  cases o with
  | none => exact w none F μ H (.refl _) r h
  | some e =>
    refine (show wE X e Γ μ _ from h) σ M F H rs r |>.imp fun v H' ⟨x, F', μ', e1, r1, p1, i, ei, q1⟩ => ?_
    subst ei; rw [rep_int] at p1
    exact ⟨i, p1, w _ F' μ' H' e1 r1 q1⟩
theorem wE_slice {lo hi : Option Expr} {p2 : Pos} (h : wE X a Γ μ fun x μ1 => wP X lo Γ μ1 fun l μ2 => wP X hi Γ μ2 fun u μ3 => wSl X x l u μ3 Q) : wE X (.Subscript a (.Slice lo hi none p2) pos) Γ μ Q := wE_of (pe_slice slr_rd pe_rd po_rd po_rd) fun σ M F H rs r => by
  refine (h σ M F H rs r).imp fun v H1 ⟨x, F1, μ1, e1, r1, p1, q1⟩ => ?_
  refine toP_of q1 (rs.mono e1) r1 fun l F2 μ2 H2 e2 r2 q2 => ?_
  refine toP_of q2 (rs.mono (e1.trans e2)) r2 fun u F3 μ3 H3 e3 r3 q3 => ?_
  refine ⟨fun pins s σ' v' vl vu sl I rx hs pl pu => ?_⟩
  obtain ⟨T, id, h1, h2, h3⟩ := (q3 M F3 H3 v r3 (p1.mono (e2.trans e3))).o pins s σ' v' vl vu sl I rx hs pl pu
  exact ⟨T, id, h1, h2, thn h3 fun _ _ ⟨z, H4, I4, r4, q4⟩ => ⟨z, H4, I4, r4, q4.mono ((e1.trans e2).trans e3)⟩⟩
theorem wSl_lst {xs : List A} {lo hi : Option Int} (q : ∀ p, μ p = none → Q (.loc p) (μ.upd p (.lst (cutA xs lo hi)))) : wSl X (.lst xs) lo hi μ Q := fun M F H v rl r1 => rd_slr sl_list (by
  rw [rep_lst] at r1
  obtain ⟨a, vs, rfl, h1, h2⟩ := r1
  refine ⟨a, vs, rfl, .inl (.inl (rl.sub _ _ h1)), fun p np => ?_⟩
  obtain ⟨nμ, rl'⟩ := rl.new (m := .lst (cutA xs lo hi)) np ⟨_, rfl, cut_rep h2⟩
  exact ⟨_, _, _, .refl _, rl', rep_loc.mpr rfl, q p nμ⟩)
theorem wSl_lstF {xs : List A} {lo hi : Option Int} (q : Q (.lst (cutA xs lo hi)) μ) : wSl X (.lst xs) lo hi μ Q := fun M F H v rl r1 => rd_slr sl_list (by
  rw [rep_lst] at r1
  obtain ⟨a, vs, rfl, h1, h2⟩ := r1
  refine ⟨a, vs, rfl, .inl (.inl (rl.sub _ _ h1)), fun p np => ?_⟩
  obtain ⟨ex, rl'⟩ := rl.newF (o := .lst (cutV vs lo hi)) np
  exact ⟨_, _, _, ex, rl', rep_lst.mpr ⟨p, _, rfl, upd_same, (cut_rep h2).mono ex⟩, q⟩)
theorem wSl_locF {p0 : Addr} {xs : List A} {lo hi : Option Int} (hp : μ p0 = some (.lst xs)) (q : Q (.lst (cutA xs lo hi)) μ) : wSl X (.loc p0) lo hi μ Q := fun M F H v rl r1 => rd_slr sl_list (by
  rw [rep_loc] at r1
  obtain ⟨_, o, h1, vs, rfl, h2⟩ := rl.own p0 _ hp
  refine ⟨p0, vs, r1, .inl (.inl h1), fun p np => ?_⟩
  obtain ⟨ex, rl'⟩ := rl.newF (o := .lst (cutV vs lo hi)) np
  exact ⟨_, _, _, ex, rl', rep_lst.mpr ⟨p, _, rfl, upd_same, (cut_rep h2).mono ex⟩, q⟩)
theorem wSl_str {x : Str} {lo hi : Option Int} (hz : x.length ≤ sizeLine) (q : Q (.str (cutS x lo hi)) μ) : wSl X (.str x) lo hi μ Q := fun M F H v rl r1 => rd_slr sl_str (by
  rw [rep_str] at r1
  exact ⟨x, r1, hz, .pure rl (rep_str.mpr rfl) q⟩)
end
end D

set_option Elab.async false
set_option linter.all false
set_option maxRecDepth 100000
set_option maxHeartbeats 4000000
/-! D3: operators, calls of built-ins, methods, by data; statements, loops, comprehensions; a def's promise over data. -/
namespace D
open PySem PySem.Spec PyProof.Rows L2

section
variable {X : Cx} {Γ : G} {μ : Mu} {Q : A → Mu → Prop} {a b c e : Expr} {es : List Expr} {pos : Pos}

/-! ### whole numbers -/
theorem op_mulG : OpR X (binaryOp .Mult) (rI IntMulOk fun i j => .int (i * j)) := opI fun _ _ _ _ _ _ _ hc q => mul_int q hc
def DivOk (i j : Int) : Prop := j ≠ 0 ∧ Builtin.divisionGoesByPylong i j = false
theorem op_fdivG : OpR X (binaryOp .FloorDiv) (rI DivOk fun i j => .int (i.fdiv j)) := opI fun _ _ _ _ _ _ _ hc q => floordiv_int hc.1 q (.inl hc.2)
theorem wO_I {f : Value → Value → Sem Value} {C : Int → Int → Prop} {g : Int → Int → Int} (h : OpR X f (rI C fun i j => .int (g i j))) {i j : Int} (hc : C i j) (q : Q (.int (g i j)) μ) : wO X f (.int i) (.int j) μ Q :=
  wO_of h fun M F H v w rl r1 r2 => ⟨i, j, rep_int.mp r1, rep_int.mp r2, hc, .pure rl (rep_int.mpr rfl) q⟩
theorem wO_I0 {f : Value → Value → Sem Value} {g : Int → Int → Int} (h : OpR X f (rI0 fun i j => .int (g i j))) {i j : Int} (q : Q (.int (g i j)) μ) : wO X f (.int i) (.int j) μ Q :=
  wO_of h fun M F H v w rl r1 r2 => ⟨i, j, rep_int.mp r1, rep_int.mp r2, .pure rl (rep_int.mpr rfl) q⟩
theorem wO_B0 {f : Value → Value → Sem Value} {g : Int → Int → Bool} (h : OpR X f (rI0 fun i j => .bl (g i j))) {i j : Int} (q : Q (.bl (g i j)) μ) : wO X f (.int i) (.int j) μ Q :=
  wO_of h fun M F H v w rl r1 r2 => ⟨i, j, rep_int.mp r1, rep_int.mp r2, .pure rl (rep_bl.mpr rfl) q⟩
theorem wO_add {i j : Int} (q : Q (.int (i + j)) μ) : wO X (binaryOp .Add) (.int i) (.int j) μ Q := wO_I0 op_add q
theorem wO_sub {i j : Int} (q : Q (.int (i - j)) μ) : wO X (binaryOp .Sub) (.int i) (.int j) μ Q := wO_I0 op_sub q
theorem wO_mul {i j : Int} (hc : IntMulOk i j) (q : Q (.int (i * j)) μ) : wO X (binaryOp .Mult) (.int i) (.int j) μ Q := wO_I op_mulG hc q
/-- one factor below 2 ^ 64 -/
theorem mulR {i j : Int} (h1 : -(2 ^ 64) < j) (h2 : j < 2 ^ 64) : IntMulOk i j := .of_right (intBits_le_64 h1 h2)
theorem mulL {i j : Int} (h1 : -(2 ^ 64) < i) (h2 : i < 2 ^ 64) : IntMulOk i j := .of_left (intBits_le_64 h1 h2)
theorem wO_fdiv {i j : Int} (h0 : 0 < j) (hc : Builtin.divisionGoesByPylong i j = false) (q : Q (.int (i / j)) μ) : wO X (binaryOp .FloorDiv) (.int i) (.int j) μ Q :=
  wO_I op_fdivG ⟨by omega, hc⟩ (by rw [Int.fdiv_eq_ediv_of_nonneg i (by omega)]; exact q)
theorem wO_fdivN {i j : Int} (h0 : j ≠ 0) (hc : Builtin.divisionGoesByPylong i j = false) (q : Q (.int (i.fdiv j)) μ) : wO X (binaryOp .FloorDiv) (.int i) (.int j) μ Q := wO_I op_fdivG ⟨h0, hc⟩ q
theorem divS {i j : Int} (h : j.natAbs < 1073741824) : Builtin.divisionGoesByPylong i j = false := PyProof.noPylong_small h
theorem wO_mod {i j : Int} (h0 : 0 < j) (q : Q (.int (i % j)) μ) : wO X (binaryOp .Mod) (.int i) (.int j) μ Q := wO_I (C := fun _ j => 0 < j) op_mod h0 q
theorem wO_pow {i j : Int} (hc : 0 ≤ j ∧ j ≤ 1000000 ∧ i.natAbs < 2 ^ 64) (q : Q (.int (i ^ j.toNat)) μ) : wO X (binaryOp .Pow) (.int i) (.int j) μ Q := wO_I op_pow hc q
theorem wO_lt {i j : Int} (q : Q (.bl (decide (i < j))) μ) : wO X (compareOp .Lt) (.int i) (.int j) μ Q := wO_B0 (g := fun i j => decide (i < j)) op_lt q
theorem wO_le {i j : Int} (q : Q (.bl (decide (i ≤ j))) μ) : wO X (compareOp .LtE) (.int i) (.int j) μ Q := wO_B0 (g := fun i j => decide (i ≤ j)) op_le q
theorem wO_gt {i j : Int} (q : Q (.bl (decide (j < i))) μ) : wO X (compareOp .Gt) (.int i) (.int j) μ Q := wO_B0 (g := fun i j => decide (j < i)) op_gt q
theorem wO_ge {i j : Int} (q : Q (.bl (decide (j ≤ i))) μ) : wO X (compareOp .GtE) (.int i) (.int j) μ Q := wO_B0 (g := fun i j => decide (j ≤ i)) op_ge q

/-! ### == of data -/
mutual
def toD : A → PyData
  | .non => .none
  | .bl b => .bool b
  | .int i => .int i
  | .str x => .str x
  | .ty _ => .none
  | .loc _ => .none
  | .tup xs => .tuple (toDs xs)
  | .lst xs => .list (toDs xs)
  | .fls xs => .list (toDs xs)
def toDs : List A → List PyData
  | [] => []
  | x :: xs => toD x :: toDs xs
end
mutual
def isD : A → Bool
  | .non | .bl _ | .int _ => true
  | .str x => PyData.strOk x
  | .ty _ => false
  | .loc _ => false
  | .tup xs => isDs xs
  | .lst xs => isDs xs
  | .fls xs => isDs xs
def isDs : List A → Bool
  | [] => true
  | x :: xs => isD x && isDs xs
end
section
variable {K : PySem.W.Frag} {H : Hp}
mutual
theorem dp_of : ∀ {x : A} {v : V}, isD x = true → Rep K H x v → Dp K H v (toD x)
  | .non, _, _, h => by rw [rep_non] at h; subst h; exact .non
  | .bl b, _, _, h => by rw [rep_bl] at h; subst h; exact .bl b
  | .int i, _, _, h => by rw [rep_int] at h; subst h; exact .int i
  | .str x, _, _, h => by rw [rep_str] at h; subst h; exact .str x
  | .ty _, _, h, _ => by simp [isD] at h
  | .loc _, _, h, _ => by simp [isD] at h
  | .tup xs, _, hd, h => by
    rw [rep_tup] at h; obtain ⟨a, vs, rfl, h1, h2⟩ := h
    simp only [toD]
    exact .tup h1 (dps_of (by simpa [isD] using hd) h2)
  | .lst xs, _, hd, h => by
    rw [rep_lst] at h; obtain ⟨a, vs, rfl, h1, h2⟩ := h
    simp only [toD]
    exact .lst (.inl (.inl h1)) (dps_of (by simpa [isD] using hd) h2)
  | .fls xs, _, hd, h => by
    rw [rep_fls] at h; obtain ⟨a, vs, rfl, h1, h2⟩ := h
    simp only [toD]
    exact .lst h1 (dps_of (by simpa [isD] using hd) h2)
theorem dps_of : ∀ {xs : List A} {vs : List V}, isDs xs = true → RepL K H xs vs → DpAll K H vs (toDs xs)
  | [], _, _, h => by simp only [RepL] at h; subst h; exact .nil
  | x :: xs, _, hd, h => by
    simp only [RepL] at h
    obtain ⟨v, r, rfl, h1, h2⟩ := h
    simp only [isDs, Bool.and_eq_true] at hd
    simp only [toDs]
    exact .cons (dp_of hd.1 h1) (dps_of hd.2 h2)
end
end
mutual
theorem canLay_of : ∀ x : A, isD x = true → (toD x).canLay0 = true
  | .non, _ => by simp only [toD, PyData.canLay0]
  | .bl _, _ => by simp only [toD, PyData.canLay0]
  | .int _, _ => by simp only [toD, PyData.canLay0]
  | .str x, h => by simpa only [toD, PyData.canLay0, isD] using h
  | .ty _, h => by simp [isD] at h
  | .loc _, h => by simp [isD] at h
  | .tup xs, h => by simp only [toD, PyData.canLay0]; exact canLays_of xs (by simpa [isD] using h)
  | .lst xs, h => by simp only [toD, PyData.canLay0]; exact canLays_of xs (by simpa [isD] using h)
  | .fls xs, h => by simp only [toD, PyData.canLay0]; exact canLays_of xs (by simpa [isD] using h)
theorem canLays_of : ∀ xs : List A, isDs xs = true → PyData.canLayAll0 (toDs xs) = true
  | [], _ => by simp only [toDs, PyData.canLayAll0]
  | x :: xs, h => by
    simp only [isDs, Bool.and_eq_true] at h
    simp only [toDs, PyData.canLayAll0, canLay_of x h.1, canLays_of xs h.2, Bool.and_self]
end
theorem toDs_map {α : Type} (f : α → A) : ∀ l : List α, toDs (l.map f) = l.map fun a => toD (f a)
  | [] => rfl
  | a :: l => by simp only [List.map_cons, toDs, toDs_map f l]
theorem toDs_eq : ∀ l : List A, toDs l = l.map toD
  | [] => rfl
  | a :: l => by simp only [List.map_cons, toDs, toDs_eq l]
theorem isDs_map {α : Type} {f : α → A} (h : ∀ a, isD (f a) = true) : ∀ l : List α, isDs (l.map f) = true
  | [] => rfl
  | a :: l => by simp only [List.map_cons, isDs, h a, isDs_map h l, Bool.and_self]
theorem isDs_all {l : List A} (h : ∀ a ∈ l, isD a = true) : isDs l = true := by
  induction l with
  | nil => rfl
  | cons a l ih => simp only [isDs, h a List.mem_cons_self, ih fun b hb => h b (List.mem_cons_of_mem _ hb), Bool.and_self]
theorem isDs_mem {l : List A} (h : isDs l = true) : ∀ a ∈ l, isD a = true := by
  induction l with
  | nil => simp
  | cons a l ih =>
    simp only [isDs, Bool.and_eq_true] at h
    exact List.forall_mem_cons.mpr ⟨h.1, ih h.2⟩
/-! depths -/
mutual
def deep : A → Nat
  | .tup xs => deeps xs + 1
  | .lst xs => deeps xs + 1
  | .fls xs => deeps xs + 1
  | _ => 0
def deeps : List A → Nat
  | [] => 0
  | x :: xs => max (deep x) (deeps xs)
end
mutual
theorem depth_of : ∀ x : A, (toD x).depth ≤ deep x
  | .non => by simp [toD, PyData.depth]
  | .bl _ => by simp [toD, PyData.depth]
  | .int _ => by simp [toD, PyData.depth]
  | .str _ => by simp [toD, PyData.depth]
  | .ty _ => by simp [toD, PyData.depth]
  | .loc _ => by simp [toD, PyData.depth]
  | .tup xs => by simp only [toD, PyData.depth, deep]; have := depths_of xs; omega
  | .lst xs => by simp only [toD, PyData.depth, deep]; have := depths_of xs; omega
  | .fls xs => by simp only [toD, PyData.depth, deep]; have := depths_of xs; omega
theorem depths_of : ∀ xs : List A, PyData.depthAll (toDs xs) ≤ deeps xs
  | [] => by simp [toDs, PyData.depthAll]
  | x :: xs => by simp only [toDs, PyData.depthAll, deeps]; have := depth_of x; have := depths_of xs; omega
end
theorem deeps_le {l : List A} {n : Nat} (h : ∀ a ∈ l, deep a ≤ n) : deeps l ≤ n := by
  induction l with
  | nil => exact Nat.zero_le _
  | cons a l ih =>
    have h1 := h a List.mem_cons_self
    have h2 := ih fun b hb => h b (List.mem_cons_of_mem _ hb)
    simp only [deeps]; omega
/-- data that is compared, shown -/
def DatOk (x : A) : Prop := isD x = true ∧ deep x ≤ 60
theorem DatOk.shaped {x : A} (h : DatOk x) : SeqAt.shaped (toD x) = true := by
  unfold SeqAt.shaped
  rw [canLay_of x h.1]
  have := depth_of x
  have h2 := h.2
  simp only [Bool.true_and, decide_eq_true_eq]
  omega
theorem wO_eqD {x y : A} (hu : X.A.units + 64 < cLine) (hx : DatOk x) (hy : DatOk y) (q : Q (.bl (PyData.eqv (toD x) (toD y))) μ) : wO X (compareOp .Eq) x y μ Q :=
  wO_of (op_eqD hu) fun M F H v w rl r1 r2 => ⟨_, _, dp_of hx.1 (r1.mono rl.sub), dp_of hy.1 (r2.mono rl.sub), hx.shaped, hy.shaped, .pure rl (rep_bl.mpr rfl) q⟩
theorem wO_neD {x y : A} (hu : X.A.units + 64 < cLine) (hx : DatOk x) (hy : DatOk y) (q : Q (.bl (!PyData.eqv (toD x) (toD y))) μ) : wO X (compareOp .NotEq) x y μ Q :=
  wO_of (op_neD hu) fun M F H v w rl r1 r2 => ⟨_, _, dp_of hx.1 (r1.mono rl.sub), dp_of hy.1 (r2.mono rl.sub), hx.shaped, hy.shaped, .pure rl (rep_bl.mpr rfl) q⟩
/-- == of ints, of texts -/
theorem wO_eqI {i j : Int} (q : Q (.bl (decide (i = j))) μ) : wO X (compareOp .Eq) (.int i) (.int j) μ Q :=
  wO_of op_eq fun M F H v w rl r1 r2 => by
    rw [rep_int] at r1 r2; subst r1; subst r2
    exact ⟨rfl, .pure rl (rep_bl.mpr (by simp)) q⟩
theorem wO_neI {i j : Int} (q : Q (.bl (!decide (i = j))) μ) : wO X (compareOp .NotEq) (.int i) (.int j) μ Q :=
  wO_of op_ne fun M F H v w rl r1 r2 => by
    rw [rep_int] at r1 r2; subst r1; subst r2
    exact ⟨rfl, .pure rl (rep_bl.mpr (by simp)) q⟩
theorem wO_eqS {i j : Str} (q : Q (.bl (decide (i = j))) μ) : wO X (compareOp .Eq) (.str i) (.str j) μ Q :=
  wO_of op_eq fun M F H v w rl r1 r2 => by
    rw [rep_str] at r1 r2; subst r1; subst r2
    exact ⟨rfl, .pure rl (rep_bl.mpr (by simp)) q⟩
theorem wO_neS {i j : Str} (q : Q (.bl (!decide (i = j))) μ) : wO X (compareOp .NotEq) (.str i) (.str j) μ Q :=
  wO_of op_ne fun M F H v w rl r1 r2 => by
    rw [rep_str] at r1 r2; subst r1; subst r2
    exact ⟨rfl, .pure rl (rep_bl.mpr (by simp)) q⟩
/-- is None -/
def isNon : A → Bool
  | .non => true
  | _ => false
theorem isNon_rep {K : PySem.W.Frag} {F : Hp} {x : A} {v : V} (h : Rep K F x v) : decide (v = .non) = isNon x := by
  cases x with
  | non => rw [rep_non] at h; subst h; rfl
  | bl b => rw [rep_bl] at h; subst h; rfl
  | int i => rw [rep_int] at h; subst h; rfl
  | str i => rw [rep_str] at h; subst h; rfl
  | ty i => rw [rep_ty] at h; subst h; rfl
  | loc i => rw [rep_loc] at h; subst h; rfl
  | tup i => rw [rep_tup] at h; obtain ⟨_, _, rfl, _⟩ := h; rfl
  | lst i => rw [rep_lst] at h; obtain ⟨_, _, rfl, _⟩ := h; rfl
  | fls i => rw [rep_fls] at h; obtain ⟨_, _, rfl, _⟩ := h; rfl
theorem wO_isN {x : A} (q : Q (.bl (isNon x)) μ) : wO X (compareOp .Is) x .non μ Q :=
  wO_of op_isN fun M F H v w rl r1 r2 => ⟨rep_non.mp r2, .pure rl (rep_bl.mpr (by rw [isNon_rep r1])) q⟩
theorem wO_notN {x : A} (q : Q (.bl (!isNon x)) μ) : wO X (compareOp .IsNot) x .non μ Q :=
  wO_of op_notN fun M F H v w rl r1 r2 => ⟨rep_non.mp r2, .pure rl (rep_bl.mpr (by rw [isNon_rep r1])) q⟩
theorem wO_isB {i j : Bool} (q : Q (.bl (decide (i = j))) μ) : wO X (compareOp .Is) (.bl i) (.bl j) μ Q :=
  wO_of op_isBl fun M F H v w rl r1 r2 => ⟨i, j, rep_bl.mp r1, rep_bl.mp r2, .pure rl (rep_bl.mpr rfl) q⟩
theorem wO_notB {i j : Bool} (q : Q (.bl (!decide (i = j))) μ) : wO X (compareOp .IsNot) (.bl i) (.bl j) μ Q :=
  wO_of op_notBl fun M F H v w rl r1 r2 => ⟨i, j, rep_bl.mp r1, rep_bl.mp r2, .pure rl (rep_bl.mpr rfl) q⟩
/-! ### sequences -/
theorem wO_addS {x y : Str} (hz : x.length + y.length ≤ sizeLine) (q : Q (.str (x ++ y)) μ) : wO X (binaryOp .Add) (.str x) (.str y) μ Q :=
  wO_of op_add_str fun M F H v w rl r1 r2 => ⟨x, y, rep_str.mp r1, rep_str.mp r2, hz, .pure rl (rep_str.mpr rfl) q⟩
theorem wO_catT {xs ys : List A} (hz : xs.length + ys.length ≤ sizeLine) (q : Q (.tup (xs ++ ys)) μ) : wO X (binaryOp .Add) (.tup xs) (.tup ys) μ Q :=
  wO_of op_catA fun M F H v w rl r1 r2 => by
    rw [rep_tup] at r1 r2
    obtain ⟨a, vs, rfl, h1, h2⟩ := r1
    obtain ⟨b, ws, rfl, g1, g2⟩ := r2
    refine ⟨a, b, vs, ws, rfl, rfl, rl.sub.t h1, rl.sub.t g1, by rw [h2.len, g2.len]; exact hz, fun e => ?_, fun _ e => ?_, fun _ _ p np => ?_⟩
    · have e1 : xs = [] := by have := h2.len; rw [e] at this; exact List.length_eq_zero_iff.mp this.symm
      subst e1
      exact .pure rl (rep_tup.mpr ⟨b, ws, rfl, g1, by simpa using g2⟩) q
    · have e1 : ys = [] := by have := g2.len; rw [e] at this; exact List.length_eq_zero_iff.mp this.symm
      subst e1
      exact .pure rl (rep_tup.mpr ⟨a, vs, rfl, h1, by simpa using h2⟩) q
    · obtain ⟨ex, rl'⟩ := rl.newF (o := .tup (vs ++ ws)) np
      exact ⟨_, _, μ, ex, rl', rep_tup.mpr ⟨p, _, rfl, .inl (.inl upd_same), (h2.append g2).mono ex⟩, q⟩
/-- what a list reads as -/
inductive IsL (μ : Mu) : A → List A → Prop
  | lst (xs) : IsL μ (.lst xs) xs
  | loc {p xs} (h : μ p = some (.lst xs)) : IsL μ (.loc p) xs
theorem IsL.rep {K : PySem.W.Frag} {M F H : Hp} {x : A} {xs : List A} {v : V} (h : IsL μ x xs) (rl : Rel K μ M F H) (r : Rep K F x v) : ∃ p vs, v = .ref p ∧ H p = some (.lst vs) ∧ RepL K F xs vs := by
  cases h with
  | lst => rw [rep_lst] at r; obtain ⟨a, vs, h1, h2, h3⟩ := r; exact ⟨a, vs, h1, rl.sub _ _ h2, h3⟩
  | loc h => rw [rep_loc] at r; obtain ⟨_, o, h1, vs, rfl, h2⟩ := rl.own _ _ h; exact ⟨_, vs, r, h1, h2⟩
theorem wO_cat {x y : A} {xs ys : List A} (hx : IsL μ x xs) (hy : IsL μ y ys) (hz : xs.length + ys.length ≤ sizeLine) (q : ∀ p, μ p = none → Q (.loc p) (μ.upd p (.lst (xs ++ ys)))) : wO X (binaryOp .Add) x y μ Q :=
  wO_of op_cat fun M F H v w rl r1 r2 => by
    obtain ⟨a, vs, e1, h1, h2⟩ := hx.rep rl r1
    obtain ⟨b, ws, e2, g1, g2⟩ := hy.rep rl r2
    refine ⟨a, b, vs, ws, e1, e2, h1, g1, by rw [h2.len, g2.len]; exact hz, fun p np => ?_⟩
    obtain ⟨nμ, rl'⟩ := rl.new (m := .lst (xs ++ ys)) np ⟨_, rfl, h2.append g2⟩
    exact ⟨_, _, _, .refl _, rl', rep_loc.mpr rfl, q p nμ⟩
theorem wO_catF {x y : A} {xs ys : List A} (hx : IsL μ x xs) (hy : IsL μ y ys) (hz : xs.length + ys.length ≤ sizeLine) (q : Q (.lst (xs ++ ys)) μ) : wO X (binaryOp .Add) x y μ Q :=
  wO_of op_cat fun M F H v w rl r1 r2 => by
    obtain ⟨a, vs, e1, h1, h2⟩ := hx.rep rl r1
    obtain ⟨b, ws, e2, g1, g2⟩ := hy.rep rl r2
    refine ⟨a, b, vs, ws, e1, e2, h1, g1, by rw [h2.len, g2.len]; exact hz, fun p np => ?_⟩
    obtain ⟨ex, rl'⟩ := rl.newF (o := .lst (vs ++ ws)) np
    exact ⟨_, _, _, ex, rl', rep_lst.mpr ⟨p, _, rfl, upd_same, (h2.append g2).mono ex⟩, q⟩
theorem rep_flat {K : PySem.W.Frag} {F : Hp} {xs : List A} {vs : List V} (h : RepL K F xs vs) : ∀ n : Nat, RepL K F (List.replicate n xs).flatten (List.replicate n vs).flatten
  | 0 => .nil
  | n + 1 => by rw [List.replicate_succ, List.replicate_succ, List.flatten_cons, List.flatten_cons]; exact h.append (rep_flat h n)
theorem wO_repF {x : A} {xs : List A} {k : Int} (hx : IsL μ x xs) (h1 : -(2 ^ 63) ≤ k) (h2 : k < 2 ^ 63) (hz : xs.length * k.toNat ≤ sizeLine) (q : Q (.lst (List.replicate k.toNat xs).flatten) μ) : wO X (binaryOp .Mult) x (.int k) μ Q :=
  wO_of op_rep fun M F H v w rl r1 r2 => by
    obtain ⟨a, vs, e1, g1, g2⟩ := hx.rep rl r1
    refine ⟨a, k, vs, e1, rep_int.mp r2, g1, h1, h2, by rw [g2.len]; exact hz, fun p np => ?_⟩
    obtain ⟨ex, rl'⟩ := rl.newF (o := .lst (List.replicate k.toNat vs).flatten) np
    exact ⟨_, _, _, ex, rl', rep_lst.mpr ⟨p, _, rfl, upd_same, (rep_flat g2 _).mono ex⟩, q⟩
theorem wSl_tup {xs : List A} {lo hi : Option Int} (q : Q (.tup (cutA xs lo hi)) μ) : wSl X (.tup xs) lo hi μ Q := fun M F H v rl r1 => rd_slr sl_tupA (by
  rw [rep_tup] at r1
  obtain ⟨a, vs, rfl, h1, h2⟩ := r1
  refine ⟨a, vs, rfl, rl.sub.t h1, fun e => ?_, fun _ p np => ?_⟩
  · refine .pure rl (rep_tup.mpr ⟨a, vs, rfl, h1, ?_⟩) q
    have e2 : cutA xs lo hi = xs := by
      unfold cutA
      rw [h2.len] at e
      rw [e.1, e.2]; simp
    rw [e2]; exact h2
  · obtain ⟨ex, rl'⟩ := rl.newF (o := .tup (cutV vs lo hi)) np
    exact ⟨_, _, _, ex, rl', rep_tup.mpr ⟨p, _, rfl, .inl (.inl upd_same), (cut_rep h2).mono ex⟩, q⟩)
/-! x in a list, x in a tuple -/
def flatA : A → Bool
  | .non | .bl _ | .int _ | .str _ => true
  | .ty _ | .loc _ | .tup _ | .lst _ | .fls _ => false
/-- a bool as a number -/
def numB (b : Bool) : Int := if b then 1 else 0
def isNon0 : A → Bool
  | .non => true
  | _ => false
def eqA : A → A → Bool
  | .str x, .str y => x == y
  | .int i, .int j => i == j
  | .bl s, .bl t => s == t
  | .bl s, .int j => numB s == j
  | .int i, .bl t => i == numB t
  | .non, y => isNon0 y
  | _, _ => false
def inA (x : A) (xs : List A) : Bool := xs.any fun y => eqA y x
theorem flat_rep {K : PySem.W.Frag} {F : Hp} {x : A} {v : V} (h : Rep K F x v) (f : flatA x = true) : flatV v = true := by
  cases x <;> simp [flatA] at f <;> simp only [Rep] at h <;> subst h <;> rfl
theorem eq_rep {K : PySem.W.Frag} {F : Hp} {x y : A} {v w : V} (h : Rep K F x v) (g : Rep K F y w) (f : flatA x = true) (f' : flatA y = true) : eqV v w = eqA x y := by
  cases x <;> simp [flatA] at f <;> cases y <;> simp [flatA] at f' <;> simp only [Rep] at h g <;> subst h <;> subst g <;> rfl
theorem flats_rep {K : PySem.W.Frag} {F : Hp} : ∀ {xs : List A} {vs : List V}, RepL K F xs vs → xs.all flatA = true → vs.all flatV = true
  | [], _, h, _ => by simp only [RepL] at h; subst h; rfl
  | x :: xs, _, h, f => by
    simp only [RepL] at h; obtain ⟨v, r, rfl, h1, h2⟩ := h
    rw [List.all_cons, Bool.and_eq_true] at f ⊢
    exact ⟨flat_rep h1 f.1, flats_rep h2 f.2⟩
theorem in_rep {K : PySem.W.Frag} {F : Hp} {y : A} {w : V} (g : Rep K F y w) (f' : flatA y = true) : ∀ {xs : List A} {vs : List V}, RepL K F xs vs → xs.all flatA = true → inV w vs = inA y xs
  | [], _, h, _ => by simp only [RepL] at h; subst h; rfl
  | x :: xs, _, h, f => by
    simp only [RepL] at h; obtain ⟨v, r, rfl, h1, h2⟩ := h
    obtain ⟨f1, f2⟩ := Bool.and_eq_true_iff.mp (List.all_cons ▸ f)
    have ih := in_rep g f' h2 f2
    unfold inV inA at ih ⊢
    rw [List.any_cons, List.any_cons, eq_rep h1 g f1 f', ih]
inductive IsQ (μ : Mu) : A → List A → Prop
  | lst (xs) : IsQ μ (.lst xs) xs
  | fls (xs) : IsQ μ (.fls xs) xs
  | tup (xs) : IsQ μ (.tup xs) xs
  | loc {p xs} (h : μ p = some (.lst xs)) : IsQ μ (.loc p) xs
theorem IsQ.rep {K : PySem.W.Frag} {M F H : Hp} {x : A} {xs : List A} {v : V} (h : IsQ μ x xs) (rl : Rel K μ M F H) (r : Rep K F x v) : ∃ p vs, v = .ref p ∧ (SqL K H p vs ∨ SqT K H p vs) ∧ RepL K F xs vs := by
  cases h with
  | lst => rw [rep_lst] at r; obtain ⟨a, vs, h1, h2, h3⟩ := r; exact ⟨a, vs, h1, .inl (.inl (.inl (rl.sub _ _ h2))), h3⟩
  | fls => rw [rep_fls] at r; obtain ⟨a, vs, h1, h2, h3⟩ := r; exact ⟨a, vs, h1, .inl (rl.sub.l h2), h3⟩
  | tup => rw [rep_tup] at r; obtain ⟨a, vs, h1, h2, h3⟩ := r; exact ⟨a, vs, h1, .inr (rl.sub.t h2), h3⟩
  | loc h => rw [rep_loc] at r; obtain ⟨_, o, h1, vs, rfl, h2⟩ := rl.own _ _ h; exact ⟨_, vs, r, .inl (.inl (.inl h1)), h2⟩
theorem wO_in {x y : A} {xs : List A} (hy : IsQ μ y xs) (hx : flatA x = true) (hs : xs.all flatA = true) (q : Q (.bl (inA x xs)) μ) : wO X (compareOp .In) x y μ Q :=
  wO_of op_in_seq fun M F H v w rl r1 r2 => by
    obtain ⟨p, vs, e, h1, h2⟩ := hy.rep rl r2
    refine ⟨p, vs, e, h1, flat_rep r1 hx, flats_rep h2 hs, .pure rl (rep_bl.mpr ?_) q⟩
    rw [in_rep r1 hx h2 hs]; simp
theorem wO_notIn {x y : A} {xs : List A} (hy : IsQ μ y xs) (hx : flatA x = true) (hs : xs.all flatA = true) (q : Q (.bl (!inA x xs)) μ) : wO X (compareOp .NotIn) x y μ Q :=
  wO_of op_notIn_seq fun M F H v w rl r1 r2 => by
    obtain ⟨p, vs, e, h1, h2⟩ := hy.rep rl r2
    refine ⟨p, vs, e, h1, flat_rep r1 hx, flats_rep h2 hs, .pure rl (rep_bl.mpr ?_) q⟩
    rw [in_rep r1 hx h2 hs]; simp
theorem wO_inSign {ch : Nat} {z : Str} (q : Q (.bl (decide (ch ∈ z.cps.toList))) μ) : wO X (compareOp .In) (.str ⟨#[ch]⟩) (.str z) μ Q :=
  wO_of op_in_sign fun M F H v w rl r1 r2 => ⟨ch, z, rep_str.mp r1, rep_str.mp r2, .pure rl (rep_bl.mpr rfl) q⟩

/-! ### calls of built-ins -/
theorem wC_of {f : Value} {r : List V → Hp → VK → Prop} {xs : List A} (h : CallR X f r) (q : ∀ M F H vs, Rel X.K μ M F H → RepL X.K F xs vs → r vs H (QE X.K M F Q)) : wC X f xs μ Q :=
  fun M F H vs rl r1 => ⟨fun pins s σ us I rv => h pins s σ H vs us _ I rv (q M F H vs rl r1)⟩
theorem callr_rd {f : Value} : CallR X f (rdC X f) := fun pins s σ H xs us Q I r h => h.o pins s σ us I r
theorem wE_callB {x : Str} {p : Pos} {id : String} (hm : X.mg x = none) (hv : bootBuiltins x = some (.builtin id)) (h : wA X (e :: es) Γ μ fun xs μ1 => wC X (.builtin id) xs μ1 Q) (hg : Gl X x := by rfl) (hn : x ≠ "__name__" := by decide) (hdb : (x == ("__debug__" : Str)) = false := by decide)
    (he : starEach (e :: es) X.env = (false, eval e X.env) :: starEach es X.env := by rfl) (hpl : (backTo pos (starEach es X.env)).any (·.1) = false := by rfl) : wE X (.Call (.Name x p) (e :: es) [] pos) Γ μ Q := wE_of (pe_callB callr_rd hg hm hv pa_rd hn hdb he hpl) fun σ M F H rs r => by
  refine (h σ M F H rs r).imp fun vs H1 ⟨xs, F1, μ1, e1, r1, p1, q1⟩ => ?_
  exact ⟨fun pins s σ' us I rv => thn ((q1 M F1 H1 vs r1 p1).o pins s σ' us I rv) fun _ _ ⟨z, H3, I3, r3, q3⟩ => ⟨z, H3, I3, r3, q3.mono e1⟩⟩
theorem wE_callTy {x : Str} {p : Pos} {T : String} (hm : X.mg x = none) (hv : bootBuiltins x = some (.type T)) (h : wA X (e :: es) Γ μ fun xs μ1 => wC X (.type T) xs μ1 Q) (hg : Gl X x := by rfl) (hn : x ≠ "__name__" := by decide) (hdb : (x == ("__debug__" : Str)) = false := by decide)
    (he : starEach (e :: es) X.env = (false, eval e X.env) :: starEach es X.env := by rfl) (hpl : (backTo pos (starEach es X.env)).any (·.1) = false := by rfl) : wE X (.Call (.Name x p) (e :: es) [] pos) Γ μ Q := wE_of (pe_callTy callr_rd hg hm hv pa_rd hn hdb he hpl) fun σ M F H rs r => by
  refine (h σ M F H rs r).imp fun vs H1 ⟨xs, F1, μ1, e1, r1, p1, q1⟩ => ?_
  exact ⟨fun pins s σ' us I rv => thn ((q1 M F1 H1 vs r1 p1).o pins s σ' us I rv) fun _ _ ⟨z, H3, I3, r3, q3⟩ => ⟨z, H3, I3, r3, q3.mono e1⟩⟩
theorem RepL.one {K : PySem.W.Frag} {F : Hp} {x : A} {vs : List V} (h : RepL K F [x] vs) : ∃ v, vs = [v] ∧ Rep K F x v := by
  simp only [RepL] at h; obtain ⟨v, r, rfl, h1, rfl⟩ := h; exact ⟨v, rfl, h1⟩
theorem RepL.two {K : PySem.W.Frag} {F : Hp} {x y : A} {vs : List V} (h : RepL K F [x, y] vs) : ∃ v w, vs = [v, w] ∧ Rep K F x v ∧ Rep K F y w := by
  simp only [RepL] at h; obtain ⟨v, r, rfl, h1, w, r', rfl, h2, rfl⟩ := h; exact ⟨v, w, rfl, h1, h2⟩
theorem wC_abs {i : Int} (q : Q (.int (if i < 0 then -i else i)) μ) : wC X (.builtin "abs") [.int i] μ Q := wC_of call_abs fun M F H vs rl r => by
  obtain ⟨v, rfl, h⟩ := r.one; rw [rep_int] at h; subst h
  exact ⟨i, rfl, .pure rl (rep_int.mpr rfl) q⟩
theorem wC_max2 {i j : Int} (hc : X.calm = true) (q : Q (.int (if j > i then j else i)) μ) : wC X (.builtin "max") [.int i, .int j] μ Q := wC_of (call_max2 hc) fun M F H vs rl r => by
  obtain ⟨v, w, rfl, h, h'⟩ := r.two; rw [rep_int] at h h'; subst h; subst h'
  exact ⟨i, j, rfl, .pure rl (rep_int.mpr rfl) q⟩
theorem wC_min2 {i j : Int} (hc : X.calm = true) (q : Q (.int (if j < i then j else i)) μ) : wC X (.builtin "min") [.int i, .int j] μ Q := wC_of (call_min2 hc) fun M F H vs rl r => by
  obtain ⟨v, w, rfl, h, h'⟩ := r.two; rw [rep_int] at h h'; subst h; subst h'
  exact ⟨i, j, rfl, .pure rl (rep_int.mpr rfl) q⟩
theorem wC_len {x : A} {xs : List A} (hx : IsQ μ x xs) (q : Q (.int xs.length) μ) : wC X (.builtin "len") [x] μ Q := wC_of call_len_seq fun M F H vs rl r => by
  obtain ⟨v, rfl, h⟩ := r.one
  obtain ⟨p, ws, e, h1, h2⟩ := hx.rep rl h
  exact ⟨p, ws, by rw [e], h1, .pure rl (rep_int.mpr (by rw [h2.len])) q⟩
theorem wC_lenS {x : Str} (hz : x.length ≤ sizeLine) (q : Q (.int x.length) μ) : wC X (.builtin "len") [.str x] μ Q := wC_of call_len_str fun M F H vs rl r => by
  obtain ⟨v, rfl, h⟩ := r.one; rw [rep_str] at h; subst h
  exact ⟨x, rfl, hz, .pure rl (rep_int.mpr rfl) q⟩
theorem wC_list {x : A} {xs : List A} (hx : IsQ μ x xs) (q : ∀ p, μ p = none → Q (.loc p) (μ.upd p (.lst xs))) : wC X (.type "list") [x] μ Q := wC_of call_list_of fun M F H vs rl r => by
  obtain ⟨v, rfl, h⟩ := r.one
  obtain ⟨p, ws, e, h1, h2⟩ := hx.rep rl h
  refine ⟨p, ws, by rw [e], h1, fun l nl => ?_⟩
  obtain ⟨nμ, rl'⟩ := rl.new (m := .lst xs) nl ⟨_, rfl, h2⟩
  exact ⟨_, _, _, .refl _, rl', rep_loc.mpr rfl, q l nμ⟩
theorem wC_listF {x : A} {xs : List A} (hx : IsQ μ x xs) (q : Q (.lst xs) μ) : wC X (.type "list") [x] μ Q := wC_of call_list_of fun M F H vs rl r => by
  obtain ⟨v, rfl, h⟩ := r.one
  obtain ⟨p, ws, e, h1, h2⟩ := hx.rep rl h
  refine ⟨p, ws, by rw [e], h1, fun l nl => ?_⟩
  obtain ⟨ex, rl'⟩ := rl.newF (o := .lst ws) nl
  exact ⟨_, _, _, ex, rl', rep_lst.mpr ⟨l, _, rfl, upd_same, h2.mono ex⟩, q⟩
theorem wC_tuple {x : A} {xs : List A} (hx : IsL μ x xs) (q : Q (.tup xs) μ) : wC X (.type "tuple") [x] μ Q := wC_of call_tuple_of fun M F H vs rl r => by
  obtain ⟨v, rfl, h⟩ := r.one
  obtain ⟨p, ws, e, h1, h2⟩ := hx.rep rl h
  refine ⟨p, ws, by rw [e], .inl ⟨.inl (.inl h1), fun l nl => ?_⟩⟩
  obtain ⟨ex, rl'⟩ := rl.newF (o := .tup ws) nl
  exact ⟨_, _, _, ex, rl', rep_tup.mpr ⟨l, _, rfl, .inl (.inl upd_same), h2.mono ex⟩, q⟩
theorem wC_tupleT {xs : List A} (q : Q (.tup xs) μ) : wC X (.type "tuple") [.tup xs] μ Q := wC_of call_tupleT fun M F H vs rl r => by
  obtain ⟨v, rfl, h⟩ := r.one
  have h0 := h
  rw [rep_tup] at h
  obtain ⟨p, ws, rfl, h1, h2⟩ := h
  exact ⟨p, ws, rfl, rl.sub.t h1, .pure rl h0 q⟩
theorem IsL.q {x : A} {xs : List A} (h : IsL μ x xs) : IsQ μ x xs := by
  cases h with
  | lst => exact .lst _
  | loc h => exact .loc h
/-! sums, greatest, least, all -/
theorem repL_int' {K : PySem.W.Frag} {F : Hp} {ns : List Int} {vs : List V} (h : RepL K F (ns.map A.int) vs) : vs = ns.map V.int := repL_ints h
theorem wC_min {x : A} {ns : List Int} (hc : X.calm = true) (hx : IsL μ x (ns.map A.int)) (hn : 0 < ns.length) (q : ∀ m, m ∈ ns → (∀ y, y ∈ ns → m ≤ y) → Q (.int m) μ) : wC X (.builtin "min") [x] μ Q := wC_of (cr_min hc) fun M F H vs rl r => by
  obtain ⟨v, rfl, h⟩ := r.one
  obtain ⟨p, ws, e, h1, h2⟩ := hx.rep rl h
  rw [repL_ints h2] at h1
  exact ⟨p, ns, by rw [e], .inl (.inl h1), hn, fun m h3 h4 => .pure rl (rep_int.mpr rfl) (q m h3 h4)⟩
theorem wC_max {x : A} {ns : List Int} (hc : X.calm = true) (hx : IsL μ x (ns.map A.int)) (hn : 0 < ns.length) (q : ∀ m, m ∈ ns → (∀ y, y ∈ ns → y ≤ m) → Q (.int m) μ) : wC X (.builtin "max") [x] μ Q := wC_of (cr_max hc) fun M F H vs rl r => by
  obtain ⟨v, rfl, h⟩ := r.one
  obtain ⟨p, ws, e, h1, h2⟩ := hx.rep rl h
  rw [repL_ints h2] at h1
  exact ⟨p, ns, by rw [e], .inl (.inl h1), hn, fun m h3 h4 => .pure rl (rep_int.mpr rfl) (q m h3 h4)⟩
theorem wC_sum {x : A} {ns : List Int} (hc : X.calm = true) (hx : IsL μ x (ns.map A.int)) (q : Q (.int ns.sum) μ) : wC X (.builtin "sum") [x] μ Q := wC_of (cr_sum hc) fun M F H vs rl r => by
  obtain ⟨v, rfl, h⟩ := r.one
  obtain ⟨p, ws, e, h1, h2⟩ := hx.rep rl h
  rw [repL_ints h2] at h1
  exact ⟨p, ns, by rw [e], .inl (.inl h1), .pure rl (rep_int.mpr rfl) q⟩
theorem wC_all {x : A} {ns : List Bool} (hc : X.calm = true) (hx : IsL μ x (ns.map A.bl)) (q : Q (.bl (ns.all id)) μ) : wC X (.builtin "all") [x] μ Q := wC_of (cr_all hc) fun M F H vs rl r => by
  obtain ⟨v, rfl, h⟩ := r.one
  obtain ⟨p, ws, e, h1, h2⟩ := hx.rep rl h
  rw [repL_bls h2] at h1
  exact ⟨p, ns, by rw [e], .inl (.inl h1), .pure rl (rep_bl.mpr rfl) q⟩
theorem wC_any {x : A} {ns : List Bool} (hc : X.calm = true) (hx : IsL μ x (ns.map A.bl)) (q : Q (.bl (ns.any id)) μ) : wC X (.builtin "any") [x] μ Q := wC_of (cr_any hc) fun M F H vs rl r => by
  obtain ⟨v, rfl, h⟩ := r.one
  obtain ⟨p, ws, e, h1, h2⟩ := hx.rep rl h
  rw [repL_bls h2] at h1
  exact ⟨p, ns, by rw [e], .inl (.inl h1), .pure rl (rep_bl.mpr rfl) q⟩
theorem wC_intI {i : Int} (q : Q (.int i) μ) : wC X (.type "int") [.int i] μ Q := wC_of call_int1 fun M F H vs rl r => by
  obtain ⟨v, rfl, h⟩ := r.one; rw [rep_int] at h; subst h
  exact .inl ⟨i, rfl, .pure rl (rep_int.mpr rfl) q⟩
theorem wC_intB {i : Bool} (q : Q (.int (if i then 1 else 0)) μ) : wC X (.type "int") [.bl i] μ Q := wC_of call_int1 fun M F H vs rl r => by
  obtain ⟨v, rfl, h⟩ := r.one; rw [rep_bl] at h; subst h
  exact .inr ⟨i, rfl, .pure rl (rep_int.mpr rfl) q⟩
theorem wC_boolI {i : Int} (q : Q (.bl (i != 0)) μ) : wC X (.type "bool") [.int i] μ Q := wC_of call_bool1 fun M F H vs rl r => by
  obtain ⟨v, rfl, h⟩ := r.one; rw [rep_int] at h; subst h
  exact .inl ⟨i, rfl, .pure rl (rep_bl.mpr rfl) q⟩
theorem wC_strI {i : Int} (hz : i.natAbs.log2 < 1920) (q : Q (.str (toString i)) μ) : wC X (.type "str") [.int i] μ Q := wC_of call_str_int fun M F H vs rl r => by
  obtain ⟨v, rfl, h⟩ := r.one; rw [rep_int] at h; subst h
  exact ⟨i, rfl, hz, .pure rl (rep_str.mpr rfl) q⟩
/-! isinstance with a built-in class -/
def tyN (μ : Mu) : A → Option String
  | .non => some "NoneType" | .bl _ => some "bool" | .int _ => some "int" | .str _ => some "str" | .tup _ => some "tuple" | .lst _ => some "list"
  | .loc p => (match μ p with | some (.lst _) => some "list" | some (.dic _) => some "dict" | _ => none)
  | _ => none
theorem tyX_of {K : PySem.W.Frag} {M F H : Hp} {x : A} {n : String} {v : V} (rl : Rel K μ M F H) (r : Rep K F x v) (h : tyN μ x = some n) : TyX K H v (.type n) := by
  cases x with
  | non => rw [rep_non] at r; subst r; cases h; exact .base .non
  | bl b => rw [rep_bl] at r; subst r; cases h; exact .base (.bl b)
  | int i => rw [rep_int] at r; subst r; cases h; exact .base (.int i)
  | str i => rw [rep_str] at r; subst r; cases h; exact .base (.str i)
  | ty i => cases h
  | fls i => cases h
  | tup i =>
    rw [rep_tup] at r; obtain ⟨a, vs, rfl, g1, g2⟩ := r; cases h
    rcases rl.sub.t g1 with (g | ⟨o, g⟩) | ⟨o, its, n, g, gc, _⟩
    · exact .base (.tup g)
    · exact .fTuple g
    · exact .kTuple g gc
  | lst i => rw [rep_lst] at r; obtain ⟨a, vs, rfl, g1, g2⟩ := r; cases h; exact .base (.lst (rl.sub _ _ g1))
  | loc p =>
    rw [rep_loc] at r; subst r
    simp only [tyN] at h
    split at h
    · rename_i xs e; cases h; obtain ⟨_, o, g1, vs, rfl, _⟩ := rl.own _ _ e; exact .base (.lst g1)
    · rename_i xs e; cases h; obtain ⟨_, o, g1, vs, rfl, _⟩ := rl.own _ _ e; exact .base (.dK g1)
    · cases h
theorem wC_isi {x : A} {n m : String} {k : Bool} (hx : tyN μ x = some n) (hk : kitB n m = some k) (q : Q (.bl k) μ) : wC X (.builtin "isinstance") [x, .ty m] μ Q := wC_of call_isi fun M F H vs rl r => by
  obtain ⟨v, w, rfl, h, h'⟩ := r.two
  rw [rep_ty] at h'; subst h'
  exact ⟨v, _, _, _, k, rfl, .ty m, tyX_of rl h hx, kit_ty hk, .pure rl (rep_bl.mpr rfl) q⟩
end
end D

set_option Elab.async false
set_option linter.all false
set_option maxRecDepth 100000
set_option maxHeartbeats 4000000
/-! D4: a def's promise over data, its call, its body; the law's own end. What is known of the runs around: room, and that nothing is being shown. -/
namespace D
open PySem PySem.Spec PyProof.Rows L2

/-- a promise over data: the arguments, what may change, what is wanted of the answer, what is wanted of an exception -/
abbrev AC := List A → Mu → (A → Mu → Prop) → (Value → Option Addr → Mu → Prop) → Prop
def spOf (K : PySem.W.Frag) (c : AC) : Sp := fun vs H Q E => ∃ (xs : List A) (F M : Hp) (μ : Mu) (Q0 : A → Mu → Prop) (E0 : Value → Option Addr → Mu → Prop), RepL K F xs vs ∧ Rel K μ M F H ∧ c xs μ Q0 E0 ∧
  (∀ y μ' F' H' v, Q0 y μ' → Ex F F' → Rel K μ' M F' H' → Rep K F' y v → Q v H') ∧ (∀ cls d μ' F' H', E0 cls d μ' → Ex F F' → Rel K μ' M F' H' → E cls d H')

structure FnD (P : Program) (w : World) (K : PySem.W.Frag) (mg : Str → Option Value) (base : Heap) (CX : CXT) (k : Nat) (f : Addr) (fd : FuncData) (ps : List Str) (c : AC) : Prop where
  len : ∀ xs μ Q E, c xs μ Q E → xs.length = ps.length
  run : ∀ (A : Around) (outer : List Env) (s : Shared) (H : Hp) (args : Args) (us : List Value) (vs : List V) (Q : VK) (E : XK), Room k A → A.guards = some [] → Env0 P w K mg base A outer s H → BindsTo s fd args (ps.zip us) → Vals vs us →
    spOf K c vs H Q E → codeAny (model P w) A (.call (.ref f) args) (CR CX outer P w H s Q E) s
section
variable {P : Program} {w : World} {mg : Str → Option Value} {base : Heap} {K : PySem.W.Frag} {CX : CXT} {k : Nat} {f : Addr} {fd : FuncData} {ps : List Str} {c : AC}
theorem FnD.up {j : Nat} (F : FnD P w K mg base CX j f fd ps c) (h : j ≤ k) : FnD P w K mg base CX k f fd ps c := { len := F.len, run := fun A outer s H args us vs Q E hr => F.run A outer s H args us vs Q E (hr.mono h) }
theorem FnD.imp {c' : AC} (F : FnD P w K mg base CX k f fd ps c) (h : ∀ xs μ Q E, c' xs μ Q E → c xs μ Q E) : FnD P w K mg base CX k f fd ps c' :=
  { len := fun xs μ Q E q => F.len xs μ Q E (h xs μ Q E q)
    run := fun A outer s H args us vs Q E hr hg e0 hb hv ⟨xs, F1, M, μ, Q0, E0, h1, h2, h3, h4⟩ => F.run A outer s H args us vs Q E hr hg e0 hb hv ⟨xs, F1, M, μ, Q0, E0, h1, h2, h xs μ Q0 E0 h3, h4⟩ }
theorem spOf.len {vs : List V} {H : Hp} {Q : VK} {E : XK} (hl : ∀ xs μ Q E, c xs μ Q E → xs.length = ps.length) (h : spOf K c vs H Q E) : vs.length = ps.length := by
  obtain ⟨xs, F, M, μ, Q0, E0, h1, _, h3, _⟩ := h
  rw [h1.len]; exact hl _ _ _ _ h3
end

/-- what is known around a body -/
structure Ar (X : Cx) (k : Nat) : Prop where
  room : Room k X.A
  show0 : X.A.guards = some []
theorem Ar.mono {X : Cx} {j k : Nat} (h : Ar X k) (hj : j ≤ k) : Ar X j := ⟨h.room.mono hj, h.show0⟩
theorem Ar.u64 {X : Cx} {k : Nat} (h : Ar X k) : X.A.units + 64 < cLine := h.room.units
theorem Ar.u1 {X : Cx} {k : Nat} (h : Ar X k) : X.A.units + 1 < cLine := hu_of h.room

/-! ### the call -/
section
variable {X : Cx} {CX : CXT} {k : Nat} {f : Addr} {fd : FuncData} {ps : List Str} {c : AC} {Γ : G} {μ : Mu} {Q : A → Mu → Prop} {e : Expr} {es : List Expr} {pos p : Pos} {x : Str} {E : XK}
theorem runD {pins : List (Addr × Obj)} {σ : L2.St} {H : Hp} {s : Shared} {R : VK} {us ds : List Value} {vs dvs : List V} (F : FnD X.prog X.w X.K X.mg X.base CX k f fd ps c) (ar : Ar X k) (bi : Binds X.K fd ps ds) (dv : Vals dvs ds) (pa : Passes CX X E)
    (I : Inv X pins σ H s) (rv : Vals vs us) (sp : spOf X.K c (vs ++ dvs) H R E) : wpAny (model X.prog X.w) X.A (call (.ref f) us) (EP X pins σ R) X.xe s := by
  have all := rv.append dv
  have many : (us ++ ds).length = ps.length := all.length.symm.trans (spOf.len F.len sp)
  have go := F.run X.A X.stack s H ⟨us, []⟩ (us ++ ds) (vs ++ dvs) R E ar.room ar.show0 I.env0 (bi s us I.kIn many) all sp
  refine wpAny_call (codeAny_mono go fun res s2 end2 => ?_)
  match res, end2 with
  | .error e2, end2 => exact pa pins σ H s e2 s2 I end2
  | .ok (.ret u), end2 => exact I.after end2
  | .ok .next, end2 => exact end2.elim
  | .ok .brk, end2 => exact end2.elim
  | .ok .cont, end2 => exact end2.elim
/-- how a def is found by its name, and bound: what a caller needs besides the promise -/
structure At (X : Cx) (x : Str) (f : Addr) (fd : FuncData) (ps : List Str) (ds : List Value) : Prop where
  mg : X.mg x = some (.ref f)
  kp : PySem.W.keepIn X.K (.ref f) = true
  bi : Binds X.K fd ps ds
theorem wE_callX {ds : List Value} {dvs : List V} {das : List A} {E0 : Value → Option Addr → Mu → Prop} (F : FnD X.prog X.w X.K X.mg X.base CX k f fd ps c) (at0 : At X x f fd ps ds) (ar : Ar X k) (dv : Vals dvs ds) (da : ∀ F, RepL X.K F das dvs)
    (pa : ∀ M F, Passes CX X (fun cls d H' => ∃ F' μ', Ex F F' ∧ Rel X.K μ' M F' H' ∧ E0 cls d μ'))
    (h : wA X (e :: es) Γ μ fun xs μ1 => c (xs ++ das) μ1 Q E0) (hg : Gl X x := by rfl) (hdb : (x == ("__debug__" : Str)) = false := by decide)
    (he : starEach (e :: es) X.env = (false, eval e X.env) :: starEach es X.env := by rfl) (hpl : (backTo pos (starEach es X.env)).any (·.1) = false := by rfl) : wE X (.Call (.Name x p) (e :: es) [] pos) Γ μ Q := by
  intro σ M F0 H rs rl
  refine ⟨fun pins s I => ?_⟩
  refine wpAny_Call_Name_kw (ld_glob I hg at0.mg ?_ hdb)
  refine PySem.W.callWith_K (h₀ := X.base) I.ok.mod.kin at0.kp (thn ((h σ M F0 H rs rl).o pos pins s I) fun us s1 got => ?_) he hpl
  obtain ⟨vs, H1, I1, rv, xs, F1, μ1, ex, rl1, rp, hc⟩ := got
  refine ⟨I1.kIn, runD F ar at0.bi dv (pa M F0) I1 rv ⟨xs ++ das, F1, M, μ1, Q, E0, rp.append (da F1), rl1, hc, fun y μ' F' H' v q e1 r1 p1 => ?_, fun cls d μ' F' H' q e1 r1 => ?_⟩⟩
  · exact ⟨y, F', μ', ex.trans e1, r1, p1, q⟩
  · exact ⟨F', μ', ex.trans e1, r1, q⟩
/-- f(e, ..) where nothing is raised -/
theorem wE_call (F : FnD X.prog X.w X.K X.mg X.base CX0 k f fd ps c) (at0 : At X x f fd ps []) (ar : Ar X k) (h : wA X (e :: es) Γ μ fun xs μ1 => c xs μ1 Q fun _ _ _ => False) (hg : Gl X x := by rfl) (hdb : (x == ("__debug__" : Str)) = false := by decide)
    (he : starEach (e :: es) X.env = (false, eval e X.env) :: starEach es X.env := by rfl) (hpl : (backTo pos (starEach es X.env)).any (·.1) = false := by rfl) : wE X (.Call (.Name x p) (e :: es) [] pos) Γ μ Q :=
  wE_callX (das := []) (dvs := []) F at0 ar .nil (fun _ => .nil) (fun _ _ _ _ _ _ _ _ _ z => z.elim) (by simpa only [List.append_nil] using h) hg hdb he hpl
/-- .. where defaults fill up -/
theorem wE_callD {ds : List Value} {dvs : List V} (das : List A) (F : FnD X.prog X.w X.K X.mg X.base CX0 k f fd ps c) (at0 : At X x f fd ps ds) (ar : Ar X k) (dv : Vals dvs ds) (da : ∀ F, RepL X.K F das dvs) (h : wA X (e :: es) Γ μ fun xs μ1 => c (xs ++ das) μ1 Q fun _ _ _ => False) (hg : Gl X x := by rfl) (hdb : (x == ("__debug__" : Str)) = false := by decide)
    (he : starEach (e :: es) X.env = (false, eval e X.env) :: starEach es X.env := by rfl) (hpl : (backTo pos (starEach es X.env)).any (·.1) = false := by rfl) : wE X (.Call (.Name x p) (e :: es) [] pos) Γ μ Q :=
  wE_callX F at0 ar dv da (fun _ _ _ _ _ _ _ _ _ z => z.elim) h hg hdb he hpl
/-- f() -/
theorem wE_call0 (F : FnD X.prog X.w X.K X.mg X.base CX0 k f fd ps c) (at0 : At X x f fd ps []) (ar : Ar X k) (h : c [] μ Q fun _ _ _ => False) (hg : Gl X x := by rfl) (hdb : (x == ("__debug__" : Str)) = false := by decide) : wE X (.Call (.Name x p) [] [] pos) Γ μ Q := by
  intro σ M F0 H rs rl
  refine ⟨fun pins s I => ?_⟩
  refine wpAny_Call_Name_kw (ld_glob I hg at0.mg ?_ hdb)
  refine PySem.W.callWith_K0 I.kIn at0.kp (runD (us := []) (vs := []) (dvs := []) (E := fun _ _ _ => False) F ar at0.bi .nil (fun _ _ _ _ _ _ _ z => z.elim) I .nil ⟨[], F0, M, μ, Q, _, .nil, rl, h, fun y μ' F' H' v q e1 r1 p1 => ?_, fun cls d μ' F' H' q e1 r1 => q⟩)
  exact ⟨y, F', μ', e1, r1, p1, q⟩
end

/-! ### the body -/
/-- the names' data at the entry -/
def startA (N : List Str) (xs : List A) : G := xs.map some ++ List.replicate (N.length - xs.length) none
theorem relS_start {K : PySem.W.Frag} {F : Hp} {xs : List A} {vs : List V} (N : List Str) (h : RepL K F xs vs) : RelS K (startA N xs) F (L2.start N vs) := by
  unfold startA L2.start
  have hl := h.len
  refine ⟨by simp [hl], fun i x q => ?_⟩
  by_cases hi : i < xs.length
  · rw [List.getElem?_append_left (by simpa using hi), List.getElem?_map] at q
    cases e : xs[i]? with
    | none => rw [e] at q; cases q
    | some y =>
      rw [e] at q; cases q
      obtain ⟨v, h1, h2⟩ := h.get e
      refine ⟨v, ?_, h2⟩
      rw [List.getElem?_append_left (by rw [List.length_map, hl]; exact hi), List.getElem?_map, h1]; rfl
  · rw [List.getElem?_append_right (by simpa using hi), List.getElem?_replicate] at q
    split at q <;> cases q

section
variable {P : Program} {w : World} {mg : Str → Option Value} {base : Heap} {K : PySem.W.Frag}
/-- the context of a def's body that lets nothing out -/
abbrev cx0 (P : Program) (w : World) (K : PySem.W.Frag) (mg : Str → Option Value) (base : Heap) (N : List Str) (qual : Str) (sc : Scope) (f : Addr) (cdv : Value) (A : Around) (outer : List Env) (s : Shared) (H : Hp) (E : XK) : Cx := (cxOf CX0 P w K mg base N qual sc f cdv A outer s H E).nox
theorem FnD.body {CX : CXT} {k : Nat} {f : Addr} {name qual : Str} {params : Arguments} {body : List Stmt} {scope : Scope} {dV kV doc pm cdv ct oc : Value} {an od : Option Addr} {osl : Array (Option Value)} {N ps : List Str} {c : AC}
    (lk : K.lookup f = some ⟨oc, od, .func (PySem.W.fnOf name qual params body scope dV kV doc pm an cdv ct), osl⟩) (hcd : PySem.W.codeIn K cdv qual = true) (S : FnScope N ps scope) (len : ∀ xs μ Q E, c xs μ Q E → xs.length = ps.length)
    (go : ∀ (A : Around) (outer : List Env) (s : Shared) (H : Hp) (vs : List V) (Q : VK) (E : XK), Room k (A.deeper (envOfC qual scope s.heap.objs.size f cdv)) → A.guards = some [] → spOf K c vs H Q E →
      rdSs (cxOf CX P w K mg base N qual scope f cdv A outer s H E) body { nx := fun _ H' => Q .non H', rt := Q } (L2.start N vs) H) : FnD P w K mg base CX (k + 1) f (PySem.W.fnOf name qual params body scope dV kV doc pm an cdv ct) ps c := by
  refine { len := len, run := fun A outer s H args us vs Q E room sh e0 bound rv sp => ?_ }
  have many : vs.length = ps.length := spOf.len len sp
  have inK : K.In s.heap := e0.mod.kin.keeps fun b o z => (e0.bs b o z).1
  have noLim : s.heap.NoLimit := e0.mod.nolimit.keeps fun b o z => (e0.bs b o z).1
  have kinds : ∀ y ∈ ps.zip us, scope.names.lookup y.1 = some .local ∨ (scope.names.lookup y.1 = some .cell ∧ ((cellsFrom (s.heap.objs.size + 1) scope.names []).lookup y.1).isSome = true) := by
    intro y hy
    obtain ⟨n, v⟩ := y
    have hn := S.par n (List.of_mem_zip hy).1
    exact hn.elim .inl fun z => .inr ⟨z, PySem.W.cellsFrom_some _ _ _ (.inl z)⟩
  refine codeAny_call_function room.depth (inK _ _ lk) rfl S.co S.gen rfl (PySem.W.codeRec_of inK hcd) (bound _ _ _ _ ?_)
  refine wpAny_newFunctionEnv_cells S.kind kinds fun env he s1 new => ?_
  subst he
  refine ⟨noLim.keeps new.toInCall.keep, codeAny_func ?_⟩
  have I := inv_start (CX := CX) (P := P) (w := w) (mg := mg) (base := base) (N := N) (outer := outer) (E := E) S room.hd e0 many rv new
  refine wpAny_mono ((go A outer s H vs Q E (room.deeper _) sh sp).o [] s1 I) (fun fl s2 q => ?_) fun e2 s2 q => q
  have fin : ∀ {σ2 : L2.St} {H2 : Hp} {v : V} {u : Value}, Inv (cxOf CX P w K mg base N qual scope f cdv A outer s H E) [] σ2 H2 s2 → RelV v u → Q v H2 → CE outer P w H s Q u s2 :=
    fun {σ2 H2 v u} J r q => ⟨v, H2, J.os, J.bare, J.base, J.hok, r, q⟩
  match fl, q with
  | .ret u, ⟨v, σ2, H2, J, r, q⟩ => exact fin J r q
  | .next, ⟨σ2, H2, J, q⟩ => exact fin (v := V.non) (u := Value.none) J rfl q
  | .brk, ⟨_, _, _, q⟩ => exact q.elim
  | .cont, ⟨_, _, _, q⟩ => exact q.elim
theorem rdSs_nox {X : Cx} {st : List Stmt} {D : Ends} {σ : L2.St} {H : Hp} (h : rdSs X.nox st D σ H) : rdSs X st D σ H := rd_pss (PSs.nox pss_rd) h
/-- THE RULE for a def that lets nothing out: its body over data -/
theorem fnD {x qual : Str} {st : Stmt} {f : Addr} {fd : FuncData} {N ps : List Str} {k : Nat} {c : AC} (F : Fun K x qual st f fd) (S : FnScope N ps (defScope st)) (len : ∀ xs μ Q E, c xs μ Q E → xs.length = ps.length)
    (go : ∀ (cdv : Value) (A : Around) (outer : List Env) (s : Shared) (H : Hp) (E : XK) (xs : List D.A) (μ : Mu) (Q : D.A → Mu → Prop) (E0 : Value → Option Addr → Mu → Prop), Ar (cx0 P w K mg base N qual (defScope st) f cdv A outer s H E) k → c xs μ Q E0 →
      wSs (cx0 P w K mg base N qual (defScope st) f cdv A outer s H E) (defBody st) (startA N xs) μ { nx := fun _ μ' => Q .non μ', rt := Q }) : FnD P w K mg base CX0 (k + 1) f fd ps c := by
  obtain ⟨oc, od, kV, doc, pm, an, cdv, ct, osl, rfl, lk, hcd⟩ := F.ex
  refine FnD.body lk hcd S len fun A outer s H vs Q E room sh sp => rdSs_nox ?_
  obtain ⟨xs, F0, M, μ, Q0, E0, rp, rl, hc, hq, he⟩ := sp
  refine (go cdv A outer s H E xs μ Q0 E0 ⟨room, sh⟩ hc (L2.start N vs) M F0 H (relS_start N rp) rl).imp (fun σ2 H2 q => ?_) (fun v H2 q => ?_) (fun σ2 H2 q => ?_) (fun σ2 H2 q => ?_)
  · obtain ⟨Γ', F', μ', ex, _, rl', q⟩ := q
    exact hq .non μ' F' H2 .non q ex rl' (rep_non.mpr rfl)
  · obtain ⟨y, F', μ', ex, rl', rp', q⟩ := q
    exact hq y μ' F' H2 v q ex rl' rp'
  · obtain ⟨_, _, _, _, _, _, q⟩ := q; exact q
  · obtain ⟨_, _, _, _, _, _, q⟩ := q; exact q
end

/-! ### the law's end -/
theorem law_end {P : Program} {w : World} {K : PySem.W.Frag} {mg mb : Str → Option Value} {CX : CXT} {k : Nat} {fa a : Addr} {fd : FuncData} {x : Str} {c : AC} {s1 : Shared} {vs : List Value} {ns : List Int}
    (inK : K.In s1.heap) (gl : s1.heap.Ns mainGlobals mg) (bl : s1.heap.Ns builtinsNs mb) (bl2 : ∀ x : Str, x ≠ "__name__" → mb x = bootBuiltins x) (lim : s1.heap.NoLimit) (gens : s1.gens = #[])
    (obj : s1.heap.get? a = some { cls := .type "list", data := .seq vs.toArray }) (hints : IntsAre vs ns) (len : ns.length ≤ sizeLine) (room : Room k callerA)
    (F : ∀ base : Heap, K.In base → base.Ns mainGlobals mg → FnD P w K mg base CX k fa fd [x] c) (bind : ∀ (s : Shared) (u : Value), BindsTo s fd ⟨[u], []⟩ [(x, u)])
    (hc : c [.fls (ns.map A.int)] (fun _ => none) (fun y _ => y = .bl true) fun _ _ _ => False) (hCX : ∀ H e s', CX [] H s1 (fun _ _ _ => False) e s' → False) :
    codeAny (model P w) callerA (.call (.ref fa) ⟨[.ref a], []⟩) (fun r s' => r = .ok (.ret (.bool true)) ∧ OldK s1.heap s'.heap ∧ s'.os = s1.os ∧ AllBare s'.gens) s1 := by
  have rv := vals_ints hints
  have many := hints.length
  have main : ∀ H : Hp, Only H → SqL K H a (ns.map V.int) → HOk P w H s1.heap → (∀ b, H b ≠ none → b = a) → (H a ≠ none → K.lookup a = none) →
      codeAny (model P w) callerA (.call (.ref fa) ⟨[.ref a], []⟩) (fun r s' => r = .ok (.ret (.bool true)) ∧ OldK s1.heap s'.heap ∧ s'.os = s1.os ∧ AllBare s'.gens) s1 := by
    intro H only sq hok isA notK
    have off : ∀ {b : Addr} {o : Obj} {es : Array DictEntry} {ep : Nat}, s1.heap.get? b = some o → o.data = .dict es ep → H b = none := by
      intro b o es ep e d
      match q : H b with
      | none => rfl
      | some u =>
        obtain rfl : b = a := isA b (by rw [q]; exact fun z => nomatch z)
        rw [obj] at e
        cases e
        exact nomatch d
    have ns' : ∀ {b : Addr} {m : Str → Option Value}, s1.heap.Ns b m → (hidT s1.heap H).Ns b m := by
      intro b m h
      obtain ⟨o, es, ep, e, d, r⟩ := h
      exact ⟨o, es, ep, hidT_get e (off e d), d, r⟩
    have inKb : K.In (hidT s1.heap H) := by
      intro b o e
      refine hidT_get (inK b o e) ?_
      match q : H b with
      | none => rfl
      | some u =>
        obtain rfl : b = a := isA b (by rw [q]; exact fun z => nomatch z)
        rw [notK (by rw [q]; exact fun z => nomatch z)] at e
        cases e
    obtain ⟨mc, l1, l2⟩ := lim
    have e0 : Env0 P w K mg (hidT s1.heap H) callerA [] s1 H :=
      { frames := rfl, mod := ⟨inKb, ns' gl, ⟨mb, ns' bl, bl2⟩, ⟨mc, ns' l1, l2⟩⟩, bs := fun b o e => of_hidT e, bsz := Nat.le_of_eq (hidT_size _ _), funs := trivial, frf := fun b hb => (List.not_mem_nil hb).elim, hok := hok, bare := .of_eq gens }
    have rl : Rel K (fun _ => none) (fun _ => none) H H := ⟨.refl _, fun _ _ z => (nomatch z), fun _ _ z => (nomatch z)⟩
    have sp : spOf K c [.ref a] H (fun v _ => v = .bl true) (fun _ _ _ => False) :=
      ⟨[.fls (ns.map A.int)], H, fun _ => none, fun _ => none, _, _, .cons (rep_fls.mpr ⟨a, _, rfl, sq, .map (fun i => rep_int.mpr rfl) ns⟩) .nil, rl, hc, fun y μ' F' H' v q _ _ r => by rw [q, rep_bl] at r; exact r, fun _ _ _ _ _ z _ _ => z⟩
    refine codeAny_mono ((F _ inKb (ns' gl)).run callerA [] s1 H ⟨[.ref a], []⟩ [.ref a] [.ref a] _ _ room rfl e0 (bind s1 (.ref a)) (.cons rfl .nil) sp) fun r s2 h => ?_
    match r, h with
    | .error e, h => exact (hCX H e s2 h).elim
    | .ok .next, h => exact h.elim
    | .ok .brk, h => exact h.elim
    | .ok .cont, h => exact h.elim
    | .ok (.ret u), ⟨v, H2, os, bare, un, hok2, rv2, q⟩ =>
      have q2 : v = .bl true := q
      subst q2
      obtain rfl : u = Value.bool true := rv2
      suffices keep : ∀ b o, s1.heap.get? b = some o → s2.heap.get? b = some o from ⟨rfl, OldK.of_keep keep, os, bare⟩
      intro b o e
      match q3 : H b with
      | none => exact un.keep b o e q3 List.not_mem_nil List.not_mem_nil
      | some u3 =>
        rcases only b with z | ⟨ob, xs, z⟩
        · rw [z] at q3; cases q3
        · obtain ⟨g1, _⟩ := hok b _ z
          obtain ⟨g2, _⟩ := hok2 b _ (un.frzs b ob _ z)
          rw [g1] at e; cases e
          exact g2
  match hk : K.lookup a with
  | some o =>
    have e := inK a o hk
    rw [obj] at e
    cases e
    exact main (fun _ => none) (fun _ => .inl rfl) (.inr ⟨_, vs.toArray, _, hk, rfl, rfl, rfl, by rw [List.size_toArray, many]; exact len, by simpa using rv⟩) (fun _ _ z => nomatch z) (fun _ z => absurd rfl z) fun z => absurd rfl z
  | none =>
    refine main (upd (fun _ => none) a (.frz { cls := .type "list", data := .seq vs.toArray } (.lst (ns.map V.int)))) (fun b => ?_) (.inl (.inr ⟨_, upd_same⟩)) (fun b u z => ?_) (fun b z => ?_) fun _ => hk
    · by_cases hb : b = a
      · subst hb; exact .inr ⟨_, _, upd_same⟩
      · exact .inl (upd_ne hb)
    · by_cases hb : b = a
      · subst hb
        rw [upd_same] at z; cases z
        exact ⟨obj, by rw [List.length_map]; exact len, vs, _, rv, obj⟩
      · rw [upd_ne hb] at z; cases z
    · exact Classical.byContradiction fun hb => z (upd_ne hb)
/-- the goal that k_head leaves, by the law's promise over data -/
theorem walk_end {l : PySem.W.OpenLaw} {k : Nat} {q : Program} {loose : List Str} {XP : (Str → Option Value) → Heap → Prop} {YP : World → Heap → Prop} {d : DefRec} {K : Params → PySem.W.Frag} {c : World → AC} {x : Str}
    (hn : l.most = some 63) (hdf : d.params.defaults = []) (room : Room k callerA) (hY : ∀ (w : World) (h : Heap), YP w h → (K w.params).In h)
    (F : ∀ (w : World) (mg : Str → Option Value) (fa : Addr) (g : Heap), (K w.params).In g → g.Ns mainGlobals mg →
      mg d.name = some (.ref fa) → ∃ fd : FuncData, (∀ (s : Shared) (u : Value), BindsTo s fd ⟨[u], []⟩ [(x, u)]) ∧ ∀ base : Heap, (K w.params).In base → base.Ns mainGlobals mg → FnD l.prog w (K w.params) mg base CX0 k fa fd [x] (c w))
    (hc : ∀ (w : World) (ns : List Int), ns.length ≤ 63 → c w [.fls (ns.map A.int)] (fun _ => none) (fun y _ => y = .bl true) fun _ _ _ => False) : PySem.W.WalkO q loose XP YP l.row.toRowW d [] (fun f vs => PySem.call f vs) := by
  refine Att.attach_call hn hdf ?_
  intro w s0 s1 mg mb fa o pm cd doc a vs ns gr Y ho hd hcd hmg hobj hints hlen hg
  have inK := hY w _ Y
  obtain ⟨fd, hb, hF⟩ := F w mg fa _ inK gr.T.g hmg
  exact law_end inK gr.T.g gr.T.b gr.T.builtins gr.T.nolimit hg hobj hints (Nat.le_trans hlen (by decide)) room hF hb (hc w ns hlen) fun _ _ _ z => z
end D

set_option Elab.async false
set_option linter.all false
set_option maxRecDepth 100000
set_option maxHeartbeats 4000000
/-! D5: targets, statements, loops, comprehensions, methods, dicts, repr. -/
namespace D
open PySem PySem.Spec PyProof.Rows L2

section
variable {X : Cx} {Γ : G} {μ : Mu} {Q : A → Mu → Prop} {Z : AD} {a b c e : Expr} {es : List Expr} {pos : Pos} {st : Stmt} {rest : List Stmt}

/-! ### targets -/
theorem rdG.imp {tg : Expr} {v : V} {σ : L2.St} {H : Hp} {R R' : L2.St → Hp → Prop} (h : rdG X tg v σ H R) (w : ∀ σ H, R σ H → R' σ H) : rdG X tg v σ H R' :=
  ⟨fun pins s u I r => thn (h.o pins s u I r) fun _ _ ⟨σ', H', I', q⟩ => ⟨σ', H', I', w _ _ q⟩⟩
variable {QG : G → Mu → Prop}
theorem wG_name (i : Nat) {x : Str} {y : A} (q : QG (Γ.set i (some y)) μ) (hN : X.N.Nodup) (hi : X.N[i]? = some x := by rfl) (hx : Loc X.env.scope x := by first | exact Or.inl rfl | exact Or.inr rfl)
    (hf : X.fn x = true ∨ X.env.scope.names.lookup x = some .local := by first | exact .inl rfl | exact .inr rfl) : wG X (.Name x pos) y Γ μ QG := fun σ M F H v rs rl rp =>
  rd_pg (pg_name hN hi hx hf) (show QS X.K M F QG (σ.set i (some v)) H from ⟨_, F, μ, .refl _, rs.set rp, rl, q⟩)
/-- several names, from a tuple's items -/
def rdGs (X : Cx) (ts : List Expr) : TGs := fun vs σ H Q => Bx (∀ (pins : List (Addr × Obj)) (s : Shared) (us : List Value), Inv X pins σ H s → Vals vs us →
    wpAny (model X.prog X.w) X.A (assignInOrder ((assignEach ts X.env).map (·.2)) us) (fun _ s' => ∃ σ' H', Inv X pins σ' H' s' ∧ Q σ' H') X.xe s)
def wGs (X : Cx) (ts : List Expr) (ys : List A) (Γ : G) (μ : Mu) (Q : G → Mu → Prop) : Prop := ∀ σ M F H vs, RelS X.K Γ F σ → Rel X.K μ M F H → RepL X.K F ys vs → rdGs X ts vs σ H (QS X.K M F Q)
theorem pgs_rd {ts : List Expr} : PGs X ts (rdGs X ts) := ⟨fun pins s _ _ _ us _ I r h => h.o pins s us I r⟩
theorem rd_pgs {ts : List Expr} {t : TGs} (h : PGs X ts t) {vs : List V} {σ : L2.St} {H : Hp} {R : L2.St → Hp → Prop} (q : t vs σ H R) : rdGs X ts vs σ H R := ⟨fun pins s us I r => h.run pins s σ H vs us R I r q⟩
theorem wGs_nil (q : QG Γ μ) : wGs X [] [] Γ μ QG := fun σ M F H vs rs rl rp => by
  simp only [RepL] at rp; subst rp
  exact rd_pgs pgs_nil (show gNil [] σ H (QS X.K M F QG) from ⟨rfl, Γ, F, μ, .refl _, rs, rl, q⟩)
theorem wGs_cons {t : Expr} {ts : List Expr} {y : A} {ys : List A} (h : wG X t y Γ μ fun Γ1 μ1 => wGs X ts ys Γ1 μ1 QG) (hs : (assignEach (t :: ts) X.env).map (·.2) = assign t X.env :: (assignEach ts X.env).map (·.2) := by rfl) : wGs X (t :: ts) (y :: ys) Γ μ QG := fun σ M F H vs rs rl rp => by
  simp only [RepL] at rp
  obtain ⟨v, r, rfl, h1, h2⟩ := rp
  refine rd_pgs (pgs_cons pg_rd pgs_rd hs) ⟨v, r, rfl, (h σ M F H v rs rl h1).imp fun σ' H' q => ?_⟩
  obtain ⟨Γ', F', μ', ex, rs', rl', q⟩ := q
  refine ⟨fun pins s us I rv => ?_⟩
  refine thn ((q σ' M F' H' r rs' rl' (h2.mono ex)).o pins s us I rv) fun _ _ ⟨σ2, H2, I2, q2⟩ => ⟨σ2, H2, I2, q2.mono ex⟩
theorem wG_tup {ts : List Expr} {k : Nat} {ys : List A} (h : wGs X ts ys Γ μ QG) (hc : X.calm = true := by rfl) (hn : (assignEach ts X.env).length = ys.length := by rfl) (hst : (assignEach ts X.env).findIdx? (·.1) = none := by rfl) : wG X (.Tuple ts k pos) (.tup ys) Γ μ QG := fun σ M F H v rs rl rp => by
  rw [rep_tup] at rp
  obtain ⟨p, vs, rfl, h1, h2⟩ := rp
  exact rd_pg (pg_tup (n := ys.length) hc pgs_rd hn hst) ⟨p, vs, rfl, rl.sub.t h1, h2.len, h σ M F H vs rs rl h2⟩
/-- o[i] = .., a list of ours -/
theorem wG_sub {o i : Expr} {y : A} (h : wE X o Γ μ fun x μ1 => wE X i Γ μ1 fun z μ2 => ∃ p xs k j, x = .loc p ∧ z = .int k ∧ μ2 p = some (.lst xs) ∧ ixN xs.length k = some j ∧ QG Γ (μ2.upd p (.lst (xs.set j y))))
    (ha : ∀ v, assign (.Subscript o i pos) X.env v = (holding [v] (eval o X.env) >>= fun a => holding [v, a] (eval i X.env) >>= fun b => (standAt pos >>= fun _ => (holding [v, a, b] (setItem a b v) >>= fun _ => release [v, a, b] []))) := by intro _; rfl) : wG X (.Subscript o i pos) y Γ μ QG := fun σ M F H v rs rl rp =>
  rd_pg (pg_sub pe_rd pe_rd set_list ha) (by
    refine (h σ M F H rs rl).imp fun ov H1 ⟨x, F1, μ1, e1, r1, p1, q1⟩ => ?_
    refine (q1 σ M F1 H1 (rs.mono e1) r1).imp fun iv H2 ⟨z, F2, μ2, e2, r2, p2, p, xs, k, j, ex, ez, hp, hj, q2⟩ => ?_
    subst ex; subst ez
    rw [rep_loc] at p1; rw [rep_int] at p2
    obtain ⟨_, ob, g1, vs, rfl, g2⟩ := r2.own p _ hp
    refine ⟨p, vs, k, j, p1, p2, g1, by rw [g2.len]; exact hj, Γ, F2, _, e1.trans e2, rs.mono (e1.trans e2), r2.write hp (m' := .lst (xs.set j y)) ⟨_, rfl, g2.set j (rp.mono (e1.trans e2))⟩, q2⟩)

/-! blocks; the small statements -/
theorem wSs.weak {μ' : Mu} (w : ∀ p m, μ' p = some m → μ p = some m) (h : wSs X rest Γ μ' Z) : wSs X rest Γ μ Z := fun σ M F H rs r => h σ M F H rs (r.weak w)
/-- a list in a slot stands for good from here on -/
theorem wSs_frz (i : Nat) {p : Addr} {xs : List A} (hp : μ p = some (.lst xs)) (hi : Γ[i]? = some (some (.loc p))) (h : wSs X rest (Γ.set i (some (.lst xs))) (μ.del p) Z) : wSs X rest Γ μ Z := fun σ M F H rs r => by
  obtain ⟨F', ex, rl', rp⟩ := r.freeze hp
  refine ends_mono ex (h σ M F' H ?_ rl')
  have r2 := rs.mono ex
  refine ⟨by rw [List.length_set]; exact rs.len, fun j x q => ?_⟩
  rw [List.getElem?_set] at q
  split at q
  · rename_i e
    subst e
    split at q
    · cases q
      obtain ⟨v, h1, h2⟩ := rs.at_ _ _ hi
      rw [rep_loc] at h2; subst h2
      exact ⟨_, h1, rp⟩
    · cases q
  · exact r2.at_ j x q
theorem wSs_nil (q : Z.nx Γ μ) : wSs X [] Γ μ Z := fun σ M F H rs r => rd_pss pss_nil (show QS X.K M F Z.nx σ H from ⟨Γ, F, μ, .refl _, rs, r, q⟩)
theorem wSs_cons (h : wS X st Γ μ { Z with nx := fun Γ' μ' => wSs X rest Γ' μ' Z }) : wSs X (st :: rest) Γ μ Z := fun σ M F H rs r => rd_pss (pss_cons ps_rd pss_rd) (by
  refine (h σ M F H rs r).imp (fun σ' H' q => ?_) (fun _ _ q => q) (fun _ _ q => q) (fun _ _ q => q)
  obtain ⟨Γ', F', μ', ex, rs', r', q⟩ := q
  exact ends_mono ex (q σ' M F' H' rs' r'))
theorem wS_of {t : TS} (h : PS X st t) (q : ∀ σ M F H, RelS X.K Γ F σ → Rel X.K μ M F H → t (ends X.K M F Z) σ H) : wS X st Γ μ Z := fun σ M F H rs r => rd_ps h (q σ M F H rs r)
theorem wS_pass (q : Z.nx Γ μ) : wS X (.Pass pos) Γ μ Z := wS_of ps_pass fun σ M F H rs r => (show QS X.K M F Z.nx σ H from ⟨Γ, F, μ, .refl _, rs, r, q⟩)
theorem wS_break (q : Z.bk Γ μ) : wS X (.Break pos) Γ μ Z := wS_of ps_break fun σ M F H rs r => (show QS X.K M F Z.bk σ H from ⟨Γ, F, μ, .refl _, rs, r, q⟩)
theorem wS_continue (q : Z.ct Γ μ) : wS X (.Continue pos) Γ μ Z := wS_of ps_continue fun σ M F H rs r => (show QS X.K M F Z.ct σ H from ⟨Γ, F, μ, .refl _, rs, r, q⟩)
theorem wS_expr (h : wE X e Γ μ fun _ μ' => Z.nx Γ μ') (hs : swapsWith e none pos.line X.env = pure false := by rfl) : wS X (.Expr e pos) Γ μ Z := wS_of (ps_expr pe_rd hs) fun σ M F H rs r =>
  (h σ M F H rs r).imp fun v H' ⟨x, F', μ', e1, r1, _, q⟩ => ⟨Γ, F', μ', e1, rs.mono e1, r1, q⟩
theorem wS_ret (h : wE X e Γ μ Z.rt) : wS X (.Return (some e) pos) Γ μ Z := wS_of (ps_ret pe_rd) fun σ M F H rs r => h σ M F H rs r
theorem wS_retN (h : Z.rt .non μ) : wS X (.Return none pos) Γ μ Z := wS_of ps_retN fun σ M F H rs r => (show QE X.K M F Z.rt .non H from .pure r (rep_non.mpr rfl) h)
theorem wS_if {s1 s2 : List Stmt} (h : wT X c Γ μ fun k μ1 => (k = true → wSs X s1 Γ μ1 Z) ∧ (k = false → wSs X s2 Γ μ1 Z)) : wS X (.If c s1 s2 pos) Γ μ Z := wS_of (ps_if pt_rd pss_rd pss_rd) fun σ M F H rs r => by
  refine (h σ M F H rs r).imp fun k H1 ⟨F1, μ1, e1, r1, q1, q2⟩ => ?_
  cases k with
  | true => exact iteT (ends_mono e1 (q1 rfl σ M F1 H1 (rs.mono e1) r1))
  | false => exact iteF (ends_mono e1 (q2 rfl σ M F1 H1 (rs.mono e1) r1))
/-- name = e -/
theorem wS_set (i : Nat) {x : Str} {pos' : Pos} (h : wE X e Γ μ fun y μ1 => Z.nx (Γ.set i (some y)) μ1) (hN : X.N.Nodup) (hi : X.N[i]? = some x := by rfl) (hx : Loc X.env.scope x := by first | exact Or.inl rfl | exact Or.inr rfl)
    (hs : swapsWith e (some (.Name x pos')) pos.line X.env = pure false := by rfl) (hf : X.fn x = true ∨ X.env.scope.names.lookup x = some .local := by first | exact .inl rfl | exact .inr rfl) : wS X (.Assign [.Name x pos'] e pos) Γ μ Z :=
  wS_of (ps_set hN hi hx pe_rd hs hf) fun σ M F H rs r => (h σ M F H rs r).imp fun v H1 ⟨y, F1, μ1, e1, r1, p1, q1⟩ =>
    (show QS X.K M F Z.nx (σ.set i (some v)) H1 from ⟨_, F1, μ1, e1, (rs.mono e1).set p1, r1, q1⟩)
/-- target = e -/
theorem wS_asg {tg : Expr} (h : wE X e Γ μ fun y μ1 => wG X tg y Γ μ1 Z.nx) (hs : swapsWithSole [tg] e pos.line X.env = pure false := by rfl) (hw : swappedStores [tg] e X.env = pure none := by rfl) (h1 : (assignEach [tg] X.env).map (·.2) = [assign tg X.env] := by rfl) : wS X (.Assign [tg] e pos) Γ μ Z :=
  wS_of (ps_asg pe_rd pg_rd hs hw h1) fun σ M F H rs r => (h σ M F H rs r).imp fun v H1 ⟨y, F1, μ1, e1, r1, p1, q1⟩ =>
    (q1 σ M F1 H1 v (rs.mono e1) r1 p1).imp fun σ' H' q => q.mono e1
/-- a, b = e1, e2 -/
theorem wS_par (i j : Nat) {x y : Str} {px py pt pt2 : Pos} {kt k2 : Nat} (h : wA X [a, b] Γ μ fun xs μ1 => ∃ u w, xs = [u, w] ∧ Z.nx ((Γ.set i (some u)).set j (some w)) μ1) (hN : X.N.Nodup) (hc : X.calm = true := by rfl) (hi : X.N[i]? = some x := by rfl) (hj : X.N[j]? = some y := by rfl) (hij : i ≠ j := by decide)
    (hx : X.env.scope.names.lookup x = some .local := by rfl) (hy : X.env.scope.names.lookup y = some .local := by rfl)
    (hw : swappedStores [.Tuple [.Name x px, .Name y py] kt pt] (.Tuple [a, b] k2 pt2) X.env = pure (some [x, y]) := by rfl)
    (hs : swapsWithSole [.Tuple [.Name x px, .Name y py] kt pt] (.Tuple [a, b] k2 pt2) pos.line X.env = pure false := by rfl) : wS X (.Assign [.Tuple [.Name x px, .Name y py] kt pt] (.Tuple [a, b] k2 pt2) pos) Γ μ Z :=
  wS_of (ps_par hc hN hi hj hij hx hy pa_rd hw hs) fun σ M F H rs r => (h σ M F H rs r).imp fun vs H1 ⟨xs, F1, μ1, e1, r1, p1, u, w, ex, q1⟩ => by
    subst ex
    obtain ⟨v1, v2, rfl, g1, g2⟩ := p1.two
    exact ⟨v1, v2, rfl, _, F1, μ1, e1, ((rs.mono e1).set g1).set g2, r1, q1⟩

/-! ### while -/
theorem wS_while {body : List Stmt} (W : Nat → G → Mu → Prop) (m0 : Nat) (h0 : W m0 Γ μ)
    (turn : ∀ m Γ μ, W m Γ μ → wT X c Γ μ fun k μ1 => (k = true → wSs X body Γ μ1 { nx := fun Γ' μ' => ∃ m', m' < m ∧ W m' Γ' μ', rt := Z.rt, ct := fun Γ' μ' => ∃ m', m' < m ∧ W m' Γ' μ', bk := Z.nx }) ∧ (k = false → Z.nx Γ μ1))
    (hp : PassesOwn (model X.prog X.w) X.A X.env X.xe := by exact PassesOwn.never) : wS X (.While c body [] pos) Γ μ Z := wS_of (ps_while hp pt_rd pss_rd) fun σ M F H rs r => by
  refine ⟨fun m σ' H' => ∃ Γ' F' μ', Ex F F' ∧ RelS X.K Γ' F' σ' ∧ Rel X.K μ' M F' H' ∧ W m Γ' μ', ⟨m0, Γ, F, μ, .refl _, rs, r, h0⟩, fun m σ' H' ⟨Γ', F', μ', e1, rs1, r1, w1⟩ => ?_⟩
  refine (turn m Γ' μ' w1 σ' M F' H' rs1 r1).imp fun k H1 ⟨F2, μ2, e2, r2, q1, q2⟩ => ?_
  cases k with
  | true =>
    refine iteT ⟨fun σ2 H2 => ∃ m', m' < m ∧ ∃ Γ' F' μ', Ex F F' ∧ RelS X.K Γ' F' σ2 ∧ Rel X.K μ' M F' H2 ∧ W m' Γ' μ', fun _ _ z => z, ?_⟩
    refine (q1 rfl σ' M F2 H1 (rs1.mono e2) r2).imp (fun σ3 H3 q => ?_) (fun v H3 q => q.mono (e1.trans e2)) (fun σ3 H3 q => q.mono (e1.trans e2)) (fun σ3 H3 q => ?_)
    · obtain ⟨Γ3, F3, μ3, e3, rs3, r3, m', hm, w3⟩ := q
      exact ⟨m', hm, Γ3, F3, μ3, (e1.trans e2).trans e3, rs3, r3, w3⟩
    · obtain ⟨Γ3, F3, μ3, e3, rs3, r3, m', hm, w3⟩ := q
      exact ⟨m', hm, Γ3, F3, μ3, (e1.trans e2).trans e3, rs3, r3, w3⟩
  | false => exact iteF ⟨Γ', F2, μ2, e1.trans e2, rs1.mono e2, r2, q2 rfl⟩

/-! ### what is walked -/
/-- n turns; while F stands the i-th gives the i-th of ys -/
structure WkA (K : PySem.W.Frag) (F : Hp) (J : It) (ys : List A) : Prop where
  goes : ∀ i H, i < ys.length → Ex F H → J.go i H
  stops : ∀ H, Ex F H → J.stop ys.length H
  yields : ∀ i H x H' M F1 μ, i < ys.length → Ex F F1 → Rel K μ M F1 H → J.yld i H x H' → ∃ F2 y, Ex F1 F2 ∧ Rel K μ M F2 H' ∧ ys[i]? = some y ∧ Rep K F2 y x
def rdI (X : Cx) (tg iter : Expr) : TI := fun σ H R => Bx (∀ (pins : List (Addr × Obj)) (s : Shared), Inv X pins σ H s → wpAny (model X.prog X.w) X.A (eval iter X.env) (fun v s1 => wpAny (model X.prog X.w) X.A (pyIter v) (PIE X pins σ tg R) X.xe s1) X.xe s)
theorem pi_rd {tg iter : Expr} : PI X tg iter (rdI X tg iter) := ⟨fun pins s _ _ _ I h => h.o pins s I⟩
theorem rd_pi {tg iter : Expr} {wi : TI} (h : PI X tg iter wi) {σ : L2.St} {H : Hp} {R : It → Hp → Prop} (q : wi σ H R) : rdI X tg iter σ H R := ⟨fun pins s I => h.run pins s σ H R I q⟩
def wIt (X : Cx) (tg iter : Expr) (Γ : G) (μ : Mu) (R : List A → Mu → Prop) : Prop := ∀ σ M F H, RelS X.K Γ F σ → Rel X.K μ M F H → rdI X tg iter σ H fun J H' => ∃ ys F' μ', Ex F F' ∧ Rel X.K μ' M F' H' ∧ WkA X.K F' J ys ∧ R ys μ'
variable {R : List A → Mu → Prop} {tg : Expr} {body : List Stmt}
theorem wS_for (h : wIt X tg a Γ μ fun ys μ1 => ∃ I : Nat → G → Mu → Prop, I 0 Γ μ1 ∧
      (∀ (i : Nat) y Γ' μ', ys[i]? = some y → I i Γ' μ' → wG X tg y Γ' μ' fun Γ2 μ2 => wSs X body Γ2 μ2 { nx := I (i + 1), rt := Z.rt, ct := I (i + 1), bk := Z.nx }) ∧ (∀ Γ' μ', I ys.length Γ' μ' → Z.nx Γ' μ'))
    (hp : PassesOwn (model X.prog X.w) X.A X.env X.xe := by exact PassesOwn.never) (hc : X.calm = true := by rfl) (hs : ∀ x, foldedSetIterable a X.env x = pure x := by intro _; rfl) : wS X (.For tg a body [] pos) Γ μ Z :=
  wS_of (ps_for hp hc pi_rd pg_rd pss_rd hs) fun σ M F H rs r => by
  refine ⟨fun pins s I0 => ?_⟩
  refine thn ((h σ M F H rs r).o pins s I0) fun v s1 h1 => thn h1 fun itv s2 h2 => ?_
  obtain ⟨it, fp, tn, J, H2, g1, g2, g3, g4, g5, ys, F1, μ1, e1, r1, wk, I, i0, turn, done⟩ := h2
  refine ⟨it, fp, tn, J, H2, g1, g2, g3, g4, g5, fun i m σ' H' => m = ys.length - i ∧ i ≤ ys.length ∧ QS X.K M F1 (I i) σ' H', ⟨ys.length, by simp, Nat.zero_le _, Γ, F1, μ1, .refl _, rs.mono e1, r1, i0⟩, ?_⟩
  rintro i m σ' H' ⟨rfl, hi, Γ', F', μ', e2, rs2, r2, q⟩
  by_cases lt : i < ys.length
  · refine .inr ⟨wk.goes i H' lt (e2.trans r2.sub), fun σ3 H3 => QS X.K M F1 (I (i + 1)) σ3 H3, fun σ3 H3 q3 => ⟨ys.length - (i + 1), by omega, rfl, lt, q3⟩, fun x H3 yl => ?_⟩
    obtain ⟨F2, y, e3, r3, hy, rp⟩ := wk.yields i H' x H3 M F' μ' lt e2 r2 yl
    refine (turn i y Γ' μ' hy q σ' M F2 H3 x (rs2.mono e3) r3 rp).imp fun σ4 H4 q4 => ?_
    obtain ⟨Γ4, F4, μ4, e4, rs4, r4, q4⟩ := q4
    have eF : Ex F1 F4 := (e2.trans e3).trans e4
    exact (q4 σ4 M F4 H4 rs4 r4).imp (fun _ _ q => q.mono eF) (fun _ _ q => q.mono (e1.trans eF)) (fun _ _ q => q.mono (e1.trans eF)) (fun _ _ q => q.mono eF)
  · obtain rfl : i = ys.length := by omega
    exact .inl ⟨wk.stops H' (e2.trans r2.sub), Γ', F', μ', e1.trans e2, rs2, r2, done Γ' μ' q⟩

theorem wk_list {K : PySem.W.Frag} {F : Hp} {p : Addr} {ys : List A} {vs : List V} (h : SqL K F p vs) (r : RepL K F ys vs) : WkA K F (Itl K p) ys :=
  { goes := fun i H hi e => ⟨vs, vs[i]'(by rw [r.len]; exact hi), e.l h, by simp [r.len, hi]⟩
    stops := fun H e => ⟨vs, e.l h, by rw [r.len]; exact Nat.le_refl _⟩
    yields := fun i H x H' M F1 μ hi e rl yl => by
      obtain ⟨rfl, g⟩ := yl
      obtain ⟨v, h1, h2⟩ := r.get (List.getElem?_eq_getElem hi)
      have := g vs ((e.trans rl.sub).l h)
      rw [h1] at this; cases this
      exact ⟨F1, _, .refl _, rl, List.getElem?_eq_getElem hi, h2.mono e⟩ }
theorem wk_tup {K : PySem.W.Frag} {F : Hp} {p : Addr} {ys : List A} {vs : List V} (h : SqT K F p vs) (r : RepL K F ys vs) : WkA K F (Itt K p) ys :=
  { goes := fun i H hi e => ⟨vs, vs[i]'(by rw [r.len]; exact hi), e.t h, by simp [r.len, hi]⟩
    stops := fun H e => ⟨vs, e.t h, by rw [r.len]; exact Nat.le_refl _⟩
    yields := fun i H x H' M F1 μ hi e rl yl => by
      obtain ⟨rfl, g⟩ := yl
      obtain ⟨v, h1, h2⟩ := r.get (List.getElem?_eq_getElem hi)
      have := g vs ((e.trans rl.sub).t h)
      rw [h1] at this; cases this
      exact ⟨F1, _, .refl _, rl, List.getElem?_eq_getElem hi, h2.mono e⟩ }
/-- for .. in a list that stands for good -/
theorem wIt_list (h : wE X a Γ μ fun x μ1 => ∃ ys, x = .lst ys ∧ R ys μ1) : wIt X tg a Γ μ R := fun σ M F H rs rl => rd_pi (pi_list pe_rd) (by
  refine (h σ M F H rs rl).imp fun v H1 ⟨x, F1, μ1, e1, r1, p1, ys, ex, q1⟩ => ?_
  subst ex; rw [rep_lst] at p1
  obtain ⟨p, vs, rfl, h1, h2⟩ := p1
  exact ⟨p, rfl, ⟨vs, .inl (.inl (r1.sub _ _ h1))⟩, ys, F1, μ1, e1, r1, wk_list (.inl (.inl h1)) h2, q1⟩)
theorem wIt_fls (h : wE X a Γ μ fun x μ1 => ∃ ys, x = .fls ys ∧ R ys μ1) : wIt X tg a Γ μ R := fun σ M F H rs rl => rd_pi (pi_list pe_rd) (by
  refine (h σ M F H rs rl).imp fun v H1 ⟨x, F1, μ1, e1, r1, p1, ys, ex, q1⟩ => ?_
  subst ex; rw [rep_fls] at p1
  obtain ⟨p, vs, rfl, h1, h2⟩ := p1
  exact ⟨p, rfl, ⟨vs, r1.sub.l h1⟩, ys, F1, μ1, e1, r1, wk_list h1 h2, q1⟩)
theorem wIt_tup (h : wE X a Γ μ fun x μ1 => ∃ ys, x = .tup ys ∧ R ys μ1) : wIt X tg a Γ μ R := fun σ M F H rs rl => rd_pi (pi_tup pe_rd) (by
  refine (h σ M F H rs rl).imp fun v H1 ⟨x, F1, μ1, e1, r1, p1, ys, ex, q1⟩ => ?_
  subst ex; rw [rep_tup] at p1
  obtain ⟨p, vs, rfl, h1, h2⟩ := p1
  exact ⟨p, rfl, ⟨vs, r1.sub.t h1⟩, ys, F1, μ1, e1, r1, wk_tup h1 h2, q1⟩)
/-- the ints lo, lo + 1, .. -/
def rgA (lo : Int) (n : Nat) : List A := (List.range n).map fun i => A.int (lo + (i : Nat))
theorem rgA_len (lo : Int) (n : Nat) : (rgA lo n).length = n := by simp [rgA]
theorem rgA_get {lo : Int} {n i : Nat} (h : i < n) : (rgA lo n)[i]? = some (.int (lo + (i : Nat))) := by simp [rgA, h]
theorem wk_range {K : PySem.W.Frag} {F : Hp} {lo : Int} {n : Nat} : WkA K F (Itr lo n) (rgA lo n) :=
  { goes := fun i H hi _ => by rw [rgA_len] at hi; exact hi
    stops := fun H _ => by rw [rgA_len]; exact Nat.le_refl _
    yields := fun i H x H' M F1 μ hi e rl yl => by
      obtain ⟨rfl, rfl⟩ := yl
      rw [rgA_len] at hi
      exact ⟨F1, _, .refl _, rl, rgA_get hi, rep_int.mpr rfl⟩ }
theorem wIt_range1 {p : Pos} (hm : X.mg "range" = none) (h : wA X [a] Γ μ fun xs μ1 => ∃ n : Int, xs = [.int n] ∧ -(2 ^ 62) ≤ n ∧ n < 2 ^ 62 ∧ R (rgA 0 n.toNat) μ1) (hg : Gl X "range" := by rfl) (hs : starEach [a] X.env = [(false, eval a X.env)] := by rfl) :
    wIt X tg (.Call (.Name "range" p) [a] [] pos) Γ μ R := fun σ M F H rs rl => rd_pi (pi_range1 hg hm pa_rd hs) (by
  refine (h σ M F H rs rl).imp fun vs H1 ⟨xs, F1, μ1, e1, r1, p1, n, ex, n1, n2, q1⟩ => ?_
  subst ex
  obtain ⟨v, rfl, h1⟩ := p1.one
  rw [rep_int] at h1; subst h1
  exact ⟨n, rfl, n1, n2, _, F1, μ1, e1, r1, wk_range, q1⟩)
theorem wIt_range2 {p : Pos} (hm : X.mg "range" = none) (h : wA X [a, b] Γ μ fun xs μ1 => ∃ i j : Int, xs = [.int i, .int j] ∧ (-(2 ^ 62) ≤ i ∧ i < 2 ^ 62 ∧ -(2 ^ 62) ≤ j ∧ j < 2 ^ 62) ∧ R (rgA i (j - i).toNat) μ1) (hg : Gl X "range" := by rfl)
    (hs : starEach [a, b] X.env = [(false, eval a X.env), (false, eval b X.env)] := by rfl) (hs2 : starEach [b] X.env = [(false, eval b X.env)] := by rfl) :
    wIt X tg (.Call (.Name "range" p) [a, b] [] pos) Γ μ R := fun σ M F H rs rl => rd_pi (pi_range2 hg hm pa_rd hs hs2) (by
  refine (h σ M F H rs rl).imp fun vs H1 ⟨xs, F1, μ1, e1, r1, p1, i, j, ex, n1, q1⟩ => ?_
  subst ex
  obtain ⟨v, w, rfl, h1, h2⟩ := p1.two
  rw [rep_int] at h1 h2; subst h1; subst h2
  exact ⟨i, j, rfl, n1, _, F1, μ1, e1, r1, wk_range, q1⟩)
/-- lo, lo + c, .. -/
def rgC (lo c : Int) (n : Nat) : List A := (List.range n).map fun i => A.int (lo + (i : Nat) * c)
theorem rgC_len (lo c : Int) (n : Nat) : (rgC lo c n).length = n := by simp [rgC]
theorem rgC_get {lo c : Int} {n i : Nat} (h : i < n) : (rgC lo c n)[i]? = some (.int (lo + (i : Nat) * c)) := by simp [rgC, h]
theorem wIt_range3 {p : Pos} (hm : X.mg "range" = none) (h : wA X [a, b, c] Γ μ fun xs μ1 => ∃ (i j k : Int) (n : Nat), xs = [.int i, .int j, .int k] ∧ RgC i j k n ∧ R (rgC i k n) μ1) (hg : Gl X "range" := by rfl)
    (hs : starEach [a, b, c] X.env = (false, eval a X.env) :: starEach [b, c] X.env := by rfl) (hpl : (backTo pos (starEach [b, c] X.env)).any (·.1) = false := by rfl) :
    wIt X tg (.Call (.Name "range" p) [a, b, c] [] pos) Γ μ R := fun σ M F H rs rl => rd_pi (pi_range3 hg hm pa_rd hs hpl) (by
  refine (h σ M F H rs rl).imp fun vs H1 ⟨xs, F1, μ1, e1, r1, p1, i, j, k, n, ex, n1, q1⟩ => ?_
  subst ex
  simp only [RepL] at p1
  obtain ⟨v, r, rfl, h1, v2, r', rfl, h2, v3, r'', rfl, h3, rfl⟩ := p1
  rw [rep_int] at h1 h2 h3; subst h1; subst h2; subst h3
  refine ⟨i, j, k, n, rfl, n1, _, F1, μ1, e1, r1, ?_, q1⟩
  exact { goes := fun i H hi _ => by rw [rgC_len] at hi; exact hi
          stops := fun H _ => by rw [rgC_len]; exact Nat.le_refl _
          yields := fun i H x H' M F1 μ hi e rl yl => by
            obtain ⟨rfl, rfl⟩ := yl
            rw [rgC_len] at hi
            exact ⟨F1, _, .refl _, rl, rgC_get hi, rep_int.mpr rfl⟩ })
/-- the pairs of two lists -/
def pairsA (f g : Nat → Option A) : Nat → List A
  | 0 => []
  | n + 1 => pairsA f g n ++ [.tup [(f n).getD .non, (g n).getD .non]]
def zipA : List A → List A → List A
  | x :: xs, y :: ys => .tup [x, y] :: zipA xs ys
  | _, _ => []
theorem zipA_len : ∀ xs ys : List A, (zipA xs ys).length = min xs.length ys.length
  | [], _ => by simp [zipA]
  | _ :: _, [] => by simp [zipA]
  | x :: xs, y :: ys => by simp only [zipA, List.length_cons, zipA_len xs ys]; omega
theorem zipA_get : ∀ {xs ys : List A} {i : Nat} {x y : A}, xs[i]? = some x → ys[i]? = some y → (zipA xs ys)[i]? = some (.tup [x, y])
  | [], _, _, _, _, h, _ => by simp at h
  | _ :: _, [], _, _, _, _, h => by simp at h
  | x :: xs, y :: ys, 0, _, _, h, h' => by simp at h h'; subst h; subst h'; rfl
  | x :: xs, y :: ys, i + 1, _, _, h, h' => by
    simp only [zipA, List.getElem?_cons_succ] at h h' ⊢
    exact zipA_get h h'
theorem zipA_map {α β : Type} (f : α → A) (g : β → A) : ∀ (l : List α) (m : List β), zipA (l.map f) (m.map g) = (l.zip m).map fun p => A.tup [f p.1, g p.2]
  | [], _ => by simp [zipA]
  | _ :: _, [] => by simp [zipA]
  | a :: l, b :: m => by simp only [List.map_cons, zipA, List.zip_cons_cons, zipA_map f g l m]
theorem pair_new {K : PySem.W.Frag} {μ : Mu} {M F H : Hp} {T : Addr} {x y : A} {v w : V} (rl : Rel K μ M F H) (n : H T = none) (h1 : Rep K F x v) (h2 : Rep K F y w) : ∃ F2, Ex F F2 ∧ Rel K μ M F2 (upd H T (.tup [v, w])) ∧ Rep K F2 (.tup [x, y]) (.ref T) := by
  obtain ⟨ex, rl'⟩ := rl.newF (o := .tup [v, w]) n
  exact ⟨_, ex, rl', rep_tup.mpr ⟨T, _, rfl, .inl (.inl upd_same), .cons (h1.mono ex) (.cons (h2.mono ex) .nil)⟩⟩
theorem wk_zip {K : PySem.W.Frag} {F : Hp} {p q : Addr} {xs ys : List A} {vs ws : List V} (h : SqL K F p vs) (r : RepL K F xs vs) (g : SqL K F q ws) (r' : RepL K F ys ws) : WkA K F (Itz K p q) (zipA xs ys) :=
  { goes := fun i H hi e => by
      rw [zipA_len] at hi
      have h1 : i < vs.length := by rw [r.len]; omega
      have h2 : i < ws.length := by rw [r'.len]; omega
      exact ⟨vs, ws, vs[i], ws[i], e.l h, e.l g, by simp [h1], by simp [h2]⟩
    stops := fun H e => ⟨vs, ws, e.l h, e.l g, by rw [zipA_len, r.len, r'.len]; omega⟩
    yields := fun i H x H' M F1 μ hi e rl yl => by
      rw [zipA_len] at hi
      obtain ⟨T, v, w, rfl, nT, rfl, g1, g2⟩ := yl
      have h1 := g1 vs ((e.trans rl.sub).l h)
      have h2 := g2 ws ((e.trans rl.sub).l g)
      obtain ⟨x1, k1, k2⟩ := r.rev h1
      obtain ⟨y1, k3, k4⟩ := r'.rev h2
      obtain ⟨F2, ex, rl', rp⟩ := pair_new rl nT (k2.mono e) (k4.mono e)
      exact ⟨F2, _, ex, rl', zipA_get k1 k3, rp⟩ }
theorem wk_zipT {K : PySem.W.Frag} {F : Hp} {p q : Addr} {xs ys : List A} {vs ws : List V} (h : SqT K F p vs) (r : RepL K F xs vs) (g : SqT K F q ws) (r' : RepL K F ys ws) : WkA K F (RZ.ItzT K p q) (zipA xs ys) :=
  { goes := fun i H hi e => by
      rw [zipA_len] at hi
      have h1 : i < vs.length := by rw [r.len]; omega
      have h2 : i < ws.length := by rw [r'.len]; omega
      exact ⟨vs, ws, vs[i], ws[i], e.t h, e.t g, by simp [h1], by simp [h2]⟩
    stops := fun H e => ⟨vs, ws, e.t h, e.t g, by rw [zipA_len, r.len, r'.len]; omega⟩
    yields := fun i H x H' M F1 μ hi e rl yl => by
      rw [zipA_len] at hi
      obtain ⟨T, v, w, rfl, nT, rfl, g1, g2⟩ := yl
      have h1 := g1 vs ((e.trans rl.sub).t h)
      have h2 := g2 ws ((e.trans rl.sub).t g)
      obtain ⟨x1, k1, k2⟩ := r.rev h1
      obtain ⟨y1, k3, k4⟩ := r'.rev h2
      obtain ⟨F2, ex, rl', rp⟩ := pair_new rl nT (k2.mono e) (k4.mono e)
      exact ⟨F2, _, ex, rl', zipA_get k1 k3, rp⟩ }
theorem wIt_zip {e2 : Expr} {p tpos : Pos} {elts : List Expr} {kk : Nat} (hm : X.mg "zip" = none) (h : wA X [e, e2] Γ μ fun zs μ1 => ∃ xs ys, (zs = [.lst xs, .lst ys] ∨ zs = [.tup xs, .tup ys]) ∧ R (zipA xs ys) μ1) (hg : Gl X "zip" := by rfl)
    (hs : starEach [e, e2] X.env = (false, eval e X.env) :: starEach [e2] X.env := by rfl) (hpl : (backTo pos (starEach [e2] X.env)).any (·.1) = false := by rfl) : wIt X (.Tuple elts kk tpos) (.Call (.Name "zip" p) [e, e2] [] pos) Γ μ R := fun σ M F H rs rl =>
  rd_pi (RZ.pi_zipA hg hm pa_rd hs hpl) (by
  refine (h σ M F H rs rl).imp fun us H1 ⟨zs, F1, μ1, e1, r1, p1, xs, ys, ez, q1⟩ => ?_
  rcases ez with ez | ez
  · subst ez
    obtain ⟨v, w, rfl, h1, h2⟩ := p1.two
    rw [rep_lst] at h1 h2
    obtain ⟨p, vs, rfl, g1, g2⟩ := h1
    obtain ⟨q, ws, rfl, k1, k2⟩ := h2
    exact ⟨p, q, vs, ws, rfl, .inl ⟨.inl (.inl (r1.sub _ _ g1)), .inl (.inl (r1.sub _ _ k1)), _, F1, μ1, e1, r1, wk_zip (.inl (.inl g1)) g2 (.inl (.inl k1)) k2, q1⟩⟩
  · subst ez
    obtain ⟨v, w, rfl, h1, h2⟩ := p1.two
    rw [rep_tup] at h1 h2
    obtain ⟨p, vs, rfl, g1, g2⟩ := h1
    obtain ⟨q, ws, rfl, k1, k2⟩ := h2
    exact ⟨p, q, vs, ws, rfl, .inr ⟨r1.sub.t g1, r1.sub.t k1, _, F1, μ1, e1, r1, wk_zipT g1 g2 k1 k2, q1⟩⟩)
/-- 0, x; 1, y; .. -/
def enumA : Nat → List A → List A
  | _, [] => []
  | n, x :: xs => .tup [.int (n : Nat), x] :: enumA (n + 1) xs
theorem enumA_len : ∀ (n : Nat) (xs : List A), (enumA n xs).length = xs.length
  | _, [] => rfl
  | n, x :: xs => by simp only [enumA, List.length_cons, enumA_len (n + 1) xs]
theorem enumA_get : ∀ {n : Nat} {xs : List A} {i : Nat} {x : A}, xs[i]? = some x → (enumA n xs)[i]? = some (.tup [.int ((n + i : Nat) : Int), x])
  | _, [], _, _, h => by simp at h
  | n, y :: xs, 0, _, h => by simp at h; subst h; simp [enumA]
  | n, y :: xs, i + 1, _, h => by
    simp only [enumA, List.getElem?_cons_succ] at h ⊢
    rw [enumA_get h, show n + 1 + i = n + (i + 1) by omega]
theorem wk_enum {K : PySem.W.Frag} {F : Hp} {p : Addr} {xs : List A} {vs : List V} (h : SqL K F p vs) (r : RepL K F xs vs) : WkA K F (Ite K p) (enumA 0 xs) :=
  { goes := fun i H hi e => by
      rw [enumA_len] at hi
      have h1 : i < vs.length := by rw [r.len]; omega
      exact ⟨vs, vs[i], e.l h, by simp [h1]⟩
    stops := fun H e => ⟨vs, e.l h, by rw [enumA_len, r.len]; exact Nat.le_refl _⟩
    yields := fun i H x H' M F1 μ hi e rl yl => by
      obtain ⟨T, v, rfl, nT, rfl, g1⟩ := yl
      have h1 := g1 vs ((e.trans rl.sub).l h)
      obtain ⟨x1, k1, k2⟩ := r.rev h1
      obtain ⟨F2, ex, rl', rp⟩ := pair_new (x := .int (i : Nat)) rl nT (rep_int.mpr rfl) (k2.mono e)
      exact ⟨F2, _, ex, rl', by rw [enumA_get k1]; simp, rp⟩ }
theorem wIt_enum {p tpos : Pos} {elts : List Expr} {kk : Nat} (hm : X.mg "enumerate" = none) (h : wA X [e] Γ μ fun zs μ1 => ∃ xs, (zs = [.lst xs] ∨ zs = [.fls xs]) ∧ R (enumA 0 xs) μ1) (hg : Gl X "enumerate" := by rfl) (hs : starEach [e] X.env = [(false, eval e X.env)] := by rfl) :
    wIt X (.Tuple elts kk tpos) (.Call (.Name "enumerate" p) [e] [] pos) Γ μ R := fun σ M F H rs rl => rd_pi (pi_enum hg hm pa_rd hs) (by
  refine (h σ M F H rs rl).imp fun us H1 ⟨zs, F1, μ1, e1, r1, p1, xs, ez, q1⟩ => ?_
  rcases ez with ez | ez
  · subst ez
    obtain ⟨v, rfl, h1⟩ := p1.one
    rw [rep_lst] at h1
    obtain ⟨p, vs, rfl, g1, g2⟩ := h1
    exact ⟨p, vs, rfl, .inl (.inl (r1.sub _ _ g1)), _, F1, μ1, e1, r1, wk_enum (.inl (.inl g1)) g2, q1⟩
  · subst ez
    obtain ⟨v, rfl, h1⟩ := p1.one
    rw [rep_fls] at h1
    obtain ⟨p, vs, rfl, g1, g2⟩ := h1
    exact ⟨p, vs, rfl, r1.sub.l g1, _, F1, μ1, e1, r1, wk_enum g1 g2, q1⟩)
/-- a text, sign by sign -/
def signsA (x : Str) : List A := x.cps.toList.map fun ch => A.str ⟨#[ch]⟩
theorem wIt_str (h : wE X a Γ μ fun y μ1 => ∃ x, y = .str x ∧ R (signsA x) μ1) : wIt X tg a Γ μ R := fun σ M F H rs rl => rd_pi (pi_str pe_rd) (by
  refine (h σ M F H rs rl).imp fun v H1 ⟨y, F1, μ1, e1, r1, p1, x, ex, q1⟩ => ?_
  subst ex; rw [rep_str] at p1; subst p1
  have hl : (signsA x).length = x.cps.size := by simp [signsA]
  refine ⟨x, rfl, _, F1, μ1, e1, r1, ?_, q1⟩
  exact { goes := fun i H hi _ => by rw [hl] at hi; exact hi
          stops := fun H _ => by rw [hl]; exact Nat.le_refl _
          yields := fun i H z H' M F1 μ hi e rl yl => by
            obtain ⟨rfl, ch, hc, rfl⟩ := yl
            refine ⟨F1, .str ⟨#[ch]⟩, .refl _, rl, ?_, rep_str.mpr rfl⟩
            simp only [signsA, List.getElem?_map, Array.getElem?_toList, hc, Option.map_some] })
end
end D

set_option Elab.async false
set_option linter.all false
set_option maxRecDepth 100000
set_option maxHeartbeats 4000000
/-! D6: comprehensions, methods, dicts, repr. -/
namespace D
open PySem PySem.Spec PyProof.Rows L2

/-! ### comprehensions -/
def wipeA (Γ : G) : List Nat → G
  | [] => Γ
  | v :: vs => (wipeA Γ vs).set v none
theorem wipeA_len (Γ : G) : ∀ vs, (wipeA Γ vs).length = Γ.length
  | [] => rfl
  | v :: vs => by unfold wipeA; rw [List.length_set, wipeA_len Γ vs]
theorem wipeA_rel {K : PySem.W.Frag} {Γ : G} {F : Hp} {σ : L2.St} (h : RelS K Γ F σ) : ∀ vs, RelS K (wipeA Γ vs) F (wipe σ vs)
  | [] => h
  | v :: vs => by
    have ih := wipeA_rel h vs
    unfold wipeA wipe
    refine ⟨by rw [List.length_set, List.length_set]; exact ih.len, fun i x q => ?_⟩
    rw [List.getElem?_set] at q ⊢
    split at q
    · split at q <;> cases q
    · rename_i e
      rw [if_neg e]
      exact ih.at_ i x q
theorem wipe_set_out {σ : L2.St} {i : Nat} {o : Option V} : ∀ vs : List Nat, (wipe (σ.set i o) vs).set i none = (wipe σ vs).set i none
  | [] => by show (σ.set i o).set i none = σ.set i none; rw [List.set_set]
  | v :: vs => by
    have ih := wipe_set_out (σ := σ) (i := i) (o := o) vs
    show ((wipe (σ.set i o) vs).set v none).set i none = ((wipe σ vs).set v none).set i none
    by_cases e : v = i
    · subst e; rw [ih]
    · rw [List.set_comm _ _ e, List.set_comm _ _ e, ih]
theorem wipe_set {σ : L2.St} {i : Nat} {o : Option V} : ∀ {vs : List Nat}, i ∈ vs → wipe (σ.set i o) vs = wipe σ vs
  | v :: vs, h => by
    show (wipe (σ.set i o) vs).set v none = (wipe σ vs).set v none
    by_cases e : i = v
    · subst e; exact wipe_set_out vs
    · rw [wipe_set (List.mem_of_ne_of_mem e h)]
theorem wipe_wipe {σ : L2.St} {vs : List Nat} : ∀ us : List Nat, (∀ u ∈ us, u ∈ vs) → wipe (wipe σ us) vs = wipe σ vs
  | [], _ => rfl
  | u :: us, h => by
    show wipe ((wipe σ us).set u none) vs = wipe σ vs
    rw [wipe_set (h u List.mem_cons_self), wipe_wipe us fun v hv => h v (List.mem_cons_of_mem _ hv)]

section
variable {K : PySem.W.Frag} {μ : Mu} {M F H : Hp} {p : Addr} {m : MO} {o : HO}
theorem Rel.frmNew (h : Rel K μ M F H) (n : H p = none) : M p = none ∧ Rel K μ (upd M p o) F (upd H p o) := by
  have hF : F p = none := h.sub.none n
  have hμ : μ p = none := by
    cases q : μ p with
    | none => rfl
    | some m => obtain ⟨_, o, e, _⟩ := h.own p m q; rw [n] at e; cases e
  have hM : M p = none := by
    cases q : M p with
    | none => rfl
    | some m => obtain ⟨_, _, e⟩ := h.frm p m q; rw [n] at e; cases e
  refine ⟨hM, h.sub.trans (.new n), fun q m' e => ?_, fun q o' e => ?_⟩
  · obtain ⟨g1, o', g2, g3⟩ := h.own q m' e
    have hq : q ≠ p := fun z => by rw [z, n] at g2; cases g2
    exact ⟨g1, o', by rw [upd_ne hq]; exact g2, g3⟩
  · by_cases hq : q = p
    · subst hq; rw [upd_same] at e; cases e
      exact ⟨hF, hμ, upd_same⟩
    · rw [upd_ne hq] at e
      obtain ⟨g1, g2, g3⟩ := h.frm q o' e
      exact ⟨g1, g2, by rw [upd_ne hq]; exact g3⟩
theorem Rel.frmWrite {o' : HO} (h : Rel K μ (upd M p o) F H) : Rel K μ (upd M p o') F (upd H p o') := by
  obtain ⟨hF, hμ, hH⟩ := h.frm p o upd_same
  refine ⟨fun a u q => ?_, fun q m' e => ?_, fun q u e => ?_⟩
  · have ha : a ≠ p := fun z => by rw [z, hF] at q; cases q
    rw [upd_ne ha]; exact h.sub a u q
  · obtain ⟨g1, o1, g2, g3⟩ := h.own q m' e
    have hq : q ≠ p := fun z => by rw [z, hμ] at e; cases e
    exact ⟨g1, o1, by rw [upd_ne hq]; exact g2, g3⟩
  · by_cases hq : q = p
    · subst hq; rw [upd_same] at e; cases e
      exact ⟨hF, hμ, upd_same⟩
    · rw [upd_ne hq] at e
      obtain ⟨g1, g2, g3⟩ := h.frm q u (by rw [upd_ne hq]; exact e)
      exact ⟨g1, g2, by rw [upd_ne hq]; exact g3⟩
theorem Rel.frmOut (h : Rel K μ (upd M p o) F H) (n : M p = none) (r : RepO K F m o) : μ p = none ∧ Rel K (μ.upd p m) M F H := by
  obtain ⟨hF, hμ, hH⟩ := h.frm p o upd_same
  refine ⟨hμ, h.sub, fun q m' e => ?_, fun q u e => ?_⟩
  · by_cases hq : q = p
    · subst hq; rw [Mu.upd_same] at e; cases e
      exact ⟨hF, o, hH, r⟩
    · rw [Mu.upd_ne hq] at e; exact h.own q m' e
  · have hq : q ≠ p := fun z => by rw [z, n] at e; cases e
    obtain ⟨g1, g2, g3⟩ := h.frm q u (by rw [upd_ne hq]; exact e)
    exact ⟨g1, by rw [Mu.upd_ne hq]; exact g2, g3⟩
end

section
variable {X : Cx} {Γ : G} {μ : Mu} {Q : A → Mu → Prop} {Z : AD} {e : Expr} {pos : Pos} {QG : G → Mu → Prop}
/-- a target within a comprehension: only the comprehension's own slots vs change -/
def wGw (X : Cx) (tg : Expr) (vs : List Nat) (y : A) (Γ : G) (μ : Mu) (Q : G → Mu → Prop) : Prop := ∀ σ M F H v, RelS X.K Γ F σ → Rel X.K μ M F H → Rep X.K F y v → rdG X tg v σ H fun σ' H' => wipe σ' vs = wipe σ vs ∧ QS X.K M F Q σ' H'
theorem wGw_name (i : Nat) {x : Str} {vs : List Nat} {y : A} (q : QG (Γ.set i (some y)) μ) (hN : X.N.Nodup) (hv : i ∈ vs := by decide) (hi : X.N[i]? = some x := by rfl) (hx : Loc X.env.scope x := by first | exact Or.inl rfl | exact Or.inr rfl)
    (hf : X.fn x = true ∨ X.env.scope.names.lookup x = some .local := by first | exact .inl rfl | exact .inr rfl) : wGw X (.Name x pos) vs y Γ μ QG := fun σ M F H v rs rl rp =>
  rd_pg (pg_name hN hi hx hf) (show _ ∧ QS X.K M F QG (σ.set i (some v)) H from ⟨wipe_set hv, _, F, μ, .refl _, rs.set rp, rl, q⟩)
theorem wGw_tup2 (i j : Nat) {x x' : Str} {p1 p2 : Pos} {kk : Nat} {vs : List Nat} {y z : A} (q : QG ((Γ.set i (some y)).set j (some z)) μ) (hN : X.N.Nodup) (hc : X.calm = true := by rfl) (hv : i ∈ vs := by decide) (hv' : j ∈ vs := by decide) (hi : X.N[i]? = some x := by rfl) (hj : X.N[j]? = some x' := by rfl)
    (hx : Loc X.env.scope x := by first | exact Or.inl rfl | exact Or.inr rfl) (hx' : Loc X.env.scope x' := by first | exact Or.inl rfl | exact Or.inr rfl)
    (hf : X.fn x = true ∨ X.env.scope.names.lookup x = some .local := by first | exact .inl rfl | exact .inr rfl) (hf' : X.fn x' = true ∨ X.env.scope.names.lookup x' = some .local := by first | exact .inl rfl | exact .inr rfl) : wGw X (.Tuple [.Name x p1, .Name x' p2] kk pos) vs (.tup [y, z]) Γ μ QG := fun σ M F H v rs rl rp => by
  rw [rep_tup] at rp
  obtain ⟨p, ws, rfl, h1, h2⟩ := rp
  obtain ⟨v1, v2, rfl, g1, g2⟩ := h2.two
  refine rd_pg (pg_tup (n := 2) hc (pgs_cons (pg_name hN hi hx hf) (pgs_cons (pg_name hN hj hx' hf') pgs_nil))) ⟨p, [v1, v2], rfl, rl.sub.t h1, rfl, v1, [v2], rfl, v2, [], rfl, rfl, ?_⟩
  exact ⟨by rw [wipe_set hv', wipe_set hv], _, F, μ, .refl _, (rs.set g1).set g2, rl, q⟩
/-- the block of a comprehension -/
abbrev bk (X : Cx) (scope : Scope) (s0 : Shared) (H0 : Hp) (C : Addr) (cl : List (Str × Addr)) (fp : List Addr) : Cx := X.blk s0 H0 scope (compEnvC scope cl C X.env) fp
variable {elt tg iter c : Expr} {scope : Scope} {own : List (Str × Nat)}
/-- what a comprehension's turns ask: J by the turn, the list so far, what may change -/
def lcTurns (X : Cx) (scope : Scope) (tg elt : Expr) (ifs : List Expr) (vs : List Nat) (Γ : G) (ys : List A) (J : Nat → List A → Mu → Prop) : Prop :=
  ∀ (i : Nat) y acc μ', ys[i]? = some y → J i acc μ' → ∀ s0 H0 C cl fp, wGw (bk X scope s0 H0 C cl fp) tg vs y (wipeA Γ vs) μ' fun Γ2 μ2 =>
    match ifs with
    | [] => ∀ s0 H0 C cl fp, wE (bk X scope s0 H0 C cl fp) elt Γ2 μ2 fun z μ4 => J (i + 1) (acc ++ [z]) μ4
    | [c] => ∀ s0 H0 C cl fp, wT (bk X scope s0 H0 C cl fp) c Γ2 μ2 fun k μ3 => (k = true → ∀ s0 H0 C cl fp, wE (bk X scope s0 H0 C cl fp) elt Γ2 μ3 fun z μ4 => J (i + 1) (acc ++ [z]) μ4) ∧ (k = false → J (i + 1) acc μ3)
    | _ => False
def lcAsk (X : Cx) (scope : Scope) (tg iter elt : Expr) (ifs : List Expr) (vs : List Nat) (Γ : G) (μ : Mu) (Q : A → Mu → Prop) : Prop :=
  wIt X tg iter Γ μ fun ys μ1 => ys.length ≤ sizeLine ∧ ∃ J : Nat → List A → Mu → Prop, J 0 [] μ1 ∧ lcTurns X scope tg elt ifs vs Γ ys J ∧ ∀ acc μ', J ys.length acc μ' → ∀ p, μ' p = none → Q (.loc p) (μ'.upd p (.lst acc))
def bkG (X : Cx) (scope : Scope) (tg : Expr) : TG := fun v σ H Q => ∀ s0 H0 C cl fp, rdG (bk X scope s0 H0 C cl fp) tg v σ H Q
def bkE (X : Cx) (scope : Scope) (e : Expr) : TE := fun σ H Q => ∀ s0 H0 C cl fp, rdE (bk X scope s0 H0 C cl fp) e σ H Q
def bkT (X : Cx) (scope : Scope) (ifs : List Expr) : TT := match ifs with
  | [c] => fun σ H Q => ∀ s0 H0 C cl fp, rdT (bk X scope s0 H0 C cl fp) c σ H Q
  | _ => tYes
theorem lc_core_ask {ifs : List Expr} (hi : ifs = [] ∨ ∃ c, ifs = [c]) (h : lcAsk X scope tg iter elt ifs (own.map (·.2)) Γ μ Q) {σ : L2.St} {M F H : Hp} (rs : RelS X.K Γ F σ) (r : Rel X.K μ M F H) :
    tLc (rdI X tg iter) (bkG X scope tg) (bkT X scope ifs) (bkE X scope elt) (own.map (·.2)) σ H (QE X.K M F Q) := by
  generalize hvs : own.map (·.2) = vs at h
  refine ⟨fun pins s I0 => ?_⟩
  refine thn ((h σ M F H rs r).o pins s I0) fun v s1 h1 => thn h1 fun itv s2 h2 => ?_
  obtain ⟨it, fp, tn, J0, H2, g1, g2, g3, g4, g5, ys, F1, μ1, e1, r1, wk, hz, J, j0, turn, done⟩ := h2
  refine ⟨it, fp, tn, J0, H2, g1, g2, g3, g4, g5, fun p np => ?_⟩
  obtain ⟨hM, rN⟩ := r1.frmNew (o := .lst []) np
  refine ⟨fun i m H' => m = ys.length - i ∧ i ≤ ys.length ∧ ∃ F' μ' acc ws, Ex F1 F' ∧ Rel X.K μ' (upd M p (.lst ws)) F' H' ∧ RepL X.K F' acc ws ∧ acc.length ≤ i ∧ J i acc μ', ⟨ys.length, by simp, Nat.zero_le _, F1, μ1, [], [], .refl _, rN, .nil, Nat.le_refl _, j0⟩, ?_⟩
  rintro i m H' ⟨rfl, hi', F', μ', acc, ws, e2, r2, ra, hl, q⟩
  have rs' : RelS X.K (wipeA Γ vs) F' (wipe σ vs) := (wipeA_rel rs vs).mono (e1.trans e2)
  by_cases lt : i < ys.length
  · refine .inr ⟨wk.goes i H' lt (e2.trans r2.sub), fun H3 => ∃ F' μ' acc ws, Ex F1 F' ∧ Rel X.K μ' (upd M p (.lst ws)) F' H3 ∧ RepL X.K F' acc ws ∧ acc.length ≤ i + 1 ∧ J (i + 1) acc μ', fun H3 q3 => ⟨ys.length - (i + 1), by omega, rfl, lt, q3⟩, fun x H3 yl => ?_⟩
    obtain ⟨F2, y, e3, r3, hy, rp⟩ := wk.yields i H' x H3 _ F' μ' lt e2 r2 yl
    intro s0 H0 C cl fp'
    refine (turn i y acc μ' hy q s0 H0 C cl fp' (wipe σ vs) _ F2 H3 x (rs'.mono e3) r3 rp).imp fun σ4 H4 q4 => ?_
    obtain ⟨w4, Γ4, F4, μ4, e4, rs4, r4, q4⟩ := q4
    rw [hvs] at *
    have w5 : wipe σ4 vs = wipe σ vs := w4.trans (wipe_wipe vs fun _ h => h)
    refine ⟨w5, ?_⟩
    have elem : ∀ {F5 : Hp} {μ5 : Mu} {H5 : Hp}, Ex F4 F5 → Rel X.K μ5 (upd M p (.lst ws)) F5 H5 → (∀ s0 H0 C cl fp, wE (bk X scope s0 H0 C cl fp) elt Γ4 μ5 fun z μ6 => J (i + 1) (acc ++ [z]) μ6) →
        bkE X scope elt σ4 H5 fun y H6 => ∃ acc', H6 p = some (.lst acc') ∧ acc'.length < sizeLine ∧ ∃ F' μ' acc ws, Ex F1 F' ∧ Rel X.K μ' (upd M p (.lst ws)) F' (upd H6 p (.lst (acc' ++ [y]))) ∧ RepL X.K F' acc ws ∧ acc.length ≤ i + 1 ∧ J (i + 1) acc μ' := by
      intro F5 μ5 H5 e5 r5 hE s0 H0 C cl fp6
      refine (hE s0 H0 C cl fp6 σ4 _ F5 H5 (rs4.mono e5) r5).imp fun z6 H6 ⟨z, F6, μ6, e6, r6, p6, q6⟩ => ?_
      obtain ⟨_, _, hp6⟩ := r6.frm p _ upd_same
      have ex := ((e3.trans e4).trans e5).trans e6
      refine ⟨ws, hp6, by rw [ra.len]; omega, F6, μ6, acc ++ [z], ws ++ [z6], e2.trans ex, r6.frmWrite, (ra.mono ex).snoc p6, by simp; omega, q6⟩
    rcases hi with rfl | ⟨c, rfl⟩
    · have k := elem (.refl _) r4 q4
      simp only [bkT, tYes, if_true]
      exact k
    · intro s0 H0 C cl fp6
      refine (q4 s0 H0 C cl fp6 σ4 _ F4 H4 rs4 r4).imp fun k H5 ⟨F5, μ5, e5, r5, k1, k2⟩ => ?_
      cases k with
      | true => exact iteT (elem e5 r5 (k1 rfl))
      | false => exact iteF ⟨F5, μ5, acc, ws, (e2.trans (e3.trans e4)).trans e5, r5, ra.mono ((e3.trans e4).trans e5), by omega, k2 rfl⟩
  · obtain rfl : i = ys.length := by omega
    obtain ⟨nμ, rO⟩ := r2.frmOut (m := .lst acc) hM ⟨ws, rfl, ra⟩
    exact .inl ⟨wk.stops H' (e2.trans r2.sub), .loc p, F', _, e1.trans e2, rO, rep_loc.mpr rfl, done acc μ' q p nμ⟩
end
end D

set_option Elab.async false
set_option linter.all false
set_option maxRecDepth 100000
set_option maxHeartbeats 4000000
/-! D7: comprehensions as they are used, methods, dicts, repr. -/
namespace D
open PySem PySem.Spec PyProof.Rows L2
section
variable {X : Cx} {Γ : G} {μ : Mu} {Q : A → Mu → Prop} {Z : AD} {e o i : Expr} {pos apos cpos : Pos}
variable {elt tg iter c : Expr} {scope : Scope} {own : List (Str × Nat)} {ifs : List Expr}
theorem bk_pts (hi : ifs = [] ∨ ∃ c, ifs = [c]) : ∀ (s0 : Shared) (H0 : Hp) (C : Addr) (cl : List (Str × Addr)) (fp : List Addr), PTs (X.blk s0 H0 scope (compEnvC scope cl C X.env) fp) ifs (bkT X scope ifs) := by
  rcases hi with rfl | ⟨c, rfl⟩
  · exact fun _ _ _ _ _ => pts_nil
  · exact fun s0 H0 C cl fp => pts_one ⟨fun pins s σ H Q I h => (h s0 H0 C cl fp).o pins s I⟩
theorem bkG_pg (s0 : Shared) (H0 : Hp) (C : Addr) (cl : List (Str × Addr)) (fp : List Addr) : PG (X.blk s0 H0 scope (compEnvC scope cl C X.env) fp) tg (bkG X scope tg) := ⟨fun pins s _ _ _ u _ I r h => (h s0 H0 C cl fp).o pins s u I r⟩
theorem bkE_pe (s0 : Shared) (H0 : Hp) (C : Addr) (cl : List (Str × Addr)) (fp : List Addr) : PE (X.blk s0 H0 scope (compEnvC scope cl C X.env) fp) elt (bkE X scope elt) := ⟨fun pins s _ _ _ I h => (h s0 H0 C cl fp).o pins s I⟩
/-- a comprehension: a list that is ours -/
theorem wE_lc (own : List (Str × Nat)) (h : lcAsk X scope tg iter elt ifs (own.map (·.2)) Γ μ Q) (hN : X.N.Nodup) (ok : BlkOk X.N X.env.scope scope own) (hi : ifs = [] ∨ ∃ c, ifs = [c] := by first | exact .inl rfl | exact .inr ⟨_, rfl⟩) (hc : X.calm = true := by rfl) (hs : ∀ x, foldedSetIterable iter X.env x = pure x := by intro _; rfl) :
    wE X (.ListComp elt [⟨tg, iter, ifs, 0⟩] scope pos) Γ μ Q :=
  wE_of (pe_lc (own := own) hc hN pi_rd ok (fun s0 H0 C cl fp => bkG_pg s0 H0 C cl fp) (bk_pts hi) (fun s0 H0 C cl fp => bkE_pe s0 H0 C cl fp) hs) fun σ M F H rs r => lc_core_ask hi h rs r
/-- name = a comprehension -/
theorem wS_setLc (own : List (Str × Nat)) (i : Nat) {y : Str} {py spos : Pos} (h : lcAsk X scope tg iter elt ifs (own.map (·.2)) Γ μ fun z μ1 => Z.nx (Γ.set i (some z)) μ1) (hN : X.N.Nodup) (ok : BlkOk X.N X.env.scope scope own)
    (hsw : swapsWith (.ListComp elt [⟨tg, iter, ifs, 0⟩] scope pos) (some (.Name y py)) spos.line X.env = pure true)
    (hi : ifs = [] ∨ ∃ c, ifs = [c] := by first | exact .inl rfl | exact .inr ⟨_, rfl⟩) (hc : X.calm = true := by rfl) (hy : X.N[i]? = some y := by rfl) (hyl : X.env.scope.names.lookup y = some .local := by rfl) (hs : ∀ x, foldedSetIterable iter X.env x = pure x := by intro _; rfl) :
    wS X (.Assign [.Name y py] (.ListComp elt [⟨tg, iter, ifs, 0⟩] scope pos) spos) Γ μ Z :=
  wS_of (ps_setLc (own := own) hc hN hy hyl hsw pi_rd ok (fun s0 H0 C cl fp => bkG_pg s0 H0 C cl fp) (bk_pts hi) (fun s0 H0 C cl fp => bkE_pe s0 H0 C cl fp) hs) fun σ M F H rs r => by
  have k := lc_core_ask hi h rs r
  obtain ⟨K0⟩ : Nonempty Unit := ⟨()⟩
  refine ⟨fun pins s I => ?_⟩
  refine thn (k.o pins s I) fun v s1 h1 => thn h1 fun itv s2 h2 => ?_
  obtain ⟨it, fp, tn, J0, H2, g1, g2, g3, g4, g5, q⟩ := h2
  refine ⟨it, fp, tn, J0, H2, g1, g2, g3, g4, g5, fun p np => ?_⟩
  obtain ⟨W, w0, turn⟩ := q p np
  refine ⟨W, w0, fun i' m H' w => ?_⟩
  rcases turn i' m H' w with ⟨st, q⟩ | q
  · refine .inl ⟨st, ?_⟩
    obtain ⟨x, F', μ', ex, rl, rp, q⟩ := q
    exact ⟨_, F', μ', ex, (rs.mono ex).set rp, rl, q⟩
  · exact .inr q

/-! ### comprehensions whose turns change nothing: the list of the answers -/
def Sub (μ μ' : Mu) : Prop := ∀ p m, μ p = some m → μ' p = some m
theorem Sub.refl (μ : Mu) : Sub μ μ := fun _ _ h => h
theorem Sub.trans {μ μ1 μ2 : Mu} (a : Sub μ μ1) (b : Sub μ1 μ2) : Sub μ μ2 := fun p m h => b p m (a p m h)
theorem Sub.new {μ : Mu} {p : Addr} {m : MO} (h : μ p = none) : Sub μ (μ.upd p m) := fun q n e => by
  have hq : q ≠ p := fun z => by rw [z, h] at e; cases e
  rw [Mu.upd_ne hq]; exact e
theorem Sub.none {μ μ' : Mu} {p : Addr} (a : Sub μ μ') (h : μ' p = Option.none) : μ p = Option.none := by
  cases q : μ p with
  | none => rfl
  | some m => rw [a p m q] at h; cases h
/-- what is not ours any more is forgotten -/
theorem wE_sub (h : wE X e Γ μ fun x μ' => ∃ μ2, Sub μ2 μ' ∧ Q x μ2) : wE X e Γ μ Q := fun σ M F H rs r =>
  (h σ M F H rs r).imp fun v H' ⟨x, F', μ', h1, h2, h3, μ2, h4, h5⟩ => ⟨x, F', μ2, h1, h2.weak h4, h3, h5⟩
/-- an expression that comes to z and leaves what is ours -/
def vE (X : Cx) (e : Expr) (Γ : G) (μ : Mu) (z : A) : Prop := wE X e Γ μ fun z' μ' => z' = z ∧ Sub μ μ'
theorem vE.use {z : A} (h : vE X e Γ μ z) (q : Q z μ) : wE X e Γ μ Q := wE_sub (wE.imp h fun x μ' ⟨e1, s1⟩ => ⟨μ, s1, by rw [e1]; exact q⟩)
theorem lcMap {vs : List Nat} (h : wIt X tg iter Γ μ fun ys μ1 => ys.length ≤ sizeLine ∧ ∃ zs : List A, zs.length = ys.length ∧
      (∀ (i : Nat) y z, ys[i]? = some y → zs[i]? = some z → ∀ s0 H0 C cl fp, wGw (bk X scope s0 H0 C cl fp) tg vs y (wipeA Γ vs) μ1 fun Γ2 μ2 => μ2 = μ1 ∧ ∀ s0 H0 C cl fp, vE (bk X scope s0 H0 C cl fp) elt Γ2 μ1 z) ∧
      ∀ p : Addr, μ1 p = none → Q (.loc p) (μ1.upd p (.lst zs))) : lcAsk X scope tg iter elt [] vs Γ μ Q := fun σ M F H rs r => by
  refine ⟨fun pins s I => ?_⟩
  refine thn ((h σ M F H rs r).o pins s I) fun v s1 h1 => thn h1 fun itv s2 h2 => ?_
  obtain ⟨it, fp, tn, J0, H2, g1, g2, g3, g4, g5, ys, F1, μ1, e1, r1, wk, hz, zs, hl, turn, done⟩ := h2
  refine ⟨it, fp, tn, J0, H2, g1, g2, g3, g4, g5, ys, F1, μ1, e1, r1, wk, hz, fun i acc μ' => acc = zs.take i ∧ μ' = μ1, ⟨by simp, rfl⟩, ?_, ?_⟩
  · rintro i y acc _ hy ⟨ea, rfl⟩ s0 H0 C cl fp'
    have hi : i < zs.length := by rw [hl]; exact (List.getElem?_eq_some_iff.mp hy).1
    have t := turn i y zs[i] hy (List.getElem?_eq_getElem hi) s0 H0 C cl fp'
    intro σ3 M3 F3 H3 v3 rs3 r3 rp3
    refine (t σ3 M3 F3 H3 v3 rs3 r3 rp3).imp fun σ4 H4 ⟨w4, Γ4, F4, μ4, e4, rs4, r4, em, q4⟩ => ⟨w4, Γ4, F4, μ4, e4, rs4, r4, ?_⟩
    subst em
    intro s0 H0 C cl fp6
    refine (q4 s0 H0 C cl fp6).use ⟨?_, rfl⟩
    rw [ea, List.take_succ, List.getElem?_eq_getElem hi]; rfl
  · rintro acc _ ⟨ea, rfl⟩ p np
    rw [ea, ← hl, List.take_length]
    exact done p np
/-- .. with a test: ks tells which are taken -/
def pickA : List Bool → List A → List A
  | k :: ks, z :: zs => if k then z :: pickA ks zs else pickA ks zs
  | _, _ => []
theorem pickA_snoc : ∀ (ks : List Bool) (zs : List A) (k : Bool) (z : A), ks.length = zs.length → pickA (ks ++ [k]) (zs ++ [z]) = pickA ks zs ++ (if k then [z] else [])
  | [], [], k, z, _ => by cases k <;> simp [pickA]
  | k' :: ks, z' :: zs, k, z, h => by
    have ih := pickA_snoc ks zs k z (by simpa using h)
    simp only [List.cons_append, pickA, ih]
    cases k' <;> simp
  | [], _ :: _, _, _, h => by simp at h
  | _ :: _, [], _, _, h => by simp at h
theorem pickA_map {α : Type} (p : α → Bool) (f : α → A) : ∀ l : List α, pickA (l.map p) (l.map f) = (l.filter p).map f
  | [] => rfl
  | a :: l => by
    simp only [List.map_cons, pickA, pickA_map p f l, List.filter_cons]
    cases p a <;> simp
/-- a test that comes to k and leaves what is ours -/
def vT (X : Cx) (e : Expr) (Γ : G) (μ : Mu) (k : Bool) : Prop := wT X e Γ μ fun k' μ' => k' = k ∧ Sub μ μ'
theorem wT_sub {QB : Bool → Mu → Prop} (h : wT X e Γ μ fun x μ' => ∃ μ2, Sub μ2 μ' ∧ QB x μ2) : wT X e Γ μ QB := fun σ M F H rs r =>
  (h σ M F H rs r).imp fun v H' ⟨F', μ', h1, h2, μ2, h4, h5⟩ => ⟨F', μ2, h1, h2.weak h4, h5⟩
theorem vT.use {k : Bool} {QB : Bool → Mu → Prop} (h : vT X e Γ μ k) (q : QB k μ) : wT X e Γ μ QB := wT_sub (wT.imp h fun x μ' ⟨e1, s1⟩ => ⟨μ, s1, by rw [e1]; exact q⟩)
theorem lcPick {vs : List Nat} (h : wIt X tg iter Γ μ fun ys μ1 => ys.length ≤ sizeLine ∧ ∃ (ks : List Bool) (zs : List A), ks.length = ys.length ∧ zs.length = ys.length ∧
      (∀ (i : Nat) y k z, ys[i]? = some y → ks[i]? = some k → zs[i]? = some z → ∀ s0 H0 C cl fp, wGw (bk X scope s0 H0 C cl fp) tg vs y (wipeA Γ vs) μ1 fun Γ2 μ2 => μ2 = μ1 ∧ (∀ s0 H0 C cl fp, vT (bk X scope s0 H0 C cl fp) c Γ2 μ1 k) ∧ (k = true → ∀ s0 H0 C cl fp, vE (bk X scope s0 H0 C cl fp) elt Γ2 μ1 z)) ∧
      ∀ p : Addr, μ1 p = none → Q (.loc p) (μ1.upd p (.lst (pickA ks zs)))) : lcAsk X scope tg iter elt [c] vs Γ μ Q := fun σ M F H rs r => by
  refine ⟨fun pins s I => ?_⟩
  refine thn ((h σ M F H rs r).o pins s I) fun v s1 h1 => thn h1 fun itv s2 h2 => ?_
  obtain ⟨it, fp, tn, J0, H2, g1, g2, g3, g4, g5, ys, F1, μ1, e1, r1, wk, hz, ks, zs, hk, hl, turn, done⟩ := h2
  refine ⟨it, fp, tn, J0, H2, g1, g2, g3, g4, g5, ys, F1, μ1, e1, r1, wk, hz, fun i acc μ' => acc = pickA (ks.take i) (zs.take i) ∧ μ' = μ1, ⟨by simp [pickA], rfl⟩, ?_, ?_⟩
  · rintro i y acc _ hy ⟨ea, rfl⟩ s0 H0 C cl fp'
    have hy' := (List.getElem?_eq_some_iff.mp hy).1
    have hi : i < zs.length := by rw [hl]; exact hy'
    have hi' : i < ks.length := by rw [hk]; exact hy'
    have t := turn i y ks[i] zs[i] hy (List.getElem?_eq_getElem hi') (List.getElem?_eq_getElem hi) s0 H0 C cl fp'
    have en : pickA (ks.take (i + 1)) (zs.take (i + 1)) = acc ++ (if ks[i] then [zs[i]] else []) := by
      rw [ea, List.take_succ, List.take_succ, List.getElem?_eq_getElem hi, List.getElem?_eq_getElem hi']
      exact pickA_snoc _ _ _ _ (by simp; omega)
    intro σ3 M3 F3 H3 v3 rs3 r3 rp3
    refine (t σ3 M3 F3 H3 v3 rs3 r3 rp3).imp fun σ4 H4 ⟨w4, Γ4, F4, μ4, e4, rs4, r4, em, q4, q5⟩ => ⟨w4, Γ4, F4, μ4, e4, rs4, r4, ?_⟩
    subst em
    intro s0 H0 C cl fp6
    refine (q4 s0 H0 C cl fp6).use ⟨fun kt s0 H0 C cl fp7 => (q5 kt s0 H0 C cl fp7).use ⟨?_, rfl⟩, fun kf => ⟨?_, rfl⟩⟩
    · rw [en, kt]; rfl
    · rw [en, kf]; simp
  · rintro acc _ ⟨ea, rfl⟩ p np
    rw [ea, ← hl, List.take_length, hl, ← hk, List.take_length]
    exact done p np

/-! ### methods of lists -/
theorem wE_append (h : wE X o Γ μ fun x μ1 => ∃ p ys0, x = .loc p ∧ μ1 p = some (.lst ys0) ∧ wE X e Γ μ1 fun y μ2 => ∃ ys, μ2 p = some (.lst ys) ∧ ys.length < sizeLine ∧ Q .non (μ2.upd p (.lst (ys ++ [y]))))
    (hbase : attributeBase o "append" X.env (eval o X.env) = eval o X.env := by rfl)
    (hfew : ((backTo cpos (starEach [e] X.env)).all (fun x => !x.1) && (backToKw cpos (keywordEach [] X.env)).all (fun x => x.1.isSome) && decide (([e] : List Expr).length + ([] : List Keyword).length + (if ([] : List Keyword).isEmpty then 0 else 1) < 30)) = true := by rfl)
    (hline : (apos.endLine == cpos.line) = true := by rfl) (hs : starEach [e] X.env = (false, eval e X.env) :: starEach [] X.env := by rfl) (hplain : (backTo cpos (starEach [] X.env)).any (·.1) = false := by rfl) : wE X (.Call (.Attribute o "append" apos) [e] [] cpos) Γ μ Q :=
  wE_of (pe_bm PySem.F.plainAttrs_list PySem.F.slot_list_append PySem.F.type_list_append mt_append pe_rd (pa_cons pe_rd pa_nil hs) hbase hfew hline hs hplain) fun σ M F H rs r => by
  refine (h σ M F H rs r).imp fun v H1 ⟨x, F1, μ1, e1, r1, p1, p, ys0, ex, hp, q1⟩ => ?_
  subst ex; rw [rep_loc] at p1
  obtain ⟨_, ob, k1, vs, rfl, k2⟩ := r1.own p _ hp
  refine ⟨by rw [p1]; exact .inl ⟨rfl, _, .inl (.inl k1)⟩, ?_⟩
  refine (q1 σ M F1 H1 (rs.mono e1) r1).imp fun w H2 ⟨y, F2, μ2, e2, r2, p2, ys, hq, hz, q2⟩ => ?_
  obtain ⟨_, ob, k3, ws, rfl, k4⟩ := r2.own p _ hq
  exact ⟨p, ws, w, p1, rfl, k3, by rw [k4.len]; exact hz, _, F2, _, e1.trans e2, r2.write hq (m' := .lst (ys ++ [y])) ⟨_, rfl, k4.snoc p2⟩, rep_non.mpr rfl, q2⟩

/-! ### dicts -/
def kA : Key → A
  | .inl i => .int i
  | .inr x => .str x
theorem kA_rep {K : PySem.W.Frag} {F : Hp} {k : Key} {v : V} (h : Rep K F (kA k) v) : v = kV k := by
  cases k with
  | inl i => exact rep_int.mp h
  | inr x => exact rep_str.mp h
def valA (kvs : List (Key × A)) (k : Key) : Option A := (kvs.find? fun kv => decide (kv.1 = k)).map (·.2)
def putA (kvs : List (Key × A)) (k : Key) (v : A) : List (Key × A) := if (kvs.any fun kv => decide (kv.1 = k)) = true then kvs.map (fun kv => if kv.1 = k then (kv.1, v) else kv) else kvs ++ [(k, v)]
theorem valA_rep {K : PySem.W.Frag} {F : Hp} : ∀ {kvs : List (Key × A)} {ws : List (Key × V)} (k : Key), RepK K F kvs ws → (valA kvs k = none ∧ valV ws k = none) ∨ ∃ z v, valA kvs k = some z ∧ valV ws k = some v ∧ Rep K F z v
  | [], _, k, h => by rw [show _ = [] from h]; exact .inl ⟨rfl, rfl⟩
  | (k', x) :: r, _, k, ⟨v, t, e, h1, h2⟩ => by
    subst e
    by_cases ek : k' = k
    · exact .inr ⟨x, v, by simp [valA, ek], by simp [valV, ek], h1⟩
    · rcases valA_rep k h2 with h | ⟨z, w, h3, h4, h5⟩
      · refine .inl ⟨?_, ?_⟩
        · have := h.1; simp only [valA, List.find?_cons, ek, decide_false] at this ⊢; exact this
        · have := h.2; simp only [valV, List.find?_cons, ek, decide_false] at this ⊢; exact this
      · refine .inr ⟨z, w, ?_, ?_, h5⟩
        · simp only [valA, List.find?_cons, ek, decide_false] at h3 ⊢; exact h3
        · simp only [valV, List.find?_cons, ek, decide_false] at h4 ⊢; exact h4
theorem any_rep {K : PySem.W.Frag} {F : Hp} (k : Key) : ∀ {kvs : List (Key × A)} {ws : List (Key × V)}, RepK K F kvs ws → (ws.any fun kv => decide (kv.1 = k)) = kvs.any fun kv => decide (kv.1 = k)
  | [], _, h => by rw [show _ = [] from h]; rfl
  | (k', x) :: r, _, ⟨v, t, e, h1, h2⟩ => by subst e; simp only [List.any_cons, any_rep k h2]
theorem mapK_rep {K : PySem.W.Frag} {F : Hp} {k : Key} {z : A} {w : V} (g : Rep K F z w) : ∀ {kvs : List (Key × A)} {ws : List (Key × V)}, RepK K F kvs ws → RepK K F (kvs.map fun kv => if kv.1 = k then (kv.1, z) else kv) (ws.map fun kv => if kv.1 = k then (kv.1, w) else kv)
  | [], _, h => by rw [show _ = [] from h]; rfl
  | (k', x) :: r, _, ⟨v, t, e, h1, h2⟩ => by
    subst e
    simp only [List.map_cons]
    by_cases ek : k' = k
    · rw [if_pos ek, if_pos ek]; exact ⟨w, _, rfl, g, mapK_rep g h2⟩
    · rw [if_neg ek, if_neg ek]; exact ⟨v, _, rfl, h1, mapK_rep g h2⟩
theorem snocK_rep {K : PySem.W.Frag} {F : Hp} {k : Key} {z : A} {w : V} (g : Rep K F z w) : ∀ {kvs : List (Key × A)} {ws : List (Key × V)}, RepK K F kvs ws → RepK K F (kvs ++ [(k, z)]) (ws ++ [(k, w)])
  | [], _, h => by rw [show _ = [] from h]; exact ⟨w, [], rfl, g, rfl⟩
  | (k', x) :: r, _, ⟨v, t, e, h1, h2⟩ => by subst e; exact ⟨v, _, rfl, h1, snocK_rep g h2⟩
theorem putA_rep {K : PySem.W.Frag} {F : Hp} {k : Key} {z : A} {w : V} (g : Rep K F z w) {kvs : List (Key × A)} {ws : List (Key × V)} (h : RepK K F kvs ws) : RepK K F (putA kvs k z) (putK ws k w) := by
  unfold putA putK
  rw [any_rep k h]
  split
  · exact mapK_rep g h
  · exact snocK_rep g h
theorem wE_dget {k : Nat} (ar : Ar X k) (h : wE X o Γ μ fun x μ1 => wE X i Γ μ1 fun y μ2 => ∃ p kvs k z, x = .loc p ∧ μ2 p = some (.dic kvs) ∧ y = kA k ∧ valA kvs k = some z ∧ Q z μ2) (hs : NoSl i := by exact fun _ _ => rfl) : wE X (.Subscript o i pos) Γ μ Q :=
  wE_of (pe_dget ar.u1 pe_rd pe_rd hs) fun σ M F H rs r => by
  refine (h σ M F H rs r).imp fun v H1 ⟨x, F1, μ1, e1, r1, p1, q1⟩ => ?_
  refine (q1 σ M F1 H1 (rs.mono e1) r1).imp fun w H2 ⟨y, F2, μ2, e2, r2, p2, p, kvs, k, z, ex, hp, ey, hv, q2⟩ => ?_
  subst ex; subst ey
  rw [rep_loc] at p1
  obtain ⟨_, ob, k1, ws, rfl, k2⟩ := r2.own p _ hp
  rcases valA_rep k k2 with ⟨h1, _⟩ | ⟨z', v', h1, h2, h3⟩
  · rw [h1] at hv; cases hv
  · rw [hv] at h1; cases h1
    refine ⟨p, v', p1, ?_, z, F2, μ2, e1.trans e2, r2, h3, q2⟩
    rw [kA_rep p2, ← h2]
    exact DGet.k k1
theorem wS_dput {k : Nat} {pos' : Pos} (ar : Ar X k) (h : wE X e Γ μ fun z μ1 => wE X o Γ μ1 fun x μ2 => wE X i Γ μ2 fun y μ3 => ∃ p kvs k, x = .loc p ∧ μ3 p = some (.dic kvs) ∧ y = kA k ∧ kvs.length < sizeLine ∧ Z.nx Γ (μ3.upd p (.dic (putA kvs k z))))
    (hs : swapsWith e (some (.Subscript o i pos')) pos.line X.env = pure false := by rfl) : wS X (.Assign [.Subscript o i pos'] e pos) Γ μ Z := wS_of (ps_dput ar.u1 pe_rd pe_rd pe_rd hs) fun σ M F H rs r => by
  refine (h σ M F H rs r).imp fun u H0 ⟨z, F0, μ0, e0, r0, p0, q0⟩ => ?_
  refine (q0 σ M F0 H0 (rs.mono e0) r0).imp fun v H1 ⟨x, F1, μ1, e1, r1, p1, q1⟩ => ?_
  refine (q1 σ M F1 H1 (rs.mono (e0.trans e1)) r1).imp fun w H2 ⟨y, F2, μ2, e2, r2, p2, p, kvs, k, ex, hp, ey, hl, q2⟩ => ?_
  subst ex; subst ey
  rw [rep_loc] at p1
  obtain ⟨_, ob, k1, ws, rfl, k2⟩ := r2.own p _ hp
  refine ⟨p, upd H2 p (.dK (putK ws k u)), p1, ?_, Γ, F2, _, (e0.trans e1).trans e2, rs.mono ((e0.trans e1).trans e2), r2.write hp (m' := .dic (putA kvs k z)) ⟨_, rfl, putA_rep (p0.mono (e1.trans e2)) k2⟩, q2⟩
  rw [kA_rep p2]
  exact DPut.k k1 (by rw [k2.len]; exact hl)
/-- {} -/
theorem wE_dnew (q : ∀ p, μ p = none → Q (.loc p) (μ.upd p (.dic []))) : wE X (.Dict [] [] pos) Γ μ Q := wE_of pe_dnewK fun σ M F H rs r p np => by
  obtain ⟨nμ, rl'⟩ := r.new (m := .dic []) (o := .dK []) np ⟨[], rfl, rfl⟩
  exact ⟨_, _, _, .refl _, rl', rep_loc.mpr rfl, q p nμ⟩
end
end D

set_option Elab.async false
set_option linter.all false
set_option maxRecDepth 100000
set_option maxHeartbeats 4000000
/-! D8: dict displays, repr. -/
namespace D
open PySem PySem.Spec PyProof.Rows L2
section
variable {X : Cx} {Γ : G} {μ : Mu} {Q : A → Mu → Prop} {Z : AD} {e o i : Expr} {pos apos cpos : Pos}
/-! ### a written dict -/
def rdPs (X : Cx) : List (Option Expr) → List Expr → List (TE × TE)
  | some k :: ks, v :: vs => (rdE X k, rdE X v) :: rdPs X ks vs
  | _, _ => []
def okPs : List (Option Expr) → List Expr → Bool
  | [], [] => true
  | some _ :: ks, _ :: vs => okPs ks vs
  | _, _ => false
theorem pps_rd : ∀ {ks : List (Option Expr)} {vs : List Expr}, okPs ks vs = true → PPs X pos ks vs (rdPs X ks vs)
  | [], [], _ => pps_nil
  | some _ :: _, _ :: _, h => pps_cons pe_rd pe_rd (pps_rd (by simpa [okPs] using h))
  | [], _ :: _, h => by simp [okPs] at h
  | none :: _, _, h => by simp [okPs] at h
  | some _ :: _, [], h => by simp [okPs] at h
def wPs (X : Cx) : List (Option Expr) → List Expr → G → Mu → (List (A × A) → Mu → Prop) → Prop
  | some k :: ks, v :: vs, Γ, μ, R => wE X k Γ μ fun x μ1 => wE X v Γ μ1 fun y μ2 => wPs X ks vs Γ μ2 fun ps μ3 => R ((x, y) :: ps) μ3
  | _, _, _, μ, R => R [] μ
def RepP (K : PySem.W.Frag) (F : Hp) : List (A × A) → List (V × V) → Prop
  | [], vs => vs = []
  | (x, y) :: r, vs => ∃ v w t, vs = (v, w) :: t ∧ Rep K F x v ∧ Rep K F y w ∧ RepP K F r t
theorem RepP.mono {K : PySem.W.Frag} {F F' : Hp} (e : Ex F F') : ∀ {ps : List (A × A)} {vs : List (V × V)}, RepP K F ps vs → RepP K F' ps vs
  | [], _, h => h
  | (x, y) :: r, _, ⟨v, w, t, h1, h2, h3, h4⟩ => ⟨v, w, t, h1, h2.mono e, h3.mono e, RepP.mono e h4⟩
theorem pairs_run {M : Hp} : ∀ {ks : List (Option Expr)} {vs : List Expr} {μ : Mu} {R : List (A × A) → Mu → Prop} {σ : L2.St} {F H : Hp}, wPs X ks vs Γ μ R → RelS X.K Γ F σ → Rel X.K μ M F H → tPairs (rdPs X ks vs) σ H fun ps H' => ∃ qs F' μ', Ex F F' ∧ Rel X.K μ' M F' H' ∧ RepP X.K F' qs ps ∧ R qs μ'
  | [], [], μ, R, σ, F, H, h, rs, r => ⟨[], F, μ, .refl _, r, rfl, h⟩
  | [], _ :: _, μ, R, σ, F, H, h, rs, r => ⟨[], F, μ, .refl _, r, rfl, h⟩
  | none :: _, _, μ, R, σ, F, H, h, rs, r => ⟨[], F, μ, .refl _, r, rfl, h⟩
  | some _ :: _, [], μ, R, σ, F, H, h, rs, r => ⟨[], F, μ, .refl _, r, rfl, h⟩
  | some k :: ks, v :: vs, μ, R, σ, F, H, h, rs, r => by
    refine (show wE X k Γ μ _ from h) σ M F H rs r |>.imp fun a H1 ⟨x, F1, μ1, e1, r1, p1, q1⟩ => ?_
    refine (q1 σ M F1 H1 (rs.mono e1) r1).imp fun b H2 ⟨y, F2, μ2, e2, r2, p2, q2⟩ => ?_
    have k := pairs_run q2 (rs.mono (e1.trans e2)) r2
    have mono : ∀ (trs : List (TE × TE)), (∀ p ∈ trs, ∃ e1 e2, p = (rdE X e1, rdE X e2)) → ∀ (σ : L2.St) (H : Hp) (P P' : List (V × V) → Hp → Prop), (∀ ps H, P ps H → P' ps H) → tPairs trs σ H P → tPairs trs σ H P' := by
      intro trs
      induction trs with
      | nil => intro _ σ H P P' w h; exact w _ _ h
      | cons p r ih =>
        intro hp σ H P P' w h
        obtain ⟨a1, a2, rfl⟩ := hp _ List.mem_cons_self
        exact rdE_mono h fun x H1 h1 => rdE_mono h1 fun y H2 h2 => ih (fun q hq => hp q (List.mem_cons_of_mem _ hq)) σ H2 _ _ (fun ps H3 q => w _ _ q) h2
    have shape : ∀ (ks : List (Option Expr)) (vs : List Expr), ∀ p ∈ rdPs X ks vs, ∃ e1 e2, p = (rdE X e1, rdE X e2) := by
      intro ks
      induction ks with
      | nil => intro vs p hp; simp [rdPs] at hp
      | cons k ks ih =>
        intro vs p hp
        cases k with
        | none => simp [rdPs] at hp
        | some k => cases vs with
          | nil => simp [rdPs] at hp
          | cons v vs =>
            simp only [rdPs, List.mem_cons] at hp
            rcases hp with rfl | hp
            · exact ⟨_, _, rfl⟩
            · exact ih vs p hp
    refine mono _ (shape ks vs) _ _ _ _ (fun ps H3 q => ?_) k
    obtain ⟨qs, F3, μ3, e3, r3, p3, q3⟩ := q
    exact ⟨(x, y) :: qs, F3, μ3, (e1.trans e2).trans e3, r3, ⟨a, b, ps, rfl, p1.mono (e2.trans e3), p2.mono e3, p3⟩, q3⟩
def mergeA (kvs more : List (Key × A)) : List (Key × A) := more.foldl (fun acc kv => putA acc kv.1 kv.2) kvs
theorem merge_rep {K : PySem.W.Frag} {F : Hp} : ∀ {more : List (Key × A)} {ms : List (Key × V)} {kvs : List (Key × A)} {ws : List (Key × V)}, RepK K F more ms → RepK K F kvs ws → RepK K F (mergeA kvs more) (mergeK ws ms)
  | [], _, _, _, h, g => by rw [show _ = [] from h]; exact g
  | (k, x) :: r, _, kvs, ws, ⟨v, t, e, h1, h2⟩, g => by subst e; exact merge_rep (kvs := putA kvs k x) (ws := putK ws k v) h2 (putA_rep h1 g)
theorem keys_rep {K : PySem.W.Frag} {F : Hp} : ∀ {kvs : List (Key × A)} {ps : List (V × V)}, RepP K F (kvs.map fun kv => (kA kv.1, kv.2)) ps → ∃ ws : List (Key × V), ps = ws.map (fun kv => (kV kv.1, kv.2)) ∧ RepK K F kvs ws
  | [], _, h => ⟨[], h, rfl⟩
  | (k, x) :: r, _, h => by
    obtain ⟨v, w, t, rfl, h1, h2, h3⟩ := h
    obtain ⟨ws, rfl, h4⟩ := keys_rep (kvs := r) h3
    exact ⟨(k, w) :: ws, by rw [kA_rep h1]; rfl, w, ws, rfl, h2, h4⟩
theorem wE_disp {ks : List (Option Expr)} {vs : List Expr} (h : wPs X ks vs Γ μ fun ps μ1 => ∃ kvs : List (Key × A), ps = kvs.map (fun kv => (kA kv.1, kv.2)) ∧ kvs.length ≤ 15 ∧ ∀ p : Addr, μ1 p = none → Q (.loc p) (μ1.upd p (.dic (mergeA [] kvs))))
    (ok : okPs ks vs = true := by rfl) (h0 : ks ≠ [] := by exact fun z => nomatch z) (hall : ks.all (·.isSome) = true := by rfl) (hl : ks.length = vs.length := by rfl) (h15 : ks.length ≤ 15 := by decide) : wE X (.Dict ks vs pos) Γ μ Q :=
  wE_of (pe_disp (pps_rd ok) hall hl h0 h15) fun σ M F H rs r p np => by
  obtain ⟨hM, rN⟩ := r.frmNew (o := .dK []) np
  have k := pairs_run h rs rN
  have mono : ∀ (trs : List (TE × TE)), (∀ p ∈ trs, ∃ e1 e2, p = (rdE X e1, rdE X e2)) → ∀ (σ : L2.St) (H : Hp) (P P' : List (V × V) → Hp → Prop), (∀ ps H, P ps H → P' ps H) → tPairs trs σ H P → tPairs trs σ H P' := by
    intro trs
    induction trs with
    | nil => intro _ σ H P P' w h; exact w _ _ h
    | cons p r ih =>
      intro hp σ H P P' w h
      obtain ⟨a1, a2, rfl⟩ := hp _ List.mem_cons_self
      exact rdE_mono h fun x H1 h1 => rdE_mono h1 fun y H2 h2 => ih (fun q hq => hp q (List.mem_cons_of_mem _ hq)) σ H2 _ _ (fun ps H3 q => w _ _ q) h2
  have shape : ∀ (ks : List (Option Expr)) (vs : List Expr), ∀ p ∈ rdPs X ks vs, ∃ e1 e2, p = (rdE X e1, rdE X e2) := by
    intro ks
    induction ks with
    | nil => intro vs p hp; simp [rdPs] at hp
    | cons k ks ih =>
      intro vs p hp
      cases k with
      | none => simp [rdPs] at hp
      | some k => cases vs with
        | nil => simp [rdPs] at hp
        | cons v vs =>
          simp only [rdPs, List.mem_cons] at hp
          rcases hp with rfl | hp
          · exact ⟨_, _, rfl⟩
          · exact ih vs p hp
  refine mono _ (shape ks vs) _ _ _ _ (fun ps H2 q => ?_) k
  obtain ⟨qs, F2, μ2, e2, r2, p2, kvs, rfl, hk, q2⟩ := q
  obtain ⟨_, _, hp2⟩ := r2.frm p _ upd_same
  obtain ⟨ws, ep, hw⟩ := keys_rep p2
  refine ⟨hp2, ws, ep, by rw [hw.len]; exact hk, ?_⟩
  have r3 := r2.frmWrite (o' := .dK (mergeK [] ws))
  obtain ⟨nμ, r4⟩ := r3.frmOut (m := .dic (mergeA [] kvs)) hM ⟨_, rfl, merge_rep hw rfl⟩
  exact ⟨_, F2, _, e2, r4, rep_loc.mpr rfl, q2 p nμ⟩

/-! ### repr -/
mutual
def isShow : A → Bool
  | .non => true
  | .bl _ => true
  | .int i => decide (i.natAbs.log2 < 1920)
  | .str _ => true
  | .ty _ => false
  | .loc _ => false
  | .tup xs => isShows xs
  | .lst xs => isShows xs
  | .fls xs => isShows xs
def isShows : List A → Bool
  | [] => true
  | x :: xs => isShow x && isShows xs
end
mutual
/-- a bound of the length of what is shown -/
def shl : A → Nat
  | .non => 4
  | .bl _ => 5
  | .int i => if i.natAbs < 10 ^ 18 then 20 else 1922
  | .str x => (reprText x).length
  | .ty _ => 4
  | .loc _ => 4
  | .tup xs => shls xs + 3
  | .lst xs => shls xs + 3
  | .fls xs => shls xs + 3
def shls : List A → Nat
  | [] => 0
  | x :: xs => shl x + 2 + shls xs
end
mutual
theorem showable_of : ∀ x : A, isShow x = true → (toD x).showable = true
  | .non, _ => by simp only [toD, PyData.showable]
  | .bl _, _ => by simp only [toD, PyData.showable]
  | .int _, h => by simpa only [toD, PyData.showable, isShow] using h
  | .str _, _ => by simp only [toD, PyData.showable]
  | .ty _, h => by simp [isShow] at h
  | .loc _, h => by simp [isShow] at h
  | .tup xs, h => by simp only [toD, PyData.showable]; exact showables_of xs (by simpa [isShow] using h)
  | .lst xs, h => by simp only [toD, PyData.showable]; exact showables_of xs (by simpa [isShow] using h)
  | .fls xs, h => by simp only [toD, PyData.showable]; exact showables_of xs (by simpa [isShow] using h)
theorem showables_of : ∀ xs : List A, isShows xs = true → PyData.showableAll (toDs xs) = true
  | [], _ => by simp only [toDs, PyData.showableAll]
  | x :: xs, h => by
    simp only [isShows, Bool.and_eq_true] at h
    simp only [toDs, PyData.showableAll, showable_of x h.1, showables_of xs h.2, Bool.and_self]
end
mutual
theorem noDict_of : ∀ x : A, (toD x).hasDict = false
  | .non => by simp only [toD, PyData.hasDict]
  | .bl _ => by simp only [toD, PyData.hasDict]
  | .int _ => by simp only [toD, PyData.hasDict]
  | .str _ => by simp only [toD, PyData.hasDict]
  | .ty _ => by simp only [toD, PyData.hasDict]
  | .loc _ => by simp only [toD, PyData.hasDict]
  | .tup xs => by simp only [toD, PyData.hasDict]; exact noDicts_of xs
  | .lst xs => by simp only [toD, PyData.hasDict]; exact noDicts_of xs
  | .fls xs => by simp only [toD, PyData.hasDict]; exact noDicts_of xs
theorem noDicts_of : ∀ xs : List A, PyData.hasDictAll (toDs xs) = false
  | [] => by simp only [toDs, PyData.hasDictAll]
  | x :: xs => by simp only [toDs, PyData.hasDictAll, noDict_of x, noDicts_of xs, Bool.or_self]
end
theorem len_intText {i : Int} (h : i.natAbs.log2 < 1920) : (Str.ofString (toString i)).length ≤ if i.natAbs < 10 ^ 18 then 20 else 1922 := by
  rw [PySem.ofString_length]
  split
  · rename_i h2
    have e := int_text_length_le10 (k := 18) (by decide) h2
    omega
  · have e := int_text_length_le (k := 1920) (by decide) h
    omega
theorem reprIs_d {x : A} (hs : isShow x = true) : isShow x = true := hs
mutual
theorem shown_le : ∀ x : A, isShow x = true → (toD x).shown.length ≤ shl x
  | .non, _ => by simp only [toD, PyData.shown, shl]; decide
  | .bl b, _ => by simp only [toD, PyData.shown, shl]; cases b <;> decide
  | .int i, h => by
    simp only [toD, PyData.shown, shl]
    exact len_intText (by simpa [isShow] using h)
  | .str x, _ => by simp only [toD, PyData.shown, shl]; exact Nat.le_refl _
  | .ty _, _ => by simp only [toD, PyData.shown, shl]; decide
  | .loc _, _ => by simp only [toD, PyData.shown, shl]; decide
  | .tup xs, h => by
    simp only [toD, PyData.shown, shl]
    have h1 := tupleText_len_le (PyData.shownAll (toDs xs))
    have h2 := showns_le xs (by simpa [isShow] using h)
    omega
  | .lst xs, h => by
    simp only [toD, PyData.shown, shl]
    have h1 := listText_len_le (PyData.shownAll (toDs xs))
    have h2 := showns_le xs (by simpa [isShow] using h)
    omega
  | .fls xs, h => by
    simp only [toD, PyData.shown, shl]
    have h1 := listText_len_le (PyData.shownAll (toDs xs))
    have h2 := showns_le xs (by simpa [isShow] using h)
    omega
theorem showns_le : ∀ xs : List A, isShows xs = true → ((PyData.shownAll (toDs xs)).map (·.length)).sum + 2 * (PyData.shownAll (toDs xs)).length ≤ shls xs
  | [], _ => by simp [toDs, PyData.shownAll, shls]
  | x :: xs, h => by
    simp only [isShows, Bool.and_eq_true] at h
    have h1 := shown_le x h.1
    have h2 := showns_le xs h.2
    simp only [toDs, PyData.shownAll, shls, List.map_cons, List.sum_cons, List.length_cons]
    omega
end
/-- data whose repr is asked -/
structure ShowOk (x : A) : Prop where
  sh : isShow x = true
  dp : deep x ≤ 60
  ln : shl x ≤ sizeLine
mutual
theorem dp_show : ∀ {K : PySem.W.Frag} {H : Hp} {x : A} {v : V}, isShow x = true → Rep K H x v → Dp K H v (toD x)
  | _, _, .non, _, _, h => by rw [rep_non] at h; subst h; exact .non
  | _, _, .bl b, _, _, h => by rw [rep_bl] at h; subst h; exact .bl b
  | _, _, .int i, _, _, h => by rw [rep_int] at h; subst h; exact .int i
  | _, _, .str x, _, _, h => by rw [rep_str] at h; subst h; exact .str x
  | _, _, .ty _, _, h, _ => by simp [isShow] at h
  | _, _, .loc _, _, h, _ => by simp [isShow] at h
  | _, _, .tup xs, _, hd, h => by
    rw [rep_tup] at h; obtain ⟨a, vs, rfl, h1, h2⟩ := h
    simp only [toD]
    exact .tup h1 (dps_show (by simpa [isShow] using hd) h2)
  | _, _, .lst xs, _, hd, h => by
    rw [rep_lst] at h; obtain ⟨a, vs, rfl, h1, h2⟩ := h
    simp only [toD]
    exact .lst (.inl (.inl h1)) (dps_show (by simpa [isShow] using hd) h2)
  | _, _, .fls xs, _, hd, h => by
    rw [rep_fls] at h; obtain ⟨a, vs, rfl, h1, h2⟩ := h
    simp only [toD]
    exact .lst h1 (dps_show (by simpa [isShow] using hd) h2)
theorem dps_show : ∀ {K : PySem.W.Frag} {H : Hp} {xs : List A} {vs : List V}, isShows xs = true → RepL K H xs vs → DpAll K H vs (toDs xs)
  | _, _, [], _, _, h => by simp only [RepL] at h; subst h; exact .nil
  | _, _, x :: xs, _, hd, h => by
    simp only [RepL] at h
    obtain ⟨v, r, rfl, h1, h2⟩ := h
    simp only [isShows, Bool.and_eq_true] at hd
    simp only [toDs]
    exact .cons (dp_show hd.1 h1) (dps_show hd.2 h2)
end
theorem wC_repr {k : Nat} {x : A} (ar : Ar X k) (hx : ShowOk x) (q : Q (.str (toD x).shown) μ) : wC X (.builtin "repr") [x] μ Q := by
  intro M F H vs rl rp
  refine ⟨fun pins s σ us I rv => ?_⟩
  obtain ⟨v, rfl, h⟩ := rp.one
  obtain ⟨u, rfl, ru⟩ := rv.one
  have hl := shown_le x hx.sh
  have hz : (toD x).shown.length ≤ sizeLine := Nat.le_trans hl hx.ln
  have fin : ∀ (t : Nat) (h' : Heap) (tk : Nat), (∀ b o, s.heap.get? b = some o → h'.get? b = some o) → EP X pins σ (QE X.K M F Q) (.str (toD x).shown t) { s with heap := h', toks := tk } := fun t h' tk kp => ⟨.str (toD x).shown, H, I.kept kp, ⟨t, rfl⟩, .pure rl (rep_str.mpr rfl) q⟩
  have big : ∀ a, u = .ref a → wpAny (model X.prog X.w) X.A (call (.builtin "repr") [u]) (EP X pins σ (QE X.K M F Q)) X.xe s := by
    intro a e
    subst e
    obtain ⟨as, rd⟩ := Dp.reads I (toD x) v _ (dp_show hx.sh (h.mono rl.sub)) ru
    have hd := depth_of x
    have hu := ar.u64
    exact repr_of_reads' rd (showable_of x hx.sh) (PyData.noDict_hsm (noDict_of x)) ar.show0 (by have := hx.dp; omega) (fun _ _ z => z) (fun h' t tk kp => fin t h' tk kp) hz
  cases x with
  | non =>
    rw [rep_non] at h; subst h; cases ru
    exact P.repr_of_none (by simpa only [toD, PyData.shown] using fin s.toks s.heap (s.toks + 1) fun _ _ z => z)
  | bl b =>
    rw [rep_bl] at h; subst h; cases ru
    exact P.repr_of_bool (by simpa only [toD, PyData.shown] using fin s.toks s.heap (s.toks + 1) fun _ _ z => z)
  | int i =>
    rw [rep_int] at h; subst h; obtain ⟨t, rfl⟩ := ru
    exact P.repr_of_int (by simpa [isShow] using hx.sh) (by simpa only [toD, PyData.shown] using fin s.toks s.heap (s.toks + 1) fun _ _ z => z)
  | str i =>
    rw [rep_str] at h; subst h; obtain ⟨t, rfl⟩ := ru
    exact P.repr_of_str (by simpa only [toD, PyData.shown] using fin s.toks s.heap (s.toks + 1) fun _ _ z => z) (by simpa only [toD, PyData.shown] using hz)
  | ty n => exact absurd hx.sh (by simp [isShow])
  | loc n => exact absurd hx.sh (by simp [isShow])
  | tup xs => rw [rep_tup] at h; obtain ⟨a, ws, rfl, _⟩ := h; cases ru; exact big a rfl
  | lst xs => rw [rep_lst] at h; obtain ⟨a, ws, rfl, _⟩ := h; cases ru; exact big a rfl
  | fls xs => rw [rep_fls] at h; obtain ⟨a, ws, rfl, _⟩ := h; cases ru; exact big a rfl
end
end D

set_option Elab.async false
set_option linter.all false
set_option maxRecDepth 100000
set_option maxHeartbeats 4000000
/-! D9: conveniences. -/
namespace D
open PySem PySem.Spec PyProof.Rows L2
section
variable {X : Cx} {Γ : G} {μ : Mu} {Q : A → Mu → Prop} {Z Z' : AD} {e o i : Expr} {pos apos cpos : Pos} {st : Stmt} {ss rest : List Stmt}
variable {elt tg iter c : Expr} {scope : Scope} {ifs : List Expr}
theorem wS.imp (h : wS X st Γ μ Z) (w1 : ∀ Γ μ, Z.nx Γ μ → Z'.nx Γ μ) (w2 : ∀ x μ, Z.rt x μ → Z'.rt x μ) (w3 : ∀ Γ μ, Z.bk Γ μ → Z'.bk Γ μ) (w4 : ∀ Γ μ, Z.ct Γ μ → Z'.ct Γ μ) : wS X st Γ μ Z' := fun σ M F H rs r =>
  (h σ M F H rs r).imp (fun _ _ ⟨a, b, c, d, e, f, q⟩ => ⟨a, b, c, d, e, f, w1 _ _ q⟩) (fun _ _ ⟨a, b, c, d, e, f, q⟩ => ⟨a, b, c, d, e, f, w2 _ _ q⟩) (fun _ _ ⟨a, b, c, d, e, f, q⟩ => ⟨a, b, c, d, e, f, w3 _ _ q⟩) (fun _ _ ⟨a, b, c, d, e, f, q⟩ => ⟨a, b, c, d, e, f, w4 _ _ q⟩)
/-- a word P between a statement and what follows it -/
theorem wSs_cut (P : G → Mu → Prop) (h : wS X st Γ μ { Z with nx := P }) (k : ∀ Γ' μ', P Γ' μ' → wSs X rest Γ' μ' Z) : wSs X (st :: rest) Γ μ Z :=
  wSs_cons (wS.imp h (fun _ _ q => k _ _ q) (fun _ _ q => q) (fun _ _ q => q) (fun _ _ q => q))
/-- what stands at the slots may be forgotten -/
theorem wSs_slots {Γ' : G} (hl : Γ'.length = Γ.length) (w : ∀ (i : Nat) (x : A), Γ'[i]? = some (some x) → Γ[i]? = some (some x)) (h : wSs X ss Γ' μ Z) : wSs X ss Γ μ Z := fun σ M F H rs r => h σ M F H (rs.weak hl w) r
/-- a comprehension whose turns only reckon, the list for good -/
theorem wE_lcF (own : List (Str × Nat)) (h : wIt X tg iter Γ μ fun ys μ1 => ys.length ≤ sizeLine ∧ ∃ zs : List A, zs.length = ys.length ∧
      (∀ (i : Nat) y z, ys[i]? = some y → zs[i]? = some z → ∀ s0 H0 C cl fp, wGw (bk X scope s0 H0 C cl fp) tg (own.map (·.2)) y (wipeA Γ (own.map (·.2))) μ1 fun Γ2 μ2 => μ2 = μ1 ∧ ∀ s0 H0 C cl fp, vE (bk X scope s0 H0 C cl fp) elt Γ2 μ1 z) ∧ Q (.lst zs) μ1)
    (hN : X.N.Nodup) (ok : BlkOk X.N X.env.scope scope own) (hc : X.calm = true := by rfl) (hs : ∀ x, foldedSetIterable iter X.env x = pure x := by intro _; rfl) : wE X (.ListComp elt [⟨tg, iter, [], 0⟩] scope pos) Γ μ Q := by
  refine wE_frz (wE_lc own (lcMap ?_) hN ok (.inl rfl) hc hs)
  intro σ M F H rs r
  refine ⟨fun pins s I => ?_⟩
  refine thn ((h σ M F H rs r).o pins s I) fun v s1 h1 => thn h1 fun itv s2 h2 => ?_
  obtain ⟨it, fp, tn, J0, H2, g1, g2, g3, g4, g5, ys, F1, μ1, e1, r1, wk, hz, zs, hl, turn, done⟩ := h2
  exact ⟨it, fp, tn, J0, H2, g1, g2, g3, g4, g5, ys, F1, μ1, e1, r1, wk, hz, zs, hl, turn, fun p np => ⟨p, zs, rfl, Mu.upd_same, by rw [Mu.del_upd np]; exact done⟩⟩
theorem wE_lcPF (own : List (Str × Nat)) (h : wIt X tg iter Γ μ fun ys μ1 => ys.length ≤ sizeLine ∧ ∃ (ks : List Bool) (zs : List A), ks.length = ys.length ∧ zs.length = ys.length ∧
      (∀ (i : Nat) y k z, ys[i]? = some y → ks[i]? = some k → zs[i]? = some z → ∀ s0 H0 C cl fp, wGw (bk X scope s0 H0 C cl fp) tg (own.map (·.2)) y (wipeA Γ (own.map (·.2))) μ1 fun Γ2 μ2 => μ2 = μ1 ∧ (∀ s0 H0 C cl fp, vT (bk X scope s0 H0 C cl fp) c Γ2 μ1 k) ∧ (k = true → ∀ s0 H0 C cl fp, vE (bk X scope s0 H0 C cl fp) elt Γ2 μ1 z)) ∧ Q (.lst (pickA ks zs)) μ1)
    (hN : X.N.Nodup) (ok : BlkOk X.N X.env.scope scope own) (hc : X.calm = true := by rfl) (hs : ∀ x, foldedSetIterable iter X.env x = pure x := by intro _; rfl) : wE X (.ListComp elt [⟨tg, iter, [c], 0⟩] scope pos) Γ μ Q := by
  refine wE_frz (wE_lc own (lcPick ?_) hN ok (.inr ⟨_, rfl⟩) hc hs)
  intro σ M F H rs r
  refine ⟨fun pins s I => ?_⟩
  refine thn ((h σ M F H rs r).o pins s I) fun v s1 h1 => thn h1 fun itv s2 h2 => ?_
  obtain ⟨it, fp, tn, J0, H2, g1, g2, g3, g4, g5, ys, F1, μ1, e1, r1, wk, hz, ks, zs, hk, hl, turn, done⟩ := h2
  exact ⟨it, fp, tn, J0, H2, g1, g2, g3, g4, g5, ys, F1, μ1, e1, r1, wk, hz, ks, zs, hk, hl, turn, fun p np => ⟨p, _, rfl, Mu.upd_same, by rw [Mu.del_upd np]; exact done⟩⟩
/-- name = a comprehension, the list for good -/
theorem wS_frzNx (i : Nat) (h : wS X st Γ μ { Z with nx := fun Γ' μ' => ∃ p xs, Γ'[i]? = some (some (.loc p)) ∧ μ' p = some (.lst xs) ∧ Z.nx (Γ'.set i (some (.lst xs))) (μ'.del p) }) : wS X st Γ μ Z := fun σ M F H rs r =>
  (h σ M F H rs r).imp (fun σ' H' ⟨Γ', F', μ', ex, rs', rl', p, xs, e1, e2, q⟩ => by
    obtain ⟨F2, ex2, rl2, rp⟩ := rl'.freeze e2
    refine ⟨_, F2, _, ex.trans ex2, ?_, rl2, q⟩
    have r2 := rs'.mono ex2
    refine ⟨by rw [List.length_set]; exact rs'.len, fun j x q => ?_⟩
    rw [List.getElem?_set] at q
    split at q
    · rename_i e
      subst e
      split at q
      · cases q
        obtain ⟨v, h1, h2⟩ := rs'.at_ _ _ e1
        rw [rep_loc] at h2; subst h2
        exact ⟨_, h1, rp⟩
      · cases q
    · exact r2.at_ j x q) (fun _ _ q => q) (fun _ _ q => q) (fun _ _ q => q)
end
end D

set_option Elab.async false
set_option linter.all false
set_option maxRecDepth 100000
set_option maxHeartbeats 4000000
/-! DA: calls by what is known of a def, names for comprehensions. -/
namespace D
open PySem PySem.Spec PyProof.Rows L2
/-- what a caller knows of a def: it lets nothing out, keeps c, at most level k -/
structure Cal (P : Program) (w : World) (K : PySem.W.Frag) (mg : Str → Option Value) (base : Heap) (k : Nat) (x : Str) (c : AC) : Prop where
  ex : ∃ (f : Addr) (fd : FuncData) (ps : List Str), FnD P w K mg base CX0 k f fd ps c ∧ mg x = some (.ref f) ∧ PySem.W.keepIn K (.ref f) = true ∧ Binds K fd ps []
/-- .. the last arguments das by default -/
structure CalD (P : Program) (w : World) (K : PySem.W.Frag) (mg : Str → Option Value) (base : Heap) (k : Nat) (x : Str) (das : List A) (c : AC) : Prop where
  ex : ∃ (f : Addr) (fd : FuncData) (ps : List Str) (ds : List Value) (dvs : List V), FnD P w K mg base CX0 k f fd ps c ∧ mg x = some (.ref f) ∧ PySem.W.keepIn K (.ref f) = true ∧ Binds K fd ps ds ∧ Vals dvs ds ∧ ∀ F, RepL K F das dvs
section
variable {X : Cx} {Γ : G} {μ : Mu} {Q : A → Mu → Prop} {Z : AD} {e : Expr} {es : List Expr} {pos p : Pos} {k j : Nat} {x : Str} {c : AC}
variable {elt tg iter t : Expr} {scope : Scope}
theorem wE_cal (C : Cal X.prog X.w X.K X.mg X.base k x c) (ar : Ar X j) (hk : k ≤ j) (h : wA X (e :: es) Γ μ fun xs μ1 => c xs μ1 Q fun _ _ _ => False) (hg : Gl X x := by rfl) (hdb : (x == ("__debug__" : Str)) = false := by decide)
    (he : starEach (e :: es) X.env = (false, eval e X.env) :: starEach es X.env := by rfl) (hpl : (backTo pos (starEach es X.env)).any (·.1) = false := by rfl) : wE X (.Call (.Name x p) (e :: es) [] pos) Γ μ Q := by
  obtain ⟨f, fd, ps, F, h1, h2, h3⟩ := C.ex
  exact wE_call F ⟨h1, h2, h3⟩ (ar.mono hk) h hg hdb he hpl
theorem wE_cal0 (C : Cal X.prog X.w X.K X.mg X.base k x c) (ar : Ar X j) (hk : k ≤ j) (h : c [] μ Q fun _ _ _ => False) (hg : Gl X x := by rfl) (hdb : (x == ("__debug__" : Str)) = false := by decide) : wE X (.Call (.Name x p) [] [] pos) Γ μ Q := by
  obtain ⟨f, fd, ps, F, h1, h2, h3⟩ := C.ex
  exact wE_call0 F ⟨h1, h2, h3⟩ (ar.mono hk) h hg hdb
theorem wE_calD {das : List A} (C : CalD X.prog X.w X.K X.mg X.base k x das c) (ar : Ar X j) (hk : k ≤ j) (h : wA X (e :: es) Γ μ fun xs μ1 => c (xs ++ das) μ1 Q fun _ _ _ => False) (hg : Gl X x := by rfl) (hdb : (x == ("__debug__" : Str)) = false := by decide)
    (he : starEach (e :: es) X.env = (false, eval e X.env) :: starEach es X.env := by rfl) (hpl : (backTo pos (starEach es X.env)).any (·.1) = false := by rfl) : wE X (.Call (.Name x p) (e :: es) [] pos) Γ μ Q := by
  obtain ⟨f, fd, ps, ds, dvs, F, h1, h2, h3, h4, h5⟩ := C.ex
  exact wE_callD das F ⟨h1, h2, h3⟩ (ar.mono hk) h4 h5 h hg hdb he hpl
/-- name = a comprehension whose turns only reckon, the list for good -/
theorem wS_setLcF (own : List (Str × Nat)) (i : Nat) {y : Str} {py spos : Pos} (h : wIt X tg iter Γ μ fun ys μ1 => ys.length ≤ sizeLine ∧ ∃ zs : List A, zs.length = ys.length ∧
      (∀ (i : Nat) y z, ys[i]? = some y → zs[i]? = some z → ∀ s0 H0 C cl fp, wGw (bk X scope s0 H0 C cl fp) tg (own.map (·.2)) y (wipeA Γ (own.map (·.2))) μ1 fun Γ2 μ2 => μ2 = μ1 ∧ ∀ s0 H0 C cl fp, vE (bk X scope s0 H0 C cl fp) elt Γ2 μ1 z) ∧ Z.nx (Γ.set i (some (.lst zs))) μ1)
    (hN : X.N.Nodup) (ok : BlkOk X.N X.env.scope scope own) (hsw : swapsWith (.ListComp elt [⟨tg, iter, [], 0⟩] scope pos) (some (.Name y py)) spos.line X.env = pure true) (hl : i < Γ.length := by exact Nat.le_of_ble_eq_true rfl)
    (hc : X.calm = true := by rfl) (hy : X.N[i]? = some y := by rfl) (hyl : X.env.scope.names.lookup y = some .local := by rfl) (hs : ∀ x, foldedSetIterable iter X.env x = pure x := by intro _; rfl) :
    wS X (.Assign [.Name y py] (.ListComp elt [⟨tg, iter, [], 0⟩] scope pos) spos) Γ μ Z := by
  refine wS_frzNx i (wS_setLc own i (lcMap ?_) hN ok hsw (.inl rfl) hc hy hyl hs)
  intro σ M F H rs r
  refine ⟨fun pins s I => ?_⟩
  refine thn ((h σ M F H rs r).o pins s I) fun v s1 h1 => thn h1 fun itv s2 h2 => ?_
  obtain ⟨it, fp, tn, J0, H2, g1, g2, g3, g4, g5, ys, F1, μ1, e1, r1, wk, hz, zs, hl2, turn, done⟩ := h2
  refine ⟨it, fp, tn, J0, H2, g1, g2, g3, g4, g5, ys, F1, μ1, e1, r1, wk, hz, zs, hl2, turn, fun p np => ⟨p, zs, ?_, Mu.upd_same, ?_⟩⟩
  · rw [List.getElem?_set_self hl]
  · rw [Mu.del_upd np, List.set_set]; exact done
theorem wS_setLcPF (own : List (Str × Nat)) (i : Nat) {y : Str} {py spos : Pos} (h : wIt X tg iter Γ μ fun ys μ1 => ys.length ≤ sizeLine ∧ ∃ (ks : List Bool) (zs : List A), ks.length = ys.length ∧ zs.length = ys.length ∧
      (∀ (i : Nat) y k z, ys[i]? = some y → ks[i]? = some k → zs[i]? = some z → ∀ s0 H0 C cl fp, wGw (bk X scope s0 H0 C cl fp) tg (own.map (·.2)) y (wipeA Γ (own.map (·.2))) μ1 fun Γ2 μ2 => μ2 = μ1 ∧ (∀ s0 H0 C cl fp, vT (bk X scope s0 H0 C cl fp) t Γ2 μ1 k) ∧ (k = true → ∀ s0 H0 C cl fp, vE (bk X scope s0 H0 C cl fp) elt Γ2 μ1 z)) ∧ Z.nx (Γ.set i (some (.lst (pickA ks zs)))) μ1)
    (hN : X.N.Nodup) (ok : BlkOk X.N X.env.scope scope own) (hsw : swapsWith (.ListComp elt [⟨tg, iter, [t], 0⟩] scope pos) (some (.Name y py)) spos.line X.env = pure true) (hl : i < Γ.length := by exact Nat.le_of_ble_eq_true rfl)
    (hc : X.calm = true := by rfl) (hy : X.N[i]? = some y := by rfl) (hyl : X.env.scope.names.lookup y = some .local := by rfl) (hs : ∀ x, foldedSetIterable iter X.env x = pure x := by intro _; rfl) :
    wS X (.Assign [.Name y py] (.ListComp elt [⟨tg, iter, [t], 0⟩] scope pos) spos) Γ μ Z := by
  refine wS_frzNx i (wS_setLc own i (lcPick ?_) hN ok hsw (.inr ⟨_, rfl⟩) hc hy hyl hs)
  intro σ M F H rs r
  refine ⟨fun pins s I => ?_⟩
  refine thn ((h σ M F H rs r).o pins s I) fun v s1 h1 => thn h1 fun itv s2 h2 => ?_
  obtain ⟨it, fp, tn, J0, H2, g1, g2, g3, g4, g5, ys, F1, μ1, e1, r1, wk, hz, ks, zs, hk, hl2, turn, done⟩ := h2
  refine ⟨it, fp, tn, J0, H2, g1, g2, g3, g4, g5, ys, F1, μ1, e1, r1, wk, hz, ks, zs, hk, hl2, turn, fun p np => ⟨p, _, ?_, Mu.upd_same, ?_⟩⟩
  · rw [List.getElem?_set_self hl]
  · rw [Mu.del_upd np, List.set_set]; exact done
end
section
variable {P : Program} {w : World} {mg : Str → Option Value} {base : Heap} {K : PySem.W.Frag}
theorem Cal.imp {k : Nat} {x : Str} {c c' : AC} (C : Cal P w K mg base k x c) (h : ∀ xs μ Q E, c' xs μ Q E → c xs μ Q E) : Cal P w K mg base k x c' := by
  obtain ⟨f, fd, ps, F, r⟩ := C.ex
  exact ⟨f, fd, ps, F.imp h, r⟩
end
theorem atI_pos {α : Type} {xs : List α} {i : Int} {y : α} (h : xs[i.toNat]? = some y) (h0 : 0 ≤ i) : atI xs i = some y := by
  have hl : i.toNat < xs.length := (List.getElem?_eq_some_iff.mp h).1
  unfold atI ixN
  rw [if_pos h0, if_pos (by omega)]
  exact h
theorem atI_neg {α : Type} {xs : List α} {i : Int} {y : α} (h : xs[(i + xs.length).toNat]? = some y) (h0 : i < 0) (h1 : -(xs.length : Int) ≤ i) : atI xs i = some y := by
  unfold atI ixN
  rw [if_neg (by omega), if_pos h1]
  exact h
end D

set_option Elab.async false
set_option linter.all false
set_option maxRecDepth 100000
set_option maxHeartbeats 4000000
/-! DB: small facts about what is walked; what a law draws by. -/
namespace D
open PySem PySem.Spec PyProof.Rows L2
theorem rgA_at {lo : Int} {n i : Nat} {y : A} (h : (rgA lo n)[i]? = some y) : i < n ∧ y = .int (lo + (i : Nat)) := by
  have hi : i < n := by have := (List.getElem?_eq_some_iff.mp h).1; rwa [rgA_len] at this
  rw [rgA_get hi] at h; cases h
  exact ⟨hi, rfl⟩
theorem mapR_at {α : Type} {f : Nat → α} {n i : Nat} {z : α} (h : ((List.range n).map f)[i]? = some z) : i < n ∧ z = f i := by
  have hi : i < n := by have := (List.getElem?_eq_some_iff.mp h).1; simpa using this
  simp [hi] at h
  exact ⟨hi, h.symm⟩
theorem map_at {α β : Type} {f : α → β} {l : List α} {i : Nat} {z : β} (h : (l.map f)[i]? = some z) : ∃ a, l[i]? = some a ∧ z = f a := by
  rw [List.getElem?_map] at h
  cases e : l[i]? with
  | none => simp [e] at h
  | some a => rw [e] at h; cases h; exact ⟨a, rfl, rfl⟩
theorem enumA_at {xs : List A} {i : Nat} {y : A} (h : (enumA 0 xs)[i]? = some y) : ∃ x, xs[i]? = some x ∧ y = .tup [.int (i : Nat), x] := by
  have hi : i < xs.length := by have := (List.getElem?_eq_some_iff.mp h).1; rwa [enumA_len] at this
  rw [enumA_get (List.getElem?_eq_getElem hi)] at h
  cases h
  exact ⟨xs[i], List.getElem?_eq_getElem hi, by simp⟩
theorem zipA_at : ∀ {xs ys : List A} {i : Nat} {y : A}, (zipA xs ys)[i]? = some y → ∃ a b, xs[i]? = some a ∧ ys[i]? = some b ∧ y = .tup [a, b]
  | [], _, _, _, h => by simp [zipA] at h
  | _ :: _, [], _, _, h => by simp [zipA] at h
  | x :: xs, z :: ys, 0, y, h => by simp [zipA] at h; exact ⟨x, z, rfl, rfl, h.symm⟩
  | x :: xs, z :: ys, i + 1, y, h => by
    simp only [zipA, List.getElem?_cons_succ] at h ⊢
    exact zipA_at h
section
variable {X : Cx} {μ : Mu} {Q : A → Mu → Prop} {x y : A} {xs ys : List A}
/-- == of lists, ours or for good -/
theorem wO_eqL (hu : X.A.units + 64 < cLine) (hx : IsL μ x xs) (hy : IsL μ y ys) (dx : DatOk (.lst xs)) (dy : DatOk (.lst ys)) (q : Q (.bl (PyData.eqv (toD (.lst xs)) (toD (.lst ys)))) μ) : wO X (compareOp .Eq) x y μ Q :=
  wO_of (op_eqD hu) fun M F H v w rl r1 r2 => by
    obtain ⟨a, vs, e1, h1, h2⟩ := hx.rep rl r1
    obtain ⟨b, ws, e2, g1, g2⟩ := hy.rep rl r2
    have d1 : Dp X.K H v (toD (.lst xs)) := dp_of dx.1 (rep_lst.mpr ⟨a, vs, e1, h1, h2.mono rl.sub⟩)
    have d2 : Dp X.K H w (toD (.lst ys)) := dp_of dy.1 (rep_lst.mpr ⟨b, ws, e2, g1, g2.mono rl.sub⟩)
    exact ⟨_, _, d1, d2, dx.shaped, dy.shaped, .pure rl (rep_bl.mpr rfl) q⟩
theorem wO_neL (hu : X.A.units + 64 < cLine) (hx : IsL μ x xs) (hy : IsL μ y ys) (dx : DatOk (.lst xs)) (dy : DatOk (.lst ys)) (q : Q (.bl (!PyData.eqv (toD (.lst xs)) (toD (.lst ys)))) μ) : wO X (compareOp .NotEq) x y μ Q :=
  wO_of (op_neD hu) fun M F H v w rl r1 r2 => by
    obtain ⟨a, vs, e1, h1, h2⟩ := hx.rep rl r1
    obtain ⟨b, ws, e2, g1, g2⟩ := hy.rep rl r2
    have d1 : Dp X.K H v (toD (.lst xs)) := dp_of dx.1 (rep_lst.mpr ⟨a, vs, e1, h1, h2.mono rl.sub⟩)
    have d2 : Dp X.K H w (toD (.lst ys)) := dp_of dy.1 (rep_lst.mpr ⟨b, ws, e2, g1, g2.mono rl.sub⟩)
    exact ⟨_, _, d1, d2, dx.shaped, dy.shaped, .pure rl (rep_bl.mpr rfl) q⟩
end
theorem datInts (ns : List Int) : DatOk (.lst (ns.map A.int)) := by
  refine ⟨by simp only [isD]; exact isDs_map (fun _ => by simp only [isD]) ns, ?_⟩
  have : deeps (ns.map A.int) ≤ 0 := deeps_le fun a ha => by
    obtain ⟨n, _, rfl⟩ := List.mem_map.mp ha
    simp [deep]
  simp only [deep]; omega
theorem datNil : DatOk (.lst []) := ⟨rfl, by simp [deep, deeps]⟩
theorem eqvNil (xs : List A) : PyData.eqv (toD (.lst xs)) (toD (.lst [])) = xs.isEmpty := by
  cases xs with
  | nil => simp [toD, toDs, PyData.eqv, PyData.eqvAll]
  | cons x xs => simp [toD, toDs, PyData.eqv, PyData.eqvAll]
/-- sixty-four numbers -/
def G64 (fs : List Int) : Prop := fs.length = 64 ∧ ∀ v ∈ fs, 0 ≤ v ∧ v < 2 ^ 31
theorem G64.at {fs : List Int} (h : G64 fs) {i : Int} (h0 : 0 ≤ i) (h1 : i < 64) : ∃ v, atI (fs.map A.int) i = some (.int v) ∧ 0 ≤ v ∧ v < 2 ^ 31 := by
  have hi : i.toNat < fs.length := by rw [h.1]; omega
  refine ⟨fs[i.toNat], atI_pos (by rw [List.getElem?_map, List.getElem?_eq_getElem hi]; rfl) h0, h.2 _ (List.getElem_mem hi)⟩
theorem G64.set {fs : List Int} (h : G64 fs) (n : Nat) {v : Int} (h0 : 0 ≤ v) (h1 : v < 2 ^ 31) : G64 (fs.set n v) := by
  refine ⟨by rw [List.length_set]; exact h.1, fun u hu => ?_⟩
  rcases List.mem_or_eq_of_mem_set hu with hu | rfl
  · exact h.2 u hu
  · exact ⟨h0, h1⟩
theorem set_map {α : Type} (f : α → A) (l : List α) (n : Nat) (v : α) : (l.map f).set n (f v) = (l.set n v).map f := by rw [List.map_set]
theorem ixN_pos {n : Nat} {i : Int} (h0 : 0 ≤ i) (h1 : i < n) : ixN n i = some i.toNat := by
  unfold ixN; rw [if_pos h0, if_pos h1]
/-- what a law draws by: the dict at m, its list at l; at most c draws so far -/
structure Lw (m l : Addr) (c : Nat) (μ : Mu) : Prop where
  ex : ∃ (fs left : List Int) (at_ room : Int), μ m = some (.dic [(.inr "cells", .lst (fs.map A.int)), (.inr "left", .loc l), (.inr "at", .int at_), (.inr "room", .int room)]) ∧ μ l = some (.lst (left.map A.int)) ∧ G64 fs ∧ left.length ≤ 63 ∧ 0 ≤ at_ ∧ at_ ≤ c
  ne : l ≠ m
theorem Lw.up {m l : Addr} {c d : Nat} {μ : Mu} (h : Lw m l c μ) (hd : c ≤ d) : Lw m l d μ := by
  obtain ⟨⟨fs, left, a, r, h1, h2, h3, h4, h5, h6⟩, h7⟩ := h
  exact ⟨⟨fs, left, a, r, h1, h2, h3, h4, h5, by omega⟩, h7⟩
/-- all else stands -/
def Ls (m l : Addr) (μ μ' : Mu) : Prop := ∀ p o, p ≠ m → p ≠ l → μ p = some o → μ' p = some o
theorem Ls.refl {m l : Addr} (μ : Mu) : Ls m l μ μ := fun _ _ _ _ h => h
theorem Ls.trans {m l : Addr} {μ μ1 μ2 : Mu} (a : Ls m l μ μ1) (b : Ls m l μ1 μ2) : Ls m l μ μ2 := fun p o h1 h2 h => b p o h1 h2 (a p o h1 h2 h)
theorem Ls.m {m l : Addr} {μ : Mu} {o : MO} : Ls m l μ (μ.upd m o) := fun p o h1 h2 h => by rw [Mu.upd_ne h1]; exact h
theorem Ls.l {m l : Addr} {μ : Mu} {o : MO} : Ls m l μ (μ.upd l o) := fun p o h1 h2 h => by rw [Mu.upd_ne h2]; exact h
theorem Lw.sub {m l : Addr} {c : Nat} {μ μ' : Mu} (h : Lw m l c μ) (s : Sub μ μ') : Lw m l c μ' := by
  obtain ⟨⟨fs, left, a, r, h1, h2, h3⟩, h7⟩ := h
  exact ⟨⟨fs, left, a, r, s _ _ h1, s _ _ h2, h3⟩, h7⟩
/-- a new cell is neither m nor l -/
theorem Lw.off {m l : Addr} {c : Nat} {μ : Mu} (h : Lw m l c μ) {p : Addr} (n : μ p = none) : p ≠ m ∧ p ≠ l := by
  obtain ⟨⟨fs, left, a, r, h1, h2, h3⟩, h7⟩ := h
  exact ⟨fun z => by (rw [z, h1] at n; cases n), fun z => by (rw [z, h2] at n; cases n)⟩
end D

set_option Elab.async false
set_option linter.all false
set_option maxRecDepth 100000
set_option maxHeartbeats 4000000
/-! DF: small things of use in many laws. -/
namespace D
open PySem PySem.Spec PyProof.Rows L2
theorem szOk {n : Nat} (h : n ≤ 16777215) : n ≤ sizeLine := Nat.le_trans h (by decide)
theorem szLt {n : Nat} (h : n ≤ 16777215) : n < sizeLine := Nat.lt_of_le_of_lt h (by decide)
theorem and_flip {a b : Prop} (hb : b) (ha : a) : a ∧ b := ⟨ha, hb⟩
theorem Ar.bk {X : Cx} {k : Nat} (h : Ar X k) {scope : Scope} {s0 : Shared} {H0 : Hp} {C : Addr} {cl : List (Str × Addr)} {fp : List Addr} : Ar (D.bk X scope s0 H0 C cl fp) k := ⟨h.room, h.show0⟩
section
variable {X : Cx} {Γ : G} {μ : Mu} {Q : A → Mu → Prop} {x : A} {xs : List A} {i : Int} {y : A}
theorem wI_tl (h : x = .tup xs ∨ x = .lst xs) (e : atI xs i = some y) (q : Q y μ) : wI X x (.int i) μ Q := by
  rcases h with rfl | rfl
  · exact wI_tup e q
  · exact wI_lst e q
end
theorem atInt {l : List Int} {i : Int} (k : Nat) (h0 : i = k) (h : k < l.length) : atI (l.map A.int) i = some (.int (l.getD k 0)) := by
  subst h0
  refine atI_pos ?_ (by omega)
  rw [Int.toNat_natCast, List.getElem?_map, List.getElem?_eq_getElem h]
  simp [List.getD_eq_getElem?_getD, List.getElem?_eq_getElem h]
theorem atLast {α : Type} {l : List α} {y : α} (h : l[l.length - 1]? = some y) : atI l (-1) = some y := by
  have hl : 0 < l.length := by have := (List.getElem?_eq_some_iff.mp h).1; omega
  refine atI_neg (by rw [show ((-1 : Int) + l.length).toNat = l.length - 1 by omega]; exact h) (by omega) (by omega)
theorem cut1 (l : List A) : cutA l (some 1) none = l.drop 1 := by
  unfold cutA HT.sIx
  simp only [show ¬ ((1 : Int) < 0) by omega, if_false]
  cases l with
  | nil => rfl
  | cons x l =>
    have e : min (1 : Int).toNat (x :: l).length = 1 := by simp
    rw [e]
    exact List.take_of_length_le (by simp)
theorem cut1_at {α : Type} {f : α → A} {l : List α} {i : Nat} {y : A} (h : (cutA (l.map f) (some 1) none)[i]? = some y) : (l.map f)[i + 1]? = some y := by
  rw [cut1, List.getElem?_drop, Nat.add_comm] at h; exact h
def minL : List Int → Int
  | [] => 0
  | [x] => x
  | x :: y :: l => if x ≤ minL (y :: l) then x else minL (y :: l)
theorem minL_spec : ∀ {l : List Int}, 0 < l.length → minL l ∈ l ∧ ∀ y ∈ l, minL l ≤ y
  | [], h => by simp at h
  | [x], _ => by simp [minL]
  | x :: y :: l, _ => by
    obtain ⟨h1, h2⟩ := minL_spec (l := y :: l) (by simp)
    simp only [minL]
    split
    · rename_i hc
      refine ⟨by simp, fun z hz => ?_⟩
      rcases List.mem_cons.mp hz with rfl | hz
      · omega
      · have := h2 z hz; omega
    · rename_i hc
      refine ⟨List.mem_cons_of_mem _ h1, fun z hz => ?_⟩
      rcases List.mem_cons.mp hz with rfl | hz
      · omega
      · exact h2 z hz
theorem minL_eq {l : List Int} {m : Int} (h1 : m ∈ l) (h2 : ∀ y ∈ l, m ≤ y) : m = minL l := by
  obtain ⟨g1, g2⟩ := minL_spec (List.length_pos_of_mem h1)
  have := h2 _ g1
  have := g2 _ h1
  omega
mutual
theorem eqvInts_ : ∀ a b : List Int, PyData.eqvAll (toDs (a.map A.int)) (toDs (b.map A.int)) = decide (a = b)
  | [], [] => by simp [toDs, PyData.eqvAll]
  | [], y :: b => by simp [toDs, PyData.eqvAll]
  | x :: a, [] => by simp [toDs, PyData.eqvAll]
  | x :: a, y :: b => by
    simp only [List.map_cons, toDs, toD, PyData.eqvAll, PyData.eqv, eqvInts_ a b]
    by_cases h : x = y <;> by_cases h2 : a = b <;> simp [h, h2]
end
theorem eqvInts (a b : List Int) : PyData.eqv (toD (.lst (a.map A.int))) (toD (.lst (b.map A.int))) = decide (a = b) := by
  simp only [toD, PyData.eqv]; exact eqvInts_ a b
end D

set_option Elab.async false
set_option linter.all false
set_option maxRecDepth 100000
set_option maxHeartbeats 4000000
/-! DG: pop, extend, remove; chained comparisons. -/
namespace D
open PySem PySem.Spec PyProof.Rows L2
section
variable {X : Cx} {Γ : G} {μ : Mu} {Q : A → Mu → Prop} {QB : Bool → Mu → Prop} {o e a b c : Expr} {apos cpos pos : Pos}
theorem RepL.dropLast {K : PySem.W.Frag} {F : Hp} {xs : List A} {vs : List V} (h : RepL K F xs vs) : RepL K F xs.dropLast vs.dropLast := by
  rw [List.dropLast_eq_take, List.dropLast_eq_take, h.len]; exact h.take _
theorem wE_pop (h : wE X o Γ μ fun x μ1 => ∃ p ys y, x = .loc p ∧ μ1 p = some (.lst (ys ++ [y])) ∧ Q y (μ1.upd p (.lst ys)))
    (hbase : attributeBase o "pop" X.env (eval o X.env) = eval o X.env := by rfl)
    (hline : (apos.endLine == cpos.line) = true := by rfl) : wE X (.Call (.Attribute o "pop" apos) [] [] cpos) Γ μ Q :=
  wE_of (pe_bm0 PySem.F.plainAttrs_list PySem.F.slot_list_pop PySem.F.type_list_pop mt_pop pe_rd hbase hline) fun σ M F H rs r => by
  refine (h σ M F H rs r).imp fun v H1 ⟨x, F1, μ1, e1, r1, p1, p, ys, y, ex, hp, q1⟩ => ?_
  subst ex; rw [rep_loc] at p1
  obtain ⟨_, ob, k1, vs, rfl, k2⟩ := r1.own p _ hp
  refine ⟨by rw [p1]; exact .inl ⟨rfl, _, .inl (.inl k1)⟩, ?_⟩
  have hl : (ys ++ [y])[vs.length - 1]? = some y := by rw [k2.len]; simp
  obtain ⟨w, g1, g2⟩ := k2.get hl
  refine ⟨p, vs, w, p1, rfl, k1, g1, y, F1, _, e1, r1.write hp (m' := .lst ys) ⟨_, rfl, ?_⟩, g2, q1⟩
  have := RepL.dropLast k2
  rwa [List.dropLast_concat] at this
theorem wE_extend (h : wE X o Γ μ fun x μ1 => ∃ p ys0, x = .loc p ∧ μ1 p = some (.lst ys0) ∧ wE X e Γ μ1 fun y μ2 => ∃ ys zs, μ2 p = some (.lst ys) ∧ IsL μ2 y zs ∧ ys.length + zs.length ≤ sizeLine ∧ Q .non (μ2.upd p (.lst (ys ++ zs))))
    (hbase : attributeBase o "extend" X.env (eval o X.env) = eval o X.env := by rfl)
    (hfew : ((backTo cpos (starEach [e] X.env)).all (fun x => !x.1) && (backToKw cpos (keywordEach [] X.env)).all (fun x => x.1.isSome) && decide (([e] : List Expr).length + ([] : List Keyword).length + (if ([] : List Keyword).isEmpty then 0 else 1) < 30)) = true := by rfl)
    (hline : (apos.endLine == cpos.line) = true := by rfl) (hs : starEach [e] X.env = (false, eval e X.env) :: starEach [] X.env := by rfl) (hplain : (backTo cpos (starEach [] X.env)).any (·.1) = false := by rfl) : wE X (.Call (.Attribute o "extend" apos) [e] [] cpos) Γ μ Q :=
  wE_of (pe_bm PySem.F.plainAttrs_list PySem.F.slot_list_extend PySem.F.type_list_extend mt_extend pe_rd (pa_cons pe_rd pa_nil hs) hbase hfew hline hs hplain) fun σ M F H rs r => by
  refine (h σ M F H rs r).imp fun v H1 ⟨x, F1, μ1, e1, r1, p1, p, ys0, ex, hp, q1⟩ => ?_
  subst ex; rw [rep_loc] at p1
  obtain ⟨_, ob, k1, vs, rfl, k2⟩ := r1.own p _ hp
  refine ⟨by rw [p1]; exact .inl ⟨rfl, _, .inl (.inl k1)⟩, ?_⟩
  refine (q1 σ M F1 H1 (rs.mono e1) r1).imp fun w H2 ⟨y, F2, μ2, e2, r2, p2, ys, zs, hq, hy, hz, q2⟩ => ?_
  obtain ⟨_, ob, k3, ws, rfl, k4⟩ := r2.own p _ hq
  obtain ⟨b, us, rfl, h1, h2⟩ := hy.rep r2 p2
  exact ⟨p, b, ws, us, p1, rfl, k3, h1, by rw [k4.len, h2.len]; exact hz, _, F2, _, e1.trans e2, r2.write hq (m' := .lst (ys ++ zs)) ⟨_, rfl, k4.append h2⟩, rep_non.mpr rfl, q2⟩
theorem wE_removeI (h : wE X o Γ μ fun x μ1 => ∃ p ys0, x = .loc p ∧ μ1 p = some (.lst ys0) ∧ wE X e Γ μ1 fun y μ2 => ∃ (ns : List Int) (k : Int), y = .int k ∧ μ2 p = some (.lst (ns.map A.int)) ∧ k ∈ ns ∧ Q .non (μ2.upd p (.lst ((ns.erase k).map A.int))))
    (hbase : attributeBase o "remove" X.env (eval o X.env) = eval o X.env := by rfl)
    (hfew : ((backTo cpos (starEach [e] X.env)).all (fun x => !x.1) && (backToKw cpos (keywordEach [] X.env)).all (fun x => x.1.isSome) && decide (([e] : List Expr).length + ([] : List Keyword).length + (if ([] : List Keyword).isEmpty then 0 else 1) < 30)) = true := by rfl)
    (hline : (apos.endLine == cpos.line) = true := by rfl) (hs : starEach [e] X.env = (false, eval e X.env) :: starEach [] X.env := by rfl) (hplain : (backTo cpos (starEach [] X.env)).any (·.1) = false := by rfl) : wE X (.Call (.Attribute o "remove" apos) [e] [] cpos) Γ μ Q :=
  wE_of (pe_bm PySem.F.plainAttrs_list PySem.F.slot_list_remove PySem.F.type_list_remove mt_remove pe_rd (pa_cons pe_rd pa_nil hs) hbase hfew hline hs hplain) fun σ M F H rs r => by
  refine (h σ M F H rs r).imp fun v H1 ⟨x, F1, μ1, e1, r1, p1, p, ys0, ex, hp, q1⟩ => ?_
  subst ex; rw [rep_loc] at p1
  obtain ⟨_, ob, k1, vs, rfl, k2⟩ := r1.own p _ hp
  refine ⟨by rw [p1]; exact .inl ⟨rfl, _, .inl (.inl k1)⟩, ?_⟩
  refine (q1 σ M F1 H1 (rs.mono e1) r1).imp fun w H2 ⟨y, F2, μ2, e2, r2, p2, ns, k, ey, hq, hk, q2⟩ => ?_
  subst ey; rw [rep_int] at p2; subst p2
  obtain ⟨_, ob, k3, ws, rfl, k4⟩ := r2.own p _ hq
  have e9 := repL_ints k4
  subst e9
  obtain ⟨j, _, j1, j2, j3⟩ := first_at hk
  refine ⟨p, ns, k, j, p1, rfl, k3, j1, j2, ?_⟩
  rw [j3]
  exact ⟨_, F2, _, e1.trans e2, r2.write hq (m' := .lst ((ns.erase k).map A.int)) ⟨_, rfl, .map (fun i => rep_int.mpr rfl) _⟩, rep_non.mpr rfl, q2⟩
theorem wT_chain2 {op op' : CmpOp} (h : wE X a Γ μ fun x μ1 => wE X b Γ μ1 fun y μ2 => wO X (compareOp op) x y μ2 fun z μ3 => ∃ k, z = .bl k ∧ (k = true → wE X c Γ μ3 fun w μ4 => wO X (compareOp op') y w μ4 fun z μ5 => ∃ k, z = .bl k ∧ QB k μ5) ∧ (k = false → QB false μ3))
    (hm : lastMarks [op, op'] [b, c] = false := by with_unfolding_all rfl) : wT X (.Compare a [op, op'] [b, c] pos) Γ μ QB := wT_of (pt_chain opr_rd opr_rd pe_rd pe_rd pe_rd hm) fun σ M F H rs r => by
  refine (h σ M F H rs r).imp fun v H1 ⟨x, F1, μ1, e1, r1, p1, q1⟩ => ?_
  refine (q1 σ M F1 H1 (rs.mono e1) r1).imp fun w H2 ⟨y, F2, μ2, e2, r2, p2, q2⟩ => ?_
  refine ⟨fun pins s σ' v' u' I hv hw => ?_⟩
  refine thn ((q2 M F2 H2 v w r2 (p1.mono e2) p2).o pins s σ' v' u' I hv hw) fun _ _ ⟨z, H3, I3, r3, x3, F3, μ3, e3, rl3, p3, k, ek, q3, q4⟩ => ?_
  subst ek; rw [rep_bl] at p3
  refine ⟨z, H3, I3, r3, k, p3, ?_⟩
  have e12 := (e1.trans e2).trans e3
  cases k with
  | false => exact iteF ⟨false, rfl, F3, μ3, e12, rl3, q4 rfl⟩
  | true =>
    refine iteT ((q3 rfl σ M F3 H3 (rs.mono e12) rl3).imp fun w' H4 ⟨y', F4, μ4, e4, r4, p4, q5⟩ => ?_)
    refine ⟨fun pins s σ' v' u' I hv hw => ?_⟩
    exact thn ((q5 M F4 H4 w w' r4 (p2.mono (e3.trans e4)) p4).o pins s σ' v' u' I hv hw) fun _ _ ⟨z', H5, I5, r5, x5, F5, μ5, e5, rl5, p5, k', ek', q6⟩ => by
      subst ek'; rw [rep_bl] at p5
      exact ⟨z', H5, I5, r5, k', p5, F5, μ5, (e12.trans e4).trans e5, rl5, q6⟩
end
end D

set_option Elab.async false
set_option linter.all false
set_option maxRecDepth 100000
set_option maxHeartbeats 4000000
/-! DH: methods of texts; int(text). -/
namespace D
open PySem PySem.Spec PyProof.Rows L2
section
variable {X : Cx} {Γ : G} {μ : Mu} {Q : A → Mu → Prop} {o e : Expr} {apos pos : Pos}
def rdM (X : Cx) (id : String) : V → List V → Hp → VK → Prop := fun x xs H Q => Bx (∀ (pins : List (Addr × Obj)) (s : Shared) (σ : L2.St) (v : Value) (us : List Value), Inv X pins σ H s → RelV x v → Vals xs us → wpAny (model X.prog X.w) X.A (call (.builtin id) (v :: us)) (EP X pins σ Q) X.xe s)
theorem mtr_rd {id : String} : MtR X id (rdM X id) := fun pins s σ H x xs v us Q I rx rs h => h.o pins s σ v us I rx rs
def wM (X : Cx) (id : String) (x : A) (xs : List A) (μ : Mu) (Q : A → Mu → Prop) : Prop := ∀ M F H v vs, Rel X.K μ M F H → Rep X.K F x v → RepL X.K F xs vs → rdM X id v vs H (QE X.K M F Q)
theorem wM_of {id : String} {r : V → List V → Hp → VK → Prop} {x : A} {xs : List A} (h : MtR X id r) (q : ∀ M F H v vs, Rel X.K μ M F H → Rep X.K F x v → RepL X.K F xs vs → r v vs H (QE X.K M F Q)) : wM X id x xs μ Q :=
  fun M F H v vs rl r1 r2 => ⟨fun pins s σ v' us I rx rs => h pins s σ H v vs v' us _ I rx rs (q M F H v vs rl r1 r2)⟩
theorem wE_m0 {id : String} {name : Str} (slot : Slot "str" name id) (ty : typeOf (.builtin id) = pure (.type "method_descriptor")) (h : wE X o Γ μ fun x μ1 => ∃ a, x = .str a ∧ wM X id (.str a) [] μ1 Q)
    (hbase : attributeBase o name X.env (eval o X.env) = eval o X.env := by rfl) (hline : (apos.endLine == pos.line) = true := by rfl) : wE X (.Call (.Attribute o name apos) [] [] pos) Γ μ Q := wE_of (pe_m0 slot ty mtr_rd pe_rd hbase hline) fun σ M F H rs r => by
  refine (h σ M F H rs r).imp fun v H1 ⟨x, F1, μ1, e1, r1, p1, a, ex, q1⟩ => ?_
  subst ex
  refine ⟨⟨a, rep_str.mp p1⟩, ?_⟩
  refine ⟨fun pins s σ' v' us I rx rs' => ?_⟩
  exact thn ((q1 M F1 H1 v [] r1 p1 .nil).o pins s σ' v' us I rx rs') fun _ _ ⟨z, H2, I2, r2, q2⟩ => ⟨z, H2, I2, r2, q2.mono e1⟩
theorem wE_m1 {id : String} {name : Str} (slot : Slot "str" name id) (ty : typeOf (.builtin id) = pure (.type "method_descriptor")) (h : wE X o Γ μ fun x μ1 => ∃ a, x = .str a ∧ wE X e Γ μ1 fun y μ2 => wM X id (.str a) [y] μ2 Q)
    (hs : starEach [e] X.env = [(false, eval e X.env)] := by rfl) (hbase : attributeBase o name X.env (eval o X.env) = eval o X.env := by rfl) (hline : (apos.endLine == pos.line) = true := by rfl) : wE X (.Call (.Attribute o name apos) [e] [] pos) Γ μ Q :=
  wE_of (pe_m1 slot ty mtr_rd pe_rd pe_rd hs hbase hline) fun σ M F H rs r => by
  refine (h σ M F H rs r).imp fun v H1 ⟨x, F1, μ1, e1, r1, p1, a, ex, q1⟩ => ?_
  subst ex
  refine ⟨⟨a, rep_str.mp p1⟩, ?_⟩
  refine (q1 σ M F1 H1 (rs.mono e1) r1).imp fun w H2 ⟨y, F2, μ2, e2, r2, p2, q2⟩ => ?_
  refine ⟨fun pins s σ' v' us I rx rs' => ?_⟩
  exact thn ((q2 M F2 H2 v [w] r2 (p1.mono e2) (.cons p2 .nil)).o pins s σ' v' us I rx rs') fun _ _ ⟨z, H3, I3, r3, q3⟩ => ⟨z, H3, I3, r3, q3.mono (e1.trans e2)⟩
theorem wM_tt {id : String} {g : Str → Str → V} {f : Str → Str → A} {a b : Str} (h : MtR X id (fun x xs H Q => ∃ a b, x = .str a ∧ xs = [.str b] ∧ Q (g a b) H)) (hf : ∀ F, Rep X.K F (f a b) (g a b)) (q : Q (f a b) μ) : wM X id (.str a) [.str b] μ Q := wM_of h fun M F H v vs rl r1 r2 => by
  obtain ⟨w, rfl, r3⟩ := r2.one
  exact ⟨a, b, rep_str.mp r1, by rw [rep_str.mp r3], .pure rl (hf F) q⟩
theorem wM_startswith {a b : Str} (q : Q (.bl (Txt.startswith a b)) μ) : wM X "str.startswith" (.str a) [.str b] μ Q := wM_tt (f := fun a b => .bl (Txt.startswith a b)) mt_startswith (fun F => rep_bl.mpr rfl) q
theorem wM_endswith {a b : Str} (q : Q (.bl (Txt.endswith a b)) μ) : wM X "str.endswith" (.str a) [.str b] μ Q := wM_tt (f := fun a b => .bl (Txt.endswith a b)) mt_endswith (fun F => rep_bl.mpr rfl) q
theorem wM_partition {a b : Str} (hb : (b.length == 0) = false) (hz : a.length ≤ sizeLine) (q : Q (.tup [.str (Txt.partition a b).1, .str (Txt.partition a b).2.1, .str (Txt.partition a b).2.2]) μ) : wM X "str.partition" (.str a) [.str b] μ Q := wM_of mt_partition fun M F H v vs rl r1 r2 => by
  obtain ⟨w, rfl, r3⟩ := r2.one
  refine ⟨a, b, rep_str.mp r1, by rw [rep_str.mp r3], hb, hz, fun p np => ?_⟩
  obtain ⟨ex, rl'⟩ := rl.newF (o := .tup [.str (Txt.partition a b).1, .str (Txt.partition a b).2.1, .str (Txt.partition a b).2.2]) np
  exact ⟨_, _, _, ex, rl', rep_tup.mpr ⟨p, _, rfl, .inl (.inl upd_same), .cons (rep_str.mpr rfl) (.cons (rep_str.mpr rfl) (.cons (rep_str.mpr rfl) .nil))⟩, q⟩
theorem repL_mkS {K : PySem.W.Frag} {F : Hp} (ys : List Str) : RepL K F (ys.map A.str) (ys.map V.str) := by
  induction ys with
  | nil => exact .nil
  | cons y ys ih => exact .cons (rep_str.mpr rfl) ih
theorem wM_split {a b : Str} (hb : (b.length == 0) = false) (hz : a.length + 2 ≤ sizeLine) (q : Q (.lst ((Txt.split a b).map A.str)) μ) : wM X "str.split" (.str a) [.str b] μ Q := wM_of mt_split fun M F H v vs rl r1 r2 => by
  obtain ⟨w, rfl, r3⟩ := r2.one
  refine ⟨a, b, rep_str.mp r1, by rw [rep_str.mp r3], hb, hz, fun p np => ?_⟩
  obtain ⟨ex, rl'⟩ := rl.newF (o := .lst ((Txt.split a b).map V.str)) np
  exact ⟨_, _, _, ex, rl', rep_lst.mpr ⟨p, _, rfl, upd_same, repL_mkS _⟩, q⟩
theorem wM_words {a : Str} (hz : a.length + 2 ≤ sizeLine) (q : Q (.lst ((Txt.words a).map A.str)) μ) : wM X "str.split" (.str a) [] μ Q := wM_of mt_words fun M F H v vs rl r1 r2 => by
  refine ⟨a, rep_str.mp r1, by simpa [RepL] using r2, hz, fun p np => ?_⟩
  obtain ⟨ex, rl'⟩ := rl.newF (o := .lst ((Txt.words a).map V.str)) np
  exact ⟨_, _, _, ex, rl', rep_lst.mpr ⟨p, _, rfl, upd_same, repL_mkS _⟩, q⟩
theorem wM_join {a : Str} {x : A} {ys : List Str} (hx : IsL μ x (ys.map A.str) ∨ x = .tup (ys.map A.str)) (hz : (ys.map (·.length)).sum + ys.length * a.length ≤ 16777216) (q : Q (.str (Txt.join a ys)) μ) : wM X "str.join" (.str a) [x] μ Q := wM_of mt_join fun M F H v vs rl r1 r2 => by
  obtain ⟨w, rfl, r3⟩ := r2.one
  rcases hx with hx | rfl
  · obtain ⟨p, ws, rfl, h1, h2⟩ := hx.rep rl r3
    rw [repL_strs h2] at h1
    exact ⟨a, p, ys, rep_str.mp r1, rfl, .inl (.inl (.inl h1)), hz, .pure rl (rep_str.mpr rfl) q⟩
  · rw [rep_tup] at r3
    obtain ⟨p, ws, rfl, h1, h2⟩ := r3
    rw [repL_strs h2] at h1
    exact ⟨a, p, ys, rep_str.mp r1, rfl, .inr (rl.sub.t h1), hz, .pure rl (rep_str.mpr rfl) q⟩
theorem wM_strip {a : Str} (hz : a.length ≤ sizeLine) (q : Q (.str (Txt.strip a)) μ) : wM X "str.strip" (.str a) [] μ Q := wM_of mt_strip fun M F H v vs rl r1 r2 => ⟨a, rep_str.mp r1, by simpa [RepL] using r2, hz, .pure rl (rep_str.mpr rfl) q⟩
theorem wC_intS {a : Str} {n : Int} (hn : PySem.intText? a = some n) (hl : a.length ≤ 640) (q : Q (.int n) μ) : wC X (.type "int") [.str a] μ Q := wC_of call_int_str fun M F H vs rl r => by
  obtain ⟨v, rfl, h⟩ := r.one; rw [rep_str] at h; subst h
  exact ⟨a, n, rfl, hn, hl, .pure rl (rep_int.mpr rfl) q⟩
end
end D

set_option Elab.async false
set_option linter.all false
set_option maxRecDepth 100000
set_option maxHeartbeats 4000000
/-! DI: great numbers, and fractions in lowest terms. -/
namespace D
open PySem PySem.Spec PyProof.Rows L2
theorem log2_100 {i : Int} (h0 : 0 < i) (h1 : i < 2 ^ 100) : i.natAbs.log2 < 9000 := by
  have : i.natAbs < 2 ^ 100 := by omega
  exact Nat.lt_of_lt_of_le ((Nat.log2_lt (by omega)).mpr this) (by decide)
/-- a number of at most n bits -/
def Bd (n : Nat) (i : Int) : Prop := i.natAbs < 2 ^ n
theorem Bd.mono {n m : Nat} {i : Int} (h : Bd n i) (hm : n ≤ m) : Bd m i := Nat.lt_of_lt_of_le h (Nat.pow_le_pow_right (by decide) hm)
theorem Bd.mul {n m : Nat} {i j : Int} (hi : Bd n i) (hj : Bd m j) : Bd (n + m) (i * j) := by
  unfold Bd; rw [Int.natAbs_mul, Nat.pow_add]; exact Nat.mul_lt_mul'' hi hj
theorem Bd.add {n : Nat} {i j : Int} (hi : Bd n i) (hj : Bd n j) : Bd (n + 1) (i + j) := by
  unfold Bd at *; rw [Nat.pow_succ]; omega
theorem Bd.sub {n : Nat} {i j : Int} (hi : Bd n i) (hj : Bd n j) : Bd (n + 1) (i - j) := by
  unfold Bd at *; rw [Nat.pow_succ]; omega
theorem Bd.log {n : Nat} {i : Int} (h : Bd n i) (hn : 0 < n) : i.natAbs.log2 < n := by
  rcases Nat.eq_zero_or_pos i.natAbs with h0 | h0
  · rw [h0]; simpa using hn
  · exact (Nat.log2_lt (by omega)).mpr h
theorem Bd.of {n : Nat} {i : Int} (h1 : -(2 ^ n : Nat) < i) (h2 : i < (2 ^ n : Nat)) : Bd n i := by unfold Bd; omega
theorem Bd.mulOk {n : Nat} {i j : Int} (hi : Bd n i) (hj : Bd n j) (hn : n ≤ 2 ^ 20) : IntMulOk i j := by
  have key : ∀ {x : Int}, Bd n x → Builtin.Int.intBits x ≤ 2 ^ 20 := fun {x} hx => by
    unfold Builtin.Int.intBits
    split
    · decide
    · rename_i h
      have h0 : x.natAbs ≠ 0 := by simpa using h
      have := (Nat.log2_lt h0).mpr hx
      omega
  exact IntMulOk.of_bits (key hi) (key hj)
theorem Bd.noPy {n : Nat} {i j : Int} (hj : Bd n j) (hn : n ≤ 9000) (h0 : 0 < n) : Builtin.divisionGoesByPylong i j = false := PyProof.noPylong_of_log2 (Nat.lt_of_lt_of_le (hj.log h0) hn)
/-- the sign of d on the greatest part of both -/
def part (n d : Int) : Int := if 0 < d then (Int.gcd n d : Int) else 0 - (Int.gcd n d : Int)
def lowN (n d : Int) : Int := n.fdiv (part n d)
def lowD (n d : Int) : Int := d.fdiv (part n d)
def low (n d : Int) : A := .tup [.int (lowN n d), .int (lowD n d)]
theorem part_ne {n d : Int} (h : d ≠ 0) : part n d ≠ 0 := by
  have : 0 < Int.gcd n d := Int.gcd_pos_of_ne_zero_right _ h
  unfold part; split <;> omega
theorem part_bd {n d : Int} {k : Nat} (h : d ≠ 0) (hd : Bd k d) : Bd k (part n d) := by
  have h1 : Int.gcd n d ≤ d.natAbs := Nat.le_of_dvd (by omega) (Int.gcd_dvd_natAbs_right n d)
  unfold Bd at *
  have : (part n d).natAbs = Int.gcd n d := by unfold part; split <;> omega
  omega
theorem part_n {n d : Int} : part n d ∣ n := by
  have := Int.gcd_dvd_left n d
  unfold part; split
  · exact this
  · rw [show (0 : Int) - (Int.gcd n d : Int) = -(Int.gcd n d : Int) by omega]; exact (Int.neg_dvd).mpr this
theorem part_d {n d : Int} : part n d ∣ d := by
  have := Int.gcd_dvd_right n d
  unfold part; split
  · exact this
  · rw [show (0 : Int) - (Int.gcd n d : Int) = -(Int.gcd n d : Int) by omega]; exact (Int.neg_dvd).mpr this
theorem lowN_eq {n d : Int} (h : d ≠ 0) : lowN n d * part n d = n := by unfold lowN; rw [Int.fdiv_eq_ediv_of_dvd part_n, Int.ediv_mul_cancel part_n]
theorem lowD_eq {n d : Int} (h : d ≠ 0) : lowD n d * part n d = d := by unfold lowD; rw [Int.fdiv_eq_ediv_of_dvd part_d, Int.ediv_mul_cancel part_d]
end D
namespace D
open PySem PySem.Spec PyProof.Rows L2
/-- a fraction in lowest terms -/
structure Fr (n d : Int) : Prop where
  pos : 0 < d
  low : Int.gcd n d = 1
theorem part_pos {n d : Int} (h : 0 < d) : part n d = (Int.gcd n d : Int) := by unfold part; rw [if_pos h]
theorem low_fr {n d : Int} (h : 0 < d) : Fr (lowN n d) (lowD n d) := by
  have hg : 0 < Int.gcd n d := Int.gcd_pos_of_ne_zero_right _ (by omega)
  have e1 : lowN n d = n / (Int.gcd n d : Int) := by unfold lowN; rw [Int.fdiv_eq_ediv_of_dvd part_n, part_pos h]
  have e2 : lowD n d = d / (Int.gcd n d : Int) := by unfold lowD; rw [Int.fdiv_eq_ediv_of_dvd part_d, part_pos h]
  refine ⟨?_, by rw [e1, e2]; exact Int.gcd_ediv_gcd_ediv_gcd hg⟩
  have h2 := lowD_eq (n := n) (d := d) (by omega)
  rw [part_pos h] at h2
  refine Int.pos_of_mul_pos_left (b := (Int.gcd n d : Int)) ?_ (by omega)
  omega
theorem lowN_le {n d : Int} (h : d ≠ 0) : (lowN n d).natAbs ≤ n.natAbs := by
  have h1 := lowN_eq (n := n) h
  have h2 : 0 < (part n d).natAbs := by have := part_ne (n := n) h; omega
  have e : n.natAbs = (lowN n d).natAbs * (part n d).natAbs := by rw [← Int.natAbs_mul, h1]
  rw [e]; exact Nat.le_mul_of_pos_right _ h2
theorem lowD_le {n d : Int} (h : d ≠ 0) : (lowD n d).natAbs ≤ d.natAbs := by
  have h1 := lowD_eq (n := n) h
  have h2 : 0 < (part n d).natAbs := by have := part_ne (n := n) h; omega
  have e : d.natAbs = (lowD n d).natAbs * (part n d).natAbs := by rw [← Int.natAbs_mul, h1]
  rw [e]; exact Nat.le_mul_of_pos_right _ h2
/-- what is in lowest terms stays so, told in others -/
theorem low_of {n d k : Int} (h : Fr n d) (hk : 0 < k) : low (n * k) (d * k) = .tup [.int n, .int d] := by
  have hd : 0 < d * k := Int.mul_pos h.pos hk
  have g : (Int.gcd (n * k) (d * k) : Int) = k := by rw [Int.gcd_mul_right, h.low]; omega
  have p : part (n * k) (d * k) = k := by rw [part_pos hd, g]
  unfold low lowN lowD
  rw [p, Int.fdiv_eq_ediv_of_dvd ⟨n, Int.mul_comm _ _⟩, Int.fdiv_eq_ediv_of_dvd ⟨d, Int.mul_comm _ _⟩, Int.mul_ediv_cancel _ (by omega), Int.mul_ediv_cancel _ (by omega)]
end D

set_option Elab.async false
set_option linter.all false
set_option maxRecDepth 100000
set_option maxHeartbeats 4000000
/-! DJ: constants of the module, defs with defaults. -/
namespace D
open PySem PySem.Spec PyProof.Rows L2
section
variable {P : Program} {w : World} {mg : Str → Option Value} {base : Heap} {K : PySem.W.Frag}
/-- THE RULE for a def with defaults -/
theorem fnDD {x qual : Str} {st : Stmt} {f : Addr} {fd : FuncData} {N ps : List Str} {k : Nat} {c : AC} {dvs : List V} {kws : List (Str × V)} (F : FunD K x qual (defArgs st) (defBody st) (defScope st) dvs kws f fd) (S : FnScope N ps (defScope st)) (len : ∀ xs μ Q E, c xs μ Q E → xs.length = ps.length)
    (go : ∀ (cdv : Value) (A : Around) (outer : List Env) (s : Shared) (H : Hp) (E : XK) (xs : List D.A) (μ : Mu) (Q : D.A → Mu → Prop) (E0 : Value → Option Addr → Mu → Prop), Ar (cx0 P w K mg base N qual (defScope st) f cdv A outer s H E) k → c xs μ Q E0 →
      wSs (cx0 P w K mg base N qual (defScope st) f cdv A outer s H E) (defBody st) (startA N xs) μ { nx := fun _ μ' => Q .non μ', rt := Q }) : FnD P w K mg base CX0 (k + 1) f fd ps c := by
  obtain ⟨oc, od, dV, kV, doc, pm, an, cdv, ct, osl, rfl, lk, hcd, _, _⟩ := F.ex
  refine FnD.body lk hcd S len fun A outer s H vs Q E room sh sp => rdSs_nox ?_
  obtain ⟨xs, F0, M, μ, Q0, E0, rp, rl, hc, hq, he⟩ := sp
  refine (go cdv A outer s H E xs μ Q0 E0 ⟨room, sh⟩ hc (L2.start N vs) M F0 H (relS_start N rp) rl).imp (fun σ2 H2 q => ?_) (fun v H2 q => ?_) (fun σ2 H2 q => ?_) (fun σ2 H2 q => ?_)
  · obtain ⟨Γ', F', μ', ex, _, rl', q⟩ := q
    exact hq .non μ' F' H2 .non q ex rl' (rep_non.mpr rfl)
  · obtain ⟨y, F', μ', ex, rl', rp', q⟩ := q
    exact hq y μ' F' H2 v q ex rl' rp'
  · obtain ⟨_, _, _, _, _, _, q⟩ := q; exact q
  · obtain ⟨_, _, _, _, _, _, q⟩ := q; exact q
/-- what stands as defaults -/
theorem fund_mk {x qual : Str} {st : Stmt} {f T : Addr} {oc tc : Value} {od an td : Option Addr} {osl tsl : Array (Option Value)} {kV doc pm cdv ct : Value} {its : Array Value} {n : Nat} {dvs : List V}
    (l : K.lookup f = some ⟨oc, od, .func (PySem.W.fnOf x qual (defArgs st) (defBody st) (defScope st) (.ref T) kV doc pm an cdv ct), osl⟩)
    (c : PySem.W.codeIn K cdv qual = true) (k : PySem.W.keepIn K (.ref f) = true) (lT : K.lookup T = some ⟨tc, td, .seq its n, tsl⟩) (hv : Vals dvs its.toList) (hd : dvs ≠ []) :
    FunD K x qual (defArgs st) (defBody st) (defScope st) dvs [] f (PySem.W.fnOf x qual (defArgs st) (defBody st) (defScope st) (.ref T) kV doc pm an cdv ct) :=
  ⟨⟨oc, od, .ref T, kV, doc, pm, an, cdv, ct, osl, rfl, l, c, .inr ⟨hd, T, _, its.toList, n, rfl, lT, rfl, hv⟩, .inl rfl⟩, k⟩
def strOf : Value → Option Str
  | .str x _ => some x
  | _ => none
def intOf : Value → Option Int
  | .int i _ => some i
  | _ => none
theorem vals_strs : ∀ {us : List Value} {ws : List Str}, us.map strOf = ws.map some → Vals (ws.map V.str) us
  | [], [], _ => .nil
  | [], _ :: _, h => by simp at h
  | _ :: _, [], h => by simp at h
  | u :: us, w :: ws, h => by
    simp only [List.map_cons, List.cons.injEq] at h
    refine .cons ?_ (vals_strs h.2)
    have h1 := h.1
    cases u <;> simp [strOf] at h1
    subst h1; exact ⟨_, rfl⟩
theorem vals_nums : ∀ {us : List Value} {ws : List Int}, us.map intOf = ws.map some → Vals (ws.map V.int) us
  | [], [], _ => .nil
  | [], _ :: _, h => by simp at h
  | _ :: _, [], h => by simp at h
  | u :: us, w :: ws, h => by
    simp only [List.map_cons, List.cons.injEq] at h
    refine .cons ?_ (vals_nums h.2)
    have h1 := h.1
    cases u <;> simp [intOf] at h1
    subst h1; exact ⟨_, rfl⟩
theorem kn_int {h : Heap} {x : Str} {i : Int} {t : Tok} (X : K.In h) (G : h.Ns mainGlobals mg) (q : PySem.W.nsIn K mainGlobals x = some (some (.int i t))) : Kn K mg x (.int i) := ⟨.int i, _, PySem.W.mg_of X G q, ⟨_, rfl⟩, fun F => rep_int.mpr rfl⟩
theorem kn_str {h : Heap} {x y z : Str} {t : Tok} (X : K.In h) (G : h.Ns mainGlobals mg) (q : PySem.W.nsIn K mainGlobals x = some (some (.str y t))) (e : y = z) : Kn K mg x (.str z) := by
  subst e
  exact ⟨.str y, _, PySem.W.mg_of X G q, ⟨_, rfl⟩, fun F => rep_str.mpr rfl⟩
theorem repL_strs' {F : Hp} (ws : List Str) : RepL K F (ws.map A.str) (ws.map V.str) := .map (fun w => rep_str.mpr rfl) ws
theorem kn_strs {h : Heap} {x : Str} {p : Addr} {its : Array Value} {n : Nat} {sl : Array (Option Value)} {od : Option Addr} {ws : List Str} (X : K.In h) (G : h.Ns mainGlobals mg) (q : PySem.W.nsIn K mainGlobals x = some (some (.ref p)))
    (l : K.lookup p = some ⟨.type "tuple", od, .seq its n, sl⟩) (e : its.toList.map strOf = ws.map some) (hz : ws.length ≤ 1000) : Kn K mg x (.tup (ws.map A.str)) := by
  have hv := vals_strs e
  have hl : its.size = ws.length := by have := congrArg List.length e; simpa using this
  exact ⟨.ref p, _, PySem.W.mg_of X G q, rfl, fun F => rep_tup.mpr ⟨p, ws.map V.str, rfl, .inr ⟨_, its, n, l, rfl, rfl, by rw [hl]; exact Nat.le_trans hz (by decide), hv⟩, repL_strs' ws⟩⟩
end
end D

set_option Elab.async false
set_option linter.all false
set_option maxRecDepth 100000
set_option maxHeartbeats 4000000
/-! P01: words that write numbers, in plain terms. -/
namespace D
open PySem PySem.Spec PyProof.Rows L2 NumText
def digA (w : Str) : Bool := w.cps.toList.all fun ch => decide (ch ∈ ("0123456789" : Str).cps.toList)
def figIn (w : Str) : Option Int := if (decide ((1 : Int) ≤ w.length) && decide ((w.length : Int) ≤ 4000) && digA w) = true then (if (Txt.startswith w "0" && !decide (w = "0")) = true then none else PySem.intText? w) else none
def optA : Option Int → A
  | none => .non
  | some i => .int i
def wholeOf (w : Str) : Option Int → Option Int
  | none => none
  | some v => if w = "-0" then none else some (if Txt.startswith w "-" = true then 0 - v else v)
def wholeIn (w : Str) : Option Int := wholeOf w (figIn (if Txt.startswith w "-" = true then cutS w (some 1) none else w))
def belowIn (w : Str) : Option Int := if (Txt.partition w "/").2.1 ≠ "" then figIn (Txt.partition w "/").2.2 else some 1
def numOf : Option Int → Option Int → A
  | some n, some d => if d = 0 then .non else low n d
  | _, _ => .non
def numIn (w : Str) : A := numOf (wholeIn (Txt.partition w "/").1) (belowIn w)
theorem fig_mem (c : Nat) : c ∈ ("0123456789" : Str).cps.toList ↔ 48 ≤ c ∧ c ≤ 57 := by
  have e : ("0123456789" : Str).cps.toList = [48, 49, 50, 51, 52, 53, 54, 55, 56, 57] := by decide
  rw [e]
  simp only [List.mem_cons, List.not_mem_nil, or_false]
  omega
theorem digA_all {w : Str} (h : digA w = true) : AllDigits w.cps.toList := fun c hc => by
  have := List.all_eq_true.mp h c hc
  exact (fig_mem c).mp (of_decide_eq_true this)
theorem digitsVal_bound (cs : List Nat) : ∀ acc : Nat, AllDigits cs → cs.foldl (fun acc c => acc * 10 + (c - 48)) acc < (acc + 1) * 10 ^ cs.length := by
  induction cs with
  | nil => intro acc _; simp
  | cons c cs ih =>
    intro acc h
    have hc := h.head
    have := ih (acc * 10 + (c - 48)) h.tail
    rw [List.foldl_cons, List.length_cons, Nat.pow_succ]
    refine Nat.lt_of_lt_of_le this ?_
    have h2 : acc * 10 + (c - 48) + 1 ≤ (acc + 1) * 10 := by omega
    calc _ ≤ (acc + 1) * 10 * 10 ^ cs.length := Nat.mul_le_mul_right _ h2
      _ = _ := by rw [Nat.mul_assoc, Nat.mul_comm 10]
theorem dig_int {w : Str} (h : digA w = true) (h1 : 1 ≤ w.length) (h2 : w.length ≤ 640) : ∃ n : Int, PySem.intText? w = some n ∧ 0 ≤ n ∧ Bd 2200 n := by
  have ha := digA_all h
  have hl : w.cps.toList.length = w.length := Array.length_toList
  refine ⟨_, intText_digits ha (fun z => by rw [z] at hl; simp at hl; omega) (by omega), by omega, ?_⟩
  have hb := digitsVal_bound w.cps.toList 0 ha
  unfold Bd
  rw [Int.natAbs_natCast]
  refine Nat.lt_of_lt_of_le (show digitsVal w.cps.toList < (0 + 1) * 10 ^ w.cps.toList.length from hb) ?_
  rw [Nat.zero_add, Nat.one_mul]
  exact Nat.le_trans (Nat.pow_le_pow_right (by decide) (show w.cps.toList.length ≤ 640 by omega)) (by decide +kernel)
end D

set_option Elab.async false
set_option linter.all false
set_option maxRecDepth 100000
set_option maxHeartbeats 4000000
/-! P02: numbers written and read again; names. -/
namespace D
open PySem PySem.Spec PyProof.Rows L2 TL NumText
theorem starts1 (w : Str) (c : Nat) : Txt.startswith w ⟨#[c]⟩ = decide ((tl w)[0]? = some c) := by
  have h := PySem.StrLaws.subAt_one w c 0
  unfold Txt.startswith
  by_cases e : (tl w)[0]? = some c
  · have h2 := h.mpr e
    rw [decide_eq_true e, h2.2, decide_eq_true h2.1]; rfl
  · rw [decide_eq_false e]
    refine Bool.eq_false_iff.mpr fun z => e (h.mp ?_)
    simpa using z
theorem nought : ("0" : Str) = ⟨#[48]⟩ := by decide
theorem dash : ("-" : Str) = ⟨#[45]⟩ := by decide
/-- what is written of a number, from the number itself -/
def txtN (n : Nat) : Str := Str.ofString (toString ((n : Nat) : Int))
theorem tl_txtN (n : Nat) : tl (txtN n) = numL n := tl_num n
theorem tl_neg (n : Nat) : tl (Str.ofString (toString (Int.negSucc n))) = 45 :: numL (n + 1) := by
  show (Str.ofString ("-" ++ Nat.repr (n + 1))).cps.toList = _
  rw [signs_ofString, String.toList_append, List.map_append, Nat.toList_repr]
  rfl
theorem head48 : ∀ n : Nat, (numL n)[0]? = some 48 → n = 0 := by
  intro n
  induction n using Nat.strongRecOn with
  | _ n ih =>
    intro h
    by_cases hn : n < 10
    · rw [numL_lt hn] at h
      simp at h; omega
    · rw [numL_step (by omega)] at h
      have h0 := numL_ne (n / 10)
      have h1 : (numL (n / 10))[0]? = some 48 := by
        cases e : numL (n / 10) with
        | nil => exact absurd e h0
        | cons x l => rw [e] at h; simpa using h
      have := ih (n / 10) (by omega) h1
      omega
theorem numL_bd {n : Nat} (h : n < 2 ^ 1900) : (numL n).length ≤ 620 := numL_len (by decide) (Nat.lt_of_lt_of_le h (by decide +kernel))
theorem len_txtN {n : Nat} (h : n < 2 ^ 1900) : 1 ≤ (txtN n).length ∧ (txtN n).length ≤ 620 := by
  rw [len_tl, tl_txtN]
  exact ⟨List.length_pos_iff.mpr (numL_ne n), numL_bd h⟩
theorem digA_txtN (n : Nat) : digA (txtN n) = true := by
  unfold digA
  refine List.all_eq_true.mpr fun c hc => decide_eq_true ((fig_mem c).mpr ?_)
  exact numL_digits n c (by rw [← tl_txtN]; exact hc)
theorem figIn_txtN {n : Nat} (h : n < 2 ^ 1900) : figIn (txtN n) = some (n : Int) := by
  obtain ⟨h1, h2⟩ := len_txtN h
  have e1 : PySem.intText? (txtN n) = some (n : Int) := int_num (Nat.le_trans (numL_bd h) (by decide))
  unfold figIn
  rw [digA_txtN, decide_eq_true (show (1 : Int) ≤ (txtN n).length by omega), decide_eq_true (show ((txtN n).length : Int) ≤ 4000 by omega), if_pos (by rfl), e1]
  refine if_neg ?_
  rw [nought, starts1, tl_txtN]
  intro z
  simp only [Bool.and_eq_true, decide_eq_true_eq, Bool.not_eq_true', decide_eq_false_iff_not] at z
  have e2 := head48 n z.1
  subst e2
  exact z.2 (ext_tl (by rw [tl_txtN, numL_lt (by decide)]))
theorem notDash {n : Nat} : (numL n)[0]? ≠ some 45 := fun h => by
  have h1 := List.mem_of_getElem? h
  exact numL_free (Or.inl (by decide)) h1
theorem wholeIn_txt {i : Int} (h : i.natAbs < 2 ^ 1900) : wholeIn (Str.ofString (toString i)) = some i := by
  cases i with
  | ofNat n =>
    have e0 : Str.ofString (toString (Int.ofNat n)) = txtN n := rfl
    have e : Txt.startswith (txtN n) "-" = false := by rw [dash, starts1, tl_txtN]; exact decide_eq_false notDash
    have e3 : txtN n ≠ "-0" := fun z => by
      have z2 := congrArg (fun w => (tl w)[0]?) z
      simp only [tl_txtN] at z2
      exact notDash (n := n) (by rw [z2]; rfl)
    rw [e0]
    unfold wholeIn
    rw [e, if_neg (by simp), figIn_txtN (by simpa using h)]
    unfold wholeOf
    simp only [e, Bool.false_eq_true, if_false, if_neg e3]
    rfl
  | negSucc n =>
    have et := tl_neg n
    generalize hw : Str.ofString (toString (Int.negSucc n)) = w at et
    have e : Txt.startswith w "-" = true := by rw [dash, starts1, et]; rfl
    have e2 : cutS w (some 1) none = txtN (n + 1) := by
      refine ext_tl ?_
      rw [tl_txtN]
      have l1 : w.length = (numL (n + 1)).length + 1 := by rw [len_tl, et]; rfl
      have l2 := List.length_pos_iff.mpr (numL_ne (n + 1))
      unfold cutS HT.sIx
      simp only [show ¬ ((1 : Int) < 0) by omega, if_false]
      have e1 : min (1 : Int).toNat w.length = 1 := by rw [l1]; simp
      rw [e1, tl_mk, show w.cps.toList = 45 :: numL (n + 1) from et, List.drop_one, List.tail_cons, l1]
      exact List.take_of_length_le (by omega)
    have e3 : w ≠ "-0" := fun z => by
      have z2 := congrArg tl z
      rw [et] at z2
      have z3 : numL (n + 1) = [48] := by
        have : tl ("-0" : Str) = [45, 48] := by decide
        rw [this] at z2
        exact (List.cons.inj z2).2
      have := head48 (n + 1) (by rw [z3]; rfl)
      omega
    unfold wholeIn
    rw [e, if_pos rfl, e2, figIn_txtN (by simpa using h)]
    unfold wholeOf
    simp only [e, if_true, if_neg e3]
    congr 1
theorem noStroke (i : Int) : 47 ∉ tl (Str.ofString (toString i)) := by
  cases i with
  | ofNat n => rw [show tl (Str.ofString (toString (Int.ofNat n))) = numL n from tl_num n]; exact numL_free (Or.inl (by decide))
  | negSucc n =>
    rw [tl_neg]
    intro h
    rcases List.mem_cons.mp h with h | h
    · cases h
    · exact numL_free (Or.inl (by decide)) h
theorem strokeL : tl ("/" : Str) = 47 :: [] := by decide
theorem numIn_one {i : Int} (h : i.natAbs < 2 ^ 1900) : numIn (Str.ofString (toString i)) = low i 1 := by
  have e := partition_none strokeL (noStroke i)
  unfold numIn belowIn
  rw [e]
  simp only
  rw [if_neg (by decide), wholeIn_txt h]
  rfl
theorem numIn_two {i : Int} {d : Nat} (h : i.natAbs < 2 ^ 1900) (hd : d < 2 ^ 1900) (d0 : d ≠ 0) : numIn (Str.ofString (toString i) ++ "/" ++ txtN d) = low i d := by
  have e := partition_app strokeL (b := txtN d) (noStroke i)
  unfold numIn belowIn
  rw [e]
  simp only
  rw [if_pos (by decide), wholeIn_txt h, figIn_txtN hd]
  unfold numOf
  simp only
  rw [if_neg (by omega)]
end D

set_option Elab.async false
set_option linter.all false
set_option maxRecDepth 100000
set_option maxHeartbeats 4000000
/-! P03: names. -/
namespace D
open PySem PySem.Spec PyProof.Rows L2 TL NumText
abbrev LETS : Str := "abcdefghijklmnopqrstuvwxyz"
def BARS : List Str := ["in", "out", "part", "give", "call", "repeat", "end", "plus", "less", "times", "over", "power", "most", "least", "size", "pick", "copy"]
def letA (w : Str) : Bool := w.cps.toList.all fun ch => decide (ch ∈ LETS.cps.toList)
def isNm : A → Bool
  | .str w => decide ((1 : Int) ≤ w.length) && decide ((w.length : Int) ≤ 8) && !inA (.str w) (BARS.map A.str) && letA w
  | _ => false
structure NmOk (w : Str) : Prop where
  lt : letA w = true
  lo : 1 ≤ w.length
  hi : w.length ≤ 8
def ltr (i : Int) : Str := ⟨#[LETS.cps.toList.getD i.toNat 97]⟩
theorem ltr_at {i : Int} (h0 : 0 ≤ i) (h1 : i < 26) : atI LETS.cps.toList i = some (LETS.cps.toList.getD i.toNat 97) := by
  have hl : LETS.cps.toList.length = 26 := by decide
  refine atI_pos ?_ h0
  rw [List.getElem?_eq_getElem (by omega), List.getD_eq_getElem?_getD, List.getElem?_eq_getElem (by omega)]; rfl
theorem letA_ltr (i : Int) : letA (ltr i) = true := by
  unfold letA ltr
  simp only [List.all_cons, List.all_nil, Bool.and_true, decide_eq_true_eq]
  by_cases h : i.toNat < LETS.cps.toList.length
  · rw [List.getD_eq_getElem?_getD, List.getElem?_eq_getElem h]; exact List.getElem_mem h
  · rw [List.getD_eq_getElem?_getD, List.getElem?_eq_none (by omega)]; decide
theorem letA_app (a b : Str) : letA (a ++ b) = (letA a && letA b) := by
  unfold letA
  rw [show (a ++ b).cps.toList = a.cps.toList ++ b.cps.toList from tl_append a b, List.all_append]
theorem letA_cut {w : Str} (h : letA w = true) {lo hi : Option Int} : letA (cutS w lo hi) = true := by
  unfold letA at *
  refine List.all_eq_true.mpr fun c hc => List.all_eq_true.mp h c ?_
  unfold cutS at hc
  exact List.mem_of_mem_drop (List.mem_of_mem_take (by simpa using hc))
theorem letA_tl (w : Str) : letA w = (tl w).all fun ch => decide (ch ∈ LETS.cps.toList) := rfl
theorem mem_joinL {S : List Nat} {c : Nat} : ∀ {l : List (List Nat)}, c ∈ joinL S l → c ∈ S ∨ ∃ p ∈ l, c ∈ p
  | [], h => by simp [joinL] at h
  | [p], h => .inr ⟨p, by simp, by simpa [joinL] using h⟩
  | p :: q :: r, h => by
    simp only [joinL, List.mem_append] at h
    rcases h with h | h | h
    · exact .inr ⟨p, by simp, h⟩
    · exact .inl h
    · rcases mem_joinL h with h | ⟨x, hx, h⟩
      · exact .inl h
      · exact .inr ⟨x, List.mem_cons_of_mem _ hx, h⟩
theorem letA_join {ys : List Str} (h : ∀ w ∈ ys, letA w = true) : letA (Txt.join "" ys) = true := by
  rw [letA_tl, join_eq, tl_join]
  refine List.all_eq_true.mpr fun c hc => ?_
  rcases mem_joinL hc with h1 | ⟨p, hp, h1⟩
  · rw [show tl ("" : Str) = [] by decide] at h1; cases h1
  · obtain ⟨w, hw, rfl⟩ := List.mem_map.mp hp
    exact List.all_eq_true.mp (h w hw) c h1
theorem joinL_len : ∀ {l : List (List Nat)}, (∀ p ∈ l, p.length ≤ 1) → (joinL [] l).length ≤ l.length
  | [], _ => by simp [joinL]
  | [p], h => by have := h p (by simp); simpa [joinL] using this
  | p :: q :: r, h => by
    have h1 := h p (by simp)
    have h2 := joinL_len (l := q :: r) fun x hx => h x (List.mem_cons_of_mem _ hx)
    simp only [joinL, List.length_append, List.length_nil, List.length_cons] at *
    omega
theorem len_ltrs (f : Nat → Int) (n : Nat) : (Txt.join "" ((List.range n).map fun j => ltr (f j))).length ≤ n := by
  rw [len_tl, join_eq, tl_join, show tl ("" : Str) = [] by decide]
  refine Nat.le_trans (joinL_len fun p hp => ?_) (by simp)
  obtain ⟨w, hw, rfl⟩ := List.mem_map.mp hp
  obtain ⟨j, _, rfl⟩ := List.mem_map.mp hw
  exact Nat.le_refl 1
theorem sum_ltrs (f : Nat → Int) (l : List Nat) : ((l.map fun j => ltr (f j)).map (·.length)).sum = l.length := by
  induction l with
  | nil => rfl
  | cons x l ih => rw [List.map_cons, List.map_cons, List.sum_cons, ih, List.length_cons]; show 1 + _ = _; omega
theorem cutS_hi (w : Str) (i : Int) (h : 0 ≤ i) : (cutS w none (some i)).length ≤ i.toNat := by
  unfold cutS HT.sIx
  simp only [show ¬ (i < 0) by omega, if_false]
  rw [len_tl, tl_mk, List.length_take]
  omega
theorem cutS_mid (w : Str) (i j : Int) (h : 0 ≤ i ∧ i ≤ j) : (cutS w (some i) (some j)).length ≤ (j - i).toNat := by
  unfold cutS HT.sIx
  simp only [show ¬ (i < 0) by omega, show ¬ (j < 0) by omega, if_false]
  rw [len_tl, tl_mk, List.length_take, List.length_drop]
  omega
def fixN (w : Str) : Str := if inA (.str w) (BARS.map A.str) = true then "zz" ++ cutS w none (some 1) ++ "z" else w
theorem noBar {w : Str} (h : (tl w).take 2 = [122, 122]) : inA (.str w) (BARS.map A.str) = false := by
  refine Bool.eq_false_iff.mpr fun z => ?_
  unfold inA at z
  rw [List.any_map] at z
  obtain ⟨y, hy, e⟩ := List.any_eq_true.mp z
  have e2 : y = w := by simpa [eqA] using e
  subst e2
  have k : BARS.all (fun y => (tl y).take 2 != [122, 122]) = true := by decide
  have k2 := List.all_eq_true.mp k y hy
  rw [h] at k2
  simp at k2
theorem fixN_ok {w : Str} (h : NmOk w) : isNm (.str (fixN w)) = true := by
  have h1 := h.lo
  have h2 := h.hi
  unfold fixN
  split
  · have n2 := cutS_hi w 1 (by omega)
    have e2 : ("zz" : Str).length = 2 := by decide
    have e3 : ("z" : Str).length = 1 := by decide
    have hl : ("zz" ++ cutS w none (some 1) ++ "z" : Str).length = 2 + (cutS w none (some 1)).length + 1 := by rw [Str.length_append, Str.length_append, e2, e3]
    simp only [isNm]
    rw [decide_eq_true (by omega), decide_eq_true (by omega), letA_app, letA_app, letA_cut h.lt, noBar]
    · decide
    · rw [tl_append, tl_append, show tl ("zz" : Str) = [122, 122] by decide]; rfl
  · rename_i hb
    simp only [isNm]
    rw [decide_eq_true (by omega), decide_eq_true (by omega), h.lt, Bool.eq_false_iff.mpr hb]; rfl
theorem isNm_wd {w : Str} (h : isNm (.str w) = true) : w.length ≤ 8 := by
  simp only [isNm, Bool.and_eq_true, decide_eq_true_eq] at h
  omega
end D

set_option Elab.async false
set_option linter.all false
set_option maxRecDepth 100000
set_option maxHeartbeats 4000000
namespace D
open PySem PySem.Spec PyProof.Rows L2
def topS (i : Nat) : Stmt := PySem.Challenge.pw_slopehouse_k01_fractions_and_names.main.body.getD i (.Pass ⟨0, 0, 0, 0⟩)
/-- the names that nobody has taken, and the constants -/
structure Txt (K : PySem.W.Frag) (mg : Str → Option Value) : Prop where
  b_range : mg "range" = none
  b_len : mg "len" = none
  b_isinstance : mg "isinstance" = none
  b_int : mg "int" = none
  b_bool : mg "bool" = none
  b_str : mg "str" = none
  b_tuple : mg "tuple" = none
  b_list : mg "list" = none
  b_all : mg "all" = none
  b_abs : mg "abs" = none
  b_zip : mg "zip" = none
  b_repr : mg "repr" = none
  b_enumerate : mg "enumerate" = none
  b_min : mg "min" = none
  k_FIGURES : Kn K mg "FIGURES" (.str "0123456789")
  k_MOST_FIGURES : Kn K mg "MOST_FIGURES" (.int 4000)
  k_LETTERS : Kn K mg "LETTERS" (.str "abcdefghijklmnopqrstuvwxyz")
  k_BARRED : Kn K mg "BARRED" (.tup (BARS.map A.str))
  k_MOST_LETTERS : Kn K mg "MOST_LETTERS" (.int 8)
end D

set_option Elab.async false
set_option linter.all false
set_option maxRecDepth 100000
set_option maxHeartbeats 4000000
namespace D
open PySem PySem.Spec PyProof.Rows L2
local macro_rules | `(tactic| walk_at "mul") => `(tactic| first | refine wO_mul (mulR (by first | decide | omega) (by first | decide | omega)) ?_ | refine wO_mul (mulL (by first | decide | omega) (by first | decide | omega)) ?_)
local macro_rules | `(tactic| walk_at "mod") => `(tactic| refine wO_mod (by first | decide | omega) ?_)
local macro_rules | `(tactic| walk_at "fdiv") => `(tactic| refine wO_fdiv (by first | decide | omega) (divS (by first | decide | omega)) ?_)
local macro_rules | `(tactic| walk_at "ix") => `(tactic| first | refine wI_tup (by rfl) ?_ | refine wI_lst (by rfl) ?_)
local macro_rules | `(tactic| walk_at "sl") => `(tactic| first | refine wSl_tup ?_ | refine wSl_lstF ?_)
section
variable {P : Program} {w : World} {mg : Str → Option Value} {base : Heap} {K : PySem.W.Frag}
abbrev s__law_mixed : Stmt := topS 23
abbrev N__law_mixed : List Str := ["_law_cell", "_law_k", "_law_number"]
theorem sc__law_mixed : FnScope N__law_mixed ["_law_cell", "_law_k"] (defScope s__law_mixed) := ⟨rfl, rfl, rfl, by decide +kernel, rfl, by decide +kernel, by decide +kernel⟩
def c__law_mixed : AC := fun xs μ Q _ => ∃ i k : Int, xs = [.int i, .int k] ∧ -(2 ^ 60) < i ∧ i < 2 ^ 60 ∧ 0 ≤ k ∧ k < 2 ^ 50 ∧ ∀ r : Int, 0 ≤ r → r < 2 ^ 30 → Q (.int r) μ
theorem ok__law_mixed {f : Addr} {fd : FuncData} (T : Txt K mg)  (F : Fun K "_law_mixed" "_law_mixed" s__law_mixed f fd) : FnD P w K mg base CX0 1 f fd ["_law_cell", "_law_k"] c__law_mixed := by
  refine fnD F sc__law_mixed (fun xs μ Q E hc => by obtain ⟨i, k, rfl, i1, i2, k0, k1, q⟩ := hc; rfl) (fun cdv Ao outer s H E xs μ Q E0 ar hc => ?_)
  obtain ⟨i, k, rfl, i1, i2, k0, k1, q⟩ := hc
  have nd := sc__law_mixed.nd
  refine wSs_cons (wS_set 2 (wE_bin (wE_bin (wE_bin (wE_bin (wE_bin (wE_name 0 rfl (wE_bin (wE_int (wE_bin (wE_int (wE_name 1 rfl ?_))))))))))) nd)
  walk_at "mul"
  refine wO_add ?_
  walk_at "mul"
  refine wE_int ?_
  walk_at "mul"
  refine wE_int ?_
  walk_at "mod"
  refine wE_bin (wE_bin (wE_int (wE_name 1 rfl ?_)))
  walk_at "mul"
  refine wE_name 1 rfl ?_
  walk_at "mul"
  refine wO_add ?_
  refine wE_bin (wE_int (wE_name 1 rfl ?_))
  walk_at "mul"
  refine wO_add ?_
  refine wSs_cons (wS_ret (wE_bin (wE_bin (wE_bin (wE_name 2 rfl (wE_int ?_))))))
  walk_at "mul"
  refine wE_int ?_
  walk_at "mod"
  refine wE_int ?_
  walk_at "fdiv"
  exact q _ (by omega) (by omega)

abbrev s__law_folded : Stmt := topS 24
abbrev N__law_folded : List Str := ["_law_script", "_law_found", "_law_k", "_law_cell"]
theorem sc__law_folded : FnScope N__law_folded ["_law_script"] (defScope s__law_folded) := ⟨rfl, rfl, rfl, by decide +kernel, rfl, by decide +kernel, by decide +kernel⟩
def c__law_folded : AC := fun xs μ Q _ => ∃ ns : List Int, xs = [.fls (ns.map A.int)] ∧ ns.length ≤ 63 ∧ ∀ fs : List Int, G64 fs → Q (.lst (fs.map A.int)) μ
theorem ok__law_folded {f : Addr} {fd : FuncData} (T : Txt K mg)  (F : Fun K "_law_folded" "_law_folded" s__law_folded f fd) : FnD P w K mg base CX0 1 f fd ["_law_script"] c__law_folded := by
  refine fnD F sc__law_folded (fun xs μ Q E hc => by obtain ⟨ns, rfl, hn, q⟩ := hc; rfl) (fun cdv Ao outer s H E xs μ Q E0 ar hc => ?_)
  obtain ⟨ns, rfl, hn, q⟩ := hc
  have nd := sc__law_folded.nd
  refine wSs_cons (wS_setLc [("_law_k", 2)] 1 (lcMap (wIt_range1 T.b_range (wA_cons (wE_int (wA_nil ⟨_, rfl, by omega, by omega, ?_⟩))))) nd (blkOk_by (N := N__law_folded) (sc := defScope s__law_folded) (by decide +kernel)) (sw_true rfl rfl rfl (by decide +kernel)))
  refine ⟨by rw [rgA_len]; decide, (List.range 64).map (fun (i : Nat) => A.int (17 + (i : Int))), by simp [rgA_len], fun i y z hy hz s0 H0 C cl fp => ?_, fun p np => ?_⟩
  obtain ⟨hi, rfl⟩ := rgA_at hy
  refine wGw_name 2 ⟨rfl, fun s0 H0 C cl fp => (wE_bin (wE_int (wE_name 2 rfl ?_)))⟩ nd
  refine wO_add ?_
  refine ⟨?_, .refl _⟩
  obtain ⟨_, rfl⟩ := mapR_at hz
  rw [Int.zero_add]
  refine wSs_cons (wS_for (wIt_enum T.b_enumerate (wA_cons (wE_name 0 rfl (wA_nil ⟨_, .inr rfl, ?_⟩)))))
  refine ⟨fun i Γ' μ' => ∃ (fs : List Int) (a b : Option D.A), Γ' = [some (.fls (ns.map A.int)), some (.loc p), a, b] ∧ μ' = μ.upd p (.lst (fs.map A.int)) ∧ G64 fs, ⟨(List.range 64).map (fun (i : Nat) => 17 + (i : Int)), _, _, rfl, by rw [List.map_map]; rfl, by simp, ?_⟩, fun i y Γ' μ' hy hI => ?_, fun Γ' μ' hI => ?_⟩
  · intro v hv
    simp only [List.mem_map, List.mem_range] at hv
    obtain ⟨j, hj, rfl⟩ := hv
    omega
  obtain ⟨fs, a, b, rfl, rfl, hg⟩ := hI
  obtain ⟨x, hx, rfl⟩ := enumA_at hy
  obtain ⟨cell, hc, rfl⟩ := map_at hx
  have hi : i < 63 := by have := (List.getElem?_eq_some_iff.mp hc).1; omega
  refine wG_tup (wGs_cons (wG_name 2 (wGs_cons (wG_name 3 (wGs_nil ?_) nd)) nd))
  refine wSs_cons (wS_asg (wE_bin (wE_bin (wE_bin (wE_ix (wE_name 1 rfl (wE_bin (wE_name 2 rfl (wE_int ?_)))))))))
  walk_at "mod"
  obtain ⟨v, hv, v0, v1⟩ := hg.at (i := (i : Int) % 64) (by omega) (by omega)
  refine wI_loc Mu.upd_same hv ?_
  refine wE_int ?_
  walk_at "mul"
  refine wE_name 3 rfl ?_
  refine wO_add ?_
  refine wE_int ?_
  walk_at "mod"
  refine wG_sub (wE_name 1 rfl (wE_bin (wE_name 2 rfl (wE_int ?_))))
  walk_at "mod"
  refine ⟨_, _, _, _, rfl, rfl, Mu.upd_same, ixN_pos (by omega) (by rw [List.length_map, hg.1]; omega), ?_⟩
  refine wSs_nil ?_
  exact ⟨_, _, _, rfl, by rw [Mu.upd_upd, set_map], hg.set _ (by omega) (by omega)⟩
  obtain ⟨fs, a, b, rfl, rfl, hg⟩ := hI
  refine wSs_cons (wS_for (wIt_range2 T.b_range (wA_cons (wE_int (wA_cons (wE_int (wA_nil ⟨_, _, rfl, by omega, ?_⟩)))))))
  refine ⟨fun i Γ' μ' => ∃ (fs : List Int) (a b : Option D.A), Γ' = [some (.fls (ns.map A.int)), some (.loc p), a, b] ∧ μ' = μ.upd p (.lst (fs.map A.int)) ∧ G64 fs, ⟨fs, _, _, rfl, rfl, hg⟩, fun i y Γ' μ' hy hI => ?_, fun Γ' μ' hI => ?_⟩
  obtain ⟨fs, a, b, rfl, rfl, hg⟩ := hI
  obtain ⟨hi, rfl⟩ := rgA_at hy
  refine wG_name 2 ?_ nd
  refine wSs_cons (wS_asg (wE_bin (wE_bin (wE_ix (wE_name 1 rfl (wE_name 2 rfl ?_))))))
  obtain ⟨v, hv, v0, v1⟩ := hg.at (i := 1 + (i : Int)) (by omega) (by omega)
  refine wI_loc Mu.upd_same hv ?_
  refine wE_bin (wE_ix (wE_name 1 rfl (wE_bin (wE_name 2 rfl (wE_int ?_)))))
  refine wO_sub ?_
  obtain ⟨v2, hv2, v20, v21⟩ := hg.at (i := 1 + (i : Int) - 1) (by omega) (by omega)
  refine wI_loc Mu.upd_same hv2 ?_
  refine wE_int ?_
  walk_at "mul"
  refine wO_add ?_
  refine wE_int ?_
  walk_at "mod"
  refine wG_sub (wE_name 1 rfl (wE_name 2 rfl ?_))
  refine ⟨_, _, _, _, rfl, rfl, Mu.upd_same, ixN_pos (by omega) (by rw [List.length_map, hg.1]; omega), ?_⟩
  refine wSs_nil ?_
  exact ⟨_, _, _, rfl, by rw [Mu.upd_upd, set_map], hg.set _ (by omega) (by omega)⟩
  obtain ⟨fs, a, b, rfl, rfl, hg⟩ := hI
  refine wSs_frz 1 Mu.upd_same rfl ?_
  rw [Mu.del_upd np]
  refine wSs_cons (wS_ret (wE_name 1 rfl ?_))
  exact q fs hg

abbrev s__law_draw : Stmt := topS 25
abbrev N__law_draw : List Str := ["_law_m", "_law_many", "_law_k", "_law_at", "_law_cell"]
theorem sc__law_draw : FnScope N__law_draw ["_law_m", "_law_many"] (defScope s__law_draw) := ⟨rfl, rfl, rfl, by decide +kernel, rfl, by decide +kernel, by decide +kernel⟩
def c__law_draw : AC := fun xs μ Q _ => ∃ (m l : Addr) (many : Int) (c : Nat), xs = [.loc m, .int many] ∧ 0 < many ∧ many < 2 ^ 100 ∧ Lw m l c μ ∧ c < 2 ^ 40 ∧ ∀ (r : Int) (μ' : Mu), 0 ≤ r → r < many → Lw m l (c + 1) μ' → Ls m l μ μ' → Q (.int r) μ'
theorem ok__law_draw {f : Addr} {fd : FuncData} (T : Txt K mg) (C__law_mixed : Cal P w K mg base 1 "_law_mixed" c__law_mixed) (F : Fun K "_law_draw" "_law_draw" s__law_draw f fd) : FnD P w K mg base CX0 2 f fd ["_law_m", "_law_many"] c__law_draw := by
  refine fnD F sc__law_draw (fun xs μ Q E hc => by obtain ⟨m, l, many, c, rfl, m0, m1, lw, hc, q⟩ := hc; rfl) (fun cdv Ao outer s H E xs μ Q E0 ar hc => ?_)
  obtain ⟨m, l, many, c, rfl, m0, m1, lw, hc, q⟩ := hc
  obtain ⟨⟨fs, left, at_, room, g1, g2, hg, hl, a0, a1⟩, ne⟩ := lw
  have nd := sc__law_draw.nd
  refine wSs_cons (wS_set 2 (wE_dget ar (wE_name 0 rfl (wE_str ?_))) nd)
  refine ⟨_, _, .inr "at", _, rfl, g1, rfl, rfl, ?_⟩
  refine wSs_cons (wS_dput ar (wE_bin (wE_name 2 rfl (wE_int ?_))))
  refine wO_add ?_
  refine wE_name 0 rfl (wE_str ?_)
  refine ⟨_, _, .inr "at", rfl, g1, rfl, by show 4 < sizeLine; decide, ?_⟩
  have e1 : putA [(.inr "cells", .lst (fs.map A.int)), (.inr "left", .loc l), (.inr "at", .int at_), (.inr "room", .int room)] (.inr "at" : Key) (.int (at_ + 1)) = [(.inr "cells", .lst (fs.map A.int)), (.inr "left", .loc l), (.inr "at", .int (at_ + 1)), (.inr "room", .int room)] := rfl
  rw [e1]
  generalize hμ : μ.upd m _ = μ1
  have k1 : μ1 m = some (.dic [(.inr "cells", .lst (fs.map A.int)), (.inr "left", .loc l), (.inr "at", .int (at_ + 1)), (.inr "room", .int room)]) := by rw [← hμ]; exact Mu.upd_same
  have k2 : μ1 l = some (.lst (left.map A.int)) := by rw [← hμ, Mu.upd_ne ne]; exact g2
  have kl : Ls m l μ μ1 := by rw [← hμ]; exact Ls.m
  refine wSs_cut (fun Γ' μ' => (∃ a b, Γ' = [some (.loc m), some (.int many), some (.int at_), a, b]) ∧ μ' = μ1) ?_ (fun Γ' μ' hP => ?_)
  refine wS_if (wT_cmp (wE_dget ar (wE_name 0 rfl (wE_str ?_))))
  refine ⟨_, _, .inr "left", _, rfl, k1, rfl, rfl, ?_⟩
  refine wE_lstF (wA_nil ⟨by show 0 ≤ sizeLine; decide, ?_⟩)
  refine wO_neL ar.u64 (.loc k2) (.lst []) (datInts left) datNil ?_
  rw [eqvNil]
  refine ⟨_, rfl, ?_⟩
  refine ⟨fun hk => ?_, fun hk => ?_⟩
  have hne : left ≠ [] := fun z => by subst z; simp at hk
  have hll : 0 < left.length := List.length_pos_iff.mpr hne
  refine wSs_cons (wS_set 3 (wE_bin (wE_name 2 rfl (wE_callB (id := "len") T.b_len (by decide +kernel) (wA_cons (wE_dget ar (wE_name 0 rfl (wE_str ?_))))))) nd)
  refine ⟨_, _, .inr "left", _, rfl, k1, rfl, rfl, ?_⟩
  refine wA_nil ?_
  refine wC_len (.loc k2) ?_
  rw [List.length_map]
  walk_at "mod"
  refine wSs_cons (wS_set 4 (wE_ix (wE_dget ar (wE_name 0 rfl (wE_str ?_)))) nd)
  refine ⟨_, _, .inr "left", _, rfl, k1, rfl, rfl, ?_⟩
  refine wE_name 3 rfl ?_
  have hi : at_ % (left.length : Int) < left.length := Int.emod_lt_of_pos _ (by omega)
  have h0 : 0 ≤ at_ % (left.length : Int) := Int.emod_nonneg _ (by omega)
  have hn : (at_ % (left.length : Int)).toNat < left.length := by omega
  refine wI_loc k2 (y := .int left[(at_ % (left.length : Int)).toNat]) (atI_pos (by rw [List.getElem?_map, List.getElem?_eq_getElem hn]; rfl) h0) ?_
  refine wSs_cons (wS_if (wT_cmp (wE_name 4 rfl (wE_int ?_))))
  refine wO_gt ?_
  refine ⟨_, rfl, ?_⟩
  refine ⟨fun hk => ?_, fun hk => ?_⟩
  have hp : 0 < left[(at_ % (left.length : Int)).toNat] := of_decide_eq_true hk
  refine wSs_cons (wS_asg (wE_bin (wE_name 4 rfl (wE_name 1 rfl ?_))))
  refine wO_fdiv m0 (PyProof.noPylong_of_log2 (log2_100 m0 m1)) ?_
  refine wG_sub (wE_dget ar (wE_name 0 rfl (wE_str ?_)))
  refine ⟨_, _, .inr "left", _, rfl, k1, rfl, rfl, ?_⟩
  refine wE_name 3 rfl ?_
  refine ⟨_, _, _, _, rfl, rfl, k2, ixN_pos h0 (by rw [List.length_map]; omega), ?_⟩
  refine wSs_cons (wS_ret (wE_bin (wE_name 4 rfl (wE_name 1 rfl ?_))))
  refine wO_mod m0 ?_
  refine q _ _ (Int.emod_nonneg _ (by omega)) (Int.emod_lt_of_pos _ m0) ⟨⟨fs, left.set (at_ % (left.length : Int)).toNat (left[(at_ % (left.length : Int)).toNat] / many), at_ + 1, room, by rw [Mu.upd_ne (Ne.symm ne)]; exact k1, by rw [Mu.upd_same, ← set_map], hg, by rw [List.length_set]; exact hl, by omega, by omega⟩, ne⟩ (kl.trans Ls.l)
  refine wSs_nil ?_
  refine wSs_nil ?_
  exact ⟨⟨_, _, rfl⟩, rfl⟩
  skip
  refine wSs_nil ?_
  exact ⟨⟨_, _, rfl⟩, rfl⟩
  obtain ⟨⟨a, b, rfl⟩, rfl⟩ := hP
  refine wSs_cons (wS_ret (wE_bin (wE_cal C__law_mixed ar (by decide) (wA_cons (wE_cal C__law_mixed ar (by decide) (wA_cons (wE_bin (wE_ix (wE_dget ar (wE_name 0 rfl (wE_str ?_)))))))))))
  refine ⟨_, _, .inr "cells", _, rfl, k1, rfl, rfl, ?_⟩
  refine wE_bin (wE_name 2 rfl (wE_int ?_))
  walk_at "mod"
  obtain ⟨v, hv, v0, v1⟩ := hg.at (i := at_ % 64) (by omega) (by omega)
  refine wI_lst hv ?_
  refine wE_bin (wE_int (wE_bin (wE_name 2 rfl (wE_int ?_))))
  walk_at "fdiv"
  walk_at "mul"
  refine wO_add ?_
  refine wA_cons (wE_name 2 rfl (wA_nil ?_))
  refine ⟨_, _, rfl, by omega, by omega, by omega, by omega, fun r r0 r1 => ?_⟩
  refine wA_cons (wE_bin (wE_name 2 rfl (wE_int ?_)))
  refine wO_add ?_
  refine wA_nil ?_
  refine ⟨_, _, rfl, by omega, by omega, by omega, by omega, fun r2 r20 r21 => ?_⟩
  refine wE_name 1 rfl ?_
  walk_at "mod"
  exact q _ _ (Int.emod_nonneg _ (by omega)) (Int.emod_lt_of_pos _ m0) ⟨⟨fs, left, at_ + 1, room, k1, k2, hg, hl, by omega, by omega⟩, ne⟩ kl

abbrev s__law_begun : Stmt := topS 26
abbrev N__law_begun : List Str := ["_law_script", "_law_m", "_law_cell"]
theorem sc__law_begun : FnScope N__law_begun ["_law_script"] (defScope s__law_begun) := ⟨rfl, rfl, rfl, by decide +kernel, rfl, by decide +kernel, by decide +kernel⟩
def c__law_begun : AC := fun xs μ Q _ => ∃ ns : List Int, xs = [.fls (ns.map A.int)] ∧ ns.length ≤ 63 ∧ ∀ (m l : Addr) (μ' : Mu), μ m = none → Lw m l 0 μ' → Sub μ μ' → Q (.loc m) μ'
theorem ok__law_begun {f : Addr} {fd : FuncData} (T : Txt K mg) (C__law_folded : Cal P w K mg base 1 "_law_folded" c__law_folded) (F : Fun K "_law_begun" "_law_begun" s__law_begun f fd) : FnD P w K mg base CX0 2 f fd ["_law_script"] c__law_begun := by
  refine fnD F sc__law_begun (fun xs μ Q E hc => by obtain ⟨ns, rfl, hn, q⟩ := hc; rfl) (fun cdv Ao outer s H E xs μ Q E0 ar hc => ?_)
  obtain ⟨ns, rfl, hn, q⟩ := hc
  have nd := sc__law_begun.nd
  refine wSs_cons (wS_set 1 (wE_disp (wE_str (wE_cal C__law_folded ar (by decide) (wA_cons (wE_name 0 rfl (wA_nil ?_)))))) nd)
  refine ⟨ns, rfl, hn, fun fs hg => ?_⟩
  refine wE_str (wE_lstF (wA_nil ⟨by show 0 ≤ sizeLine; decide, (wE_str (wE_int (wE_str (wE_int ?_))))⟩))
  refine ⟨[(.inr "cells", .lst (fs.map A.int)), (.inr "left", .lst []), (.inr "at", .int 0), (.inr "room", .int 58)], rfl, by show 4 ≤ 15; decide, fun m nm => ?_⟩
  have e1 : mergeA [] [((.inr "cells" : Key), A.lst (fs.map A.int)), (.inr "left", .lst []), (.inr "at", .int 0), (.inr "room", .int 58)] = [(.inr "cells", .lst (fs.map A.int)), (.inr "left", .lst []), (.inr "at", .int 0), (.inr "room", .int 58)] := rfl
  rw [e1]
  refine wSs_cons (wS_dput ar (wE_lc [("_law_cell", 2)] (lcMap (wIt_fls (wE_name 0 rfl ⟨_, rfl, ?_⟩))) nd (blkOk_by (N := N__law_begun) (sc := defScope s__law_begun) (by decide +kernel))))
  refine ⟨by rw [List.length_map]; exact Nat.le_trans hn (by decide), ns.map (fun i => A.int (if 10 ^ 18 ≤ i then i else 0)), by rw [List.length_map, List.length_map], fun i y z hy hz s0 H0 C cl fp => ?_, fun l nl => ?_⟩
  obtain ⟨v, hv, rfl⟩ := map_at hy
  obtain ⟨v2, hv2, rfl⟩ := map_at hz
  obtain rfl : v = v2 := Option.some.inj (hv.symm.trans hv2)
  refine wGw_name 2 ⟨rfl, fun s0 H0 C cl fp => ?_⟩ nd
  refine wE_if (wT_cmp (wE_name 2 rfl (wE_bin (wE_int (wE_int ?_)))))
  refine wO_pow (by decide) ?_
  refine wO_ge ?_
  refine ⟨_, rfl, ?_⟩
  refine ⟨fun hk => ?_, fun hk => ?_⟩
  refine wE_name 2 rfl ?_
  have hk2 : (10 : Int) ^ 18 ≤ v := of_decide_eq_true hk
  exact ⟨by rw [if_pos hk2], .refl _⟩
  refine wE_int ?_
  refine ⟨?_, .refl _⟩
  have hk2 : ¬ (10 : Int) ^ 18 ≤ v := of_decide_eq_false hk
  rw [if_neg hk2]
  refine wE_name 1 rfl (wE_str ?_)
  have nlm : l ≠ m := fun z => by rw [z, Mu.upd_same] at nl; cases nl
  have nl0 : μ l = none := by rw [Mu.upd_ne nlm] at nl; exact nl
  refine ⟨_, _, .inr "left", rfl, by rw [Mu.upd_ne (Ne.symm nlm)]; exact Mu.upd_same, rfl, by show 4 < sizeLine; decide, ?_⟩
  have e2 : putA [(.inr "cells", .lst (fs.map A.int)), (.inr "left", .lst []), (.inr "at", .int 0), (.inr "room", .int 58)] (.inr "left" : Key) (.loc l) = [(.inr "cells", .lst (fs.map A.int)), (.inr "left", .loc l), (.inr "at", .int 0), (.inr "room", .int 58)] := rfl
  rw [e2]
  refine wSs_cons (wS_ret (wE_name 1 rfl ?_))
  refine q m l _ nm ⟨⟨fs, ns.map (fun i => if 10 ^ 18 ≤ i then i else 0), 0, 58, Mu.upd_same, ?_, hg, by rw [List.length_map]; exact hn, Int.le_refl _, Int.le_refl _⟩, nlm⟩ ?_
  · rw [Mu.upd_ne nlm, Mu.upd_same, List.map_map]; rfl
  · intro p o h
    have h1 : p ≠ m := fun z => by rw [z, nm] at h; cases h
    have h2 : p ≠ l := fun z => by rw [z, nl0] at h; cases h
    rw [Mu.upd_ne h1, Mu.upd_ne h2, Mu.upd_ne h1]
    exact h

end
end D

set_option Elab.async false
set_option linter.all false
set_option maxRecDepth 100000
set_option maxHeartbeats 4000000
namespace D
open PySem PySem.Spec PyProof.Rows L2
local macro_rules | `(tactic| walk_at "mul") => `(tactic| first | refine wO_mul (mulR (by first | decide | omega) (by first | decide | omega)) ?_ | refine wO_mul (mulL (by first | decide | omega) (by first | decide | omega)) ?_)
local macro_rules | `(tactic| walk_at "mod") => `(tactic| refine wO_mod (by first | decide | omega) ?_)
local macro_rules | `(tactic| walk_at "fdiv") => `(tactic| refine wO_fdiv (by first | decide | omega) (divS (by first | decide | omega)) ?_)
local macro_rules | `(tactic| walk_at "ix") => `(tactic| first | refine wI_tup (by rfl) ?_ | refine wI_lst (by rfl) ?_)
local macro_rules | `(tactic| walk_at "sl") => `(tactic| first | refine wSl_tup ?_ | refine wSl_lstF ?_)
section
variable {P : Program} {w : World} {mg : Str → Option Value} {base : Heap} {K : PySem.W.Frag}
abbrev s_is_whole : Stmt := topS 3
abbrev N_is_whole : List Str := ["thing"]
theorem sc_is_whole : FnScope N_is_whole ["thing"] (defScope s_is_whole) := ⟨rfl, rfl, rfl, by decide +kernel, rfl, by decide +kernel, by decide +kernel⟩
def wholeA : D.A → Bool
  | .int _ => true
  | _ => false
/-- things whose built-in class is known -/
def Kd (μ : Mu) (x : D.A) : Prop := ∃ nm k, tyN μ x = some nm ∧ kitB nm "int" = some k ∧ (k = false → wholeA x = false) ∧ ∃ k2, kitB nm "bool" = some k2 ∧ (k = true → wholeA x = !k2)
def c_is_whole : AC := fun xs μ Q _ => ∃ x : D.A, xs = [x] ∧ Kd μ x ∧ Q (.bl (wholeA x)) μ
theorem ok_is_whole {f : Addr} {fd : FuncData} (T : Txt K mg)  (F : Fun K "is_whole" "is_whole" s_is_whole f fd) : FnD P w K mg base CX0 1 f fd ["thing"] c_is_whole := by
  refine fnD F sc_is_whole (fun xs μ Q E hc => by obtain ⟨x, rfl, hx, q⟩ := hc; rfl) (fun cdv Ao outer s H E xs μ Q E0 ar hc => ?_)
  obtain ⟨x, rfl, hx, q⟩ := hc
  obtain ⟨nm, k, t1, t2, t3, k2, t4, t5⟩ := hx
  have nd := sc_is_whole.nd
  refine wSs_cons (wS_ret ?_)
  refine wE_and (wE_callB (id := "isinstance") T.b_isinstance (by decide +kernel) (wA_cons (wE_name 0 rfl (wA_cons (wE_type (n := "int") T.b_int (by decide +kernel) (wA_nil ?_))))))
  refine wC_isi t1 t2 ?_
  refine ⟨_, rfl, and_flip (fun hk => ?_) (fun hk => ?_)⟩
  · rw [t3 hk] at q; exact q
  rw [t5 hk] at q
  refine wE_one (wE_not (wE_callB (id := "isinstance") T.b_isinstance (by decide +kernel) (wA_cons (wE_name 0 rfl (wA_cons (wE_type (n := "bool") T.b_bool (by decide +kernel) (wA_nil ?_)))))))
  refine wC_isi t1 t4 ?_
  refine ⟨_, rfl, ?_⟩
  exact q

abbrev s_common : Stmt := topS 4
abbrev N_common : List Str := ["one", "other"]
theorem sc_common : FnScope N_common ["one", "other"] (defScope s_common) := ⟨rfl, rfl, rfl, by decide +kernel, rfl, by decide +kernel, by decide +kernel⟩
def c_common : AC := fun xs μ Q _ => ∃ a b : Int, xs = [.int a, .int b] ∧ Q (.int (Int.gcd a b : Nat)) μ
theorem ok_common {f : Addr} {fd : FuncData} (T : Txt K mg)  (F : Fun K "common" "common" s_common f fd) : FnD P w K mg base CX0 1 f fd ["one", "other"] c_common := by
  refine fnD F sc_common (fun xs μ Q E hc => by obtain ⟨a, b, rfl, q⟩ := hc; rfl) (fun cdv Ao outer s H E xs μ Q E0 ar hc => ?_)
  obtain ⟨a, b, rfl, q⟩ := hc
  have nd := sc_common.nd
  refine wSs_cons (wS_par 0 1 (wA_cons (wE_callB (id := "abs") T.b_abs (by decide +kernel) (wA_cons (wE_name 0 rfl (wA_nil ?_))))) nd)
  refine wC_abs ?_
  refine wA_cons (wE_callB (id := "abs") T.b_abs (by decide +kernel) (wA_cons (wE_name 1 rfl (wA_nil ?_))))
  refine wC_abs ?_
  refine wA_nil ⟨_, _, rfl, (wSs_cons ?_)⟩
  refine wS_while (fun m Γ' μ' => ∃ x y : Nat, Γ' = [some (.int x), some (.int y)] ∧ μ = μ' ∧ Nat.gcd x y = Int.gcd a b ∧ y ≤ m) b.natAbs ⟨a.natAbs, b.natAbs, ?_, rfl, rfl, Nat.le_refl _⟩ (fun m Γ' μ' hW => ?_)
  · have e1 : (if a < 0 then -a else a) = (a.natAbs : Int) := by split <;> omega
    have e2 : (if b < 0 then -b else b) = (b.natAbs : Int) := by split <;> omega
    rw [e1, e2]; rfl
  obtain ⟨x, y, rfl, rfl, hg, hy⟩ := hW
  refine wT_cmp (wE_name 1 rfl (wE_int ?_))
  refine wO_gt ?_
  refine ⟨_, rfl, ?_⟩
  refine ⟨fun hk => ?_, fun hk => ?_⟩
  have hk2 : (0 : Int) < y := of_decide_eq_true hk
  refine wSs_cons (wS_par 0 1 (wA_cons (wE_name 1 rfl (wA_cons (wE_bin (wE_name 0 rfl (wE_name 1 rfl ?_)))))) nd)
  walk_at "mod"
  refine wA_nil ⟨_, _, rfl, (wSs_nil ?_)⟩
  refine ⟨x % y, Nat.lt_of_lt_of_le (Nat.mod_lt _ (by omega)) hy, y, x % y, rfl, rfl, ?_, Nat.le_refl _⟩
  rw [← hg, Nat.gcd_comm x y, Nat.gcd_rec y x, Nat.gcd_comm]
  have hk2 : ¬ (0 : Int) < y := of_decide_eq_false hk
  obtain rfl : y = 0 := by omega
  rw [Nat.gcd_zero_right] at hg
  refine wSs_cons (wS_ret (wE_name 0 rfl ?_))
  rw [hg]; exact q

abbrev s_fraction : Stmt := topS 6
abbrev N_fraction : List Str := ["n", "d", "part"]
theorem sc_fraction : FnScope N_fraction ["n", "d"] (defScope s_fraction) := ⟨rfl, rfl, rfl, by decide +kernel, rfl, by decide +kernel, by decide +kernel⟩
def c_fraction : AC := fun xs μ Q _ => ∃ n d : Int, xs = [.int n, .int d] ∧ d ≠ 0 ∧ Bd 8000 d ∧ Q (low n d) μ
abbrev dvs_fraction : List L2.V := [.int 1]
abbrev das_fraction : List D.A := [.int 1]
theorem ok_fraction {f : Addr} {fd : FuncData} (T : Txt K mg) (C_common : Cal P w K mg base 1 "common" c_common) (F : FunD K "fraction" "fraction" (defArgs s_fraction) (defBody s_fraction) (defScope s_fraction) dvs_fraction [] f fd) : FnD P w K mg base CX0 2 f fd ["n", "d"] c_fraction := by
  refine fnDD F sc_fraction (fun xs μ Q E hc => by obtain ⟨n, d, rfl, d0, hd, q⟩ := hc; rfl) (fun cdv Ao outer s H E xs μ Q E0 ar hc => ?_)
  obtain ⟨n, d, rfl, d0, hd, q⟩ := hc
  have nd := sc_fraction.nd
  refine wSs_cons (wS_set 2 (wE_cal C_common ar (by decide) (wA_cons (wE_name 0 rfl (wA_cons (wE_name 1 rfl (wA_nil ?_)))))) nd)
  refine ⟨n, d, rfl, ?_⟩
  refine wSs_cons (wS_set 2 ?_ nd)
  refine wE.imp (Q := fun z μ' => μ = μ' ∧ z = .int (part n d)) ?_ (fun z μ' hz => ?_)
  refine wE_if (wT_cmp (wE_name 1 rfl (wE_int ?_)))
  refine wO_gt ?_
  refine ⟨_, rfl, ?_⟩
  refine ⟨fun hk => ?_, fun hk => ?_⟩
  refine wE_name 2 rfl ?_
  exact ⟨rfl, by unfold part; rw [if_pos (of_decide_eq_true hk)]⟩
  refine wE_bin (wE_int (wE_name 2 rfl ?_))
  refine wO_sub ?_
  exact ⟨rfl, by unfold part; rw [if_neg (of_decide_eq_false hk)]⟩
  obtain ⟨rfl, rfl⟩ := hz
  refine wSs_cons (wS_ret (wE_tup (wA_cons (wE_bin (wE_name 0 rfl (wE_name 2 rfl ?_))))))
  refine wO_fdivN (part_ne d0) ((part_bd d0 hd).noPy (by decide) (by decide)) ?_
  refine wA_cons (wE_bin (wE_name 1 rfl (wE_name 2 rfl ?_)))
  refine wO_fdivN (part_ne d0) ((part_bd d0 hd).noPy (by decide) (by decide)) ?_
  refine wA_nil ⟨by show 2 ≤ sizeLine; decide, ?_⟩
  exact q

abbrev s_plus : Stmt := topS 7
abbrev N_plus : List Str := ["one", "other"]
theorem sc_plus : FnScope N_plus ["one", "other"] (defScope s_plus) := ⟨rfl, rfl, rfl, by decide +kernel, rfl, by decide +kernel, by decide +kernel⟩
/-- two fractions of numbers of at most 3000 bits -/
def c_plus : AC := fun xs μ Q _ => ∃ a b c d : Int, xs = [.tup [.int a, .int b], .tup [.int c, .int d]] ∧ b ≠ 0 ∧ d ≠ 0 ∧ Bd 3000 a ∧ Bd 3000 b ∧ Bd 3000 c ∧ Bd 3000 d ∧ Q (low (a * d + c * b) (b * d)) μ
theorem ok_plus {f : Addr} {fd : FuncData} (T : Txt K mg) (C_fraction : Cal P w K mg base 2 "fraction" c_fraction) (F : Fun K "plus" "plus" s_plus f fd) : FnD P w K mg base CX0 3 f fd ["one", "other"] c_plus := by
  refine fnD F sc_plus (fun xs μ Q E hc => by obtain ⟨a, b, c, d, rfl, b0, d0, ha, hb, hc, hd, q⟩ := hc; rfl) (fun cdv Ao outer s H E xs μ Q E0 ar hc => ?_)
  obtain ⟨a, b, c, d, rfl, b0, d0, ha, hb, hc, hd, q⟩ := hc
  have nd := sc_plus.nd
  refine wSs_cons (wS_ret (wE_cal C_fraction ar (by decide) (wA_cons (wE_bin (wE_bin (wE_ix (wE_name 0 rfl (wE_int ?_))))))))
  walk_at "ix"
  refine wE_ix (wE_name 1 rfl (wE_int ?_))
  walk_at "ix"
  refine wO_mul (ha.mulOk hd (by decide)) ?_
  refine wE_bin (wE_ix (wE_name 1 rfl (wE_int ?_)))
  walk_at "ix"
  refine wE_ix (wE_name 0 rfl (wE_int ?_))
  walk_at "ix"
  refine wO_mul (hc.mulOk hb (by decide)) ?_
  refine wO_add ?_
  refine wA_cons (wE_bin (wE_ix (wE_name 0 rfl (wE_int ?_))))
  walk_at "ix"
  refine wE_ix (wE_name 1 rfl (wE_int ?_))
  walk_at "ix"
  refine wO_mul (hb.mulOk hd (by decide)) ?_
  refine wA_nil ?_
  refine ⟨_, _, rfl, Int.mul_ne_zero b0 d0, (hb.mul hd).mono (by decide), ?_⟩
  exact q

abbrev s_less : Stmt := topS 8
abbrev N_less : List Str := ["one", "other"]
theorem sc_less : FnScope N_less ["one", "other"] (defScope s_less) := ⟨rfl, rfl, rfl, by decide +kernel, rfl, by decide +kernel, by decide +kernel⟩
def c_less : AC := fun xs μ Q _ => ∃ a b c d : Int, xs = [.tup [.int a, .int b], .tup [.int c, .int d]] ∧ b ≠ 0 ∧ d ≠ 0 ∧ Bd 3000 a ∧ Bd 3000 b ∧ Bd 3000 c ∧ Bd 3000 d ∧ Q (low (a * d - c * b) (b * d)) μ
theorem ok_less {f : Addr} {fd : FuncData} (T : Txt K mg) (C_fraction : Cal P w K mg base 2 "fraction" c_fraction) (F : Fun K "less" "less" s_less f fd) : FnD P w K mg base CX0 3 f fd ["one", "other"] c_less := by
  refine fnD F sc_less (fun xs μ Q E hc => by obtain ⟨a, b, c, d, rfl, b0, d0, ha, hb, hc, hd, q⟩ := hc; rfl) (fun cdv Ao outer s H E xs μ Q E0 ar hc => ?_)
  obtain ⟨a, b, c, d, rfl, b0, d0, ha, hb, hc, hd, q⟩ := hc
  have nd := sc_less.nd
  refine wSs_cons (wS_ret (wE_cal C_fraction ar (by decide) (wA_cons (wE_bin (wE_bin (wE_ix (wE_name 0 rfl (wE_int ?_))))))))
  walk_at "ix"
  refine wE_ix (wE_name 1 rfl (wE_int ?_))
  walk_at "ix"
  refine wO_mul (ha.mulOk hd (by decide)) ?_
  refine wE_bin (wE_ix (wE_name 1 rfl (wE_int ?_)))
  walk_at "ix"
  refine wE_ix (wE_name 0 rfl (wE_int ?_))
  walk_at "ix"
  refine wO_mul (hc.mulOk hb (by decide)) ?_
  refine wO_sub ?_
  refine wA_cons (wE_bin (wE_ix (wE_name 0 rfl (wE_int ?_))))
  walk_at "ix"
  refine wE_ix (wE_name 1 rfl (wE_int ?_))
  walk_at "ix"
  refine wO_mul (hb.mulOk hd (by decide)) ?_
  refine wA_nil ?_
  refine ⟨_, _, rfl, Int.mul_ne_zero b0 d0, (hb.mul hd).mono (by decide), ?_⟩
  exact q

abbrev s_times : Stmt := topS 9
abbrev N_times : List Str := ["one", "other"]
theorem sc_times : FnScope N_times ["one", "other"] (defScope s_times) := ⟨rfl, rfl, rfl, by decide +kernel, rfl, by decide +kernel, by decide +kernel⟩
def c_times : AC := fun xs μ Q _ => ∃ a b c d : Int, xs = [.tup [.int a, .int b], .tup [.int c, .int d]] ∧ b ≠ 0 ∧ d ≠ 0 ∧ Bd 3000 a ∧ Bd 3000 b ∧ Bd 3000 c ∧ Bd 3000 d ∧ Q (low (a * c) (b * d)) μ
theorem ok_times {f : Addr} {fd : FuncData} (T : Txt K mg) (C_fraction : Cal P w K mg base 2 "fraction" c_fraction) (F : Fun K "times" "times" s_times f fd) : FnD P w K mg base CX0 3 f fd ["one", "other"] c_times := by
  refine fnD F sc_times (fun xs μ Q E hc => by obtain ⟨a, b, c, d, rfl, b0, d0, ha, hb, hc, hd, q⟩ := hc; rfl) (fun cdv Ao outer s H E xs μ Q E0 ar hc => ?_)
  obtain ⟨a, b, c, d, rfl, b0, d0, ha, hb, hc, hd, q⟩ := hc
  have nd := sc_times.nd
  refine wSs_cons (wS_ret (wE_cal C_fraction ar (by decide) (wA_cons (wE_bin (wE_ix (wE_name 0 rfl (wE_int ?_)))))))
  walk_at "ix"
  refine wE_ix (wE_name 1 rfl (wE_int ?_))
  walk_at "ix"
  refine wO_mul (ha.mulOk hc (by decide)) ?_
  refine wA_cons (wE_bin (wE_ix (wE_name 0 rfl (wE_int ?_))))
  walk_at "ix"
  refine wE_ix (wE_name 1 rfl (wE_int ?_))
  walk_at "ix"
  refine wO_mul (hb.mulOk hd (by decide)) ?_
  refine wA_nil ?_
  refine ⟨_, _, rfl, Int.mul_ne_zero b0 d0, (hb.mul hd).mono (by decide), ?_⟩
  exact q

abbrev s_over : Stmt := topS 10
abbrev N_over : List Str := ["one", "other"]
theorem sc_over : FnScope N_over ["one", "other"] (defScope s_over) := ⟨rfl, rfl, rfl, by decide +kernel, rfl, by decide +kernel, by decide +kernel⟩
def c_over : AC := fun xs μ Q _ => ∃ a b c d : Int, xs = [.tup [.int a, .int b], .tup [.int c, .int d]] ∧ b ≠ 0 ∧ c ≠ 0 ∧ Bd 3000 a ∧ Bd 3000 b ∧ Bd 3000 c ∧ Bd 3000 d ∧ Q (low (a * d) (b * c)) μ
theorem ok_over {f : Addr} {fd : FuncData} (T : Txt K mg) (C_fraction : Cal P w K mg base 2 "fraction" c_fraction) (F : Fun K "over" "over" s_over f fd) : FnD P w K mg base CX0 3 f fd ["one", "other"] c_over := by
  refine fnD F sc_over (fun xs μ Q E hc => by obtain ⟨a, b, c, d, rfl, b0, c0, ha, hb, hc, hd, q⟩ := hc; rfl) (fun cdv Ao outer s H E xs μ Q E0 ar hc => ?_)
  obtain ⟨a, b, c, d, rfl, b0, c0, ha, hb, hc, hd, q⟩ := hc
  have nd := sc_over.nd
  refine wSs_cons (wS_ret (wE_cal C_fraction ar (by decide) (wA_cons (wE_bin (wE_ix (wE_name 0 rfl (wE_int ?_)))))))
  walk_at "ix"
  refine wE_ix (wE_name 1 rfl (wE_int ?_))
  walk_at "ix"
  refine wO_mul (ha.mulOk hd (by decide)) ?_
  refine wA_cons (wE_bin (wE_ix (wE_name 0 rfl (wE_int ?_))))
  walk_at "ix"
  refine wE_ix (wE_name 1 rfl (wE_int ?_))
  walk_at "ix"
  refine wO_mul (hb.mulOk hc (by decide)) ?_
  refine wA_nil ?_
  refine ⟨_, _, rfl, Int.mul_ne_zero b0 c0, (hb.mul hc).mono (by decide), ?_⟩
  exact q

abbrev s_sign : Stmt := topS 12
abbrev N_sign : List Str := ["one"]
theorem sc_sign : FnScope N_sign ["one"] (defScope s_sign) := ⟨rfl, rfl, rfl, by decide +kernel, rfl, by decide +kernel, by decide +kernel⟩
def c_sign : AC := fun xs μ Q _ => ∃ a b : Int, xs = [.tup [.int a, .int b]] ∧ Q (.int ((if decide (0 < a) then 1 else 0) - (if decide (a < 0) then 1 else 0))) μ
theorem ok_sign {f : Addr} {fd : FuncData} (T : Txt K mg)  (F : Fun K "sign" "sign" s_sign f fd) : FnD P w K mg base CX0 1 f fd ["one"] c_sign := by
  refine fnD F sc_sign (fun xs μ Q E hc => by obtain ⟨a, b, rfl, q⟩ := hc; rfl) (fun cdv Ao outer s H E xs μ Q E0 ar hc => ?_)
  obtain ⟨a, b, rfl, q⟩ := hc
  have nd := sc_sign.nd
  refine wSs_cons (wS_ret (wE_bin (wE_callTy (T := "int") T.b_int (by decide +kernel) (wA_cons (wE_cmp (wE_ix (wE_name 0 rfl (wE_int ?_))))))))
  walk_at "ix"
  refine wE_int ?_
  refine wO_gt ?_
  refine wA_nil ?_
  refine wC_intB ?_
  refine wE_callTy (T := "int") T.b_int (by decide +kernel) (wA_cons (wE_cmp (wE_ix (wE_name 0 rfl (wE_int ?_)))))
  walk_at "ix"
  refine wE_int ?_
  refine wO_lt ?_
  refine wA_nil ?_
  refine wC_intB ?_
  refine wO_sub ?_
  exact q

end
end D

set_option Elab.async false
set_option linter.all false
set_option maxRecDepth 100000
set_option maxHeartbeats 4000000
namespace D
open PySem PySem.Spec PyProof.Rows L2
local macro_rules | `(tactic| walk_at "mul") => `(tactic| first | refine wO_mul (mulR (by first | decide | omega) (by first | decide | omega)) ?_ | refine wO_mul (mulL (by first | decide | omega) (by first | decide | omega)) ?_)
local macro_rules | `(tactic| walk_at "mod") => `(tactic| refine wO_mod (by first | decide | omega) ?_)
local macro_rules | `(tactic| walk_at "fdiv") => `(tactic| refine wO_fdiv (by first | decide | omega) (divS (by first | decide | omega)) ?_)
local macro_rules | `(tactic| walk_at "ix") => `(tactic| first | refine wI_tup (by rfl) ?_ | refine wI_lst (by rfl) ?_)
local macro_rules | `(tactic| walk_at "sl") => `(tactic| first | refine wSl_tup ?_ | refine wSl_lstF ?_)
section
variable {P : Program} {w : World} {mg : Str → Option Value} {base : Heap} {K : PySem.W.Frag}
abbrev s_is_fraction : Stmt := topS 5
abbrev N_is_fraction : List Str := ["thing"]
theorem sc_is_fraction : FnScope N_is_fraction ["thing"] (defScope s_is_fraction) := ⟨rfl, rfl, rfl, by decide +kernel, rfl, by decide +kernel, by decide +kernel⟩
/-- two numbers in lowest terms, the lower one above nought -/
def isFr : D.A → Bool
  | .tup [.int n, .int d] => decide (0 < d) && decide (Int.gcd n d = 1)
  | _ => false
theorem isFr_not {x : D.A} (h : ∀ n d : Int, x ≠ .tup [.int n, .int d]) : isFr x = false := by
  unfold isFr
  split
  · exact absurd rfl (h _ _)
  · rfl
/-- what may be asked: no tuple, or a tuple of things whose class is known -/
def FrK (μ : Mu) (x : D.A) : Prop := (∃ nm, tyN μ x = some nm ∧ kitB nm "tuple" = some false ∧ isFr x = false) ∨ ∃ ys, x = .tup ys ∧ ∀ y ∈ ys, Kd μ y
def c_is_fraction : AC := fun xs μ Q _ => ∃ x : D.A, xs = [x] ∧ FrK μ x ∧ Q (.bl (isFr x)) μ
theorem ok_is_fraction {f : Addr} {fd : FuncData} (T : Txt K mg) (C_is_whole : Cal P w K mg base 1 "is_whole" c_is_whole) (C_common : Cal P w K mg base 1 "common" c_common) (F : Fun K "is_fraction" "is_fraction" s_is_fraction f fd) : FnD P w K mg base CX0 2 f fd ["thing"] c_is_fraction := by
  refine fnD F sc_is_fraction (fun xs μ Q E hc => by obtain ⟨x, rfl, hx, q⟩ := hc; rfl) (fun cdv Ao outer s H E xs μ Q E0 ar hc => ?_)
  obtain ⟨x, rfl, hx, q⟩ := hc
  have nd := sc_is_fraction.nd
  refine wSs_cons (wS_if ?_)
  refine wT.imp (QB := fun k μ' => μ = μ' ∧ (k = true → isFr x = false) ∧ (k = false → ∃ n d : Int, x = .tup [.int n, .int d])) ?_ (fun k μ' hq => ?_)
  refine wT_chain (wW_or (wT_not (wT_val (wE_callB (id := "isinstance") T.b_isinstance (by decide +kernel) (wA_cons (wE_name 0 rfl (wA_cons (wE_type (n := "tuple") T.b_tuple (by decide +kernel) (wA_nil ?_)))))))))
  have e1 : ∃ nm k, tyN μ x = some nm ∧ kitB nm "tuple" = some k ∧ (k = false → isFr x = false) ∧ (k = true → ∃ ys, x = .tup ys ∧ ∀ y ∈ ys, Kd μ y) := by
    rcases hx with ⟨nm, t1, t2, t3⟩ | ⟨ys, rfl, h⟩
    · exact ⟨nm, false, t1, t2, (fun _ => t3), fun z => nomatch z⟩
    · exact ⟨_, true, rfl, rfl, (fun z => nomatch z), fun _ => ⟨ys, rfl, h⟩⟩
  obtain ⟨nm, k, t1, t2, t3, t4⟩ := e1
  refine wC_isi t1 t2 ?_
  refine ⟨_, rfl, ?_⟩
  refine ⟨fun hk => ?_, fun hk => ?_⟩
  · exact ⟨rfl, fun _ => t3 (by simpa using hk), fun z => nomatch z⟩
  obtain ⟨ys, rfl, hy⟩ := t4 (by simpa using hk)
  refine wW_or (wT_cmp (wE_callB (id := "len") T.b_len (by decide +kernel) (wA_cons (wE_name 0 rfl (wA_nil ?_)))))
  refine wC_len (.tup _) ?_
  refine wE_int ?_
  refine wO_neI ?_
  refine ⟨_, rfl, ?_⟩
  refine ⟨fun hk => ?_, fun hk => ?_⟩
  · refine ⟨rfl, fun _ => ?_, fun z => nomatch z⟩
    have hk2 : ¬ ((ys.length : Int) = 2) := by simpa using hk
    refine isFr_not fun n d z => ?_
    have z2 := (D.A.tup.injEq _ _).mp z
    rw [z2] at hk2
    exact hk2 rfl
  obtain ⟨u, v, rfl⟩ : ∃ u v, ys = [u, v] := by
    have hk2 : (ys.length : Int) = 2 := by simpa using hk
    have h2 : ys.length = 2 := by omega
    rcases ys with _ | ⟨u, _ | ⟨v, _ | ⟨_, _⟩⟩⟩ <;> simp at h2
    exact ⟨u, v, rfl⟩
  refine wW_or (wT_not (wT_val (wE_cal C_is_whole ar (by decide) (wA_cons (wE_ix (wE_name 0 rfl (wE_int ?_)))))))
  walk_at "ix"
  refine wA_nil ?_
  refine ⟨u, rfl, hy u (by simp), ?_⟩
  refine ⟨_, rfl, ?_⟩
  refine ⟨fun hk => ?_, fun hk => ?_⟩
  · refine ⟨rfl, fun _ => ?_, fun z => nomatch z⟩
    have hk2 : wholeA u = false := by simpa using hk
    refine isFr_not fun n d z => ?_
    simp only [D.A.tup.injEq, List.cons.injEq] at z
    rw [z.1] at hk2
    simp [wholeA] at hk2
  obtain ⟨n, rfl⟩ : ∃ n, u = .int n := by
    have hk2 : wholeA u = true := by simpa using hk
    cases u with
    | int n => exact ⟨n, rfl⟩
    | _ => simp [wholeA] at hk2
  refine wW_or1 (wT_not (wT_val (wE_cal C_is_whole ar (by decide) (wA_cons (wE_ix (wE_name 0 rfl (wE_int ?_)))))))
  walk_at "ix"
  refine wA_nil ?_
  refine ⟨v, rfl, hy v (by simp), ?_⟩
  refine ⟨_, rfl, ?_⟩
  refine ⟨rfl, fun z => ?_, fun z => ?_⟩
  · have hk2 : wholeA v = false := by simpa using z
    refine isFr_not fun n d z => ?_
    simp only [D.A.tup.injEq, List.cons.injEq] at z
    rw [z.2.1] at hk2
    simp [wholeA] at hk2
  · have hk2 : wholeA v = true := by simpa using z
    cases v with
    | int d => exact ⟨n, d, rfl⟩
    | _ => simp [wholeA] at hk2
  obtain ⟨rfl, g1, g2⟩ := hq
  refine ⟨fun hk => ?_, fun hk => ?_⟩
  refine wSs_cons (wS_ret (wE_bl ?_))
  rw [g1 hk] at q; exact q
  obtain ⟨n, d, rfl⟩ := g2 hk
  refine wSs_nil ?_
  refine wSs_cons (wS_ret ?_)
  refine wE_and (wE_cmp (wE_ix (wE_name 0 rfl (wE_int ?_))))
  walk_at "ix"
  refine wE_int ?_
  refine wO_gt ?_
  refine ⟨_, rfl, and_flip (fun hk => ?_) (fun hk => ?_)⟩
  · have e : isFr (.tup [.int n, .int d]) = false := by simp only [isFr, hk, Bool.false_and]
    rw [e] at q; exact q
  have e : isFr (.tup [.int n, .int d]) = decide ((Int.gcd n d : Int) = 1) := by
    simp only [isFr, hk, Bool.true_and]
    exact decide_eq_decide.mpr (by omega)
  rw [e] at q
  refine wE_one (wE_cmp (wE_cal C_common ar (by decide) (wA_cons (wE_ix (wE_name 0 rfl (wE_int ?_))))))
  walk_at "ix"
  refine wA_cons (wE_ix (wE_name 0 rfl (wE_int ?_)))
  walk_at "ix"
  refine wA_nil ?_
  refine ⟨n, d, rfl, ?_⟩
  refine wE_int ?_
  refine wO_eqI ?_
  exact q

abbrev s_power : Stmt := topS 11
abbrev N_power : List Str := ["one", "k", "found", "turn"]
theorem sc_power : FnScope N_power ["one", "k"] (defScope s_power) := ⟨rfl, rfl, rfl, by decide +kernel, rfl, by decide +kernel, by decide +kernel⟩
def powA (a b k : Int) : D.A := if 0 ≤ k then .tup [.int (a ^ k.natAbs), .int (b ^ k.natAbs)] else low (b ^ k.natAbs) (a ^ k.natAbs)
theorem Bd.pow {n : Nat} {a : Int} (h : Bd n a) : ∀ k : Nat, Bd (n * k + 1) (a ^ k)
  | 0 => by unfold Bd; simp
  | k + 1 => by
    have := (Bd.pow h k).mul h
    rw [Int.pow_succ]
    exact this.mono (by rw [Nat.mul_succ]; omega)
def c_power : AC := fun xs μ Q _ => ∃ a b k : Int, xs = [.tup [.int a, .int b], .int k] ∧ Bd 200 a ∧ Bd 200 b ∧ -10 ≤ k ∧ k ≤ 10 ∧ (k < 0 → a ≠ 0) ∧ Q (powA a b k) μ
theorem ok_power {f : Addr} {fd : FuncData} (T : Txt K mg) (C_fraction : Cal P w K mg base 2 "fraction" c_fraction) (F : Fun K "power" "power" s_power f fd) : FnD P w K mg base CX0 3 f fd ["one", "k"] c_power := by
  refine fnD F sc_power (fun xs μ Q E hc => by obtain ⟨a, b, k, rfl, ha, hb, k0, k1, ka, q⟩ := hc; rfl) (fun cdv Ao outer s H E xs μ Q E0 ar hc => ?_)
  obtain ⟨a, b, k, rfl, ha, hb, k0, k1, ka, q⟩ := hc
  have nd := sc_power.nd
  refine wSs_cons (wS_set 2 (wE_tup (wA_cons (wE_int (wA_cons (wE_int (wA_nil ⟨by show 2 ≤ sizeLine; decide, (wSs_cons (wS_for (wIt_range1 T.b_range (wA_cons (wE_callB (id := "abs") T.b_abs (by decide +kernel) (wA_cons (wE_name 1 rfl (wA_nil ?_))))))))⟩)))))) nd)
  refine wC_abs ?_
  have ek : (if k < 0 then -k else k) = (k.natAbs : Int) := by split <;> omega
  rw [ek]
  refine wA_nil ⟨_, rfl, by omega, by omega, ?_⟩
  refine ⟨fun i Γ' μ' => ∃ t, Γ' = [some (.tup [.int a, .int b]), some (.int k), some (.tup [.int (a ^ i), .int (b ^ i)]), t] ∧ μ = μ', ⟨_, by rw [Int.pow_zero, Int.pow_zero]; rfl, rfl⟩, fun i y Γ' μ' hy hI => ?_, fun Γ' μ' hI => ?_⟩
  obtain ⟨t, rfl, rfl⟩ := hI
  have hi : i < 10 := by have h := (rgA_at hy).1; omega
  refine wG_name 3 ?_ nd
  refine wSs_cons (wS_set 2 (wE_tup (wA_cons (wE_bin (wE_ix (wE_name 2 rfl (wE_int ?_)))))) nd)
  walk_at "ix"
  refine wE_ix (wE_name 0 rfl (wE_int ?_))
  walk_at "ix"
  refine wO_mul (((Bd.pow ha i).mono (m := 2001) (by omega)).mulOk (ha.mono (by decide)) (by decide)) ?_
  refine wA_cons (wE_bin (wE_ix (wE_name 2 rfl (wE_int ?_))))
  walk_at "ix"
  refine wE_ix (wE_name 0 rfl (wE_int ?_))
  walk_at "ix"
  refine wO_mul (((Bd.pow hb i).mono (m := 2001) (by omega)).mulOk (hb.mono (by decide)) (by decide)) ?_
  refine wA_nil ⟨by show 2 ≤ sizeLine; decide, (wSs_nil ?_)⟩
  exact ⟨_, by rw [Int.pow_succ, Int.pow_succ]; rfl, rfl⟩
  obtain ⟨t, rfl, rfl⟩ := hI
  rw [rgA_len, Int.toNat_natCast]
  refine wSs_cons (wS_ret ?_)
  refine wE_if (wT_cmp (wE_name 1 rfl (wE_int ?_)))
  refine wO_ge ?_
  refine ⟨_, rfl, ?_⟩
  refine ⟨fun hk => ?_, fun hk => ?_⟩
  refine wE_name 2 rfl ?_
  have hk2 : 0 ≤ k := of_decide_eq_true hk
  rw [show powA a b k = .tup [.int (a ^ k.natAbs), .int (b ^ k.natAbs)] by unfold powA; rw [if_pos hk2]] at q
  exact q
  refine wE_cal C_fraction ar (by decide) (wA_cons (wE_ix (wE_name 2 rfl (wE_int ?_))))
  walk_at "ix"
  refine wA_cons (wE_ix (wE_name 2 rfl (wE_int ?_)))
  walk_at "ix"
  refine wA_nil ?_
  have hk2 : ¬ 0 ≤ k := of_decide_eq_false hk
  refine ⟨_, _, rfl, Int.pow_ne_zero (ka (by omega)), (Bd.pow ha _).mono (by omega), ?_⟩
  rw [show powA a b k = low (b ^ k.natAbs) (a ^ k.natAbs) by unfold powA; rw [if_neg hk2]] at q
  exact q

abbrev s_text_of : Stmt := topS 13
abbrev N_text_of : List Str := ["one"]
theorem sc_text_of : FnScope N_text_of ["one"] (defScope s_text_of) := ⟨rfl, rfl, rfl, by decide +kernel, rfl, by decide +kernel, by decide +kernel⟩
/-- what is written of a number -/
def txt (i : Int) : Str := Str.ofString (toString i)
def textOf (a b : Int) : Str := if b = 1 then txt a else txt a ++ "/" ++ txt b
theorem txt_len {i : Int} (h : Bd 1900 i) : (txt i).length ≤ 1922 := by
  have := len_intText (Nat.lt_of_lt_of_le (h.log (by decide)) (by decide) : i.natAbs.log2 < 1920)
  refine Nat.le_trans this ?_
  split <;> omega
def c_text_of : AC := fun xs μ Q _ => ∃ a b : Int, xs = [.tup [.int a, .int b]] ∧ Bd 1900 a ∧ Bd 1900 b ∧ Q (.str (textOf a b)) μ
theorem ok_text_of {f : Addr} {fd : FuncData} (T : Txt K mg)  (F : Fun K "text_of" "text_of" s_text_of f fd) : FnD P w K mg base CX0 1 f fd ["one"] c_text_of := by
  refine fnD F sc_text_of (fun xs μ Q E hc => by obtain ⟨a, b, rfl, ha, hb, q⟩ := hc; rfl) (fun cdv Ao outer s H E xs μ Q E0 ar hc => ?_)
  obtain ⟨a, b, rfl, ha, hb, q⟩ := hc
  have la := txt_len ha
  have lb := txt_len hb
  have g1 : a.natAbs.log2 < 1920 := Nat.lt_of_lt_of_le (ha.log (by decide)) (by decide)
  have g2 : b.natAbs.log2 < 1920 := Nat.lt_of_lt_of_le (hb.log (by decide)) (by decide)
  have e1 : ("/" : Str).length = 1 := by decide
  have e2 : (txt a ++ ("/" : Str)).length ≤ 1923 := by rw [Str.length_append]; omega
  have nd := sc_text_of.nd
  refine wSs_cons (wS_ret ?_)
  refine wE_if (wT_cmp (wE_ix (wE_name 0 rfl (wE_int ?_))))
  walk_at "ix"
  refine wE_int ?_
  refine wO_eqI ?_
  refine ⟨_, rfl, ?_⟩
  refine ⟨fun hk => ?_, fun hk => ?_⟩
  refine wE_callTy (T := "str") T.b_str (by decide +kernel) (wA_cons (wE_ix (wE_name 0 rfl (wE_int ?_))))
  walk_at "ix"
  refine wA_nil ?_
  refine wC_strI g1 ?_
  rw [show textOf a b = txt a by unfold textOf; rw [if_pos (of_decide_eq_true hk)]] at q
  exact q
  refine wE_bin (wE_bin (wE_callTy (T := "str") T.b_str (by decide +kernel) (wA_cons (wE_ix (wE_name 0 rfl (wE_int ?_))))))
  walk_at "ix"
  refine wA_nil ?_
  refine wC_strI g1 ?_
  refine wE_str ?_
  refine wO_addS (szOk (Nat.le_trans (Nat.add_le_add la (Nat.le_of_eq e1)) (by decide))) ?_
  refine wE_callTy (T := "str") T.b_str (by decide +kernel) (wA_cons (wE_ix (wE_name 0 rfl (wE_int ?_))))
  walk_at "ix"
  refine wA_nil ?_
  refine wC_strI g2 ?_
  refine wO_addS (szOk (Nat.le_trans (Nat.add_le_add e2 lb) (by decide))) ?_
  rw [show textOf a b = txt a ++ "/" ++ txt b by unfold textOf; rw [if_neg (of_decide_eq_false hk)]] at q
  exact q

abbrev s_figures_in : Stmt := topS 14
abbrev N_figures_in : List Str := ["word", "sign_of"]
theorem sc_figures_in : FnScope N_figures_in ["word"] (defScope s_figures_in) := ⟨rfl, rfl, rfl, by decide +kernel, rfl, by decide +kernel, by decide +kernel⟩
def c_figures_in : AC := fun xs μ Q _ => ∃ w : Str, xs = [.str w] ∧ w.length ≤ 640 ∧ Q (optA (figIn w)) μ
theorem ok_figures_in {f : Addr} {fd : FuncData} (T : Txt K mg)  (F : Fun K "figures_in" "figures_in" s_figures_in f fd) : FnD P w K mg base CX0 1 f fd ["word"] c_figures_in := by
  refine fnD F sc_figures_in (fun xs μ Q E hc => by obtain ⟨w, rfl, hw, q⟩ := hc; rfl) (fun cdv Ao outer s H E xs μ Q E0 ar hc => ?_)
  obtain ⟨w, rfl, hw, q⟩ := hc
  have nd := sc_figures_in.nd
  refine wSs_cons (wS_if ?_)
  refine wT.imp (QB := fun k μ' => μ = μ' ∧ k = !(decide ((1 : Int) ≤ w.length) && decide ((w.length : Int) ≤ 4000) && digA w)) ?_ (fun k μ' hq => ?_)
  refine wT_chain (wW_or (wT_not (wT_chain2 (wE_int (wE_callB (id := "len") T.b_len (by decide +kernel) (wA_cons (wE_name 0 rfl (wA_nil ?_))))))))
  refine wC_lenS (szOk (by omega)) ?_
  refine wO_le ?_
  refine ⟨_, rfl, and_flip (fun hk => ?_) (fun hk => ?_)⟩
  · exact ⟨fun _ => ⟨rfl, by rw [hk]; rfl⟩, fun z => nomatch z⟩
  have h1 := hk
  refine wE_glob T.k_MOST_FIGURES ?_
  refine wO_le ?_
  refine ⟨_, rfl, ?_⟩
  refine ⟨fun hk => ?_, fun hk => ?_⟩
  · have h2 : decide ((w.length : Int) ≤ 4000) = false := by simpa using hk
    exact ⟨rfl, by rw [h1, h2]; rfl⟩
  have h2 : decide ((w.length : Int) ≤ 4000) = true := by simpa using hk
  refine wW_or1 (wT_not (wT_val (wE_callB (id := "all") T.b_all (by decide +kernel) (wA_cons (wE_lcF (own := [("sign_of", 1)]) (wIt_str (wE_name 0 rfl ⟨_, rfl, ?_⟩)) nd (blkOk_by (N := N_figures_in) (sc := defScope s_figures_in) (by decide +kernel)))))))
  refine ⟨szOk (by simp only [signsA, List.length_map]; show w.cps.toList.length ≤ _; rw [Array.length_toList]; exact Nat.le_trans hw (by decide)), (w.cps.toList.map fun ch => decide (ch ∈ ("0123456789" : Str).cps.toList)).map D.A.bl, by simp [signsA], fun j y z hy hz s0 H0 C cl fp => ?_, ?_⟩
  obtain ⟨ch, h3, rfl⟩ := map_at hy
  obtain ⟨bz, h4, rfl⟩ := map_at hz
  obtain ⟨ch2, h5, rfl⟩ := map_at h4
  obtain rfl : ch = ch2 := Option.some.inj (h3.symm.trans h5)
  refine wGw_name 1 ⟨rfl, fun s0 H0 C cl fp => (wE_cmp (wE_name 1 rfl (wE_glob T.k_FIGURES ?_)))⟩ nd
  refine wO_inSign ?_
  refine ⟨?_, .refl _⟩
  rfl
  refine wA_nil ?_
  refine wC_all rfl (.lst _) ?_
  refine ⟨_, rfl, ?_⟩
  refine ⟨rfl, ?_⟩
  rw [h1, h2]
  simp [digA, List.all_map, Function.comp_def]
  obtain ⟨rfl, hkk⟩ := hq
  generalize hB : (decide ((1 : Int) ≤ w.length) && decide ((w.length : Int) ≤ 4000) && digA w) = B at hkk
  refine ⟨fun hk => ?_, fun hk => ?_⟩
  refine wSs_cons (wS_ret (wE_non ?_))
  have hB2 : B = false := by rw [hk] at hkk; simpa using hkk.symm
  have e : figIn w = none := by unfold figIn; rw [hB, hB2]; rfl
  rw [e] at q; exact q
  have hB2 : B = true := by rw [hk] at hkk; simpa using hkk.symm
  have e : figIn w = if (Txt.startswith w "0" && !decide (w = "0")) = true then none else PySem.intText? w := by unfold figIn; rw [hB, hB2]; rfl
  rw [e] at q
  refine wSs_nil ?_
  refine wSs_cons (wS_if ?_)
  refine wT.imp (QB := fun k μ' => μ = μ' ∧ k = (Txt.startswith w "0" && !decide (w = "0"))) ?_ (fun k μ' hq => ?_)
  refine wT_chain (wW_and (wT_val (wE_m1 PySem.F.slot_str_startswith PySem.F.type_str_startswith (wE_name 0 rfl ⟨_, rfl, (wE_str ?_)⟩))))
  refine wM_startswith ?_
  refine ⟨_, rfl, ?_⟩
  refine and_flip (fun hk => ?_) (fun hk => ?_)
  · exact ⟨rfl, by rw [hk]; rfl⟩
  have h9 := hk
  refine wW_and1 (wT_cmp (wE_name 0 rfl (wE_str ?_)))
  refine wO_neS ?_
  refine ⟨_, rfl, ?_⟩
  exact ⟨rfl, by rw [h9]; rfl⟩
  obtain ⟨rfl, hk9⟩ := hq
  refine ⟨fun hk => ?_, fun hk => ?_⟩
  refine wSs_cons (wS_ret (wE_non ?_))
  rw [← hk9, hk] at q; exact q
  rw [← hk9, hk] at q
  refine wSs_nil ?_
  refine wSs_cons (wS_ret (wE_callTy (T := "int") T.b_int (by decide +kernel) (wA_cons (wE_name 0 rfl (wA_nil ?_)))))
  have hB3 : (decide ((1 : Int) ≤ w.length) && decide ((w.length : Int) ≤ 4000) && digA w) = true := hB.trans hB2
  simp only [Bool.and_eq_true, decide_eq_true_eq] at hB3
  obtain ⟨nv, n1, n2, n3⟩ := dig_int hB3.2 (by omega) hw
  rw [n1] at q
  refine wC_intS n1 hw ?_
  exact q

end
end D

set_option Elab.async false
set_option linter.all false
set_option maxRecDepth 100000
set_option maxHeartbeats 4000000
namespace D
open PySem PySem.Spec PyProof.Rows L2
local macro_rules | `(tactic| walk_at "mul") => `(tactic| first | refine wO_mul (mulR (by first | decide | omega) (by first | decide | omega)) ?_ | refine wO_mul (mulL (by first | decide | omega) (by first | decide | omega)) ?_)
local macro_rules | `(tactic| walk_at "mod") => `(tactic| refine wO_mod (by first | decide | omega) ?_)
local macro_rules | `(tactic| walk_at "fdiv") => `(tactic| refine wO_fdiv (by first | decide | omega) (divS (by first | decide | omega)) ?_)
local macro_rules | `(tactic| walk_at "ix") => `(tactic| first | refine wI_tup (by rfl) ?_ | refine wI_lst (by rfl) ?_)
local macro_rules | `(tactic| walk_at "sl") => `(tactic| first | refine wSl_tup ?_ | refine wSl_lstF ?_)
section
variable {P : Program} {w : World} {mg : Str → Option Value} {base : Heap} {K : PySem.W.Frag}
abbrev s_whole_in : Stmt := topS 15
abbrev N_whole_in : List Str := ["word", "found"]
theorem sc_whole_in : FnScope N_whole_in ["word"] (defScope s_whole_in) := ⟨rfl, rfl, rfl, by decide +kernel, rfl, by decide +kernel, by decide +kernel⟩
theorem cutS_len (w : Str) : (cutS w (some 1) none).length ≤ w.length := by
  unfold cutS
  show ((w.cps.toList.drop _).take _).toArray.size ≤ w.cps.size
  rw [List.size_toArray, List.length_take, List.length_drop, Array.length_toList]
  omega
def c_whole_in : AC := fun xs μ Q _ => ∃ w : Str, xs = [.str w] ∧ w.length ≤ 640 ∧ Q (optA (wholeIn w)) μ
theorem ok_whole_in {f : Addr} {fd : FuncData} (T : Txt K mg) (C_figures_in : Cal P w K mg base 1 "figures_in" c_figures_in) (F : Fun K "whole_in" "whole_in" s_whole_in f fd) : FnD P w K mg base CX0 2 f fd ["word"] c_whole_in := by
  refine fnD F sc_whole_in (fun xs μ Q E hc => by obtain ⟨w, rfl, hw, q⟩ := hc; rfl) (fun cdv Ao outer s H E xs μ Q E0 ar hc => ?_)
  obtain ⟨w, rfl, hw, q⟩ := hc
  have hc1 := cutS_len w
  generalize hf : figIn (if Txt.startswith w "-" = true then cutS w (some 1) none else w) = fi
  have ew : wholeIn w = wholeOf w fi := by unfold wholeIn; rw [hf]
  have nd := sc_whole_in.nd
  refine wSs_cons (wS_set 1 (wE_cal C_figures_in ar (by decide) (wA_cons ?_)) nd)
  refine wE.imp (Q := fun z μ' => μ = μ' ∧ z = .str (if Txt.startswith w "-" = true then cutS w (some 1) none else w)) ?_ (fun z μ' hz => ?_)
  refine wE_if (wT_val (wE_m1 PySem.F.slot_str_startswith PySem.F.type_str_startswith (wE_name 0 rfl ⟨_, rfl, (wE_str ?_)⟩)))
  refine wM_startswith ?_
  refine ⟨_, rfl, ?_⟩
  refine ⟨fun hk => ?_, fun hk => ?_⟩
  refine wE_slice (wE_name 0 rfl (wE_int ⟨_, rfl, ?_⟩))
  refine wSl_str (szOk (by omega)) ?_
  exact ⟨rfl, by rw [if_pos hk]⟩
  refine wE_name 0 rfl ?_
  exact ⟨rfl, by rw [if_neg (by rw [hk]; simp)]⟩
  obtain ⟨rfl, rfl⟩ := hz
  refine wA_nil ?_
  refine ⟨_, rfl, by split <;> omega, ?_⟩
  rw [hf]
  refine wSs_cons (wS_if ?_)
  refine wT.imp (QB := fun k μ' => μ = μ' ∧ (k = true → wholeIn w = none) ∧ (k = false → ∃ v, fi = some v ∧ wholeIn w = some (if Txt.startswith w "-" = true then 0 - v else v))) ?_ (fun k μ' hq => ?_)
  refine wT_chain (wW_or (wT_cmp (wE_name 1 rfl (wE_non ?_))))
  refine wO_isN ?_
  refine ⟨_, rfl, ?_⟩
  refine ⟨fun hk => ?_, fun hk => ?_⟩
  · cases fi with
    | none => exact ⟨rfl, fun _ => by rw [ew]; rfl, fun z => nomatch z⟩
    | some v => simp [optA, isNon] at hk
  obtain ⟨v, rfl⟩ : ∃ v, fi = some v := by
    cases fi with
    | none => simp [optA, isNon] at hk
    | some v => exact ⟨v, rfl⟩
  refine wW_or1 (wT_cmp (wE_name 0 rfl (wE_str ?_)))
  refine wO_eqS ?_
  refine ⟨_, rfl, ?_⟩
  refine ⟨rfl, fun z => ?_, fun z => ⟨v, rfl, ?_⟩⟩
  · rw [ew]; unfold wholeOf; simp only; rw [if_pos (of_decide_eq_true z)]
  · rw [ew]; unfold wholeOf; simp only; rw [if_neg (of_decide_eq_false z)]
  obtain ⟨rfl, g1, g2⟩ := hq
  refine ⟨fun hk => ?_, fun hk => ?_⟩
  refine wSs_cons (wS_ret (wE_non ?_))
  rw [g1 hk] at q; exact q
  obtain ⟨v, rfl, ev⟩ := g2 hk
  rw [ev] at q
  refine wSs_nil ?_
  refine wSs_cons (wS_ret ?_)
  refine wE_if (wT_val (wE_m1 PySem.F.slot_str_startswith PySem.F.type_str_startswith (wE_name 0 rfl ⟨_, rfl, (wE_str ?_)⟩)))
  refine wM_startswith ?_
  refine ⟨_, rfl, ?_⟩
  refine ⟨fun hk => ?_, fun hk => ?_⟩
  refine wE_bin (wE_int (wE_name 1 rfl ?_))
  refine wO_sub ?_
  rw [if_pos hk] at q; exact q
  refine wE_name 1 rfl ?_
  rw [if_neg (by rw [hk]; simp)] at q; exact q

abbrev s_number_in : Stmt := topS 16
abbrev N_number_in : List Str := ["word", "top", "stroke", "below", "n", "d"]
theorem sc_number_in : FnScope N_number_in ["word"] (defScope s_number_in) := ⟨rfl, rfl, rfl, by decide +kernel, rfl, by decide +kernel, by decide +kernel⟩
def c_number_in : AC := fun xs μ Q _ => ∃ w : Str, xs = [.str w] ∧ w.length ≤ 640 ∧ Q (numIn w) μ
theorem figIn_bd {w : Str} {d : Int} (hw : w.length ≤ 640) (h : figIn w = some d) : 0 ≤ d ∧ Bd 2200 d := by
  unfold figIn at h
  split at h
  · rename_i hc
    simp only [Bool.and_eq_true, decide_eq_true_eq] at hc
    obtain ⟨nv, n1, n2, n3⟩ := dig_int hc.2 (by omega) hw
    split at h
    · cases h
    · rw [n1] at h; cases h; exact ⟨n2, n3⟩
  · cases h
theorem ok_number_in {f : Addr} {fd : FuncData} (T : Txt K mg) (C_whole_in : Cal P w K mg base 2 "whole_in" c_whole_in) (C_figures_in : Cal P w K mg base 1 "figures_in" c_figures_in) (C_fraction : Cal P w K mg base 2 "fraction" c_fraction) (F : Fun K "number_in" "number_in" s_number_in f fd) : FnD P w K mg base CX0 3 f fd ["word"] c_number_in := by
  refine fnD F sc_number_in (fun xs μ Q E hc => by obtain ⟨w, rfl, hw, q⟩ := hc; rfl) (fun cdv Ao outer s H E xs μ Q E0 ar hc => ?_)
  obtain ⟨w, rfl, hw, q⟩ := hc
  obtain ⟨l1, l2, l3⟩ := fact_partition w "/"
  generalize hn : wholeIn (Txt.partition w "/").1 = nn
  generalize hd : belowIn w = dd
  have en : numIn w = numOf nn dd := by unfold numIn; rw [hn, hd]
  have nd := sc_number_in.nd
  refine wSs_cons (wS_asg (wE_m1 PySem.F.slot_str_partition PySem.F.type_str_partition (wE_name 0 rfl ⟨_, rfl, (wE_str ?_)⟩)))
  refine wM_partition (by decide) (szOk (by omega)) ?_
  refine wG_tup (wGs_cons (wG_name 1 (wGs_cons (wG_name 2 (wGs_cons (wG_name 3 (wGs_nil (wSs_cons (wS_set 4 (wE_cal C_whole_in ar (by decide) (wA_cons (wE_name 1 rfl (wA_nil ?_)))) nd))) nd)) nd)) nd))
  refine ⟨_, rfl, by omega, ?_⟩
  rw [hn]
  refine wSs_cons (wS_set 5 ?_ nd)
  refine wE.imp (Q := fun z μ' => μ = μ' ∧ z = optA dd) ?_ (fun z μ' hz => ?_)
  refine wE_if (wT_cmp (wE_name 2 rfl (wE_str ?_)))
  refine wO_neS ?_
  refine ⟨_, rfl, ?_⟩
  refine ⟨fun hk => ?_, fun hk => ?_⟩
  refine wE_cal C_figures_in ar (by decide) (wA_cons (wE_name 3 rfl (wA_nil ?_)))
  refine ⟨_, rfl, by omega, ?_⟩
  exact ⟨rfl, by rw [← hd]; unfold belowIn; rw [if_pos (by simpa using hk)]⟩
  refine wE_int ?_
  exact ⟨rfl, by rw [← hd]; unfold belowIn; rw [if_neg (by simpa using hk)]; rfl⟩
  obtain ⟨rfl, rfl⟩ := hz
  refine wSs_cons (wS_if ?_)
  refine wT.imp (QB := fun k μ' => μ = μ' ∧ (k = true → numIn w = .non) ∧ (k = false → ∃ n d, nn = some n ∧ dd = some d ∧ d ≠ 0)) ?_ (fun k μ' hq => ?_)
  refine wT_chain (wW_or (wT_cmp (wE_name 4 rfl (wE_non ?_))))
  refine wO_isN ?_
  refine ⟨_, rfl, ?_⟩
  refine ⟨fun hk => ?_, fun hk => ?_⟩
  · refine ⟨rfl, fun _ => ?_, fun z => nomatch z⟩
    cases nn with
    | none => rw [en]; cases dd <;> rfl
    | some v => simp [optA, isNon] at hk
  obtain ⟨n, rfl⟩ : ∃ v, nn = some v := by
    cases nn with
    | none => simp [optA, isNon] at hk
    | some v => exact ⟨v, rfl⟩
  refine wW_or (wT_cmp (wE_name 5 rfl (wE_non ?_)))
  refine wO_isN ?_
  refine ⟨_, rfl, ?_⟩
  refine ⟨fun hk => ?_, fun hk => ?_⟩
  · refine ⟨rfl, fun _ => ?_, fun z => nomatch z⟩
    cases dd with
    | none => rw [en]; rfl
    | some v => simp [optA, isNon] at hk
  obtain ⟨d, rfl⟩ : ∃ v, dd = some v := by
    cases dd with
    | none => simp [optA, isNon] at hk
    | some v => exact ⟨v, rfl⟩
  refine wW_or1 (wT_cmp (wE_name 5 rfl (wE_int ?_)))
  refine wO_eqI ?_
  refine ⟨_, rfl, ?_⟩
  refine ⟨rfl, fun z => ?_, fun z => ⟨n, d, rfl, rfl, of_decide_eq_false z⟩⟩
  rw [en]; unfold numOf; simp only; rw [if_pos (of_decide_eq_true z)]
  obtain ⟨rfl, g1, g2⟩ := hq
  refine ⟨fun hk => ?_, fun hk => ?_⟩
  refine wSs_cons (wS_ret (wE_non ?_))
  rw [g1 hk] at q; exact q
  obtain ⟨n, d, rfl, rfl, d0⟩ := g2 hk
  have e : numIn w = low n d := by rw [en]; unfold numOf; simp only; rw [if_neg d0]
  rw [e] at q
  have db : Bd 8000 d := by
    unfold belowIn at hd
    split at hd
    · exact (figIn_bd (by omega) hd).2.mono (by decide)
    · cases hd; unfold Bd; decide +kernel
  refine wSs_nil ?_
  refine wSs_cons (wS_ret (wE_cal C_fraction ar (by decide) (wA_cons (wE_name 4 rfl (wA_cons (wE_name 5 rfl (wA_nil ?_)))))))
  refine ⟨n, d, rfl, d0, db, ?_⟩
  exact q

end
end D

set_option Elab.async false
set_option linter.all false
set_option maxRecDepth 100000
set_option maxHeartbeats 4000000
namespace D
open PySem PySem.Spec PyProof.Rows L2
local macro_rules | `(tactic| walk_at "mul") => `(tactic| first | refine wO_mul (mulR (by first | decide | omega) (by first | decide | omega)) ?_ | refine wO_mul (mulL (by first | decide | omega) (by first | decide | omega)) ?_)
local macro_rules | `(tactic| walk_at "mod") => `(tactic| refine wO_mod (by first | decide | omega) ?_)
local macro_rules | `(tactic| walk_at "fdiv") => `(tactic| refine wO_fdiv (by first | decide | omega) (divS (by first | decide | omega)) ?_)
local macro_rules | `(tactic| walk_at "ix") => `(tactic| first | refine wI_tup (by rfl) ?_ | refine wI_lst (by rfl) ?_)
local macro_rules | `(tactic| walk_at "sl") => `(tactic| first | refine wSl_tup ?_ | refine wSl_lstF ?_)
section
variable {P : Program} {w : World} {mg : Str → Option Value} {base : Heap} {K : PySem.W.Frag}
abbrev s_is_name : Stmt := topS 21
abbrev N_is_name : List Str := ["thing", "sign"]
theorem sc_is_name : FnScope N_is_name ["thing"] (defScope s_is_name) := ⟨rfl, rfl, rfl, by decide +kernel, rfl, by decide +kernel, by decide +kernel⟩
theorem split_bars : Txt.split "in out part give call repeat end plus less times over power most least size pick copy" " " = BARS := by decide +kernel
def c_is_name : AC := fun xs μ Q _ => ∃ (x : D.A) (nm : String) (k : Bool), xs = [x] ∧ tyN μ x = some nm ∧ kitB nm "str" = some k ∧ (k = true → ∃ w, x = .str w ∧ w.length ≤ 1000) ∧ (k = false → isNm x = false) ∧ Q (.bl (isNm x)) μ
theorem ok_is_name {f : Addr} {fd : FuncData} (T : Txt K mg)  (F : Fun K "is_name" "is_name" s_is_name f fd) : FnD P w K mg base CX0 1 f fd ["thing"] c_is_name := by
  refine fnD F sc_is_name (fun xs μ Q E hc => by obtain ⟨x, nm, k, rfl, t1, t2, t3, t4, q⟩ := hc; rfl) (fun cdv Ao outer s H E xs μ Q E0 ar hc => ?_)
  obtain ⟨x, nm, k, rfl, t1, t2, t3, t4, q⟩ := hc
  have nd := sc_is_name.nd
  refine wSs_cons (wS_if ?_)
  refine wT.imp (QB := fun k' μ' => μ = μ' ∧ (k' = true → isNm x = false) ∧ (k' = false → ∃ w, x = .str w ∧ w.length ≤ 1000 ∧ isNm x = letA w)) ?_ (fun k μ' hq => ?_)
  refine wT_chain (wW_or (wT_not (wT_val (wE_callB (id := "isinstance") T.b_isinstance (by decide +kernel) (wA_cons (wE_name 0 rfl (wA_cons (wE_type (n := "str") T.b_str (by decide +kernel) (wA_nil ?_)))))))))
  refine wC_isi t1 t2 ?_
  refine ⟨_, rfl, ?_⟩
  refine ⟨fun hk => ?_, fun hk => ?_⟩
  · exact ⟨rfl, fun _ => t4 (by simpa using hk), fun z => nomatch z⟩
  obtain ⟨w, rfl, hw⟩ := t3 (by simpa using hk)
  refine wW_or (wT_not (wT_chain2 (wE_int (wE_callB (id := "len") T.b_len (by decide +kernel) (wA_cons (wE_name 0 rfl (wA_nil ?_)))))))
  refine wC_lenS (szOk (by omega)) ?_
  refine wO_le ?_
  refine ⟨_, rfl, and_flip (fun hk => ?_) (fun hk => ?_)⟩
  · exact ⟨fun _ => ⟨rfl, fun _ => by simp only [isNm]; rw [hk]; rfl, fun z => nomatch z⟩, fun z => nomatch z⟩
  have h1 := hk
  refine wE_glob T.k_MOST_LETTERS ?_
  refine wO_le ?_
  refine ⟨_, rfl, ?_⟩
  refine ⟨fun hk => ?_, fun hk => ?_⟩
  · have h2 : decide ((w.length : Int) ≤ 8) = false := by simpa using hk
    exact ⟨rfl, fun _ => by simp only [isNm]; rw [h1, h2]; rfl, fun z => nomatch z⟩
  have h2 : decide ((w.length : Int) ≤ 8) = true := by simpa using hk
  refine wW_or1 (wT_cmp (wE_name 0 rfl (wE_glob T.k_BARRED ?_)))
  refine wO_in (.tup _) rfl (by rfl) ?_
  refine ⟨_, rfl, ?_⟩
  refine ⟨rfl, fun z => ?_, fun z => ⟨w, rfl, hw, ?_⟩⟩
  · simp only [isNm]; rw [h1, h2, z]; rfl
  · simp only [isNm]; rw [h1, h2, z]; rfl
  obtain ⟨rfl, g1, g2⟩ := hq
  refine ⟨fun hk => ?_, fun hk => ?_⟩
  refine wSs_cons (wS_ret (wE_bl ?_))
  rw [g1 hk] at q; exact q
  obtain ⟨w, rfl, hw, e⟩ := g2 hk
  rw [e] at q
  refine wSs_nil ?_
  refine wSs_cons (wS_ret (wE_callB (id := "all") T.b_all (by decide +kernel) (wA_cons (wE_lcF (own := [("sign", 1)]) (wIt_str (wE_name 0 rfl ⟨_, rfl, ?_⟩)) nd (blkOk_by (N := N_is_name) (sc := defScope s_is_name) (by decide +kernel))))))
  refine ⟨szOk (by simp only [signsA, List.length_map]; show w.cps.toList.length ≤ _; rw [Array.length_toList]; exact Nat.le_trans hw (by decide)), (w.cps.toList.map fun ch => decide (ch ∈ LETS.cps.toList)).map D.A.bl, by simp [signsA], fun j y z hy hz s0 H0 C cl fp => ?_, ?_⟩
  obtain ⟨ch, h3, rfl⟩ := map_at hy
  obtain ⟨bz, h4, rfl⟩ := map_at hz
  obtain ⟨ch2, h5, rfl⟩ := map_at h4
  obtain rfl : ch = ch2 := Option.some.inj (h3.symm.trans h5)
  refine wGw_name 1 ⟨rfl, fun s0 H0 C cl fp => (wE_cmp (wE_name 1 rfl (wE_glob T.k_LETTERS ?_)))⟩ nd
  refine wO_inSign ?_
  refine ⟨?_, .refl _⟩
  rfl
  refine wA_nil ?_
  refine wC_all rfl (.lst _) ?_
  rw [show ((w.cps.toList.map fun ch => decide (ch ∈ LETS.cps.toList)).all id) = letA w by unfold letA; rw [List.all_map]; rfl]
  exact q

abbrev s__law_names : Stmt := topS 27
abbrev N__law_names : List Str := ["_law_m", "_law_many", "_law_letters", "_law_start", "_law_way", "_law_size", "_law_at", "_law_stride", "_law_base", "_law_j", "_law_found", "_law_k", "_law_mark", "_law_bars", "_law_name"]
theorem sc__law_names : FnScope N__law_names ["_law_m", "_law_many"] (defScope s__law_names) := ⟨rfl, rfl, rfl, by decide +kernel, rfl, by decide +kernel, by decide +kernel⟩
theorem atI_ex {xs : List D.A} {i : Int} (h0 : 0 ≤ i) (h1 : i < xs.length) : ∃ y ∈ xs, atI xs i = some y := by
  have h : i.toNat < xs.length := by omega
  exact ⟨xs[i.toNat], List.getElem_mem h, atI_pos (List.getElem?_eq_getElem h) h0⟩
def c__law_names : AC := fun xs μ Q _ => ∃ (m l : Addr) (c many : Nat), xs = [.loc m, .int many] ∧ many ≤ 100 ∧ Lw m l c μ ∧ c < 2 ^ 39 ∧ ∀ (ws : List Str) (μ' : Mu), ws.length = many → (∀ w ∈ ws, isNm (.str w) = true) → Lw m l (c + 5) μ' → Ls m l μ μ' → Q (.lst (ws.map D.A.str)) μ'
theorem ok__law_names {f : Addr} {fd : FuncData} (T : Txt K mg) (C__law_draw : Cal P w K mg base 2 "_law_draw" c__law_draw) (F : Fun K "_law_names" "_law_names" s__law_names f fd) : FnD P w K mg base CX0 3 f fd ["_law_m", "_law_many"] c__law_names := by
  refine fnD F sc__law_names (fun xs μ Q E hc => by obtain ⟨m, l, c, many, rfl, hmany, lw, hc, q⟩ := hc; rfl) (fun cdv Ao outer s H E xs μ Q E0 ar hc => ?_)
  obtain ⟨m, l, c, many, rfl, hmany, lw, hc, q⟩ := hc
  have nd := sc__law_names.nd
  refine wSs_cons (wS_set 2 (wE_str (wSs_cons (wS_asg (wE_tup (wA_cons (wE_cal C__law_draw ar (by decide) (wA_cons (wE_name 0 rfl (wA_cons (wE_int (wA_nil ?_))))))))))) nd)
  refine ⟨m, l, 26, c, rfl, by decide, by decide, lw, by omega, fun start μ1 a0 a1 lw1 ls1 => ?_⟩
  refine wA_cons (wE_cal C__law_draw ar (by decide) (wA_cons (wE_name 0 rfl (wA_cons (wE_int (wA_nil ?_))))))
  refine ⟨m, l, 4, _, rfl, by decide, by decide, lw1, by omega, fun way μ2 b0 b1 lw2 ls2 => ?_⟩
  refine wA_nil ⟨by show 2 ≤ sizeLine; decide, (wG_tup (wGs_cons (wG_name 3 (wGs_cons (wG_name 4 (wGs_nil (wSs_cons (wS_set 5 (wE_bin (wE_int (wE_cal C__law_draw ar (by decide) (wA_cons (wE_name 0 rfl (wA_cons (wE_int (wA_nil ?_)))))))) nd))) nd)) nd)))⟩
  refine ⟨m, l, 7, _, rfl, by decide, by decide, lw2, by omega, fun r3 μ3 c0 c1 lw3 ls3 => ?_⟩
  refine wO_add ?_
  refine wSs_cons (wS_set 6 (wE_cal C__law_draw ar (by decide) (wA_cons (wE_name 0 rfl (wA_cons (wE_name 5 rfl (wA_nil ?_)))))) nd)
  refine ⟨m, l, _, _, rfl, by omega, by omega, lw3, by omega, fun at_ μ4 d0 d1 lw4 ls4 => ?_⟩
  refine wSs_cons (wS_set 7 (wE_ix (wE_lstF (wA_cons (wE_int (wA_cons (wE_int (wA_cons (wE_int (wA_cons (wE_int (wA_cons (wE_int (wA_cons (wE_int (wA_nil ⟨by show 6 ≤ sizeLine; decide, (wE_cal C__law_draw ar (by decide) (wA_cons (wE_name 0 rfl (wA_cons (wE_int (wA_nil ?_))))))⟩))))))))))))))) nd)
  refine ⟨m, l, 6, _, rfl, by decide, by decide, lw4, by omega, fun r5 μ5 e0 e1 lw5 ls5 => ?_⟩
  obtain ⟨y1, hy1, ey1⟩ := atI_ex (xs := [D.A.int 1, .int 3, .int 7, .int 11, .int 17, .int 25]) e0 (by simpa using e1)
  obtain ⟨stride, rfl, z0, z1⟩ : ∃ z : Int, y1 = .int z ∧ 1 ≤ z ∧ z ≤ 25 := by
    simp only [List.mem_cons, List.not_mem_nil, or_false] at hy1
    rcases hy1 with rfl | rfl | rfl | rfl | rfl | rfl <;> exact ⟨_, rfl, by decide, by decide⟩
  refine wI_lst ey1 ?_
  refine wSs_cons (wS_set 8 (wE_m1 PySem.F.slot_str_join PySem.F.type_str_join (wE_str ⟨_, rfl, (wE_lcF (own := [("_law_j", 9)]) (wIt_range1 T.b_range (wA_cons (wE_int (wA_nil ⟨_, rfl, by omega, by omega, ?_⟩)))) nd (blkOk_by (N := N__law_names) (sc := defScope s__law_names) (by decide +kernel)))⟩)) nd)
  refine ⟨by rw [rgA_len]; decide, ((List.range 8).map (fun (j : Nat) => ltr ((start + 5 * (0 + (j : Int))) % 26))).map D.A.str, by simp [rgA_len], fun i y z hy hz s0 H0 C cl fp => ?_, ?_⟩
  obtain ⟨hi, rfl⟩ := rgA_at hy
  refine wGw_name 9 ⟨rfl, fun s0 H0 C cl fp => (wE_ix (wE_name 2 rfl (wE_bin (wE_bin (wE_name 3 rfl (wE_bin (wE_int (wE_name 9 rfl ?_))))))))⟩ nd
  walk_at "mul"
  refine wO_add ?_
  refine wE_int ?_
  walk_at "mod"
  refine wI_str (by decide) (ltr_at (by omega) (by omega)) ?_
  refine ⟨?_, .refl _⟩
  obtain ⟨w1, hw1, rfl⟩ := map_at hz
  obtain ⟨_, rfl⟩ := mapR_at hw1
  rfl
  refine wM_join (.inl (.lst _)) (by rw [sum_ltrs, List.length_map, List.length_range]; decide) ?_
  generalize hB : Txt.join "" ((List.range 8).map (fun (j : Nat) => ltr ((start + 5 * (0 + (j : Int))) % 26))) = base
  have lb : letA base = true := by rw [← hB]; exact letA_join (fun w hw => by obtain ⟨j, _, rfl⟩ := List.mem_map.mp hw; exact letA_ltr _)
  have nb : base.length ≤ 8 := by rw [← hB]; exact len_ltrs _ 8
  refine wSs_cons (wS_set 10 (wE_lst (wA_nil ⟨by show 0 ≤ sizeLine; decide, fun p__law_found np__law_found => (wSs_cons (wS_for (wIt_range1 T.b_range (wA_cons (wE_name 1 rfl (wA_nil ⟨_, rfl, by omega, by omega, ?_⟩))))))⟩)) nd)
  refine ⟨fun i Γ' μ' => ∃ (ws : List Str) (a b : Option D.A), Γ' = [some (.loc m), some (.int many), some (.str LETS), some (.int start), some (.int way), some (.int (1 + r3)), some (.int at_), some (.int stride), some (.str base), none, some (.loc p__law_found), a, b, none, none] ∧ μ' = μ5.upd p__law_found (.lst (ws.map D.A.str)) ∧ ws.length = i ∧ ∀ w ∈ ws, NmOk w, ⟨[], _, _, rfl, rfl, rfl, fun _ h => nomatch h⟩, fun i y Γ' μ' hy hI => ?_, fun Γ' μ' hI => ?_⟩
  obtain ⟨ws, a, b, rfl, rfl, hws, hok⟩ := hI
  obtain ⟨hi, rfl⟩ := rgA_at hy
  have hi2 : i < 100 := by omega
  refine wG_name 11 ?_ nd
  refine wSs_cons (wS_set 12 (wE_ix (wE_name 2 rfl (wE_bin (wE_bin (wE_name 3 rfl (wE_bin (wE_name 7 rfl (wE_name 11 rfl ?_)))))))) nd)
  walk_at "mul"
  refine wO_add ?_
  refine wE_int ?_
  walk_at "mod"
  refine wI_str (by decide) (ltr_at (Int.emod_nonneg _ (by decide)) (Int.emod_lt_of_pos _ (by decide))) ?_
  refine wSs_cut (fun Γ' μ' => ∃ (w : Str) (a b : Option D.A), NmOk w ∧ Γ' = [some (.loc m), some (.int many), some (.str LETS), some (.int start), some (.int way), some (.int (1 + r3)), some (.int at_), some (.int stride), some (.str base), none, some (.loc p__law_found), a, b, none, none] ∧ μ' = μ5.upd p__law_found (.lst ((ws ++ [w]).map D.A.str))) ?_ (fun Γ' μ' hP => ?_)
  generalize hg : ({ cps := #[LETS.cps.toList.getD ((start + stride * (0 + (i : Int))) % 26).toNat 97] } : Str) = mark
  have lm : letA mark = true := by rw [← hg]; exact letA_ltr ((start + stride * (0 + (i : Int))) % 26)
  have nm1 : mark.length = 1 := by rw [← hg]; rfl
  refine wS_if (wT_cmp (wE_name 4 rfl (wE_int ?_)))
  refine wO_eqI ?_
  refine ⟨_, rfl, ?_⟩
  refine ⟨fun hk => ?_, fun hk => ?_⟩
  refine wSs_cons (wS_expr (wE_append (wE_name 10 rfl ?_)))
  refine ⟨_, _, rfl, Mu.upd_same, ?_⟩
  refine wE_bin (wE_name 12 rfl (wE_slice (wE_name 8 rfl (wE_bin (wE_bin (wE_name 11 rfl (wE_name 7 rfl ?_)))))))
  walk_at "mul"
  refine wE_int ?_
  walk_at "mod"
  refine ⟨_, rfl, ?_⟩
  refine wSl_str (szOk (by omega)) ?_
  refine wO_addS (szOk (by have := cutS_hi base ((0 + (i : Int)) * stride % 8) (by omega); omega)) ?_
  refine ⟨_, Mu.upd_same, szLt (by rw [List.length_map]; omega), ?_⟩
  refine wSs_nil ?_
  have n2 := cutS_hi base ((0 + (i : Int)) * stride % 8) (by omega)
  refine ⟨_, _, _, ⟨?_, ?_, ?_⟩, rfl, by rw [Mu.upd_upd, List.map_append]; rfl⟩
  · rw [letA_app, lm, letA_cut lb]; rfl
  · rw [Str.length_append]; omega
  · rw [Str.length_append]; omega
  refine wSs_cons (wS_expr (wE_append (wE_name 10 rfl ?_)))
  refine ⟨_, _, rfl, Mu.upd_same, ?_⟩
  refine wE_bin (wE_bin (wE_slice (wE_name 8 rfl (wE_name 6 rfl ⟨_, rfl, ?_⟩))))
  refine wSl_str (szOk (by omega)) ?_
  refine wE_name 12 rfl ?_
  refine wO_addS (szOk (by have := cutS_hi base at_ (by omega); omega)) ?_
  refine wE_slice (wE_name 8 rfl (wE_bin (wE_name 6 rfl (wE_int ?_))))
  refine wO_add ?_
  refine ⟨_, rfl, (wE_name 5 rfl ⟨_, rfl, ?_⟩)⟩
  refine wSl_str (szOk (by omega)) ?_
  refine wO_addS (szOk (by have := cutS_hi base at_ (by omega); have := cutS_mid base (at_ + 1) (1 + r3) (by omega); rw [Str.length_append]; omega)) ?_
  refine ⟨_, Mu.upd_same, szLt (by rw [List.length_map]; omega), ?_⟩
  refine wSs_nil ?_
  have n2 := cutS_hi base at_ (by omega)
  have n3 := cutS_mid base (at_ + 1) (1 + r3) (by omega)
  refine ⟨_, _, _, ⟨?_, ?_, ?_⟩, rfl, by rw [Mu.upd_upd, List.map_append]; rfl⟩
  · rw [letA_app, letA_app, lm, letA_cut lb, letA_cut lb]; rfl
  · rw [Str.length_append, Str.length_append]; omega
  · rw [Str.length_append, Str.length_append]; omega
  obtain ⟨w, a, b, hw, rfl, rfl⟩ := hP
  refine wSs_nil ?_
  refine ⟨ws ++ [w], _, _, rfl, rfl, by simp [hws], fun x hx => ?_⟩
  rcases List.mem_append.mp hx with hx | hx
  · exact hok x hx
  · rw [List.mem_singleton.mp hx]; exact hw
  obtain ⟨ws, a, b, rfl, rfl, hws, hok⟩ := hI
  rw [rgA_len, Int.toNat_natCast] at hws
  refine wSs_cons (wS_set 13 (wE_m1 PySem.F.slot_str_split PySem.F.type_str_split (wE_str ⟨_, rfl, (wE_str ?_)⟩)) nd)
  refine wM_split (by decide) (by decide) ?_
  rw [split_bars]
  refine wSs_frz 10 Mu.upd_same rfl ?_
  rw [Mu.del_upd np__law_found]
  refine wSs_cons (wS_ret (wE_lcF (own := [("_law_name", 14)]) (wIt_list (wE_name 10 rfl ⟨_, rfl, ?_⟩)) nd (blkOk_by (N := N__law_names) (sc := defScope s__law_names) (by decide +kernel))))
  refine ⟨szOk (by rw [List.length_map]; omega), (ws.map fixN).map D.A.str, by simp, fun i y z hy hz s0 H0 C cl fp => ?_, ?_⟩
  obtain ⟨w, h1, rfl⟩ := map_at hy
  obtain ⟨w2, h2, rfl⟩ := map_at hz
  obtain ⟨w3, h3, rfl⟩ := map_at h2
  obtain rfl : w = w3 := Option.some.inj (h1.symm.trans h3)
  have hn := hok w (List.mem_of_getElem? h1)
  refine wGw_name 14 ⟨rfl, fun s0 H0 C cl fp => ?_⟩ nd
  refine wE_if (wT_cmp (wE_name 14 rfl (wE_name 13 rfl ?_)))
  refine wO_notIn (.lst _) rfl (by rfl) ?_
  refine ⟨_, rfl, ?_⟩
  refine ⟨fun hk => ?_, fun hk => ?_⟩
  refine wE_name 14 rfl ?_
  exact ⟨by unfold fixN; rw [if_neg (by simpa using hk)], .refl _⟩
  refine wE_bin (wE_bin (wE_str (wE_slice (wE_name 14 rfl (wE_int ⟨_, rfl, ?_⟩)))))
  refine wSl_str (szOk (by have := hn.hi; omega)) ?_
  refine wO_addS (szOk (by have := cutS_hi w 1 (by omega); have e2 : ("zz" : Str).length = 2 := (by decide); omega)) ?_
  refine wE_str ?_
  refine wO_addS (szOk (by have := cutS_hi w 1 (by omega); have e2 : ("zz" : Str).length = 2 := (by decide); have e3 : ("z" : Str).length = 1 := (by decide); rw [Str.length_append]; omega)) ?_
  refine ⟨?_, .refl _⟩
  unfold fixN; rw [if_pos (by simpa using hk)]
  refine q _ _ (by simp [hws]) (fun w hw => ?_) lw5 ((((ls1.trans ls2).trans ls3).trans ls4).trans ls5)
  obtain ⟨w0, hw0, rfl⟩ := List.mem_map.mp hw
  exact fixN_ok (hok w0 hw0)

end
end D

set_option Elab.async false
set_option linter.all false
set_option maxRecDepth 100000
set_option maxHeartbeats 4000000
namespace D
open PySem PySem.Spec PyProof.Rows L2
local macro_rules | `(tactic| walk_at "mul") => `(tactic| first | refine wO_mul (mulR (by first | decide | omega) (by first | decide | omega)) ?_ | refine wO_mul (mulL (by first | decide | omega) (by first | decide | omega)) ?_)
local macro_rules | `(tactic| walk_at "mod") => `(tactic| refine wO_mod (by first | decide | omega) ?_)
local macro_rules | `(tactic| walk_at "fdiv") => `(tactic| refine wO_fdiv (by first | decide | omega) (divS (by first | decide | omega)) ?_)
local macro_rules | `(tactic| walk_at "ix") => `(tactic| first | refine wI_tup (by rfl) ?_ | refine wI_lst (by rfl) ?_)
local macro_rules | `(tactic| walk_at "sl") => `(tactic| first | refine wSl_tup ?_ | refine wSl_lstF ?_)
section
variable {P : Program} {w : World} {mg : Str → Option Value} {base : Heap} {K : PySem.W.Frag}
abbrev s__law_common : Stmt := topS 28
abbrev N__law_common : List Str := ["_law_one", "_law_other"]
theorem sc__law_common : FnScope N__law_common ["_law_one", "_law_other"] (defScope s__law_common) := ⟨rfl, rfl, rfl, by decide +kernel, rfl, by decide +kernel, by decide +kernel⟩
def c__law_common : AC := fun xs μ Q _ => ∃ a b : Int, xs = [.int a, .int b] ∧ Q (.int (Int.gcd a b : Nat)) μ
theorem ok__law_common {f : Addr} {fd : FuncData} (T : Txt K mg)  (F : Fun K "_law_common" "_law_common" s__law_common f fd) : FnD P w K mg base CX0 1 f fd ["_law_one", "_law_other"] c__law_common := by
  refine fnD F sc__law_common (fun xs μ Q E hc => by obtain ⟨a, b, rfl, q⟩ := hc; rfl) (fun cdv Ao outer s H E xs μ Q E0 ar hc => ?_)
  obtain ⟨a, b, rfl, q⟩ := hc
  have nd := sc__law_common.nd
  refine wSs_cons (wS_par 0 1 (wA_cons (wE_callB (id := "abs") T.b_abs (by decide +kernel) (wA_cons (wE_name 0 rfl (wA_nil ?_))))) nd)
  refine wC_abs ?_
  refine wA_cons (wE_callB (id := "abs") T.b_abs (by decide +kernel) (wA_cons (wE_name 1 rfl (wA_nil ?_))))
  refine wC_abs ?_
  refine wA_nil ⟨_, _, rfl, (wSs_cons ?_)⟩
  refine wS_while (fun m Γ' μ' => ∃ x y : Nat, Γ' = [some (.int x), some (.int y)] ∧ μ = μ' ∧ Nat.gcd x y = Int.gcd a b ∧ y ≤ m) b.natAbs ⟨a.natAbs, b.natAbs, ?_, rfl, rfl, Nat.le_refl _⟩ (fun m Γ' μ' hW => ?_)
  · have e1 : (if a < 0 then -a else a) = (a.natAbs : Int) := by split <;> omega
    have e2 : (if b < 0 then -b else b) = (b.natAbs : Int) := by split <;> omega
    rw [e1, e2]; rfl
  obtain ⟨x, y, rfl, rfl, hg, hy⟩ := hW
  refine wT_cmp (wE_name 1 rfl (wE_int ?_))
  refine wO_gt ?_
  refine ⟨_, rfl, ?_⟩
  refine ⟨fun hk => ?_, fun hk => ?_⟩
  have hk2 : (0 : Int) < y := of_decide_eq_true hk
  refine wSs_cons (wS_par 0 1 (wA_cons (wE_name 1 rfl (wA_cons (wE_bin (wE_name 0 rfl (wE_name 1 rfl ?_)))))) nd)
  walk_at "mod"
  refine wA_nil ⟨_, _, rfl, (wSs_nil ?_)⟩
  refine ⟨x % y, Nat.lt_of_lt_of_le (Nat.mod_lt _ (by omega)) hy, y, x % y, rfl, rfl, ?_, Nat.le_refl _⟩
  rw [← hg, Nat.gcd_comm x y, Nat.gcd_rec y x, Nat.gcd_comm]
  have hk2 : ¬ (0 : Int) < y := of_decide_eq_false hk
  obtain rfl : y = 0 := by omega
  rw [Nat.gcd_zero_right] at hg
  refine wSs_cons (wS_ret (wE_name 0 rfl ?_))
  rw [hg]; exact q

abbrev s__law_lowest : Stmt := topS 29
abbrev N__law_lowest : List Str := ["_law_n", "_law_d", "_law_part"]
theorem sc__law_lowest : FnScope N__law_lowest ["_law_n", "_law_d"] (defScope s__law_lowest) := ⟨rfl, rfl, rfl, by decide +kernel, rfl, by decide +kernel, by decide +kernel⟩
def c__law_lowest : AC := fun xs μ Q _ => ∃ n d : Int, xs = [.int n, .int d] ∧ d ≠ 0 ∧ Bd 8000 d ∧ Q (low n d) μ
theorem ok__law_lowest {f : Addr} {fd : FuncData} (T : Txt K mg) (C__law_common : Cal P w K mg base 1 "_law_common" c__law_common) (F : Fun K "_law_lowest" "_law_lowest" s__law_lowest f fd) : FnD P w K mg base CX0 2 f fd ["_law_n", "_law_d"] c__law_lowest := by
  refine fnD F sc__law_lowest (fun xs μ Q E hc => by obtain ⟨n, d, rfl, d0, hd, q⟩ := hc; rfl) (fun cdv Ao outer s H E xs μ Q E0 ar hc => ?_)
  obtain ⟨n, d, rfl, d0, hd, q⟩ := hc
  have nd := sc__law_lowest.nd
  refine wSs_cons (wS_set 2 (wE_cal C__law_common ar (by decide) (wA_cons (wE_name 0 rfl (wA_cons (wE_name 1 rfl (wA_nil ?_)))))) nd)
  refine ⟨n, d, rfl, ?_⟩
  refine wSs_cons (wS_set 2 ?_ nd)
  refine wE.imp (Q := fun z μ' => μ = μ' ∧ z = .int (part n d)) ?_ (fun z μ' hz => ?_)
  refine wE_if (wT_cmp (wE_name 1 rfl (wE_int ?_)))
  refine wO_gt ?_
  refine ⟨_, rfl, ?_⟩
  refine ⟨fun hk => ?_, fun hk => ?_⟩
  refine wE_name 2 rfl ?_
  exact ⟨rfl, by unfold part; rw [if_pos (of_decide_eq_true hk)]⟩
  refine wE_bin (wE_int (wE_name 2 rfl ?_))
  refine wO_sub ?_
  exact ⟨rfl, by unfold part; rw [if_neg (of_decide_eq_false hk)]⟩
  obtain ⟨rfl, rfl⟩ := hz
  refine wSs_cons (wS_ret (wE_tup (wA_cons (wE_bin (wE_name 0 rfl (wE_name 2 rfl ?_))))))
  refine wO_fdivN (part_ne d0) ((part_bd d0 hd).noPy (by decide) (by decide)) ?_
  refine wA_cons (wE_bin (wE_name 1 rfl (wE_name 2 rfl ?_)))
  refine wO_fdivN (part_ne d0) ((part_bd d0 hd).noPy (by decide) (by decide)) ?_
  refine wA_nil ⟨by show 2 ≤ sizeLine; decide, ?_⟩
  exact q

abbrev s__law_fraction : Stmt := topS 30
abbrev N__law_fraction : List Str := ["_law_m", "_law_size", "_law_below"]
theorem sc__law_fraction : FnScope N__law_fraction ["_law_m"] (defScope s__law_fraction) := ⟨rfl, rfl, rfl, by decide +kernel, rfl, by decide +kernel, by decide +kernel⟩
def c__law_fraction : AC := fun xs μ Q _ => ∃ (m l : Addr) (c : Nat), xs = [.loc m] ∧ Lw m l c μ ∧ c < 2 ^ 39 ∧ ∀ (n d : Int) (μ' : Mu), Fr n d → n.natAbs ≤ 10 ^ 20 → d ≤ 9 → Lw m l (c + 4) μ' → Ls m l μ μ' → Q (.tup [.int n, .int d]) μ'
theorem ok__law_fraction {f : Addr} {fd : FuncData} (T : Txt K mg) (C__law_draw : Cal P w K mg base 2 "_law_draw" c__law_draw) (C__law_lowest : Cal P w K mg base 2 "_law_lowest" c__law_lowest) (F : Fun K "_law_fraction" "_law_fraction" s__law_fraction f fd) : FnD P w K mg base CX0 3 f fd ["_law_m"] c__law_fraction := by
  refine fnD F sc__law_fraction (fun xs μ Q E hc => by obtain ⟨m, l, c, rfl, lw, hc, q⟩ := hc; rfl) (fun cdv Ao outer s H E xs μ Q E0 ar hc => ?_)
  obtain ⟨m, l, c, rfl, lw, hc, q⟩ := hc
  have nd := sc__law_fraction.nd
  refine wSs_cons (wS_set 1 (wE_ix (wE_lstF (wA_cons (wE_int (wA_cons (wE_int (wA_cons (wE_int (wA_cons (wE_int (wA_cons (wE_int (wA_cons (wE_bin (wE_int (wE_int ?_)))))))))))))))) nd)
  refine wO_pow (by decide) ?_
  refine wA_nil ⟨by show 6 ≤ sizeLine; decide, (wE_cal C__law_draw ar (by decide) (wA_cons (wE_name 0 rfl (wA_cons (wE_int (wA_nil ?_))))))⟩
  refine ⟨m, l, 6, c, rfl, by decide, by decide, lw, by omega, fun r1 μ1 a0 a1 lw1 ls1 => ?_⟩
  obtain ⟨y1, hy1, e1⟩ := atI_ex (xs := [D.A.int 1, .int 4, .int 9, .int 30, .int 30, .int (10 ^ (20 : Int).toNat)]) a0 (by simpa using a1)
  obtain ⟨z, rfl, z0, z1⟩ : ∃ z : Int, y1 = .int z ∧ 1 ≤ z ∧ z ≤ 10 ^ 20 := by
    simp only [List.mem_cons, List.not_mem_nil, or_false] at hy1
    rcases hy1 with rfl | rfl | rfl | rfl | rfl | rfl <;> exact ⟨_, rfl, by decide, by decide⟩
  refine wI_lst e1 ?_
  refine wSs_cons (wS_set 2 (wE_ix (wE_lstF (wA_cons (wE_int (wA_cons (wE_int (wA_cons (wE_int (wA_cons (wE_int (wA_cons (wE_bin (wE_int (wE_cal C__law_draw ar (by decide) (wA_cons (wE_name 0 rfl (wA_cons (wE_int (wA_nil ?_))))))))))))))))))) nd)
  refine ⟨m, l, 9, _, rfl, by decide, by decide, lw1, by omega, fun r2 μ2 b0 b1 lw2 ls2 => ?_⟩
  refine wO_add ?_
  refine wA_nil ⟨by show 5 ≤ sizeLine; decide, (wE_cal C__law_draw ar (by decide) (wA_cons (wE_name 0 rfl (wA_cons (wE_int (wA_nil ?_))))))⟩
  refine ⟨m, l, 5, _, rfl, by decide, by decide, lw2, by omega, fun r3 μ3 d0 d1 lw3 ls3 => ?_⟩
  obtain ⟨y2, hy2, e2⟩ := atI_ex (xs := [D.A.int 1, .int 1, .int 2, .int 3, .int (1 + r2)]) d0 (by simpa using d1)
  obtain ⟨u, rfl, u0, u1⟩ : ∃ u : Int, y2 = .int u ∧ 1 ≤ u ∧ u ≤ 9 := by
    simp only [List.mem_cons, List.not_mem_nil, or_false] at hy2
    rcases hy2 with rfl | rfl | rfl | rfl | rfl <;> exact ⟨_, rfl, by omega, by omega⟩
  refine wI_lst e2 ?_
  refine wSs_cons (wS_ret (wE_cal C__law_lowest ar (by decide) (wA_cons (wE_bin (wE_cal C__law_draw ar (by decide) (wA_cons (wE_name 0 rfl (wA_cons (wE_bin (wE_bin (wE_int (wE_name 1 rfl ?_))))))))))))
  walk_at "mul"
  refine wE_int ?_
  refine wO_add ?_
  refine wA_nil ?_
  refine ⟨m, l, _, _, rfl, by omega, by omega, lw3, by omega, fun r4 μ4 f0 f1 lw4 ls4 => ?_⟩
  refine wE_name 1 rfl ?_
  refine wO_sub ?_
  refine wA_cons (wE_name 2 rfl (wA_nil ?_))
  refine ⟨_, _, rfl, by omega, (Bd.of (n := 8) (by omega) (by omega)).mono (by decide), ?_⟩
  have hfr := low_fr (n := r4 - z) (d := u) (by omega)
  have h1 := lowN_le (n := r4 - z) (d := u) (by omega)
  have h2 := lowD_le (n := r4 - z) (d := u) (by omega)
  have h3 := hfr.pos
  exact q _ _ _ hfr (by omega) (by omega) lw4 (((ls1.trans ls2).trans ls3).trans ls4)

abbrev s__law_is : Stmt := topS 31
abbrev N__law_is : List Str := ["_law_found", "_law_due"]
theorem sc__law_is : FnScope N__law_is ["_law_found", "_law_due"] (defScope s__law_is) := ⟨rfl, rfl, rfl, by decide +kernel, rfl, by decide +kernel, by decide +kernel⟩
def c__law_is : AC := fun xs μ Q _ => ∃ ys : List D.A, xs = [.tup ys, .tup ys] ∧ ShowOk (.tup ys) ∧ Q (.bl true) μ
theorem ok__law_is {f : Addr} {fd : FuncData} (T : Txt K mg)  (F : Fun K "_law_is" "_law_is" s__law_is f fd) : FnD P w K mg base CX0 1 f fd ["_law_found", "_law_due"] c__law_is := by
  refine fnD F sc__law_is (fun xs μ Q E hc => by obtain ⟨ys, rfl, hs, q⟩ := hc; rfl) (fun cdv Ao outer s H E xs μ Q E0 ar hc => ?_)
  obtain ⟨ys, rfl, hs, q⟩ := hc
  have nd := sc__law_is.nd
  refine wSs_cons (wS_ret ?_)
  refine wE_and (wE_callB (id := "isinstance") T.b_isinstance (by decide +kernel) (wA_cons (wE_name 0 rfl (wA_cons (wE_type (n := "tuple") T.b_tuple (by decide +kernel) (wA_nil ?_))))))
  refine wC_isi (n := "tuple") (k := true) rfl rfl ?_
  refine ⟨_, rfl, and_flip (fun hk => ?_) (fun hk => ?_)⟩
  · exact nomatch hk
  refine wE_one (wE_cmp (wE_callB (id := "repr") T.b_repr (by decide +kernel) (wA_cons (wE_name 0 rfl (wA_nil ?_)))))
  refine wC_repr ar hs ?_
  refine wE_callB (id := "repr") T.b_repr (by decide +kernel) (wA_cons (wE_name 1 rfl (wA_nil ?_)))
  refine wC_repr ar hs ?_
  refine wO_eqS ?_
  rw [decide_eq_true rfl]; exact q

abbrev s__law_raised : Stmt := topS 32
abbrev N__law_raised : List Str := ["_law_one", "_law_k", "_law_found", "_law_turn"]
theorem sc__law_raised : FnScope N__law_raised ["_law_one", "_law_k"] (defScope s__law_raised) := ⟨rfl, rfl, rfl, by decide +kernel, rfl, by decide +kernel, by decide +kernel⟩
def c__law_raised : AC := fun xs μ Q _ => ∃ a b k : Int, xs = [.tup [.int a, .int b], .int k] ∧ Bd 200 a ∧ Bd 200 b ∧ -10 ≤ k ∧ k ≤ 10 ∧ (k < 0 → a ≠ 0) ∧ Q (powA a b k) μ
theorem ok__law_raised {f : Addr} {fd : FuncData} (T : Txt K mg) (C__law_lowest : Cal P w K mg base 2 "_law_lowest" c__law_lowest) (F : Fun K "_law_raised" "_law_raised" s__law_raised f fd) : FnD P w K mg base CX0 3 f fd ["_law_one", "_law_k"] c__law_raised := by
  refine fnD F sc__law_raised (fun xs μ Q E hc => by obtain ⟨a, b, k, rfl, ha, hb, k0, k1, ka, q⟩ := hc; rfl) (fun cdv Ao outer s H E xs μ Q E0 ar hc => ?_)
  obtain ⟨a, b, k, rfl, ha, hb, k0, k1, ka, q⟩ := hc
  have nd := sc__law_raised.nd
  refine wSs_cons (wS_set 2 (wE_tup (wA_cons (wE_int (wA_cons (wE_int (wA_nil ⟨by show 2 ≤ sizeLine; decide, (wSs_cons (wS_for (wIt_range1 T.b_range (wA_cons (wE_callB (id := "abs") T.b_abs (by decide +kernel) (wA_cons (wE_name 1 rfl (wA_nil ?_))))))))⟩)))))) nd)
  refine wC_abs ?_
  have ek : (if k < 0 then -k else k) = (k.natAbs : Int) := by split <;> omega
  rw [ek]
  refine wA_nil ⟨_, rfl, by omega, by omega, ?_⟩
  refine ⟨fun i Γ' μ' => ∃ t, Γ' = [some (.tup [.int a, .int b]), some (.int k), some (.tup [.int (a ^ i), .int (b ^ i)]), t] ∧ μ = μ', ⟨_, by rw [Int.pow_zero, Int.pow_zero]; rfl, rfl⟩, fun i y Γ' μ' hy hI => ?_, fun Γ' μ' hI => ?_⟩
  obtain ⟨t, rfl, rfl⟩ := hI
  have hi : i < 10 := by have h := (rgA_at hy).1; omega
  refine wG_name 3 ?_ nd
  refine wSs_cons (wS_set 2 (wE_tup (wA_cons (wE_bin (wE_ix (wE_name 2 rfl (wE_int ?_)))))) nd)
  walk_at "ix"
  refine wE_ix (wE_name 0 rfl (wE_int ?_))
  walk_at "ix"
  refine wO_mul (((Bd.pow ha i).mono (m := 2001) (by omega)).mulOk (ha.mono (by decide)) (by decide)) ?_
  refine wA_cons (wE_bin (wE_ix (wE_name 2 rfl (wE_int ?_))))
  walk_at "ix"
  refine wE_ix (wE_name 0 rfl (wE_int ?_))
  walk_at "ix"
  refine wO_mul (((Bd.pow hb i).mono (m := 2001) (by omega)).mulOk (hb.mono (by decide)) (by decide)) ?_
  refine wA_nil ⟨by show 2 ≤ sizeLine; decide, (wSs_nil ?_)⟩
  exact ⟨_, by rw [Int.pow_succ, Int.pow_succ]; rfl, rfl⟩
  obtain ⟨t, rfl, rfl⟩ := hI
  rw [rgA_len, Int.toNat_natCast]
  refine wSs_cons (wS_ret ?_)
  refine wE_if (wT_cmp (wE_name 1 rfl (wE_int ?_)))
  refine wO_ge ?_
  refine ⟨_, rfl, ?_⟩
  refine ⟨fun hk => ?_, fun hk => ?_⟩
  refine wE_name 2 rfl ?_
  have hk2 : 0 ≤ k := of_decide_eq_true hk
  rw [show powA a b k = .tup [.int (a ^ k.natAbs), .int (b ^ k.natAbs)] by unfold powA; rw [if_pos hk2]] at q
  exact q
  refine wE_cal C__law_lowest ar (by decide) (wA_cons (wE_ix (wE_name 2 rfl (wE_int ?_))))
  walk_at "ix"
  refine wA_cons (wE_ix (wE_name 2 rfl (wE_int ?_)))
  walk_at "ix"
  refine wA_nil ?_
  have hk2 : ¬ 0 ≤ k := of_decide_eq_false hk
  refine ⟨_, _, rfl, Int.pow_ne_zero (ka (by omega)), (Bd.pow ha _).mono (by omega), ?_⟩
  rw [show powA a b k = low (b ^ k.natAbs) (a ^ k.natAbs) by unfold powA; rw [if_neg hk2]] at q
  exact q

end
end D

set_option Elab.async false
set_option linter.all false
set_option maxRecDepth 100000
set_option maxHeartbeats 4000000
namespace D
open PySem PySem.Spec PyProof.Rows L2
local macro_rules | `(tactic| walk_at "mul") => `(tactic| first | refine wO_mul (mulR (by first | decide | omega) (by first | decide | omega)) ?_ | refine wO_mul (mulL (by first | decide | omega) (by first | decide | omega)) ?_)
local macro_rules | `(tactic| walk_at "mod") => `(tactic| refine wO_mod (by first | decide | omega) ?_)
local macro_rules | `(tactic| walk_at "fdiv") => `(tactic| refine wO_fdiv (by first | decide | omega) (divS (by first | decide | omega)) ?_)
local macro_rules | `(tactic| walk_at "ix") => `(tactic| first | refine wI_tup (by rfl) ?_ | refine wI_lst (by rfl) ?_)
local macro_rules | `(tactic| walk_at "sl") => `(tactic| first | refine wSl_tup ?_ | refine wSl_lstF ?_)
section
variable {P : Program} {w : World} {mg : Str → Option Value} {base : Heap} {K : PySem.W.Frag}
abbrev s__law_pair_right : Stmt := topS 33
abbrev N__law_pair_right : List Str := ["_law_one", "_law_other", "_law_k", "_law_a", "_law_b", "_law_c", "_law_d", "_law_told", "_law_due", "_law_found", "_law_wanted"]
theorem sc__law_pair_right : FnScope N__law_pair_right ["_law_one", "_law_other", "_law_k"] (defScope s__law_pair_right) := ⟨rfl, rfl, rfl, by decide +kernel, rfl, by decide +kernel, by decide +kernel⟩
theorem Bd.lowN {k : Nat} {n d : Int} (h : Bd k n) (d0 : d ≠ 0) : Bd k (lowN n d) := Nat.lt_of_le_of_lt (lowN_le d0) h
theorem Bd.lowD {k : Nat} {n d : Int} (h : Bd k d) (d0 : d ≠ 0) : Bd k (lowD n d) := Nat.lt_of_le_of_lt (lowD_le d0) h
theorem show_int {i : Int} (h : Bd 1900 i) : isShow (.int i) = true ∧ shl (.int i) ≤ 1922 := by
  refine ⟨?_, ?_⟩
  · simp only [isShow, decide_eq_true_eq]
    exact Nat.lt_of_lt_of_le (h.log (by decide)) (by decide)
  · simp only [shl]; split <;> omega
theorem show_fr {n d : Int} (hn : Bd 1900 n) (hd : Bd 1900 d) : ShowOk (.tup [.int n, .int d]) := by
  obtain ⟨a1, a2⟩ := show_int hn
  obtain ⟨b1, b2⟩ := show_int hd
  refine ⟨by simp only [isShow, isShows, Bool.and_true, Bool.and_eq_true]; exact ⟨by simpa only [isShow] using a1, by simpa only [isShow] using b1⟩, by simp [deep, deeps], szOk ?_⟩
  simp only [shl, shls] at *
  omega
theorem show_low {n d : Int} (hn : Bd 1900 n) (hd : Bd 1900 d) (d0 : d ≠ 0) : ShowOk (low n d) := show_fr (hn.lowN d0) (hd.lowD d0)
theorem show_pow {a b k : Int} (ha : Bd 100 a) (hb : Bd 100 b) (k0 : -8 ≤ k) (k1 : k ≤ 8) (h : k < 0 → a ≠ 0) : ∃ ys, powA a b k = .tup ys ∧ ShowOk (.tup ys) := by
  have p1 : Bd 1900 (a ^ k.natAbs) := (Bd.pow ha _).mono (by omega)
  have p2 : Bd 1900 (b ^ k.natAbs) := (Bd.pow hb _).mono (by omega)
  unfold powA
  split
  · exact ⟨_, rfl, show_fr p1 p2⟩
  · exact ⟨_, rfl, show_low p2 p1 (Int.pow_ne_zero (h (by omega)))⟩
theorem show_two {i j : Int} (hn : Bd 1900 i) (hd : Bd 1900 j) : ShowOk (.lst [.int i, .int j]) := by
  obtain ⟨a1, a2⟩ := show_int hn
  obtain ⟨b1, b2⟩ := show_int hd
  refine ⟨by simp only [isShow, isShows, Bool.and_true, Bool.and_eq_true]; exact ⟨by simpa only [isShow] using a1, by simpa only [isShow] using b1⟩, by simp [deep, deeps], szOk ?_⟩
  simp only [shl, shls] at *
  omega
theorem sgn_bd {a b : Bool} : Bd 1900 ((if a then 1 else 0) - (if b then 1 else 0) : Int) := by
  have : Bd 4 ((if a then 1 else 0) - (if b then 1 else 0) : Int) := by cases a <;> cases b <;> (unfold Bd; decide)
  exact this.mono (by decide)
structure Sf (a b : Int) : Prop where
  fr : Fr a b
  top : a.natAbs ≤ 10 ^ 20
  low : b ≤ 9
theorem Sf.bd {a b : Int} (h : Sf a b) {k : Nat} (hk : 100 ≤ k) : Bd k a ∧ Bd k b ∧ b ≠ 0 := by
  have h1 := h.top
  have h2 := h.low
  have h3 := h.fr.pos
  exact ⟨Bd.mono (n := 100) (by unfold Bd; omega) hk, Bd.mono (n := 100) (by unfold Bd; omega) hk, by omega⟩
def c__law_pair_right : AC := fun xs μ Q _ => ∃ a b c d k : Int, xs = [.tup [.int a, .int b], .tup [.int c, .int d], .int k] ∧ Sf a b ∧ Sf c d ∧ -4 ≤ k ∧ k ≤ 8 ∧ Q (.bl true) μ
theorem ok__law_pair_right {f : Addr} {fd : FuncData} (T : Txt K mg) (C_plus : Cal P w K mg base 3 "plus" c_plus) (C_less : Cal P w K mg base 3 "less" c_less) (C_times : Cal P w K mg base 3 "times" c_times) (C__law_lowest : Cal P w K mg base 2 "_law_lowest" c__law_lowest) (C__law_is : Cal P w K mg base 1 "_law_is" c__law_is) (C_over : Cal P w K mg base 3 "over" c_over) (C_power : Cal P w K mg base 3 "power" c_power) (C__law_raised : Cal P w K mg base 3 "_law_raised" c__law_raised) (C_sign : Cal P w K mg base 1 "sign" c_sign) (F : Fun K "_law_pair_right" "_law_pair_right" s__law_pair_right f fd) : FnD P w K mg base CX0 4 f fd ["_law_one", "_law_other", "_law_k"] c__law_pair_right := by
  refine fnD F sc__law_pair_right (fun xs μ Q E hc => by obtain ⟨a, b, c, d, k, rfl, h1, h2, k0, k1, q⟩ := hc; rfl) (fun cdv Ao outer s H E xs μ Q E0 ar hc => ?_)
  obtain ⟨a, b, c, d, k, rfl, h1, h2, k0, k1, q⟩ := hc
  obtain ⟨a1, b1, b0⟩ := h1.bd (k := 3000) (by decide)
  obtain ⟨c1, d1, d0⟩ := h2.bd (k := 3000) (by decide)
  obtain ⟨a3, b3, _⟩ := h1.bd (k := 100) (by decide)
  obtain ⟨c3, d3, _⟩ := h2.bd (k := 100) (by decide)
  have ad := (a3.mul d3).mono (m := 200) (by decide)
  have cb := (c3.mul b3).mono (m := 200) (by decide)
  have bd := (b3.mul d3).mono (m := 200) (by decide)
  have ac := (a3.mul c3).mono (m := 200) (by decide)
  have bc := (b3.mul c3).mono (m := 200) (by decide)
  have bd0 : b * d ≠ 0 := Int.mul_ne_zero b0 d0
  have nd := sc__law_pair_right.nd
  refine wSs_cons (wS_asg (wE_tup (wA_cons (wE_name 0 rfl (wA_cons (wE_name 1 rfl (wA_nil ⟨by show 2 ≤ sizeLine; decide, (wG_tup (wGs_cons (wG_tup (wGs_cons (wG_name 3 (wGs_cons (wG_name 4 (wGs_nil (wGs_cons (wG_tup (wGs_cons (wG_name 5 (wGs_cons (wG_name 6 (wGs_nil (wGs_nil (wSs_cons (wS_set 7 (wE_lstF (wA_cons (wE_cal C_plus ar (by decide) (wA_cons (wE_name 0 rfl (wA_cons (wE_name 1 rfl (wA_nil ?_)))))))) nd)))) nd)) nd))))) nd)) nd)))))⟩)))))))
  refine ⟨a, b, c, d, rfl, b0, d0, a1, b1, c1, d1, ?_⟩
  refine wA_cons (wE_cal C_less ar (by decide) (wA_cons (wE_name 0 rfl (wA_cons (wE_name 1 rfl (wA_nil ?_))))))
  refine ⟨a, b, c, d, rfl, b0, d0, a1, b1, c1, d1, ?_⟩
  refine wA_cons (wE_cal C_times ar (by decide) (wA_cons (wE_name 0 rfl (wA_cons (wE_name 1 rfl (wA_nil ?_))))))
  refine ⟨a, b, c, d, rfl, b0, d0, a1, b1, c1, d1, ?_⟩
  refine wA_nil ⟨by show 3 ≤ sizeLine; decide, (wSs_cons (wS_set 8 (wE_lstF (wA_cons (wE_cal C__law_lowest ar (by decide) (wA_cons (wE_bin (wE_bin (wE_name 3 rfl (wE_name 6 rfl ?_)))))))) nd))⟩
  refine wO_mul (a3.mulOk d3 (by decide)) ?_
  refine wE_bin (wE_name 5 rfl (wE_name 4 rfl ?_))
  refine wO_mul (c3.mulOk b3 (by decide)) ?_
  refine wO_add ?_
  refine wA_cons (wE_bin (wE_name 4 rfl (wE_name 6 rfl ?_)))
  refine wO_mul (b3.mulOk d3 (by decide)) ?_
  refine wA_nil ?_
  refine ⟨_, _, rfl, bd0, bd.mono (by decide), ?_⟩
  refine wA_cons (wE_cal C__law_lowest ar (by decide) (wA_cons (wE_bin (wE_bin (wE_name 3 rfl (wE_name 6 rfl ?_))))))
  refine wO_mul (a3.mulOk d3 (by decide)) ?_
  refine wE_bin (wE_name 5 rfl (wE_name 4 rfl ?_))
  refine wO_mul (c3.mulOk b3 (by decide)) ?_
  refine wO_sub ?_
  refine wA_cons (wE_bin (wE_name 4 rfl (wE_name 6 rfl ?_)))
  refine wO_mul (b3.mulOk d3 (by decide)) ?_
  refine wA_nil ?_
  refine ⟨_, _, rfl, bd0, bd.mono (by decide), ?_⟩
  refine wA_cons (wE_cal C__law_lowest ar (by decide) (wA_cons (wE_bin (wE_name 3 rfl (wE_name 5 rfl ?_)))))
  refine wO_mul (a3.mulOk c3 (by decide)) ?_
  refine wA_cons (wE_bin (wE_name 4 rfl (wE_name 6 rfl ?_)))
  refine wO_mul (b3.mulOk d3 (by decide)) ?_
  refine wA_nil ?_
  refine ⟨_, _, rfl, bd0, bd.mono (by decide), ?_⟩
  refine wA_nil ⟨by show 3 ≤ sizeLine; decide, (wSs_cons (wS_if (wT_not (wT_val (wE_callB (id := "all") T.b_all (by decide +kernel) (wA_cons (wE_lcF (own := [("_law_found", 9), ("_law_wanted", 10)]) (wIt_zip T.b_zip (wA_cons (wE_name 7 rfl (wA_cons (wE_name 8 rfl (wA_nil ⟨_, _, .inl rfl, ?_⟩)))))) nd (blkOk_by (N := N__law_pair_right) (sc := defScope s__law_pair_right) (by decide +kernel)))))))))⟩
  have hL : ∀ u ∈ [low (a * d + c * b) (b * d), low (a * d - c * b) (b * d), low (a * c) (b * d)], ∃ ys, u = .tup ys ∧ ShowOk (.tup ys) := by
    intro u hu
    simp only [List.mem_cons, List.not_mem_nil, or_false] at hu
    rcases hu with rfl | rfl | rfl
    · exact ⟨_, rfl, show_low ((ad.add cb).mono (by decide)) (bd.mono (by decide)) bd0⟩
    · exact ⟨_, rfl, show_low ((ad.sub cb).mono (by decide)) (bd.mono (by decide)) bd0⟩
    · exact ⟨_, rfl, show_low (ac.mono (by decide)) (bd.mono (by decide)) bd0⟩
  refine ⟨by rw [zipA_len]; show 3 ≤ sizeLine; decide, [true, true, true].map D.A.bl, rfl, fun j y z hy hz s0 H0 C cl fp => ?_, ?_⟩
  obtain ⟨u, u2, g1, g2, rfl⟩ := zipA_at hy
  obtain rfl : u = u2 := Option.some.inj (g1.symm.trans g2)
  obtain ⟨bz, g3, rfl⟩ := map_at hz
  obtain rfl : bz = true := by have := List.mem_of_getElem? g3; simpa using this
  obtain ⟨ys, rfl, hs⟩ := hL u (List.mem_of_getElem? g1)
  refine wGw_tup2 9 10 ⟨rfl, fun s0 H0 C cl fp => (wE_cal C__law_is ar.bk (by decide) (wA_cons (wE_name 9 rfl (wA_cons (wE_name 10 rfl (wA_nil ?_))))))⟩ nd
  refine ⟨ys, rfl, hs, ?_⟩
  refine ⟨?_, .refl _⟩
  rfl
  refine wA_nil ?_
  refine wC_all rfl (.lst _) ?_
  refine ⟨_, rfl, ?_⟩
  refine ⟨fun hk => ?_, fun hk => ?_⟩
  refine wSs_cons (wS_ret (wE_bl ?_))
  exact nomatch hk
  refine wSs_nil ?_
  refine wSs_cons (wS_if ?_)
  refine wT.imp (QB := fun k μ' => μ = μ' ∧ k = false) ?_ (fun kb μ' hq => ?_)
  refine wT_chain (wW_and (wT_cmp (wE_name 5 rfl (wE_int ?_))))
  refine wO_neI ?_
  refine ⟨_, rfl, ?_⟩
  refine and_flip (fun hk => ?_) (fun hk => ?_)
  · exact ⟨rfl, rfl⟩
  have c0 : c ≠ 0 := by simpa using hk
  have bc0 : b * c ≠ 0 := Int.mul_ne_zero b0 c0
  refine wW_and1 (wT_not (wT_val (wE_cal C__law_is ar (by decide) (wA_cons (wE_cal C_over ar (by decide) (wA_cons (wE_name 0 rfl (wA_cons (wE_name 1 rfl (wA_nil ?_))))))))))
  refine ⟨a, b, c, d, rfl, b0, c0, a1, b1, c1, d1, ?_⟩
  refine wA_cons (wE_cal C__law_lowest ar (by decide) (wA_cons (wE_bin (wE_name 3 rfl (wE_name 6 rfl ?_)))))
  refine wO_mul (a3.mulOk d3 (by decide)) ?_
  refine wA_cons (wE_bin (wE_name 4 rfl (wE_name 5 rfl ?_)))
  refine wO_mul (b3.mulOk c3 (by decide)) ?_
  refine wA_nil ?_
  refine ⟨_, _, rfl, bc0, bc.mono (by decide), ?_⟩
  refine wA_nil ?_
  refine ⟨_, rfl, show_low (ad.mono (by decide)) (bc.mono (by decide)) bc0, ?_⟩
  refine ⟨_, rfl, ?_⟩
  exact ⟨rfl, rfl⟩
  obtain ⟨rfl, rfl⟩ := hq
  refine ⟨fun hk => ?_, fun hk => ?_⟩
  refine wSs_cons (wS_ret (wE_bl ?_))
  exact nomatch hk
  refine wSs_nil ?_
  refine wSs_cons (wS_if ?_)
  refine wT.imp (QB := fun k μ' => μ = μ' ∧ k = false) ?_ (fun kb μ' hq => ?_)
  refine wT_chain (wW_and ?_)
  refine wT.imp (QB := fun k' μ' => μ = μ' ∧ (k' = true → k < 0 → a ≠ 0)) ?_ (fun kb μ' hq => ?_)
  refine wT_chain (wW_or (wT_cmp (wE_name 3 rfl (wE_int ?_))))
  refine wO_neI ?_
  refine ⟨_, rfl, ?_⟩
  refine ⟨fun hk => ?_, fun hk => ?_⟩
  · exact ⟨rfl, fun _ _ => by simpa using hk⟩
  refine wW_or1 (wT_cmp (wE_name 2 rfl (wE_int ?_)))
  refine wO_ge ?_
  refine ⟨_, rfl, ?_⟩
  exact ⟨rfl, fun z z2 => absurd (of_decide_eq_true z) (by omega)⟩
  obtain ⟨rfl, hka⟩ := hq
  refine and_flip (fun hk => ?_) (fun hk => ?_)
  · exact ⟨rfl, rfl⟩
  have hka := hka hk
  obtain ⟨ys, ey, hy⟩ := show_pow a3 b3 (by omega) k1 hka
  refine wW_and1 (wT_not (wT_val (wE_cal C__law_is ar (by decide) (wA_cons (wE_cal C_power ar (by decide) (wA_cons (wE_name 0 rfl (wA_cons (wE_name 2 rfl (wA_nil ?_))))))))))
  refine ⟨a, b, k, rfl, a3.mono (by decide), b3.mono (by decide), by omega, by omega, hka, ?_⟩
  refine wA_cons (wE_cal C__law_raised ar (by decide) (wA_cons (wE_name 0 rfl (wA_cons (wE_name 2 rfl (wA_nil ?_))))))
  refine ⟨a, b, k, rfl, a3.mono (by decide), b3.mono (by decide), by omega, by omega, hka, ?_⟩
  refine wA_nil ?_
  refine ⟨ys, by rw [ey], hy, ?_⟩
  refine ⟨_, rfl, ?_⟩
  exact ⟨rfl, rfl⟩
  obtain ⟨rfl, rfl⟩ := hq
  refine ⟨fun hk => ?_, fun hk => ?_⟩
  refine wSs_cons (wS_ret (wE_bl ?_))
  exact nomatch hk
  refine wSs_nil ?_
  refine wSs_cons (wS_ret (wE_cmp (wE_callB (id := "repr") T.b_repr (by decide +kernel) (wA_cons (wE_lstF (wA_cons (wE_cal C_sign ar (by decide) (wA_cons (wE_name 0 rfl (wA_nil ?_))))))))))
  refine ⟨a, b, rfl, ?_⟩
  refine wA_cons (wE_cal C_sign ar (by decide) (wA_cons (wE_name 1 rfl (wA_nil ?_))))
  refine ⟨c, d, rfl, ?_⟩
  refine wA_nil ⟨by show 2 ≤ sizeLine; decide, (wA_nil ?_)⟩
  refine wC_repr ar (show_two sgn_bd sgn_bd) ?_
  refine wE_callB (id := "repr") T.b_repr (by decide +kernel) (wA_cons (wE_lstF (wA_cons (wE_bin (wE_callTy (T := "int") T.b_int (by decide +kernel) (wA_cons (wE_cmp (wE_name 3 rfl (wE_int ?_)))))))))
  refine wO_gt ?_
  refine wA_nil ?_
  refine wC_intB ?_
  refine wE_callTy (T := "int") T.b_int (by decide +kernel) (wA_cons (wE_cmp (wE_name 3 rfl (wE_int ?_))))
  refine wO_lt ?_
  refine wA_nil ?_
  refine wC_intB ?_
  refine wO_sub ?_
  refine wA_cons (wE_bin (wE_callTy (T := "int") T.b_int (by decide +kernel) (wA_cons (wE_cmp (wE_name 5 rfl (wE_int ?_))))))
  refine wO_gt ?_
  refine wA_nil ?_
  refine wC_intB ?_
  refine wE_callTy (T := "int") T.b_int (by decide +kernel) (wA_cons (wE_cmp (wE_name 5 rfl (wE_int ?_))))
  refine wO_lt ?_
  refine wA_nil ?_
  refine wC_intB ?_
  refine wO_sub ?_
  refine wA_nil ⟨by show 2 ≤ sizeLine; decide, (wA_nil ?_)⟩
  refine wC_repr ar (show_two sgn_bd sgn_bd) ?_
  refine wO_eqS ?_
  rw [decide_eq_true rfl]; exact q

end
end D

set_option Elab.async false
set_option linter.all false
set_option maxRecDepth 100000
set_option maxHeartbeats 4000000
namespace D
open PySem PySem.Spec PyProof.Rows L2
local macro_rules | `(tactic| walk_at "mul") => `(tactic| first | refine wO_mul (mulR (by first | decide | omega) (by first | decide | omega)) ?_ | refine wO_mul (mulL (by first | decide | omega) (by first | decide | omega)) ?_)
local macro_rules | `(tactic| walk_at "mod") => `(tactic| refine wO_mod (by first | decide | omega) ?_)
local macro_rules | `(tactic| walk_at "fdiv") => `(tactic| refine wO_fdiv (by first | decide | omega) (divS (by first | decide | omega)) ?_)
local macro_rules | `(tactic| walk_at "ix") => `(tactic| first | refine wI_tup (by rfl) ?_ | refine wI_lst (by rfl) ?_)
local macro_rules | `(tactic| walk_at "sl") => `(tactic| first | refine wSl_tup ?_ | refine wSl_lstF ?_)
section
variable {P : Program} {w : World} {mg : Str → Option Value} {base : Heap} {K : PySem.W.Frag}
abbrev s__law_words_right : Stmt := topS 34
abbrev N__law_words_right : List Str := ["_law_m", "_law_one", "_law_text", "_law_more", "_law_wide", "_law_some"]
theorem sc__law_words_right : FnScope N__law_words_right ["_law_m", "_law_one"] (defScope s__law_words_right) := ⟨rfl, rfl, rfl, by decide +kernel, rfl, by decide +kernel, by decide +kernel⟩
theorem txt_nat {b : Int} (h : 0 ≤ b) : txt b = txtN b.toNat := by unfold txt txtN; rw [Int.toNat_of_nonneg h]
theorem low_one {a b : Int} (h : Fr a b) : low a b = .tup [.int a, .int b] := by
  have := low_of h (k := 1) (by decide)
  rwa [Int.mul_one, Int.mul_one] at this
theorem numIn_text {a b : Int} (h : Fr a b) (ha : a.natAbs < 2 ^ 1900) (hb : b.natAbs < 2 ^ 1900) : numIn (textOf a b) = .tup [.int a, .int b] := by
  have h1 := h.pos
  unfold textOf
  split
  · rename_i e; subst e
    rw [show numIn (txt a) = low a 1 from numIn_one ha, low_one h]
  · rw [txt_nat (Int.le_of_lt h1), show numIn (txt a ++ "/" ++ txtN b.toNat) = low a b.toNat from numIn_two ha (by omega) (by omega), Int.toNat_of_nonneg (Int.le_of_lt h1), low_one h]
theorem numIn_wide {a b k : Int} (h : Fr a b) (hk : 0 < k) (ha : (a * k).natAbs < 2 ^ 1900) (hb : (b * k).natAbs < 2 ^ 1900) : numIn (txt (a * k) ++ "/" ++ txt (b * k)) = .tup [.int a, .int b] := by
  have h1 := Int.mul_pos h.pos hk
  rw [txt_nat (Int.le_of_lt h1), show numIn (txt (a * k) ++ "/" ++ txtN (b * k).toNat) = low (a * k) (b * k).toNat from numIn_two ha (by omega) (by omega), Int.toNat_of_nonneg (Int.le_of_lt h1), low_of h hk]
theorem txt_short {i : Int} (h : Bd 104 i) : (Str.ofString (toString i)).length ≤ 110 := by
  rw [PySem.ofString_length]
  have := int_text_length_le (k := 104) (by decide) (h.log (by decide))
  omega
theorem wide_short {a b : Int} (ha : Bd 104 a) (hb : Bd 104 b) : (Str.ofString (toString a) ++ ("/" : Str) ++ Str.ofString (toString b)).length ≤ 640 := by
  have h1 := txt_short ha
  have h2 := txt_short hb
  have h3 : ("/" : Str).length = 1 := by decide
  rw [Str.length_append, Str.length_append]; omega
theorem text_short {a b : Int} (ha : Bd 100 a) (hb : Bd 100 b) : (textOf a b).length ≤ 640 := by
  have h1 := txt_short (ha.mono (by decide : 100 ≤ 104))
  unfold textOf
  split
  · exact Nat.le_trans h1 (by decide)
  · exact wide_short (ha.mono (by decide)) (hb.mono (by decide))
def NONE29 : List Str := ["", "-", "/", "1/", "/2", "1/0", "01", "1/02", "-0", "-0/3", "--1", "+1", "1//2", "1/2/3", "1/-2", "1 2", "x", "1.5", "1_0", "a/b", " 1", "1 ", "1/ 2", "00", "-01", "0x1", "-1/0", "1e3", "- 1"]
theorem none29 : NONE29.all (fun w => isNon (numIn w) && decide (w.length ≤ 640)) = true := by decide +kernel
def c__law_words_right : AC := fun xs μ Q _ => ∃ (m l : Addr) (c : Nat) (a b : Int), xs = [.loc m, .tup [.int a, .int b]] ∧ Sf a b ∧ Lw m l c μ ∧ c < 2 ^ 39 ∧ ∀ μ' : Mu, Lw m l (c + 2) μ' → Ls m l μ μ' → Q (.bl true) μ'
theorem ok__law_words_right {f : Addr} {fd : FuncData} (T : Txt K mg) (C__law_draw : Cal P w K mg base 2 "_law_draw" c__law_draw) (C_text_of : Cal P w K mg base 1 "text_of" c_text_of) (C__law_is : Cal P w K mg base 1 "_law_is" c__law_is) (C_number_in : Cal P w K mg base 3 "number_in" c_number_in) (F : Fun K "_law_words_right" "_law_words_right" s__law_words_right f fd) : FnD P w K mg base CX0 4 f fd ["_law_m", "_law_one"] c__law_words_right := by
  refine fnD F sc__law_words_right (fun xs μ Q E hc => by obtain ⟨m, l, c, a, b, rfl, hf, lw, hc, q⟩ := hc; rfl) (fun cdv Ao outer s H E xs μ Q E0 ar hc => ?_)
  obtain ⟨m, l, c, a, b, rfl, hf, lw, hc, q⟩ := hc
  obtain ⟨ha, hb, b0⟩ := hf.bd (k := 1800) (by decide)
  have ga : Bd 1900 a := ha.mono (by decide)
  have gb : Bd 1900 b := hb.mono (by decide)
  have la := txt_len ga
  have lb := txt_len gb
  have g1 : a.natAbs.log2 < 1920 := Nat.lt_of_lt_of_le (ga.log (by decide)) (by decide)
  have g2 : b.natAbs.log2 < 1920 := Nat.lt_of_lt_of_le (gb.log (by decide)) (by decide)
  have e1 : ("/" : Str).length = 1 := by decide
  have e2 : (txt a ++ ("/" : Str)).length ≤ 1923 := by rw [Str.length_append]; omega
  have et := numIn_text hf.fr ga gb
  have eb1 := (hf.bd (k := 100) (by decide)).1
  have eb2 := (hf.bd (k := 100) (by decide)).2.1
  have shl := text_short eb1 eb2
  have nd := sc__law_words_right.nd
  refine wSs_cons (wS_set 2 ?_ nd)
  refine wE.imp (Q := fun z μ' => μ = μ' ∧ z = .str (textOf a b)) ?_ (fun z μ' hz => ?_)
  refine wE_if (wT_cmp (wE_ix (wE_name 1 rfl (wE_int ?_))))
  walk_at "ix"
  refine wE_int ?_
  refine wO_eqI ?_
  refine ⟨_, rfl, ?_⟩
  refine ⟨fun hk => ?_, fun hk => ?_⟩
  refine wE_callTy (T := "str") T.b_str (by decide +kernel) (wA_cons (wE_ix (wE_name 1 rfl (wE_int ?_))))
  walk_at "ix"
  refine wA_nil ?_
  refine wC_strI g1 ?_
  exact ⟨rfl, by unfold textOf; rw [if_pos (of_decide_eq_true hk)]; rfl⟩
  refine wE_bin (wE_bin (wE_callTy (T := "str") T.b_str (by decide +kernel) (wA_cons (wE_ix (wE_name 1 rfl (wE_int ?_))))))
  walk_at "ix"
  refine wA_nil ?_
  refine wC_strI g1 ?_
  refine wE_str ?_
  refine wO_addS (szOk (Nat.le_trans (Nat.add_le_add la (Nat.le_of_eq e1)) (by decide))) ?_
  refine wE_callTy (T := "str") T.b_str (by decide +kernel) (wA_cons (wE_ix (wE_name 1 rfl (wE_int ?_))))
  walk_at "ix"
  refine wA_nil ?_
  refine wC_strI g2 ?_
  refine wO_addS (szOk (Nat.le_trans (Nat.add_le_add e2 lb) (by decide))) ?_
  exact ⟨rfl, by unfold textOf; rw [if_neg (of_decide_eq_false hk)]; rfl⟩
  obtain ⟨rfl, rfl⟩ := hz
  refine wSs_cons (wS_set 3 (wE_bin (wE_int (wE_cal C__law_draw ar (by decide) (wA_cons (wE_name 0 rfl (wA_cons (wE_int (wA_nil ?_)))))))) nd)
  refine ⟨m, l, 4, c, rfl, by decide, by decide, lw, by omega, fun r μ1 a0 a1 lw1 ls1 => ?_⟩
  have bk : Bd 4 (1 + r) := by unfold Bd; omega
  have hw1 : Bd 104 (a * (1 + r)) := eb1.mul bk
  have hw2 : Bd 104 (b * (1 + r)) := eb2.mul bk
  have ga' : Bd 1900 (a * (1 + r)) := hw1.mono (by decide)
  have gb' : Bd 1900 (b * (1 + r)) := hw2.mono (by decide)
  have la' := txt_len ga'
  have lb' := txt_len gb'
  have e2' : (txt (a * (1 + r)) ++ ("/" : Str)).length ≤ 1923 := by rw [Str.length_append]; omega
  have ew := numIn_wide hf.fr (k := 1 + r) (by omega) ga' gb'
  refine wO_add ?_
  refine wSs_cons (wS_set 4 (wE_bin (wE_bin (wE_callTy (T := "str") T.b_str (by decide +kernel) (wA_cons (wE_bin (wE_ix (wE_name 1 rfl (wE_int ?_)))))))) nd)
  walk_at "ix"
  refine wE_name 3 rfl ?_
  refine wO_mul (mulR (by omega) (by omega)) ?_
  refine wA_nil ?_
  refine wC_strI (Nat.lt_of_lt_of_le (ga'.log (by decide)) (by decide)) ?_
  refine wE_str ?_
  refine wO_addS (szOk (Nat.le_trans (Nat.add_le_add la' (Nat.le_of_eq e1)) (by decide))) ?_
  refine wE_callTy (T := "str") T.b_str (by decide +kernel) (wA_cons (wE_bin (wE_ix (wE_name 1 rfl (wE_int ?_)))))
  walk_at "ix"
  refine wE_name 3 rfl ?_
  refine wO_mul (mulR (by omega) (by omega)) ?_
  refine wA_nil ?_
  refine wC_strI (Nat.lt_of_lt_of_le (gb'.log (by decide)) (by decide)) ?_
  refine wO_addS (szOk (Nat.le_trans (Nat.add_le_add e2' lb') (by decide))) ?_
  refine wSs_cons (wS_if ?_)
  refine wT.imp (QB := fun k μ' => μ1 = μ' ∧ k = false) ?_ (fun k μ' hq => ?_)
  refine wT_chain (wW_or (wT_cmp (wE_cal C_text_of ar (by decide) (wA_cons (wE_name 1 rfl (wA_nil ?_))))))
  refine ⟨a, b, rfl, ga, gb, ?_⟩
  refine wE_name 2 rfl ?_
  refine wO_neS ?_
  refine ⟨_, rfl, ?_⟩
  refine ⟨fun hk => ?_, fun hk => ?_⟩
  · simp at hk
  refine wW_or (wT_not (wT_val (wE_cal C__law_is ar (by decide) (wA_cons (wE_cal C_number_in ar (by decide) (wA_cons (wE_name 2 rfl (wA_nil ?_))))))))
  refine ⟨_, rfl, shl, ?_⟩
  rw [et]
  refine wA_cons (wE_name 1 rfl (wA_nil ?_))
  refine ⟨_, rfl, show_fr ga gb, ?_⟩
  refine ⟨_, rfl, ?_⟩
  refine ⟨fun hk => ?_, fun hk => ?_⟩
  · simp at hk
  refine wW_or1 (wT_not (wT_val (wE_cal C__law_is ar (by decide) (wA_cons (wE_cal C_number_in ar (by decide) (wA_cons (wE_name 4 rfl (wA_nil ?_))))))))
  refine ⟨_, rfl, wide_short hw1 hw2, ?_⟩
  rw [show numIn (Str.ofString (toString (a * (1 + r))) ++ ("/" : Str) ++ Str.ofString (toString (b * (1 + r)))) = _ from ew]
  refine wA_cons (wE_name 1 rfl (wA_nil ?_))
  refine ⟨_, rfl, show_fr ga gb, ?_⟩
  refine ⟨_, rfl, ?_⟩
  exact ⟨rfl, rfl⟩
  obtain ⟨rfl, rfl⟩ := hq
  refine ⟨fun hk => ?_, fun hk => ?_⟩
  refine wSs_cons (wS_ret (wE_bl ?_))
  exact nomatch hk
  refine wSs_nil ?_
  refine wSs_cons (wS_set 5 (wE_lstF (wA_cons (wE_str (wA_cons (wE_str (wA_cons (wE_str (wA_cons (wE_str (wA_cons (wE_str (wA_cons (wE_str (wA_cons (wE_str (wA_cons (wE_str (wA_cons (wE_str (wA_cons (wE_str (wA_cons (wE_str (wA_cons (wE_str (wA_cons (wE_str (wA_cons (wE_str (wA_cons (wE_str (wA_cons (wE_str (wA_nil ⟨by show 16 ≤ sizeLine; decide, (wSs_cons (wS_set 5 (wE_bin (wE_name 5 rfl (wE_lstF (wA_cons (wE_str (wA_cons (wE_str (wA_cons (wE_str (wA_cons (wE_str (wA_cons (wE_str (wA_cons (wE_str (wA_cons (wE_str (wA_cons (wE_str (wA_cons (wE_str (wA_cons (wE_str (wA_cons (wE_str (wA_cons (wE_str (wA_cons (wE_str (wA_nil ⟨by show 13 ≤ sizeLine; decide, ?_⟩)))))))))))))))))))))))))))))) nd))⟩)))))))))))))))))))))))))))))))))) nd)
  refine wO_catF (.lst _) (.lst _) (by show 16 + 13 ≤ sizeLine; decide) ?_
  refine wSs_cons (wS_ret (wE_cmp (wE_cal C_number_in ar (by decide) (wA_cons (wE_ix (wE_name 5 rfl (wE_cal C__law_draw ar (by decide) (wA_cons (wE_name 0 rfl (wA_cons (wE_int (wA_nil ?_))))))))))))
  refine ⟨m, l, 29, _, rfl, by decide, by decide, lw1, by omega, fun r2 μ2 b0' b1' lw2 ls2 => ?_⟩
  obtain ⟨y, hy, ey⟩ := atI_ex (xs := NONE29.map D.A.str) b0' (by simpa [NONE29] using b1')
  obtain ⟨w, hw, rfl⟩ := List.mem_map.mp hy
  have hn := List.all_eq_true.mp none29 w hw
  simp only [Bool.and_eq_true, decide_eq_true_eq] at hn
  refine wI_lst ey ?_
  refine wA_nil ?_
  refine ⟨w, rfl, hn.2, ?_⟩
  refine wE_non ?_
  refine wO_isN ?_
  rw [hn.1]; exact q μ2 lw2 (ls1.trans ls2)

end
end D

set_option Elab.async false
set_option linter.all false
set_option maxRecDepth 100000
set_option maxHeartbeats 4000000
namespace D
open PySem PySem.Spec PyProof.Rows L2
local macro_rules | `(tactic| walk_at "mul") => `(tactic| first | refine wO_mul (mulR (by first | decide | omega) (by first | decide | omega)) ?_ | refine wO_mul (mulL (by first | decide | omega) (by first | decide | omega)) ?_)
local macro_rules | `(tactic| walk_at "mod") => `(tactic| refine wO_mod (by first | decide | omega) ?_)
local macro_rules | `(tactic| walk_at "fdiv") => `(tactic| refine wO_fdiv (by first | decide | omega) (divS (by first | decide | omega)) ?_)
local macro_rules | `(tactic| walk_at "ix") => `(tactic| first | refine wI_tup (by rfl) ?_ | refine wI_lst (by rfl) ?_)
local macro_rules | `(tactic| walk_at "sl") => `(tactic| first | refine wSl_tup ?_ | refine wSl_lstF ?_)
section
variable {P : Program} {w : World} {mg : Str → Option Value} {base : Heap} {K : PySem.W.Frag}
abbrev s__law_kinds_right : Stmt := topS 35
abbrev N__law_kinds_right : List Str := ["_law_m", "_law_one", "_law_some", "_law_name", "_law_bars", "_law_odd"]
theorem sc__law_kinds_right : FnScope N__law_kinds_right ["_law_m", "_law_one"] (defScope s__law_kinds_right) := ⟨rfl, rfl, rfl, by decide +kernel, rfl, by decide +kernel, by decide +kernel⟩
theorem kd_int {μ : Mu} (i : Int) : Kd μ (.int i) := ⟨"int", true, rfl, rfl, (fun z => nomatch z), false, rfl, fun _ => rfl⟩
theorem kd_bl {μ : Mu} (i : Bool) : Kd μ (.bl i) := ⟨"bool", true, rfl, rfl, (fun z => nomatch z), true, rfl, fun _ => rfl⟩
theorem kd_non {μ : Mu} : Kd μ .non := ⟨"NoneType", false, rfl, rfl, (fun _ => rfl), false, rfl, fun z => nomatch z⟩
theorem kd_tup {μ : Mu} (xs : List D.A) : Kd μ (.tup xs) := ⟨"tuple", false, rfl, rfl, (fun _ => rfl), false, rfl, fun z => nomatch z⟩
theorem frK_ty {μ : Mu} {x : D.A} {nm : String} (h1 : tyN μ x = some nm) (h2 : kitB nm "tuple" = some false) (h3 : isFr x = false) : FrK μ x := .inl ⟨nm, h1, h2, h3⟩
theorem frK_tup {μ : Mu} {ys : List D.A} (h : ∀ y ∈ ys, Kd μ y) : FrK μ (.tup ys) := .inr ⟨ys, rfl, h⟩
theorem kd_two {μ : Mu} {x y : D.A} (h1 : Kd μ x) (h2 : Kd μ y) : ∀ u ∈ [x, y], Kd μ u := by
  intro u hu
  simp only [List.mem_cons, List.not_mem_nil, or_false] at hu
  rcases hu with rfl | rfl
  · exact h1
  · exact h2
def ODD20 (a b : Int) (p : Addr) : List D.A := [.non, .int 5, .bl true, .str "1/2", .lst [.int 1, .int 2], .tup [.int 1], .tup [.int 1, .int 2, .int 3], .tup [.int 2, .int 4], .tup [.int 1, .int 0], .tup [.int 1, .int (-2)], .tup [.int 0, .int 2], .tup [.bl true, .int 2], .tup [.int 1, .bl true], .tup [.non, .int 1], .tup [.tup [.int 1, .int 2], .int 1], .loc p, .tup [], .tup [.int a, .int (0 - b)], .tup [.int (3 * a), .int (3 * b)], .lst [.int a, .int b]]
theorem odd20 {a b : Int} {p : Addr} {μ : Mu} (hb : 0 < b) (hp : μ p = some (.dic [])) : ∀ x ∈ ODD20 a b p, FrK μ x ∧ isFr x = false := by
  intro x hx
  simp only [ODD20, List.mem_cons, List.not_mem_nil, or_false] at hx
  rcases hx with rfl | rfl | rfl | rfl | rfl | rfl | rfl | rfl | rfl | rfl | rfl | rfl | rfl | rfl | rfl | rfl | rfl | rfl | rfl | rfl
  · exact ⟨frK_ty rfl rfl rfl, rfl⟩
  · exact ⟨frK_ty rfl rfl rfl, rfl⟩
  · exact ⟨frK_ty rfl rfl rfl, rfl⟩
  · exact ⟨frK_ty rfl rfl rfl, rfl⟩
  · exact ⟨frK_ty rfl rfl rfl, rfl⟩
  · refine ⟨frK_tup fun y hy => ?_, rfl⟩
    rw [List.mem_singleton.mp hy]; exact kd_int _
  · refine ⟨frK_tup fun y hy => ?_, rfl⟩
    simp only [List.mem_cons, List.not_mem_nil, or_false] at hy
    rcases hy with rfl | rfl | rfl <;> exact kd_int _
  · exact ⟨frK_tup (kd_two (kd_int _) (kd_int _)), by decide⟩
  · exact ⟨frK_tup (kd_two (kd_int _) (kd_int _)), by decide⟩
  · exact ⟨frK_tup (kd_two (kd_int _) (kd_int _)), by decide⟩
  · exact ⟨frK_tup (kd_two (kd_int _) (kd_int _)), by decide⟩
  · exact ⟨frK_tup (kd_two (kd_bl _) (kd_int _)), rfl⟩
  · exact ⟨frK_tup (kd_two (kd_int _) (kd_bl _)), rfl⟩
  · exact ⟨frK_tup (kd_two kd_non (kd_int _)), rfl⟩
  · exact ⟨frK_tup (kd_two (kd_tup _) (kd_int _)), rfl⟩
  · exact ⟨frK_ty (by simp [tyN, hp]; rfl) rfl rfl, rfl⟩
  · exact ⟨frK_tup (fun y hy => nomatch hy), rfl⟩
  · refine ⟨frK_tup (kd_two (kd_int _) (kd_int _)), ?_⟩
    simp only [isFr, Bool.and_eq_false_iff, decide_eq_false_iff_not]
    exact .inl (by omega)
  · refine ⟨frK_tup (kd_two (kd_int _) (kd_int _)), ?_⟩
    simp only [isFr, Bool.and_eq_false_iff, decide_eq_false_iff_not]
    refine .inr ?_
    rw [Int.gcd_mul_left]
    show ¬ (3 * Int.gcd a b = 1)
    omega
  · exact ⟨frK_ty rfl rfl rfl, rfl⟩
/-- what may be asked for a name -/
def NmK (μ : Mu) (x : D.A) : Prop := ∃ (nm : String) (k : Bool), tyN μ x = some nm ∧ kitB nm "str" = some k ∧ (k = true → ∃ w, x = .str w ∧ w.length ≤ 1000) ∧ (k = false → isNm x = false)
theorem nmK_str {μ : Mu} {w : Str} (h : w.length ≤ 1000) : NmK μ (.str w) := ⟨"str", true, rfl, rfl, (fun _ => ⟨w, rfl, h⟩), fun z => nomatch z⟩
theorem nmK_ty {μ : Mu} {x : D.A} {nm : String} (h1 : tyN μ x = some nm) (h2 : kitB nm "str" = some false) (h3 : isNm x = false) : NmK μ x := ⟨nm, false, h1, h2, (fun z => nomatch z), fun _ => h3⟩
def ODDT : List Str := BARS ++ (["", "A", "a1", "abcdefghi", "a b", "a-", "_", "1"] : List Str)
theorem oddT : ODDT.all (fun w => !isNm (.str w) && decide (w.length ≤ 1000)) = true := by decide +kernel
def ODD30 (p : Addr) : List D.A := BARS.map D.A.str ++ [.str "", .str "A", .str "a1", .str "abcdefghi", .str "a b", .non, .int 5, .lst [.str "a"], .tup [.str "a"], .loc p, .str "a-", .str "_", .str "1"]
theorem odd30 {p : Addr} {μ : Mu} (hp : μ p = some (.dic [])) : ∀ x ∈ ODD30 p, NmK μ x ∧ isNm x = false := by
  have ht : ∀ w ∈ ODDT, NmK μ (.str w) ∧ isNm (.str w) = false := fun w hw => by
    have := List.all_eq_true.mp oddT w hw
    simp only [Bool.and_eq_true, decide_eq_true_eq, Bool.not_eq_true'] at this
    exact ⟨nmK_str this.2, this.1⟩
  intro x hx
  rcases List.mem_append.mp hx with hx | hx
  · obtain ⟨w, hw, rfl⟩ := List.mem_map.mp hx
    exact ht w (List.mem_append_left _ hw)
  · simp only [List.mem_cons, List.not_mem_nil, or_false] at hx
    rcases hx with rfl | rfl | rfl | rfl | rfl | rfl | rfl | rfl | rfl | rfl | rfl | rfl | rfl
    · exact ht _ (List.mem_append_right _ (by simp))
    · exact ht _ (List.mem_append_right _ (by simp))
    · exact ht _ (List.mem_append_right _ (by simp))
    · exact ht _ (List.mem_append_right _ (by simp))
    · exact ht _ (List.mem_append_right _ (by simp))
    · exact ⟨nmK_ty rfl rfl rfl, rfl⟩
    · exact ⟨nmK_ty rfl rfl rfl, rfl⟩
    · exact ⟨nmK_ty rfl rfl rfl, rfl⟩
    · exact ⟨nmK_ty rfl rfl rfl, rfl⟩
    · exact ⟨nmK_ty (by simp [tyN, hp]; rfl) rfl rfl, rfl⟩
    · exact ht _ (List.mem_append_right _ (by simp))
    · exact ht _ (List.mem_append_right _ (by simp))
    · exact ht _ (List.mem_append_right _ (by simp))
def c__law_kinds_right : AC := fun xs μ Q _ => ∃ (m l : Addr) (c : Nat) (a b : Int), xs = [.loc m, .tup [.int a, .int b]] ∧ Sf a b ∧ Lw m l c μ ∧ c < 2 ^ 38 ∧ ∀ μ' : Mu, Lw m l (c + 7) μ' → Ls m l μ μ' → Q (.bl true) μ'
theorem ok__law_kinds_right {f : Addr} {fd : FuncData} (T : Txt K mg) (C_is_fraction : Cal P w K mg base 2 "is_fraction" c_is_fraction) (C__law_draw : Cal P w K mg base 2 "_law_draw" c__law_draw) (C__law_names : Cal P w K mg base 3 "_law_names" c__law_names) (C_is_name : Cal P w K mg base 1 "is_name" c_is_name) (F : Fun K "_law_kinds_right" "_law_kinds_right" s__law_kinds_right f fd) : FnD P w K mg base CX0 4 f fd ["_law_m", "_law_one"] c__law_kinds_right := by
  refine fnD F sc__law_kinds_right (fun xs μ Q E hc => by obtain ⟨m, l, c, a, b, rfl, hf, lw, hc, q⟩ := hc; rfl) (fun cdv Ao outer s H E xs μ Q E0 ar hc => ?_)
  obtain ⟨m, l, c, a, b, rfl, hf, lw, hc, q⟩ := hc
  have b0 := hf.fr.pos
  have efr : isFr (.tup [.int a, .int b]) = true := by simp only [isFr, Bool.and_eq_true, decide_eq_true_eq]; exact ⟨b0, hf.fr.low⟩
  have b9 := hf.low
  have nd := sc__law_kinds_right.nd
  refine wSs_cons (wS_set 2 (wE_lstF (wA_cons (wE_non (wA_cons (wE_int (wA_cons (wE_bl (wA_cons (wE_str (wA_cons (wE_lstF (wA_cons (wE_int (wA_cons (wE_int (wA_nil ⟨by show 2 ≤ sizeLine; decide, (wA_cons (wE_tup (wA_cons (wE_int (wA_nil ⟨by show 1 ≤ sizeLine; decide, (wA_cons (wE_tup (wA_cons (wE_int (wA_cons (wE_int (wA_cons (wE_int (wA_nil ⟨by show 3 ≤ sizeLine; decide, (wA_cons (wE_tup (wA_cons (wE_int (wA_cons (wE_int (wA_nil ⟨by show 2 ≤ sizeLine; decide, (wA_cons (wE_tup (wA_cons (wE_int (wA_cons (wE_int (wA_nil ⟨by show 2 ≤ sizeLine; decide, (wA_cons (wE_tup (wA_cons (wE_int (wA_cons (wE_neg (wE_int ⟨_, rfl, (wA_nil ⟨by show 2 ≤ sizeLine; decide, (wA_cons (wE_tup (wA_cons (wE_int (wA_cons (wE_int (wA_nil ⟨by show 2 ≤ sizeLine; decide, (wA_cons (wE_tup (wA_cons (wE_bl (wA_cons (wE_int (wA_nil ⟨by show 2 ≤ sizeLine; decide, (wA_cons (wE_tup (wA_cons (wE_int (wA_cons (wE_bl (wA_nil ⟨by show 2 ≤ sizeLine; decide, (wA_nil ⟨by show 13 ≤ sizeLine; decide, (wSs_cons (wS_set 2 (wE_bin (wE_name 2 rfl (wE_lstF (wA_cons (wE_tup (wA_cons (wE_non (wA_cons (wE_int (wA_nil ⟨by show 2 ≤ sizeLine; decide, (wA_cons (wE_tup (wA_cons (wE_tup (wA_cons (wE_int (wA_cons (wE_int (wA_nil ⟨by show 2 ≤ sizeLine; decide, (wA_cons (wE_int (wA_nil ⟨by show 2 ≤ sizeLine; decide, (wA_cons (wE_dnew ?_))⟩)))⟩)))))))))⟩)))))))))) nd))⟩)⟩)))))))⟩)))))))⟩)))))))⟩)⟩)))))))⟩)))))))⟩)))))))⟩)))))))))⟩)))))⟩)))))))))))))))) nd)
  refine fun p nmp => ?_
  refine wA_cons (wE_tup (wA_nil ⟨by show 0 ≤ sizeLine; decide, (wA_cons (wE_tup (wA_cons (wE_ix (wE_name 1 rfl (wE_int ?_))))))⟩))
  walk_at "ix"
  refine wA_cons (wE_bin (wE_int (wE_ix (wE_name 1 rfl (wE_int ?_)))))
  walk_at "ix"
  refine wO_sub ?_
  refine wA_nil ⟨by show 2 ≤ sizeLine; decide, (wA_cons (wE_tup (wA_cons (wE_bin (wE_int (wE_ix (wE_name 1 rfl (wE_int ?_))))))))⟩
  walk_at "ix"
  refine wO_mul (mulL (by decide) (by decide)) ?_
  refine wA_cons (wE_bin (wE_int (wE_ix (wE_name 1 rfl (wE_int ?_)))))
  walk_at "ix"
  refine wO_mul (mulL (by decide) (by decide)) ?_
  refine wA_nil ⟨by show 2 ≤ sizeLine; decide, (wA_cons (wE_callTy (T := "list") T.b_list (by decide +kernel) (wA_cons (wE_name 1 rfl (wA_nil ?_)))))⟩
  refine wC_listF (.tup _) ?_
  refine wA_nil ⟨by show 7 ≤ sizeLine; decide, ?_⟩
  refine wO_catF (.lst _) (.lst _) (by show 13 + 7 ≤ sizeLine; decide) ?_
  refine wSs_cons (wS_if ?_)
  refine wT.imp (QB := fun k μ' => k = false ∧ Lw m l (c + 1) μ' ∧ Ls m l μ μ') ?_ (fun k μ' hq => ?_)
  refine wT_chain (wW_or (wT_cmp (wE_cal C_is_fraction ar (by decide) (wA_cons (wE_name 1 rfl (wA_nil ?_))))))
  refine ⟨_, rfl, frK_tup (kd_two (kd_int _) (kd_int _)), ?_⟩
  rw [efr]
  refine wE_bl ?_
  refine wO_notB ?_
  refine ⟨_, rfl, ?_⟩
  refine ⟨fun hk => ?_, fun hk => ?_⟩
  · simp at hk
  refine wW_or1 (wT_cmp (wE_cal C_is_fraction ar (by decide) (wA_cons (wE_ix (wE_name 2 rfl (wE_cal C__law_draw ar (by decide) (wA_cons (wE_name 0 rfl (wA_cons (wE_int (wA_nil ?_)))))))))))
  refine ⟨m, l, 20, c, rfl, by decide, by decide, lw.sub (Sub.new nmp), by omega, fun r μ1 a0 a1 lw1 ls1 => ?_⟩
  have hp1 : μ1 p = some (.dic []) := ls1 p _ (lw.off nmp).1 (lw.off nmp).2 Mu.upd_same
  obtain ⟨x, hx, ex⟩ := atI_ex (xs := ODD20 a b p) a0 (by simpa [ODD20] using a1)
  obtain ⟨x1, x2⟩ := odd20 b0 hp1 x hx
  refine wI_lst ex ?_
  refine wA_nil ?_
  refine ⟨x, rfl, x1, ?_⟩
  rw [x2]
  refine wE_bl ?_
  refine wO_notB ?_
  refine ⟨_, rfl, ?_⟩
  exact ⟨rfl, lw1, Ls.trans (fun p o _ _ h => Sub.new nmp p o h) ls1⟩
  obtain ⟨rfl, lw1, ls1⟩ := hq
  refine ⟨fun hk => ?_, fun hk => ?_⟩
  refine wSs_cons (wS_ret (wE_bl ?_))
  exact nomatch hk
  refine wSs_nil ?_
  refine wSs_cons (wS_if (wT_not (wT_val (wE_callB (id := "all") T.b_all (by decide +kernel) (wA_cons (wE_lcF (own := [("_law_name", 3)]) (wIt_list (wE_cal C__law_names ar (by decide) (wA_cons (wE_name 0 rfl (wA_cons (wE_int (wA_nil ?_))))))) nd (blkOk_by (N := N__law_kinds_right) (sc := defScope s__law_kinds_right) (by decide +kernel))))))))
  refine ⟨m, l, _, 12, rfl, by decide, lw1, by omega, fun ws μ2 hl hw lw2 ls2 => ?_⟩
  refine ⟨_, rfl, ?_⟩
  refine ⟨szOk (by rw [List.length_map]; omega), (ws.map fun _ => true).map D.A.bl, by simp, fun i y z hy hz s0 H0 C cl fp => ?_, ?_⟩
  obtain ⟨w, h1, rfl⟩ := map_at hy
  obtain ⟨bz, h2, rfl⟩ := map_at hz
  obtain ⟨w2, h3, rfl⟩ := map_at h2
  have hw1 := hw w (List.mem_of_getElem? h1)
  refine wGw_name 3 ⟨rfl, fun s0 H0 C cl fp => (wE_cmp (wE_cal C_is_name ar.bk (by decide) (wA_cons (wE_name 3 rfl (wA_nil ?_)))))⟩ nd
  refine ⟨.str w, "str", true, rfl, rfl, rfl, (fun _ => ⟨w, rfl, by have := isNm_wd hw1; omega⟩), (fun z => nomatch z), ?_⟩
  rw [hw1]
  refine wE_bl ?_
  refine wO_isB ?_
  refine ⟨?_, .refl _⟩
  rfl
  refine wA_nil ?_
  refine wC_all rfl (.lst _) ?_
  rw [show ((ws.map fun _ => true).all id) = true by simp]
  refine ⟨_, rfl, ?_⟩
  refine ⟨fun hk => ?_, fun hk => ?_⟩
  refine wSs_cons (wS_ret (wE_bl ?_))
  exact nomatch hk
  refine wSs_nil ?_
  refine wSs_cons (wS_set 4 (wE_m1 PySem.F.slot_str_split PySem.F.type_str_split (wE_str ⟨_, rfl, (wE_str ?_)⟩)) nd)
  refine wM_split (by decide) (by decide) ?_
  rw [split_bars]
  refine wSs_cons (wS_set 5 (wE_lstF (wA_cons (wE_str (wA_cons (wE_str (wA_cons (wE_str (wA_cons (wE_str (wA_cons (wE_str (wA_cons (wE_non (wA_cons (wE_int (wA_cons (wE_lstF (wA_cons (wE_str (wA_nil ⟨by show 1 ≤ sizeLine; decide, (wA_cons (wE_tup (wA_cons (wE_str (wA_nil ⟨by show 1 ≤ sizeLine; decide, (wA_cons (wE_dnew ?_))⟩)))))⟩)))))))))))))))))))) nd)
  refine fun p2 np2 => ?_
  refine wA_cons (wE_str (wA_cons (wE_str (wA_cons (wE_str (wA_nil ⟨by show 13 ≤ sizeLine; decide, ?_⟩))))))
  refine wSs_cons (wS_ret (wE_cmp (wE_cal C_is_name ar (by decide) (wA_cons (wE_ix (wE_bin (wE_name 4 rfl (wE_name 5 rfl ?_))))))))
  refine wO_catF (.lst _) (.lst _) (by show 17 + 13 ≤ sizeLine; decide) ?_
  refine wE_cal C__law_draw ar (by decide) (wA_cons (wE_name 0 rfl (wA_cons (wE_int (wA_nil ?_)))))
  refine ⟨m, l, 30, _, rfl, by decide, by decide, lw2.sub (Sub.new np2), by omega, fun r2 μ3 c0 c1 lw3 ls3 => ?_⟩
  have hp2 : μ3 p2 = some (.dic []) := ls3 p2 _ (lw2.off np2).1 (lw2.off np2).2 Mu.upd_same
  obtain ⟨y, hy, ey⟩ := atI_ex (xs := ODD30 p2) c0 (by simpa [ODD30, BARS] using c1)
  obtain ⟨⟨nm, k, y1, y2, y3, y4⟩, y5⟩ := odd30 hp2 y hy
  refine wI_lst ey ?_
  refine wA_nil ?_
  refine ⟨y, nm, k, rfl, y1, y2, y3, y4, ?_⟩
  rw [y5]
  refine wE_bl ?_
  refine wO_isB ?_
  exact q _ (lw3.up (by omega)) ((ls1.trans ls2).trans (Ls.trans (fun p o _ _ h => Sub.new np2 p o h) ls3))

end
end D

set_option Elab.async false
set_option linter.all false
set_option maxRecDepth 100000
set_option maxHeartbeats 4000000
namespace D
open PySem PySem.Spec PyProof.Rows L2
local macro_rules | `(tactic| walk_at "mul") => `(tactic| first | refine wO_mul (mulR (by first | decide | omega) (by first | decide | omega)) ?_ | refine wO_mul (mulL (by first | decide | omega) (by first | decide | omega)) ?_)
local macro_rules | `(tactic| walk_at "mod") => `(tactic| refine wO_mod (by first | decide | omega) ?_)
local macro_rules | `(tactic| walk_at "fdiv") => `(tactic| refine wO_fdiv (by first | decide | omega) (divS (by first | decide | omega)) ?_)
local macro_rules | `(tactic| walk_at "ix") => `(tactic| first | refine wI_tup (by rfl) ?_ | refine wI_lst (by rfl) ?_)
local macro_rules | `(tactic| walk_at "sl") => `(tactic| first | refine wSl_tup ?_ | refine wSl_lstF ?_)
section
variable {P : Program} {w : World} {mg : Str → Option Value} {base : Heap} {K : PySem.W.Frag}
abbrev s_law : Stmt := topS 36
abbrev N_law : List Str := ["_law_script", "_law_m", "_law_k", "_law_one", "_law_other", "_law_n", "_law_d"]
theorem sc_law : FnScope N_law ["_law_script"] (defScope s_law) := ⟨rfl, rfl, rfl, by decide +kernel, rfl, by decide +kernel, by decide +kernel⟩
theorem low_n1 (n : Int) : low n 1 = .tup [.int n, .int 1] := low_one ⟨by decide, by simp⟩
theorem numIn_07 : numIn "0/7" = .tup [.int 0, .int 1] := by
  have h : ("0/7" : Str) = Str.ofString (toString (0 : Int)) ++ "/" ++ txtN 7 := by decide +kernel
  rw [h, numIn_two (i := 0) (by decide) (by decide) (by decide)]
  exact low_of (n := 0) (d := 1) (k := 7) ⟨by decide, by decide⟩ (by decide)
def c_law : AC := fun xs μ Q _ => ∃ ns : List Int, xs = [.fls (ns.map A.int)] ∧ ns.length ≤ 63 ∧ ∀ μ', Q (.bl true) μ'
theorem ok_law {f : Addr} {fd : FuncData} (T : Txt K mg) (C__law_begun : Cal P w K mg base 2 "_law_begun" c__law_begun) (C__law_fraction : Cal P w K mg base 3 "_law_fraction" c__law_fraction) (C__law_pair_right : Cal P w K mg base 4 "_law_pair_right" c__law_pair_right) (C__law_draw : Cal P w K mg base 2 "_law_draw" c__law_draw) (C__law_kinds_right : Cal P w K mg base 4 "_law_kinds_right" c__law_kinds_right) (C__law_is : Cal P w K mg base 1 "_law_is" c__law_is) (C_fraction : Cal P w K mg base 2 "fraction" c_fraction) (C__law_lowest : Cal P w K mg base 2 "_law_lowest" c__law_lowest) (C_fractionD : CalD P w K mg base 2 "fraction" das_fraction c_fraction) (C__law_words_right : Cal P w K mg base 4 "_law_words_right" c__law_words_right) (C_number_in : Cal P w K mg base 3 "number_in" c_number_in) (F : Fun K "law" "law" s_law f fd) : FnD P w K mg base CX0 5 f fd ["_law_script"] c_law := by
  refine fnD F sc_law (fun xs μ Q E hc => by obtain ⟨ns, rfl, hn, q⟩ := hc; rfl) (fun cdv Ao outer s H E xs μ Q E0 ar hc => ?_)
  obtain ⟨ns, rfl, hn, q⟩ := hc
  have nd := sc_law.nd
  refine wSs_cons (wS_set 1 (wE_cal C__law_begun ar (by decide) (wA_cons (wE_name 0 rfl (wA_nil ?_)))) nd)
  refine ⟨ns, rfl, hn, fun m l μ0 nm lw sub => ?_⟩
  refine wSs_cons (wS_for (wIt_range1 T.b_range (wA_cons (wE_bin (wE_int (wE_callB (id := "min") T.b_min (by decide +kernel) (wA_cons (wE_int (wA_cons (wE_callB (id := "len") T.b_len (by decide +kernel) (wA_cons (wE_name 0 rfl (wA_nil ?_)))))))))))))
  refine wC_len (.fls _) ?_
  rw [List.length_map]
  refine wA_nil ?_
  refine wC_min2 rfl ?_
  obtain ⟨kk, ek, kk0, kk1⟩ : ∃ k : Int, (if (ns.length : Int) < 62 then (ns.length : Int) else 62) = k ∧ 0 ≤ k ∧ k ≤ 62 := ⟨_, rfl, by split <;> omega, by split <;> omega⟩
  rw [ek]
  refine wO_add ?_
  refine wA_nil ⟨_, rfl, by omega, by omega, ?_⟩
  refine ⟨fun i Γ' μ' => ∃ a b c1 d e, Γ' = [some (.fls (ns.map A.int)), some (.loc m), a, b, c1, d, e] ∧ Lw m l (20 * i) μ', ⟨_, _, _, _, _, rfl, lw⟩, fun i y Γ' μ' hy hI => ?_, fun Γ' μ' hI => ?_⟩
  obtain ⟨a0, b0, c0, d0, e0, rfl, lw1⟩ := hI
  obtain ⟨hi, rfl⟩ := rgA_at hy
  have hi2 : i < 63 := by omega
  refine wG_name 2 ?_ nd
  refine wSs_cons (wS_par 3 4 (wA_cons (wE_cal C__law_fraction ar (by decide) (wA_cons (wE_name 1 rfl (wA_nil ?_))))) nd)
  refine ⟨m, l, _, rfl, lw1, by omega, fun a b μ2 f1 f2 f3 lw2 ls2 => ?_⟩
  refine wA_cons (wE_cal C__law_fraction ar (by decide) (wA_cons (wE_name 1 rfl (wA_nil ?_))))
  refine ⟨m, l, _, rfl, lw2, by omega, fun c d μ3 g1 g2 g3 lw3 ls3 => ?_⟩
  refine wA_nil ⟨_, _, rfl, (wSs_cons (wS_if ?_))⟩
  refine wT.imp (QB := fun k μ' => k = false ∧ Lw m l (20 * i + 16) μ') ?_ (fun k μ' hq => ?_)
  refine wT_chain (wW_or (wT_not (wT_val (wE_cal C__law_pair_right ar (by decide) (wA_cons (wE_name 3 rfl (wA_cons (wE_name 4 rfl (wA_cons (wE_bin (wE_cal C__law_draw ar (by decide) (wA_cons (wE_name 1 rfl (wA_cons (wE_int (wA_nil ?_))))))))))))))))
  refine ⟨m, l, 13, _, rfl, by decide, by decide, lw3, by omega, fun r μ4 r0 r1 lw4 ls4 => ?_⟩
  refine wE_int ?_
  refine wO_sub ?_
  refine wA_nil ?_
  refine ⟨a, b, c, d, _, rfl, ⟨f1, f2, f3⟩, ⟨g1, g2, g3⟩, by omega, by omega, ?_⟩
  refine ⟨_, rfl, ?_⟩
  refine ⟨fun hk => ?_, fun hk => ?_⟩
  · exact nomatch hk
  refine wW_or1 (wT_not (wT_val (wE_cal C__law_kinds_right ar (by decide) (wA_cons (wE_name 1 rfl (wA_cons (wE_name 3 rfl (wA_nil ?_))))))))
  refine ⟨m, l, _, a, b, rfl, ⟨f1, f2, f3⟩, lw4, by omega, fun μ5 lw5 ls5 => ?_⟩
  refine ⟨_, rfl, ?_⟩
  exact ⟨rfl, lw5.up (by omega)⟩
  obtain ⟨rfl, lw6⟩ := hq
  refine ⟨fun hk => ?_, fun hk => ?_⟩
  refine wSs_cons (wS_ret (wE_bl ?_))
  exact nomatch hk
  refine wSs_nil ?_
  refine wSs_cons (wS_par 5 6 (wA_cons (wE_bin (wE_cal C__law_draw ar (by decide) (wA_cons (wE_name 1 rfl (wA_cons (wE_int (wA_nil ?_)))))))) nd)
  refine ⟨m, l, 41, _, rfl, by decide, by decide, lw6, by omega, fun r2 μ7 s0 s1 lw7 ls7 => ?_⟩
  refine wE_int ?_
  refine wO_sub ?_
  refine wA_cons (wE_ix (wE_lstF (wA_cons (wE_int (wA_cons (wE_int (wA_cons (wE_int (wA_cons (wE_neg (wE_int ⟨_, rfl, (wA_cons (wE_neg (wE_int ⟨_, rfl, (wA_nil ⟨by show 5 ≤ sizeLine; decide, (wE_cal C__law_draw ar (by decide) (wA_cons (wE_name 1 rfl (wA_cons (wE_int (wA_nil ?_))))))⟩)⟩)))⟩)))))))))))
  refine ⟨m, l, 5, _, rfl, by decide, by decide, lw7, by omega, fun r3 μ8 t0 t1 lw8 ls8 => ?_⟩
  obtain ⟨y1, hy1, ey1⟩ := atI_ex (xs := [D.A.int 1, .int 2, .int 6, .int (-1), .int (-4)]) t0 (by simpa using t1)
  obtain ⟨z, rfl, z0, z1, z2⟩ : ∃ z : Int, y1 = .int z ∧ z ≠ 0 ∧ -4 ≤ z ∧ z ≤ 6 := by
    simp only [List.mem_cons, List.not_mem_nil, or_false] at hy1
    rcases hy1 with rfl | rfl | rfl | rfl | rfl <;> exact ⟨_, rfl, by decide, by decide, by decide⟩
  refine wI_lst ey1 ?_
  have bz : Bd 8 z := by unfold Bd; omega
  have bn : Bd 8 (r2 - 20) := by unfold Bd; omega
  refine wA_nil ⟨_, _, rfl, (wSs_cons (wS_if ?_))⟩
  refine wT.imp (QB := fun k μ' => k = false ∧ μ8 = μ') ?_ (fun k μ' hq => ?_)
  refine wT_chain (wW_or (wT_not (wT_val (wE_cal C__law_is ar (by decide) (wA_cons (wE_cal C_fraction ar (by decide) (wA_cons (wE_name 5 rfl (wA_cons (wE_name 6 rfl (wA_nil ?_)))))))))))
  refine ⟨_, _, rfl, z0, bz.mono (by decide), ?_⟩
  refine wA_cons (wE_cal C__law_lowest ar (by decide) (wA_cons (wE_name 5 rfl (wA_cons (wE_name 6 rfl (wA_nil ?_))))))
  refine ⟨_, _, rfl, z0, bz.mono (by decide), ?_⟩
  refine wA_nil ?_
  refine ⟨_, rfl, show_low (bn.mono (by decide)) (bz.mono (by decide)) z0, ?_⟩
  refine ⟨_, rfl, ?_⟩
  refine ⟨fun hk => ?_, fun hk => ?_⟩
  · exact nomatch hk
  refine wW_or1 (wT_not (wT_val (wE_cal C__law_is ar (by decide) (wA_cons (wE_calD C_fractionD ar (by decide) (wA_cons (wE_name 5 rfl (wA_nil ?_))))))))
  refine ⟨_, 1, rfl, by decide, Bd.mono (n := 8) (by unfold Bd; decide) (by decide), ?_⟩
  rw [low_n1]
  refine wA_cons (wE_tup (wA_cons (wE_name 5 rfl (wA_cons (wE_int (wA_nil ⟨by show 2 ≤ sizeLine; decide, (wA_nil ?_)⟩))))))
  refine ⟨_, rfl, show_fr (bn.mono (by decide)) (Bd.mono (n := 8) (by unfold Bd; decide) (by decide)), ?_⟩
  refine ⟨_, rfl, ?_⟩
  exact ⟨rfl, rfl⟩
  obtain ⟨rfl, rfl⟩ := hq
  refine ⟨fun hk => ?_, fun hk => ?_⟩
  refine wSs_cons (wS_ret (wE_bl ?_))
  exact nomatch hk
  refine wSs_nil ?_
  refine wSs_cons (wS_if (wT_not (wT_val (wE_cal C__law_words_right ar (by decide) (wA_cons (wE_name 1 rfl (wA_cons (wE_name 3 rfl (wA_nil ?_)))))))))
  refine ⟨m, l, _, a, b, rfl, ⟨f1, f2, f3⟩, lw8, by omega, fun μ9 lw9 ls9 => ?_⟩
  refine ⟨_, rfl, ?_⟩
  refine ⟨fun hk => ?_, fun hk => ?_⟩
  refine wSs_cons (wS_ret (wE_bl ?_))
  exact nomatch hk
  refine wSs_nil ?_
  refine wSs_nil ?_
  exact ⟨_, _, _, _, _, rfl, lw9.up (by omega)⟩
  obtain ⟨a, b, c, d, e, rfl, lw1⟩ := hI
  refine wSs_cons (wS_ret (wE_cal C__law_is ar (by decide) (wA_cons (wE_cal C_number_in ar (by decide) (wA_cons (wE_str (wA_nil ?_)))))))
  refine ⟨"0/7", rfl, by decide, ?_⟩
  rw [numIn_07]
  refine wA_cons (wE_tup (wA_cons (wE_int (wA_cons (wE_int (wA_nil ⟨by show 2 ≤ sizeLine; decide, (wA_nil ?_)⟩))))))
  refine ⟨_, rfl, show_fr (Bd.mono (n := 8) (by unfold Bd; decide) (by decide)) (Bd.mono (n := 8) (by unfold Bd; decide) (by decide)), ?_⟩
  exact q _

end
end D

set_option Elab.async false
set_option linter.all false
set_option maxRecDepth 100000
set_option maxHeartbeats 4000000
namespace D
open PySem PySem.Spec PyProof.Rows L2
theorem all_mk {l : PySem.W.OpenLaw} {w : World} {K : PySem.W.Frag} {h : Heap} {mg : Str → Option Value} {fa f1 f2 f3 f4 f5 f6 f7 f8 f9 f10 f11 f12 f13 f14 f15 f16 f17 f18 f19 f20 f21 f22 f23 f24 f25 f26 f27 f28 f29 : Addr} (X : K.In h) (G : h.Ns mainGlobals mg) (hfa : mg "law" = some (.ref fa))
    {od1 an1 od2 an2 od3 an3 od4 an4 od5 an5 od6 an6 od7 an7 od8 an8 od9 an9 od10 an10 od11 an11 od12 an12 od13 an13 od14 an14 od15 an15 od16 an16 od17 an17 od18 an18 od19 an19 od20 an20 od21 an21 od22 an22 od23 an23 od24 an24 od25 an25 od26 an26 od27 an27 od28 an28 od29 an29 : Option Addr} {sl1 sl2 sl3 sl4 sl5 sl6 sl7 sl8 sl9 sl10 sl11 sl12 sl13 sl14 sl15 sl16 sl17 sl18 sl19 sl20 sl21 sl22 sl23 sl24 sl25 sl26 sl27 sl28 sl29 : Array (Option Value)} {oc1 kV1 dc1 pm1 cd1 ct1 oc2 kV2 dc2 pm2 cd2 ct2 oc3 kV3 dc3 pm3 cd3 ct3 oc4 kV4 dc4 pm4 cd4 ct4 oc5 kV5 dc5 pm5 cd5 ct5 oc6 kV6 dc6 pm6 cd6 ct6 oc7 kV7 dc7 pm7 cd7 ct7 oc8 kV8 dc8 pm8 cd8 ct8 oc9 kV9 dc9 pm9 cd9 ct9 oc10 kV10 dc10 pm10 cd10 ct10 oc11 kV11 dc11 pm11 cd11 ct11 oc12 kV12 dc12 pm12 cd12 ct12 oc13 kV13 dc13 pm13 cd13 ct13 oc14 kV14 dc14 pm14 cd14 ct14 oc15 kV15 dc15 pm15 cd15 ct15 oc16 kV16 dc16 pm16 cd16 ct16 oc17 kV17 dc17 pm17 cd17 ct17 oc18 kV18 dc18 pm18 cd18 ct18 oc19 kV19 dc19 pm19 cd19 ct19 oc20 kV20 dc20 pm20 cd20 ct20 oc21 kV21 dc21 pm21 cd21 ct21 oc22 kV22 dc22 pm22 cd22 ct22 oc23 kV23 dc23 pm23 cd23 ct23 oc24 kV24 dc24 pm24 cd24 ct24 oc25 kV25 dc25 pm25 cd25 ct25 oc26 kV26 dc26 pm26 cd26 ct26 oc27 kV27 dc27 pm27 cd27 ct27 oc28 kV28 dc28 pm28 cd28 ct28 oc29 kV29 dc29 pm29 cd29 ct29 : Value}
    (a1 : PySem.W.nsIn K mainGlobals "is_whole" = some (some (.ref f1))) (l1 : K.lookup f1 = some ⟨oc1, od1, .func (PySem.W.fnOf "is_whole" "is_whole" (defArgs s_is_whole) (defBody s_is_whole) (defScope s_is_whole) .none kV1 dc1 pm1 an1 cd1 ct1), sl1⟩) (c1 : PySem.W.codeIn K cd1 "is_whole" = true) (k1 : PySem.W.keepIn K (.ref f1) = true)
    (a2 : PySem.W.nsIn K mainGlobals "common" = some (some (.ref f2))) (l2 : K.lookup f2 = some ⟨oc2, od2, .func (PySem.W.fnOf "common" "common" (defArgs s_common) (defBody s_common) (defScope s_common) .none kV2 dc2 pm2 an2 cd2 ct2), sl2⟩) (c2 : PySem.W.codeIn K cd2 "common" = true) (k2 : PySem.W.keepIn K (.ref f2) = true)
    (a3 : PySem.W.nsIn K mainGlobals "is_fraction" = some (some (.ref f3))) (l3 : K.lookup f3 = some ⟨oc3, od3, .func (PySem.W.fnOf "is_fraction" "is_fraction" (defArgs s_is_fraction) (defBody s_is_fraction) (defScope s_is_fraction) .none kV3 dc3 pm3 an3 cd3 ct3), sl3⟩) (c3 : PySem.W.codeIn K cd3 "is_fraction" = true) (k3 : PySem.W.keepIn K (.ref f3) = true)
    {T4 : Addr} {tc4 : Value} {td4 : Option Addr} {ti4 : Array Value} {tn4 : Nat} {ts4 : Array (Option Value)}
    (a4 : PySem.W.nsIn K mainGlobals "fraction" = some (some (.ref f4))) (l4 : K.lookup f4 = some ⟨oc4, od4, .func (PySem.W.fnOf "fraction" "fraction" (defArgs s_fraction) (defBody s_fraction) (defScope s_fraction) (.ref T4) kV4 dc4 pm4 an4 cd4 ct4), sl4⟩) (c4 : PySem.W.codeIn K cd4 "fraction" = true) (k4 : PySem.W.keepIn K (.ref f4) = true)
    (lT4 : K.lookup T4 = some ⟨tc4, td4, .seq ti4 tn4, ts4⟩) (vT4 : ti4.toList.map intOf = [some 1])
    (a5 : PySem.W.nsIn K mainGlobals "plus" = some (some (.ref f5))) (l5 : K.lookup f5 = some ⟨oc5, od5, .func (PySem.W.fnOf "plus" "plus" (defArgs s_plus) (defBody s_plus) (defScope s_plus) .none kV5 dc5 pm5 an5 cd5 ct5), sl5⟩) (c5 : PySem.W.codeIn K cd5 "plus" = true) (k5 : PySem.W.keepIn K (.ref f5) = true)
    (a6 : PySem.W.nsIn K mainGlobals "less" = some (some (.ref f6))) (l6 : K.lookup f6 = some ⟨oc6, od6, .func (PySem.W.fnOf "less" "less" (defArgs s_less) (defBody s_less) (defScope s_less) .none kV6 dc6 pm6 an6 cd6 ct6), sl6⟩) (c6 : PySem.W.codeIn K cd6 "less" = true) (k6 : PySem.W.keepIn K (.ref f6) = true)
    (a7 : PySem.W.nsIn K mainGlobals "times" = some (some (.ref f7))) (l7 : K.lookup f7 = some ⟨oc7, od7, .func (PySem.W.fnOf "times" "times" (defArgs s_times) (defBody s_times) (defScope s_times) .none kV7 dc7 pm7 an7 cd7 ct7), sl7⟩) (c7 : PySem.W.codeIn K cd7 "times" = true) (k7 : PySem.W.keepIn K (.ref f7) = true)
    (a8 : PySem.W.nsIn K mainGlobals "over" = some (some (.ref f8))) (l8 : K.lookup f8 = some ⟨oc8, od8, .func (PySem.W.fnOf "over" "over" (defArgs s_over) (defBody s_over) (defScope s_over) .none kV8 dc8 pm8 an8 cd8 ct8), sl8⟩) (c8 : PySem.W.codeIn K cd8 "over" = true) (k8 : PySem.W.keepIn K (.ref f8) = true)
    (a9 : PySem.W.nsIn K mainGlobals "power" = some (some (.ref f9))) (l9 : K.lookup f9 = some ⟨oc9, od9, .func (PySem.W.fnOf "power" "power" (defArgs s_power) (defBody s_power) (defScope s_power) .none kV9 dc9 pm9 an9 cd9 ct9), sl9⟩) (c9 : PySem.W.codeIn K cd9 "power" = true) (k9 : PySem.W.keepIn K (.ref f9) = true)
    (a10 : PySem.W.nsIn K mainGlobals "sign" = some (some (.ref f10))) (l10 : K.lookup f10 = some ⟨oc10, od10, .func (PySem.W.fnOf "sign" "sign" (defArgs s_sign) (defBody s_sign) (defScope s_sign) .none kV10 dc10 pm10 an10 cd10 ct10), sl10⟩) (c10 : PySem.W.codeIn K cd10 "sign" = true) (k10 : PySem.W.keepIn K (.ref f10) = true)
    (a11 : PySem.W.nsIn K mainGlobals "text_of" = some (some (.ref f11))) (l11 : K.lookup f11 = some ⟨oc11, od11, .func (PySem.W.fnOf "text_of" "text_of" (defArgs s_text_of) (defBody s_text_of) (defScope s_text_of) .none kV11 dc11 pm11 an11 cd11 ct11), sl11⟩) (c11 : PySem.W.codeIn K cd11 "text_of" = true) (k11 : PySem.W.keepIn K (.ref f11) = true)
    (a12 : PySem.W.nsIn K mainGlobals "figures_in" = some (some (.ref f12))) (l12 : K.lookup f12 = some ⟨oc12, od12, .func (PySem.W.fnOf "figures_in" "figures_in" (defArgs s_figures_in) (defBody s_figures_in) (defScope s_figures_in) .none kV12 dc12 pm12 an12 cd12 ct12), sl12⟩) (c12 : PySem.W.codeIn K cd12 "figures_in" = true) (k12 : PySem.W.keepIn K (.ref f12) = true)
    (a13 : PySem.W.nsIn K mainGlobals "whole_in" = some (some (.ref f13))) (l13 : K.lookup f13 = some ⟨oc13, od13, .func (PySem.W.fnOf "whole_in" "whole_in" (defArgs s_whole_in) (defBody s_whole_in) (defScope s_whole_in) .none kV13 dc13 pm13 an13 cd13 ct13), sl13⟩) (c13 : PySem.W.codeIn K cd13 "whole_in" = true) (k13 : PySem.W.keepIn K (.ref f13) = true)
    (a14 : PySem.W.nsIn K mainGlobals "number_in" = some (some (.ref f14))) (l14 : K.lookup f14 = some ⟨oc14, od14, .func (PySem.W.fnOf "number_in" "number_in" (defArgs s_number_in) (defBody s_number_in) (defScope s_number_in) .none kV14 dc14 pm14 an14 cd14 ct14), sl14⟩) (c14 : PySem.W.codeIn K cd14 "number_in" = true) (k14 : PySem.W.keepIn K (.ref f14) = true)
    (a15 : PySem.W.nsIn K mainGlobals "is_name" = some (some (.ref f15))) (l15 : K.lookup f15 = some ⟨oc15, od15, .func (PySem.W.fnOf "is_name" "is_name" (defArgs s_is_name) (defBody s_is_name) (defScope s_is_name) .none kV15 dc15 pm15 an15 cd15 ct15), sl15⟩) (c15 : PySem.W.codeIn K cd15 "is_name" = true) (k15 : PySem.W.keepIn K (.ref f15) = true)
    (a16 : PySem.W.nsIn K mainGlobals "_law_mixed" = some (some (.ref f16))) (l16 : K.lookup f16 = some ⟨oc16, od16, .func (PySem.W.fnOf "_law_mixed" "_law_mixed" (defArgs s__law_mixed) (defBody s__law_mixed) (defScope s__law_mixed) .none kV16 dc16 pm16 an16 cd16 ct16), sl16⟩) (c16 : PySem.W.codeIn K cd16 "_law_mixed" = true) (k16 : PySem.W.keepIn K (.ref f16) = true)
    (a17 : PySem.W.nsIn K mainGlobals "_law_folded" = some (some (.ref f17))) (l17 : K.lookup f17 = some ⟨oc17, od17, .func (PySem.W.fnOf "_law_folded" "_law_folded" (defArgs s__law_folded) (defBody s__law_folded) (defScope s__law_folded) .none kV17 dc17 pm17 an17 cd17 ct17), sl17⟩) (c17 : PySem.W.codeIn K cd17 "_law_folded" = true) (k17 : PySem.W.keepIn K (.ref f17) = true)
    (a18 : PySem.W.nsIn K mainGlobals "_law_draw" = some (some (.ref f18))) (l18 : K.lookup f18 = some ⟨oc18, od18, .func (PySem.W.fnOf "_law_draw" "_law_draw" (defArgs s__law_draw) (defBody s__law_draw) (defScope s__law_draw) .none kV18 dc18 pm18 an18 cd18 ct18), sl18⟩) (c18 : PySem.W.codeIn K cd18 "_law_draw" = true) (k18 : PySem.W.keepIn K (.ref f18) = true)
    (a19 : PySem.W.nsIn K mainGlobals "_law_begun" = some (some (.ref f19))) (l19 : K.lookup f19 = some ⟨oc19, od19, .func (PySem.W.fnOf "_law_begun" "_law_begun" (defArgs s__law_begun) (defBody s__law_begun) (defScope s__law_begun) .none kV19 dc19 pm19 an19 cd19 ct19), sl19⟩) (c19 : PySem.W.codeIn K cd19 "_law_begun" = true) (k19 : PySem.W.keepIn K (.ref f19) = true)
    (a20 : PySem.W.nsIn K mainGlobals "_law_names" = some (some (.ref f20))) (l20 : K.lookup f20 = some ⟨oc20, od20, .func (PySem.W.fnOf "_law_names" "_law_names" (defArgs s__law_names) (defBody s__law_names) (defScope s__law_names) .none kV20 dc20 pm20 an20 cd20 ct20), sl20⟩) (c20 : PySem.W.codeIn K cd20 "_law_names" = true) (k20 : PySem.W.keepIn K (.ref f20) = true)
    (a21 : PySem.W.nsIn K mainGlobals "_law_common" = some (some (.ref f21))) (l21 : K.lookup f21 = some ⟨oc21, od21, .func (PySem.W.fnOf "_law_common" "_law_common" (defArgs s__law_common) (defBody s__law_common) (defScope s__law_common) .none kV21 dc21 pm21 an21 cd21 ct21), sl21⟩) (c21 : PySem.W.codeIn K cd21 "_law_common" = true) (k21 : PySem.W.keepIn K (.ref f21) = true)
    (a22 : PySem.W.nsIn K mainGlobals "_law_lowest" = some (some (.ref f22))) (l22 : K.lookup f22 = some ⟨oc22, od22, .func (PySem.W.fnOf "_law_lowest" "_law_lowest" (defArgs s__law_lowest) (defBody s__law_lowest) (defScope s__law_lowest) .none kV22 dc22 pm22 an22 cd22 ct22), sl22⟩) (c22 : PySem.W.codeIn K cd22 "_law_lowest" = true) (k22 : PySem.W.keepIn K (.ref f22) = true)
    (a23 : PySem.W.nsIn K mainGlobals "_law_fraction" = some (some (.ref f23))) (l23 : K.lookup f23 = some ⟨oc23, od23, .func (PySem.W.fnOf "_law_fraction" "_law_fraction" (defArgs s__law_fraction) (defBody s__law_fraction) (defScope s__law_fraction) .none kV23 dc23 pm23 an23 cd23 ct23), sl23⟩) (c23 : PySem.W.codeIn K cd23 "_law_fraction" = true) (k23 : PySem.W.keepIn K (.ref f23) = true)
    (a24 : PySem.W.nsIn K mainGlobals "_law_is" = some (some (.ref f24))) (l24 : K.lookup f24 = some ⟨oc24, od24, .func (PySem.W.fnOf "_law_is" "_law_is" (defArgs s__law_is) (defBody s__law_is) (defScope s__law_is) .none kV24 dc24 pm24 an24 cd24 ct24), sl24⟩) (c24 : PySem.W.codeIn K cd24 "_law_is" = true) (k24 : PySem.W.keepIn K (.ref f24) = true)
    (a25 : PySem.W.nsIn K mainGlobals "_law_raised" = some (some (.ref f25))) (l25 : K.lookup f25 = some ⟨oc25, od25, .func (PySem.W.fnOf "_law_raised" "_law_raised" (defArgs s__law_raised) (defBody s__law_raised) (defScope s__law_raised) .none kV25 dc25 pm25 an25 cd25 ct25), sl25⟩) (c25 : PySem.W.codeIn K cd25 "_law_raised" = true) (k25 : PySem.W.keepIn K (.ref f25) = true)
    (a26 : PySem.W.nsIn K mainGlobals "_law_pair_right" = some (some (.ref f26))) (l26 : K.lookup f26 = some ⟨oc26, od26, .func (PySem.W.fnOf "_law_pair_right" "_law_pair_right" (defArgs s__law_pair_right) (defBody s__law_pair_right) (defScope s__law_pair_right) .none kV26 dc26 pm26 an26 cd26 ct26), sl26⟩) (c26 : PySem.W.codeIn K cd26 "_law_pair_right" = true) (k26 : PySem.W.keepIn K (.ref f26) = true)
    (a27 : PySem.W.nsIn K mainGlobals "_law_words_right" = some (some (.ref f27))) (l27 : K.lookup f27 = some ⟨oc27, od27, .func (PySem.W.fnOf "_law_words_right" "_law_words_right" (defArgs s__law_words_right) (defBody s__law_words_right) (defScope s__law_words_right) .none kV27 dc27 pm27 an27 cd27 ct27), sl27⟩) (c27 : PySem.W.codeIn K cd27 "_law_words_right" = true) (k27 : PySem.W.keepIn K (.ref f27) = true)
    (a28 : PySem.W.nsIn K mainGlobals "_law_kinds_right" = some (some (.ref f28))) (l28 : K.lookup f28 = some ⟨oc28, od28, .func (PySem.W.fnOf "_law_kinds_right" "_law_kinds_right" (defArgs s__law_kinds_right) (defBody s__law_kinds_right) (defScope s__law_kinds_right) .none kV28 dc28 pm28 an28 cd28 ct28), sl28⟩) (c28 : PySem.W.codeIn K cd28 "_law_kinds_right" = true) (k28 : PySem.W.keepIn K (.ref f28) = true)
    (a29 : PySem.W.nsIn K mainGlobals "law" = some (some (.ref f29))) (l29 : K.lookup f29 = some ⟨oc29, od29, .func (PySem.W.fnOf "law" "law" (defArgs s_law) (defBody s_law) (defScope s_law) .none kV29 dc29 pm29 an29 cd29 ct29), sl29⟩) (c29 : PySem.W.codeIn K cd29 "law" = true) (k29 : PySem.W.keepIn K (.ref f29) = true)
    (z0 : PySem.W.nsIn K mainGlobals "range" = some none)
    (z1 : PySem.W.nsIn K mainGlobals "len" = some none)
    (z2 : PySem.W.nsIn K mainGlobals "isinstance" = some none)
    (z3 : PySem.W.nsIn K mainGlobals "int" = some none)
    (z4 : PySem.W.nsIn K mainGlobals "bool" = some none)
    (z5 : PySem.W.nsIn K mainGlobals "str" = some none)
    (z6 : PySem.W.nsIn K mainGlobals "tuple" = some none)
    (z7 : PySem.W.nsIn K mainGlobals "list" = some none)
    (z8 : PySem.W.nsIn K mainGlobals "all" = some none)
    (z9 : PySem.W.nsIn K mainGlobals "abs" = some none)
    (z10 : PySem.W.nsIn K mainGlobals "zip" = some none)
    (z11 : PySem.W.nsIn K mainGlobals "repr" = some none)
    (z12 : PySem.W.nsIn K mainGlobals "enumerate" = some none)
    (z13 : PySem.W.nsIn K mainGlobals "min" = some none)
    {t14 : Tok} {x14 : Str} (z14 : PySem.W.nsIn K mainGlobals "FIGURES" = some (some (.str x14 t14))) (e14 : x14 = "0123456789")
    {t15 : Tok} (z15 : PySem.W.nsIn K mainGlobals "MOST_FIGURES" = some (some (.int 4000 t15)))
    {t16 : Tok} {x16 : Str} (z16 : PySem.W.nsIn K mainGlobals "LETTERS" = some (some (.str x16 t16))) (e16 : x16 = "abcdefghijklmnopqrstuvwxyz")
    {p17 : Addr} {i17 : Array Value} {n17 : Nat} {y17 : Array (Option Value)} {d17 : Option Addr} (z17 : PySem.W.nsIn K mainGlobals "BARRED" = some (some (.ref p17))) (w17 : K.lookup p17 = some ⟨.type "tuple", d17, .seq i17 n17, y17⟩) (e17 : i17.toList.map strOf = BARS.map some)
    {t18 : Tok} (z18 : PySem.W.nsIn K mainGlobals "MOST_LETTERS" = some (some (.int 8 t18)))
    : ∃ fd : FuncData, (∀ (s : Shared) (v : Value), BindsTo s fd ⟨[v], []⟩ [("_law_script", v)]) ∧ ∀ base : Heap, K.In base → base.Ns mainGlobals mg → FnD l.prog w K mg base CX0 5 fa fd ["_law_script"] c_law := by
  have e := hfa.symm.trans (PySem.W.mg_of X G a29)
  cases e
  have T : Txt K mg := ⟨PySem.W.mg_none_of X G z0, PySem.W.mg_none_of X G z1, PySem.W.mg_none_of X G z2, PySem.W.mg_none_of X G z3, PySem.W.mg_none_of X G z4, PySem.W.mg_none_of X G z5, PySem.W.mg_none_of X G z6, PySem.W.mg_none_of X G z7, PySem.W.mg_none_of X G z8, PySem.W.mg_none_of X G z9, PySem.W.mg_none_of X G z10, PySem.W.mg_none_of X G z11, PySem.W.mg_none_of X G z12, PySem.W.mg_none_of X G z13, kn_str X G z14 e14, kn_int X G z15, kn_str X G z16 e16, kn_strs X G z17 w17 e17 (by decide), kn_int X G z18⟩
  have F1 := fun_mk (st := s_is_whole) l1 c1 k1
  have b1 := F1.binds (ps := ["thing"]) fun _ _ _ _ _ _ us hl => match us, hl with | [_], _ => rfl
  have F2 := fun_mk (st := s_common) l2 c2 k2
  have b2 := F2.binds (ps := ["one", "other"]) fun _ _ _ _ _ _ us hl => match us, hl with | [_, _], _ => rfl
  have F3 := fun_mk (st := s_is_fraction) l3 c3 k3
  have b3 := F3.binds (ps := ["thing"]) fun _ _ _ _ _ _ us hl => match us, hl with | [_], _ => rfl
  have F4 := fund_mk (st := s_fraction) (dvs := dvs_fraction) l4 c4 k4 lT4 (vals_nums (ws := [1]) vT4) (by simp)
  obtain ⟨dsg4, vsg4, g4⟩ := F4.binds1 (ps := ["n", "d"]) 1 0 (by simp) (by rfl) fun T kV doc pm an cdv ct us its l1 l2 => match us, its, l1, l2 with | [_], [_], _, _ => ⟨_, rfl, rfl⟩
  obtain ⟨dsb4, vsb4, b4⟩ := F4.binds1 (ps := ["n", "d"]) 2 1 (by simp) (by rfl) fun T kV doc pm an cdv ct us its l1 l2 => match us, its, l1, l2 with | [_, _], [_], _, _ => ⟨_, rfl, rfl⟩
  obtain rfl : dsb4 = [] := by cases vsb4; rfl
  have F5 := fun_mk (st := s_plus) l5 c5 k5
  have b5 := F5.binds (ps := ["one", "other"]) fun _ _ _ _ _ _ us hl => match us, hl with | [_, _], _ => rfl
  have F6 := fun_mk (st := s_less) l6 c6 k6
  have b6 := F6.binds (ps := ["one", "other"]) fun _ _ _ _ _ _ us hl => match us, hl with | [_, _], _ => rfl
  have F7 := fun_mk (st := s_times) l7 c7 k7
  have b7 := F7.binds (ps := ["one", "other"]) fun _ _ _ _ _ _ us hl => match us, hl with | [_, _], _ => rfl
  have F8 := fun_mk (st := s_over) l8 c8 k8
  have b8 := F8.binds (ps := ["one", "other"]) fun _ _ _ _ _ _ us hl => match us, hl with | [_, _], _ => rfl
  have F9 := fun_mk (st := s_power) l9 c9 k9
  have b9 := F9.binds (ps := ["one", "k"]) fun _ _ _ _ _ _ us hl => match us, hl with | [_, _], _ => rfl
  have F10 := fun_mk (st := s_sign) l10 c10 k10
  have b10 := F10.binds (ps := ["one"]) fun _ _ _ _ _ _ us hl => match us, hl with | [_], _ => rfl
  have F11 := fun_mk (st := s_text_of) l11 c11 k11
  have b11 := F11.binds (ps := ["one"]) fun _ _ _ _ _ _ us hl => match us, hl with | [_], _ => rfl
  have F12 := fun_mk (st := s_figures_in) l12 c12 k12
  have b12 := F12.binds (ps := ["word"]) fun _ _ _ _ _ _ us hl => match us, hl with | [_], _ => rfl
  have F13 := fun_mk (st := s_whole_in) l13 c13 k13
  have b13 := F13.binds (ps := ["word"]) fun _ _ _ _ _ _ us hl => match us, hl with | [_], _ => rfl
  have F14 := fun_mk (st := s_number_in) l14 c14 k14
  have b14 := F14.binds (ps := ["word"]) fun _ _ _ _ _ _ us hl => match us, hl with | [_], _ => rfl
  have F15 := fun_mk (st := s_is_name) l15 c15 k15
  have b15 := F15.binds (ps := ["thing"]) fun _ _ _ _ _ _ us hl => match us, hl with | [_], _ => rfl
  have F16 := fun_mk (st := s__law_mixed) l16 c16 k16
  have b16 := F16.binds (ps := ["_law_cell", "_law_k"]) fun _ _ _ _ _ _ us hl => match us, hl with | [_, _], _ => rfl
  have F17 := fun_mk (st := s__law_folded) l17 c17 k17
  have b17 := F17.binds (ps := ["_law_script"]) fun _ _ _ _ _ _ us hl => match us, hl with | [_], _ => rfl
  have F18 := fun_mk (st := s__law_draw) l18 c18 k18
  have b18 := F18.binds (ps := ["_law_m", "_law_many"]) fun _ _ _ _ _ _ us hl => match us, hl with | [_, _], _ => rfl
  have F19 := fun_mk (st := s__law_begun) l19 c19 k19
  have b19 := F19.binds (ps := ["_law_script"]) fun _ _ _ _ _ _ us hl => match us, hl with | [_], _ => rfl
  have F20 := fun_mk (st := s__law_names) l20 c20 k20
  have b20 := F20.binds (ps := ["_law_m", "_law_many"]) fun _ _ _ _ _ _ us hl => match us, hl with | [_, _], _ => rfl
  have F21 := fun_mk (st := s__law_common) l21 c21 k21
  have b21 := F21.binds (ps := ["_law_one", "_law_other"]) fun _ _ _ _ _ _ us hl => match us, hl with | [_, _], _ => rfl
  have F22 := fun_mk (st := s__law_lowest) l22 c22 k22
  have b22 := F22.binds (ps := ["_law_n", "_law_d"]) fun _ _ _ _ _ _ us hl => match us, hl with | [_, _], _ => rfl
  have F23 := fun_mk (st := s__law_fraction) l23 c23 k23
  have b23 := F23.binds (ps := ["_law_m"]) fun _ _ _ _ _ _ us hl => match us, hl with | [_], _ => rfl
  have F24 := fun_mk (st := s__law_is) l24 c24 k24
  have b24 := F24.binds (ps := ["_law_found", "_law_due"]) fun _ _ _ _ _ _ us hl => match us, hl with | [_, _], _ => rfl
  have F25 := fun_mk (st := s__law_raised) l25 c25 k25
  have b25 := F25.binds (ps := ["_law_one", "_law_k"]) fun _ _ _ _ _ _ us hl => match us, hl with | [_, _], _ => rfl
  have F26 := fun_mk (st := s__law_pair_right) l26 c26 k26
  have b26 := F26.binds (ps := ["_law_one", "_law_other", "_law_k"]) fun _ _ _ _ _ _ us hl => match us, hl with | [_, _, _], _ => rfl
  have F27 := fun_mk (st := s__law_words_right) l27 c27 k27
  have b27 := F27.binds (ps := ["_law_m", "_law_one"]) fun _ _ _ _ _ _ us hl => match us, hl with | [_, _], _ => rfl
  have F28 := fun_mk (st := s__law_kinds_right) l28 c28 k28
  have b28 := F28.binds (ps := ["_law_m", "_law_one"]) fun _ _ _ _ _ _ us hl => match us, hl with | [_, _], _ => rfl
  have F29 := fun_mk (st := s_law) l29 c29 k29
  have b29 := F29.binds (ps := ["_law_script"]) fun _ _ _ _ _ _ us hl => match us, hl with | [_], _ => rfl
  refine ⟨PySem.W.fnOf "law" "law" (defArgs s_law) (defBody s_law) (defScope s_law) .none kV29 dc29 pm29 an29 cd29 ct29, fun s v => .of_eq rfl, fun base _ _ => ?_⟩
  have C_is_whole : Cal l.prog w K mg base 1 "is_whole" c_is_whole := ⟨_, _, _, ok_is_whole T  F1, PySem.W.mg_of X G a1, k1, b1⟩
  have C_common : Cal l.prog w K mg base 1 "common" c_common := ⟨_, _, _, ok_common T  F2, PySem.W.mg_of X G a2, k2, b2⟩
  have C_sign : Cal l.prog w K mg base 1 "sign" c_sign := ⟨_, _, _, ok_sign T  F10, PySem.W.mg_of X G a10, k10, b10⟩
  have C_text_of : Cal l.prog w K mg base 1 "text_of" c_text_of := ⟨_, _, _, ok_text_of T  F11, PySem.W.mg_of X G a11, k11, b11⟩
  have C_figures_in : Cal l.prog w K mg base 1 "figures_in" c_figures_in := ⟨_, _, _, ok_figures_in T  F12, PySem.W.mg_of X G a12, k12, b12⟩
  have C_is_name : Cal l.prog w K mg base 1 "is_name" c_is_name := ⟨_, _, _, ok_is_name T  F15, PySem.W.mg_of X G a15, k15, b15⟩
  have C__law_mixed : Cal l.prog w K mg base 1 "_law_mixed" c__law_mixed := ⟨_, _, _, ok__law_mixed T  F16, PySem.W.mg_of X G a16, k16, b16⟩
  have C__law_folded : Cal l.prog w K mg base 1 "_law_folded" c__law_folded := ⟨_, _, _, ok__law_folded T  F17, PySem.W.mg_of X G a17, k17, b17⟩
  have C__law_common : Cal l.prog w K mg base 1 "_law_common" c__law_common := ⟨_, _, _, ok__law_common T  F21, PySem.W.mg_of X G a21, k21, b21⟩
  have C__law_is : Cal l.prog w K mg base 1 "_law_is" c__law_is := ⟨_, _, _, ok__law_is T  F24, PySem.W.mg_of X G a24, k24, b24⟩
  have C_is_fraction : Cal l.prog w K mg base 2 "is_fraction" c_is_fraction := ⟨_, _, _, ok_is_fraction T C_is_whole C_common F3, PySem.W.mg_of X G a3, k3, b3⟩
  have C_fraction : Cal l.prog w K mg base 2 "fraction" c_fraction := ⟨_, _, _, ok_fraction T C_common F4, PySem.W.mg_of X G a4, k4, b4⟩
  have C_fractionD : CalD l.prog w K mg base 2 "fraction" das_fraction c_fraction := ⟨_, _, _, _, _, ok_fraction T C_common F4, PySem.W.mg_of X G a4, k4, g4, vsg4, fun F => .map (fun i => rep_int.mpr rfl) [1]⟩
  have C_whole_in : Cal l.prog w K mg base 2 "whole_in" c_whole_in := ⟨_, _, _, ok_whole_in T C_figures_in F13, PySem.W.mg_of X G a13, k13, b13⟩
  have C__law_draw : Cal l.prog w K mg base 2 "_law_draw" c__law_draw := ⟨_, _, _, ok__law_draw T C__law_mixed F18, PySem.W.mg_of X G a18, k18, b18⟩
  have C__law_begun : Cal l.prog w K mg base 2 "_law_begun" c__law_begun := ⟨_, _, _, ok__law_begun T C__law_folded F19, PySem.W.mg_of X G a19, k19, b19⟩
  have C__law_lowest : Cal l.prog w K mg base 2 "_law_lowest" c__law_lowest := ⟨_, _, _, ok__law_lowest T C__law_common F22, PySem.W.mg_of X G a22, k22, b22⟩
  have C_plus : Cal l.prog w K mg base 3 "plus" c_plus := ⟨_, _, _, ok_plus T C_fraction F5, PySem.W.mg_of X G a5, k5, b5⟩
  have C_less : Cal l.prog w K mg base 3 "less" c_less := ⟨_, _, _, ok_less T C_fraction F6, PySem.W.mg_of X G a6, k6, b6⟩
  have C_times : Cal l.prog w K mg base 3 "times" c_times := ⟨_, _, _, ok_times T C_fraction F7, PySem.W.mg_of X G a7, k7, b7⟩
  have C_over : Cal l.prog w K mg base 3 "over" c_over := ⟨_, _, _, ok_over T C_fraction F8, PySem.W.mg_of X G a8, k8, b8⟩
  have C_power : Cal l.prog w K mg base 3 "power" c_power := ⟨_, _, _, ok_power T C_fraction F9, PySem.W.mg_of X G a9, k9, b9⟩
  have C_number_in : Cal l.prog w K mg base 3 "number_in" c_number_in := ⟨_, _, _, ok_number_in T C_whole_in C_figures_in C_fraction F14, PySem.W.mg_of X G a14, k14, b14⟩
  have C__law_names : Cal l.prog w K mg base 3 "_law_names" c__law_names := ⟨_, _, _, ok__law_names T C__law_draw F20, PySem.W.mg_of X G a20, k20, b20⟩
  have C__law_fraction : Cal l.prog w K mg base 3 "_law_fraction" c__law_fraction := ⟨_, _, _, ok__law_fraction T C__law_draw C__law_lowest F23, PySem.W.mg_of X G a23, k23, b23⟩
  have C__law_raised : Cal l.prog w K mg base 3 "_law_raised" c__law_raised := ⟨_, _, _, ok__law_raised T C__law_lowest F25, PySem.W.mg_of X G a25, k25, b25⟩
  have C__law_pair_right : Cal l.prog w K mg base 4 "_law_pair_right" c__law_pair_right := ⟨_, _, _, ok__law_pair_right T C_plus C_less C_times C__law_lowest C__law_is C_over C_power C__law_raised C_sign F26, PySem.W.mg_of X G a26, k26, b26⟩
  have C__law_words_right : Cal l.prog w K mg base 4 "_law_words_right" c__law_words_right := ⟨_, _, _, ok__law_words_right T C__law_draw C_text_of C__law_is C_number_in F27, PySem.W.mg_of X G a27, k27, b27⟩
  have C__law_kinds_right : Cal l.prog w K mg base 4 "_law_kinds_right" c__law_kinds_right := ⟨_, _, _, ok__law_kinds_right T C_is_fraction C__law_draw C__law_names C_is_name F28, PySem.W.mg_of X G a28, k28, b28⟩
  exact ok_law T C__law_begun C__law_fraction C__law_pair_right C__law_draw C__law_kinds_right C__law_is C_fraction C__law_lowest C_fractionD C__law_words_right C_number_in F29
end D
open PySem PySem.W PyProof.Rows
set_option maxHeartbeats 0 in
theorem PySem.Challenge.cw_slopehouse_k01_fractions_and_names_holds : PySem.Challenge.rw_slopehouse_k01_fractions_and_names.Holds := by
  w_on; o_law; k_head; (case hw => w_witness2)
  k_fill
  refine D.walk_end (l := PySem.Challenge.rw_slopehouse_k01_fractions_and_names) (k := 5) (x := "_law_script") (c := fun _ => D.c_law) rfl rfl ⟨rfl, by decide, by decide⟩ (fun w h Y => PySem.W.kIn_of Y) ?F (fun _ ns hl => ⟨ns, rfl, hl, fun _ => rfl⟩)
  case F =>
    intro w mg fa h KX G hmg
    refine' D.all_mk KX G hmg ?a1 ?l1 ?c1 ?k1 ?a2 ?l2 ?c2 ?k2 ?a3 ?l3 ?c3 ?k3 ?a4 ?l4 ?c4 ?k4 ?lT4 ?vT4 ?a5 ?l5 ?c5 ?k5 ?a6 ?l6 ?c6 ?k6 ?a7 ?l7 ?c7 ?k7 ?a8 ?l8 ?c8 ?k8 ?a9 ?l9 ?c9 ?k9 ?a10 ?l10 ?c10 ?k10 ?a11 ?l11 ?c11 ?k11 ?a12 ?l12 ?c12 ?k12 ?a13 ?l13 ?c13 ?k13 ?a14 ?l14 ?c14 ?k14 ?a15 ?l15 ?c15 ?k15 ?a16 ?l16 ?c16 ?k16 ?a17 ?l17 ?c17 ?k17 ?a18 ?l18 ?c18 ?k18 ?a19 ?l19 ?c19 ?k19 ?a20 ?l20 ?c20 ?k20 ?a21 ?l21 ?c21 ?k21 ?a22 ?l22 ?c22 ?k22 ?a23 ?l23 ?c23 ?k23 ?a24 ?l24 ?c24 ?k24 ?a25 ?l25 ?c25 ?k25 ?a26 ?l26 ?c26 ?k26 ?a27 ?l27 ?c27 ?k27 ?a28 ?l28 ?c28 ?k28 ?a29 ?l29 ?c29 ?k29 ?z0 ?z1 ?z2 ?z3 ?z4 ?z5 ?z6 ?z7 ?z8 ?z9 ?z10 ?z11 ?z12 ?z13 ?z14 ?e14 ?z15 ?z16 ?e16 ?z17 ?w17 ?e17 ?z18
    (case a1 => k_is)
    (case l1 => k_is)
    (case c1 => k_is)
    (case k1 => k_is)
    (case a2 => k_is)
    (case l2 => k_is)
    (case c2 => k_is)
    (case k2 => k_is)
    (case a3 => k_is)
    (case l3 => k_is)
    (case c3 => k_is)
    (case k3 => k_is)
    (case a4 => k_is)
    (case l4 => k_is)
    (case c4 => k_is)
    (case k4 => k_is)
    (case lT4 => k_is)
    (case vT4 => decide +kernel)
    (case a5 => k_is)
    (case l5 => k_is)
    (case c5 => k_is)
    (case k5 => k_is)
    (case a6 => k_is)
    (case l6 => k_is)
    (case c6 => k_is)
    (case k6 => k_is)
    (case a7 => k_is)
    (case l7 => k_is)
    (case c7 => k_is)
    (case k7 => k_is)
    (case a8 => k_is)
    (case l8 => k_is)
    (case c8 => k_is)
    (case k8 => k_is)
    (case a9 => k_is)
    (case l9 => k_is)
    (case c9 => k_is)
    (case k9 => k_is)
    (case a10 => k_is)
    (case l10 => k_is)
    (case c10 => k_is)
    (case k10 => k_is)
    (case a11 => k_is)
    (case l11 => k_is)
    (case c11 => k_is)
    (case k11 => k_is)
    (case a12 => k_is)
    (case l12 => k_is)
    (case c12 => k_is)
    (case k12 => k_is)
    (case a13 => k_is)
    (case l13 => k_is)
    (case c13 => k_is)
    (case k13 => k_is)
    (case a14 => k_is)
    (case l14 => k_is)
    (case c14 => k_is)
    (case k14 => k_is)
    (case a15 => k_is)
    (case l15 => k_is)
    (case c15 => k_is)
    (case k15 => k_is)
    (case a16 => k_is)
    (case l16 => k_is)
    (case c16 => k_is)
    (case k16 => k_is)
    (case a17 => k_is)
    (case l17 => k_is)
    (case c17 => k_is)
    (case k17 => k_is)
    (case a18 => k_is)
    (case l18 => k_is)
    (case c18 => k_is)
    (case k18 => k_is)
    (case a19 => k_is)
    (case l19 => k_is)
    (case c19 => k_is)
    (case k19 => k_is)
    (case a20 => k_is)
    (case l20 => k_is)
    (case c20 => k_is)
    (case k20 => k_is)
    (case a21 => k_is)
    (case l21 => k_is)
    (case c21 => k_is)
    (case k21 => k_is)
    (case a22 => k_is)
    (case l22 => k_is)
    (case c22 => k_is)
    (case k22 => k_is)
    (case a23 => k_is)
    (case l23 => k_is)
    (case c23 => k_is)
    (case k23 => k_is)
    (case a24 => k_is)
    (case l24 => k_is)
    (case c24 => k_is)
    (case k24 => k_is)
    (case a25 => k_is)
    (case l25 => k_is)
    (case c25 => k_is)
    (case k25 => k_is)
    (case a26 => k_is)
    (case l26 => k_is)
    (case c26 => k_is)
    (case k26 => k_is)
    (case a27 => k_is)
    (case l27 => k_is)
    (case c27 => k_is)
    (case k27 => k_is)
    (case a28 => k_is)
    (case l28 => k_is)
    (case c28 => k_is)
    (case k28 => k_is)
    (case a29 => k_is)
    (case l29 => k_is)
    (case c29 => k_is)
    (case k29 => k_is)
    (case z0 => k_is)
    (case z1 => k_is)
    (case z2 => k_is)
    (case z3 => k_is)
    (case z4 => k_is)
    (case z5 => k_is)
    (case z6 => k_is)
    (case z7 => k_is)
    (case z8 => k_is)
    (case z9 => k_is)
    (case z10 => k_is)
    (case z11 => k_is)
    (case z12 => k_is)
    (case z13 => k_is)
    (case z14 => k_is)
    (case e14 => decide +kernel)
    (case z15 => k_is)
    (case z16 => k_is)
    (case e16 => decide +kernel)
    (case z17 => k_is)
    (case w17 => k_is)
    (case e17 => decide +kernel)
    (case z18 => k_is)

