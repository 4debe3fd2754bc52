import PyProof.Rows.All
import HandS.Lambda
import Wide.All
import OpenK.AllK
import Wide.FinOn
import HandS.ForMost
import HandS.Wide
import HandS.IsInst
import HandS.Zip
import HandS.TupAny
import HandS.TupMul
import HandS.Style
import HandS.Walk
import PyProof.ReprRoads
import PyProof.ReprLen
import PyProof.CallFns
import HandS.SetFor
import HandS.Remove
import HandS.Text
import KE.IntBitsLaws
import HandS.Defaults
import HandS.Codes
import HandS.Strs
import KE.IntTextLaws
import PyProof.Rows.RegStrFacts
import PyProof.StrLawsRepr
import HandS.RaiseMore
import PySem.Challenge.RW_slopehouse_k04_shown_and_read
set_option Elab.async false
set_option linter.all false
set_option maxRecDepth 100000
set_option maxHeartbeats 4000000
/-! D1: values as data, a state of what may change, the judgements over it. -/
namespace D
open PySem PySem.Spec PyProof.Rows L2

/-! ### data -/
inductive A where
  | non | bl (b : Bool) | int (i : Int) | str (x : Str) | ty (n : String) | loc (p : Addr)
  | tup (xs : List A) | lst (xs : List A) | fls (xs : List A)
instance : Inhabited A := ⟨.non⟩

/-- Ex: all that stood stands -/
def Ex (H H' : Hp) : Prop := ∀ p u, H p = some u → H' p = some u
theorem Ex.refl (H : Hp) : Ex H H := by intro p u h; exact h
theorem Ex.trans {H H1 H2 : Hp} (f : Ex H H1) (g : Ex H1 H2) : Ex H H2 := by intro p u h; exact g p u (f p u h)
theorem Ex.rd {H H' : Hp} {a : Addr} {u : HO} (e : Ex H H') (h : Rd H a u) : Rd H' a u := by
  exact h.imp (e a _) fun q => q.imp fun o => e a _
theorem Ex.l {K : PySem.W.Frag} {H H' : Hp} {a : Addr} {xs : List V} (e : Ex H H') (h : SqL K H a xs) : SqL K H' a xs := h.elim (fun h => .inl (e.rd h)) .inr
theorem Ex.t {K : PySem.W.Frag} {H H' : Hp} {a : Addr} {xs : List V} (e : Ex H H') (h : SqT K H a xs) : SqT K H' a xs := h.elim (fun h => .inl (e.rd h)) .inr
theorem Ex.new {H : Hp} {p : Addr} {o : HO} (nl : H p = none) : Ex H (upd H p o) := by
  intro q u e
  exact (upd_ne (ne_of_none e nl)).trans e
theorem Ex.none {H H' : Hp} {p : Addr} (e : Ex H H') (h : H' p = Option.none) : H p = Option.none := by
  cases q : H p with
  | none => rfl
  | some o => rw [e p o q] at h; cases h

mutual
def Rep (K : PySem.W.Frag) (H : Hp) : A → V → Prop
  | .non, v => v = .non
  | .bl b, v => v = .bl b
  | .int i, v => v = .int i
  | .str x, v => v = .str x
  | .ty n, v => v = .ty n
  | .loc p, v => v = .ref p
  | .tup xs, v => ∃ a vs, v = .ref a ∧ SqT K H a vs ∧ RepL K H xs vs
  | .lst xs, v => ∃ a vs, v = .ref a ∧ H a = some (.lst vs) ∧ RepL K H xs vs
  | .fls xs, v => ∃ a vs, v = .ref a ∧ SqL K H a vs ∧ RepL K H xs vs
def RepL (K : PySem.W.Frag) (H : Hp) : List A → List V → Prop
  | [], vs => vs = []
  | x :: xs, vs => ∃ v r, vs = v :: r ∧ Rep K H x v ∧ RepL K H xs r
end
section
variable {K : PySem.W.Frag} {H H' : Hp}
mutual
theorem Rep.mono (e : Ex H H') : ∀ {x : A} {v : V}, Rep K H x v → Rep K H' x v
  | .non, _, h => by simp only [Rep] at h ⊢; exact h
  | .bl _, _, h => by simp only [Rep] at h ⊢; exact h
  | .int _, _, h => by simp only [Rep] at h ⊢; exact h
  | .str _, _, h => by simp only [Rep] at h ⊢; exact h
  | .ty _, _, h => by simp only [Rep] at h ⊢; exact h
  | .loc _, _, h => by simp only [Rep] at h ⊢; exact h
  | .tup xs, _, h => by
    simp only [Rep] at h ⊢
    obtain ⟨a, vs, h1, h2, h3⟩ := h
    exact ⟨a, vs, h1, e.t h2, RepL.mono e h3⟩
  | .lst xs, _, h => by
    simp only [Rep] at h ⊢
    obtain ⟨a, vs, h1, h2, h3⟩ := h
    exact ⟨a, vs, h1, e _ _ h2, RepL.mono e h3⟩
  | .fls xs, _, h => by
    simp only [Rep] at h ⊢
    obtain ⟨a, vs, h1, h2, h3⟩ := h
    exact ⟨a, vs, h1, e.l h2, RepL.mono e h3⟩
theorem RepL.mono (e : Ex H H') : ∀ {xs : List A} {vs : List V}, RepL K H xs vs → RepL K H' xs vs
  | [], _, h => by simp only [RepL] at h ⊢; exact h
  | x :: xs, _, h => by
    simp only [RepL] at h ⊢
    obtain ⟨v, r, h1, h2, h3⟩ := h
    exact ⟨v, r, h1, Rep.mono e h2, RepL.mono e h3⟩
end
theorem RepL.nil : RepL K H [] [] := by simp only [RepL]
theorem RepL.cons {x : A} {xs : List A} {v : V} {vs : List V} (h : Rep K H x v) (t : RepL K H xs vs) : RepL K H (x :: xs) (v :: vs) := by
  simp only [RepL]; exact ⟨v, vs, rfl, h, t⟩
theorem RepL.len : ∀ {xs : List A} {vs : List V}, RepL K H xs vs → vs.length = xs.length
  | [], _, h => by simp only [RepL] at h; rw [h]; rfl
  | x :: xs, _, h => by
    simp only [RepL] at h
    obtain ⟨v, r, rfl, _, h3⟩ := h
    simp [RepL.len h3]
theorem RepL.get : ∀ {xs : List A} {vs : List V} {i : Nat} {x : A}, RepL K H xs vs → xs[i]? = some x → ∃ v, vs[i]? = some v ∧ Rep K H x v
  | [], _, _, _, _, e => by simp at e
  | y :: xs, _, 0, x, h, e => by
    simp only [RepL] at h
    obtain ⟨v, r, rfl, h1, h3⟩ := h
    simp at e; subst e
    exact ⟨v, rfl, h1⟩
  | y :: xs, _, i + 1, x, h, e => by
    simp only [RepL] at h
    obtain ⟨v, r, rfl, h1, h3⟩ := h
    obtain ⟨w, e1, e2⟩ := RepL.get (i := i) h3 (by simpa using e)
    exact ⟨w, by simpa using e1, e2⟩
theorem RepL.rev {xs : List A} {vs : List V} {i : Nat} {v : V} (h : RepL K H xs vs) (e : vs[i]? = some v) : ∃ x, xs[i]? = some x ∧ Rep K H x v := by
  have hl : i < xs.length := by rw [← h.len]; exact (List.getElem?_eq_some_iff.mp e).1
  obtain ⟨w, e1, e2⟩ := h.get (List.getElem?_eq_getElem hl)
  rw [e1] at e; cases e
  exact ⟨_, List.getElem?_eq_getElem hl, e2⟩
theorem RepL.of {xs : List A} : ∀ {vs : List V}, vs.length = xs.length → (∀ (i : Nat) (x : A) (v : V), xs[i]? = some x → vs[i]? = some v → Rep K H x v) → RepL K H xs vs := by
  induction xs with
  | nil => intro vs hl _; cases vs with
    | nil => exact .nil
    | cons v vs => simp at hl
  | cons x xs ih => intro vs hl h; cases vs with
    | nil => simp at hl
    | cons v vs => exact .cons (h 0 x v rfl rfl) (ih (by simpa using hl) fun i y w e1 e2 => h (i + 1) y w (by simpa using e1) (by simpa using e2))
theorem RepL.append {xs ys : List A} {vs ws : List V} (h : RepL K H xs vs) (g : RepL K H ys ws) : RepL K H (xs ++ ys) (vs ++ ws) := by
  induction xs generalizing vs with
  | nil => simp only [RepL] at h; rw [h]; exact g
  | cons x xs ih =>
    simp only [RepL] at h
    obtain ⟨v, r, rfl, h1, h3⟩ := h
    exact .cons h1 (ih h3)
theorem RepL.snoc {xs : List A} {y : A} {vs : List V} {w : V} (h : RepL K H xs vs) (g : Rep K H y w) : RepL K H (xs ++ [y]) (vs ++ [w]) := h.append (.cons g .nil)
theorem RepL.take {xs : List A} {vs : List V} (n : Nat) (h : RepL K H xs vs) : RepL K H (xs.take n) (vs.take n) := by
  refine .of (by simp [h.len]) fun i x v e1 e2 => ?_
  rw [List.getElem?_take] at e1 e2
  split at e1
  · rename_i hi
    rw [if_pos hi] at e2
    obtain ⟨w, e3, r⟩ := h.get e1
    rw [e3] at e2; cases e2; exact r
  · cases e1
theorem RepL.drop {xs : List A} {vs : List V} (n : Nat) (h : RepL K H xs vs) : RepL K H (xs.drop n) (vs.drop n) := by
  refine .of (by simp [h.len]) fun i x v e1 e2 => ?_
  rw [List.getElem?_drop] at e1 e2
  obtain ⟨w, e3, r⟩ := h.get e1
  rw [e3] at e2; cases e2; exact r
theorem RepL.set {xs : List A} {vs : List V} {y : A} {w : V} (n : Nat) (h : RepL K H xs vs) (g : Rep K H y w) : RepL K H (xs.set n y) (vs.set n w) := by
  refine .of (by simp [h.len]) fun i x v e1 e2 => ?_
  rw [List.getElem?_set] at e1 e2
  split at e1
  · rename_i hi
    rw [if_pos hi] at e2
    split at e1
    · split at e2
      · cases e1; cases e2; exact g
      · cases e2
    · cases e1
  · rename_i hi
    rw [if_neg hi] at e2
    obtain ⟨w, e3, r⟩ := h.get e1
    rw [e3] at e2; cases e2; exact r
theorem RepL.reverse {xs : List A} {vs : List V} (h : RepL K H xs vs) : RepL K H xs.reverse vs.reverse := by
  induction xs generalizing vs with
  | nil => simp only [RepL] at h; subst h; exact .nil
  | cons x xs ih =>
    simp only [RepL] at h
    obtain ⟨v, r, rfl, h1, h3⟩ := h
    simp only [List.reverse_cons]
    exact (ih h3).snoc h1
theorem RepL.map {α : Type} {f : α → A} {g : α → V} (h : ∀ a, Rep K H (f a) (g a)) : ∀ l : List α, RepL K H (l.map f) (l.map g)
  | [] => .nil
  | a :: l => .cons (h a) (RepL.map h l)
theorem rep_int {i : Int} {v : V} : Rep K H (.int i) v ↔ v = .int i := by simp only [Rep]
theorem rep_bl {i : Bool} {v : V} : Rep K H (.bl i) v ↔ v = .bl i := by simp only [Rep]
theorem rep_str {i : Str} {v : V} : Rep K H (.str i) v ↔ v = .str i := by simp only [Rep]
theorem rep_non {v : V} : Rep K H .non v ↔ v = .non := by simp only [Rep]
theorem rep_ty {n : String} {v : V} : Rep K H (.ty n) v ↔ v = .ty n := by simp only [Rep]
theorem rep_loc {p : Addr} {v : V} : Rep K H (.loc p) v ↔ v = .ref p := by simp only [Rep]
theorem rep_tup {xs : List A} {v : V} : Rep K H (.tup xs) v ↔ ∃ a vs, v = .ref a ∧ SqT K H a vs ∧ RepL K H xs vs := by simp only [Rep]
theorem rep_lst {xs : List A} {v : V} : Rep K H (.lst xs) v ↔ ∃ a vs, v = .ref a ∧ H a = some (.lst vs) ∧ RepL K H xs vs := by simp only [Rep]
theorem rep_fls {xs : List A} {v : V} : Rep K H (.fls xs) v ↔ ∃ a vs, v = .ref a ∧ SqL K H a vs ∧ RepL K H xs vs := by simp only [Rep]
theorem repL_ints : ∀ {ns : List Int} {vs : List V}, RepL K H (ns.map A.int) vs → vs = ns.map V.int
  | [], _, h => by simp only [List.map_nil, RepL] at h; rw [h]; rfl
  | n :: ns, _, h => by
    simp only [List.map_cons, RepL] at h
    obtain ⟨v, r, rfl, h1, h3⟩ := h
    rw [rep_int] at h1
    rw [h1, repL_ints h3]; rfl
theorem repL_bls : ∀ {ns : List Bool} {vs : List V}, RepL K H (ns.map A.bl) vs → vs = ns.map V.bl
  | [], _, h => by simp only [List.map_nil, RepL] at h; rw [h]; rfl
  | n :: ns, _, h => by
    simp only [List.map_cons, RepL] at h
    obtain ⟨v, r, rfl, h1, h3⟩ := h
    rw [rep_bl] at h1
    rw [h1, repL_bls h3]; rfl
theorem repL_strs : ∀ {ns : List Str} {vs : List V}, RepL K H (ns.map A.str) vs → vs = ns.map V.str
  | [], _, h => by simp only [List.map_nil, RepL] at h; rw [h]; rfl
  | n :: ns, _, h => by
    simp only [List.map_cons, RepL] at h
    obtain ⟨v, r, rfl, h1, h3⟩ := h
    rw [rep_str] at h1
    rw [h1, repL_strs h3]; rfl
end

/-! ### what may change -/
inductive MO where
  | lst (xs : List A)
  | dic (kvs : List (Key × A))
  | ins (C dx : Addr) (fs : List (Str × A))
  | xd (fs : List (Str × A))
  | exc (a : Addr) (cls : Value) (d : Option Addr)
  | tbl (q : Str)
/-- a caught exception, kept -/
def XO (a : Addr) (cls : Value) (d : Option Addr) : HO := .ext fun h => ∃ (oe : Obj) (vs : Array Value), h.get? a = some oe ∧ (oe.cls = cls ∧ oe.dict = d) ∧ oe.data = .fields vs
abbrev Mu := Addr → Option MO
def Mu.upd (μ : Mu) (p : Addr) (m : MO) : Mu := fun b => if b = p then some m else μ b
def Mu.del (μ : Mu) (p : Addr) : Mu := fun b => if b = p then none else μ b
theorem Mu.upd_same {μ : Mu} {p : Addr} {m : MO} : μ.upd p m p = some m := by unfold Mu.upd; rw [if_pos rfl]
theorem Mu.upd_ne {μ : Mu} {p q : Addr} {m : MO} (h : q ≠ p) : μ.upd p m q = μ q := by unfold Mu.upd; rw [if_neg h]
theorem Mu.del_ne {μ : Mu} {p q : Addr} (h : q ≠ p) : μ.del p q = μ q := by unfold Mu.del; rw [if_neg h]
theorem Mu.del_same {μ : Mu} {p : Addr} : μ.del p p = none := by unfold Mu.del; rw [if_pos rfl]
theorem Mu.del_upd {μ : Mu} {p : Addr} {m : MO} (h : μ p = none) : (μ.upd p m).del p = μ := by
  funext b; unfold Mu.del Mu.upd; split
  · rename_i e; rw [e, h]
  · rfl
theorem Mu.upd_upd {μ : Mu} {p : Addr} {m n : MO} : (μ.upd p m).upd p n = μ.upd p n := by
  funext b; unfold Mu.upd; split <;> rfl
/-- KV pairs -/
def RepK (K : PySem.W.Frag) (H : Hp) {κ : Type} : List (κ × A) → List (κ × V) → Prop
  | [], ws => ws = []
  | (k, x) :: r, ws => ∃ v t, ws = (k, v) :: t ∧ Rep K H x v ∧ RepK K H r t
def RepO (K : PySem.W.Frag) (F : Hp) : MO → HO → Prop
  | .lst xs, o => ∃ vs, o = .lst vs ∧ RepL K F xs vs
  | .dic kvs, o => ∃ ws, o = .dK ws ∧ RepK K F kvs ws
  | .ins C dx fs, o => ∃ ws, o = .ins C dx ws ∧ RepK K F fs ws
  | .xd fs, o => ∃ ws, o = .xd ws ∧ RepK K F fs ws
  | .exc a cls d, o => o = XO a cls d
  | .tbl q, o => ∃ ps : Array Value, o = .tbl ps ∧ TriplesOk ps.toList ∧ ∀ (pos : Pos) (cv : Value), codeAmong pos ps.toList = some cv → ∃ c, cv = .ref c ∧ F c = some (LamX.CodeO c q)
section
variable {K : PySem.W.Frag} {H H' : Hp} {κ : Type}
theorem RepK.mono (e : Ex H H') : ∀ {kvs : List (κ × A)} {ws : List (κ × V)}, RepK K H kvs ws → RepK K H' kvs ws
  | [], _, h => h
  | (k, x) :: r, _, ⟨v, t, h1, h2, h3⟩ => ⟨v, t, h1, h2.mono e, RepK.mono e h3⟩
theorem RepO.mono (e : Ex H H') : ∀ {m : MO} {o : HO}, RepO K H m o → RepO K H' m o
  | .lst _, _, ⟨vs, h1, h2⟩ => ⟨vs, h1, h2.mono e⟩
  | .dic _, _, ⟨vs, h1, h2⟩ => ⟨vs, h1, h2.mono e⟩
  | .ins _ _ _, _, ⟨vs, h1, h2⟩ => ⟨vs, h1, h2.mono e⟩
  | .xd _, _, ⟨vs, h1, h2⟩ => ⟨vs, h1, h2.mono e⟩
  | .exc _ _ _, _, h => h
  | .tbl _, _, ⟨ps, h1, h2, h3⟩ => ⟨ps, h1, h2, fun pos cv q => let ⟨c, a, b⟩ := h3 pos cv q; ⟨c, a, e _ _ b⟩⟩
theorem RepK.len : ∀ {kvs : List (κ × A)} {ws : List (κ × V)}, RepK K H kvs ws → ws.length = kvs.length
  | [], _, h => by rw [show _ = [] from h]; rfl
  | (k, x) :: r, _, ⟨v, t, h1, h2, h3⟩ => by rw [h1]; simp [RepK.len h3]
end

/-- the state: F what stands for good, μ what may change, M what others own -/
structure Rel (K : PySem.W.Frag) (μ : Mu) (M F H : Hp) : Prop where
  sub : Ex F H
  own : ∀ p m, μ p = some m → F p = none ∧ ∃ o, H p = some o ∧ RepO K F m o
  frm : ∀ p o, M p = some o → F p = none ∧ μ p = none ∧ H p = some o
abbrev G := List (Option A)
structure RelS (K : PySem.W.Frag) (Γ : G) (F : Hp) (σ : L2.St) : Prop where
  len : Γ.length = σ.length
  at_ : ∀ (i : Nat) (x : A), Γ[i]? = some (some x) → ∃ v, σ[i]? = some (some v) ∧ Rep K F x v
section
variable {K : PySem.W.Frag} {μ μ' : Mu} {M F F' H H' : Hp} {Γ : G} {σ : L2.St}
theorem RelS.mono (e : Ex F F') (h : RelS K Γ F σ) : RelS K Γ F' σ := ⟨h.len, fun i x q => let ⟨v, h1, h2⟩ := h.at_ i x q; ⟨v, h1, h2.mono e⟩⟩
theorem RelS.set {i : Nat} {x : A} {v : V} (h : RelS K Γ F σ) (r : Rep K F x v) : RelS K (Γ.set i (some x)) F (σ.set i (some v)) := by
  refine ⟨by simp [h.len], fun j y q => ?_⟩
  rw [List.getElem?_set] at q ⊢
  split at q
  · rename_i e
    rw [if_pos e]
    split at q
    · rename_i hi
      rw [if_pos (by rw [← h.len]; exact hi)]
      cases q; exact ⟨v, rfl, r⟩
    · cases q
  · rename_i e
    rw [if_neg e]
    exact h.at_ j y q
theorem RelS.weak {Γ' : G} (h : RelS K Γ F σ) (hl : Γ'.length = Γ.length) (w : ∀ (i : Nat) x, Γ'[i]? = some (some x) → Γ[i]? = some (some x)) : RelS K Γ' F σ :=
  ⟨hl.trans h.len, fun i x q => h.at_ i x (w i x q)⟩
/-- fewer things known -/
theorem Rel.weak (h : Rel K μ M F H) (w : ∀ p m, μ' p = some m → μ p = some m) : Rel K μ' M F H := by
  refine ⟨h.sub, fun p m e => h.own p m (w p m e), fun p o e => ?_⟩
  obtain ⟨h1, h2, h3⟩ := h.frm p o e
  refine ⟨h1, ?_, h3⟩
  cases q : μ' p with
  | none => rfl
  | some m => rw [w p m q] at h2; cases h2
/-- a list stands for good from now on -/
theorem Rel.freeze {p : Addr} {xs : List A} (h : Rel K μ M F H) (e : μ p = some (.lst xs)) : ∃ F', Ex F F' ∧ Rel K (μ.del p) M F' H ∧ Rep K F' (.lst xs) (.ref p) := by
  obtain ⟨h1, o, h2, vs, rfl, h3⟩ := h.own p _ e
  have ex : Ex F (upd F p (.lst vs)) := .new h1
  refine ⟨upd F p (.lst vs), ex, ⟨fun a o q => ?_, fun q m e' => ?_, fun q o e' => ?_⟩, ?_⟩
  · by_cases ha : a = p
    · subst ha; rw [upd_same] at q; cases q; exact h2
    · rw [upd_ne ha] at q; exact h.sub a o q
  · have hq : q ≠ p := fun z => by rw [z, Mu.del_same] at e'; cases e'
    rw [Mu.del_ne hq] at e'
    obtain ⟨g1, o', g2, g3⟩ := h.own q m e'
    exact ⟨by rw [upd_ne hq]; exact g1, o', g2, g3.mono ex⟩
  · obtain ⟨g1, g2, g3⟩ := h.frm q o e'
    have hq : q ≠ p := fun z => by rw [z, e] at g2; cases g2
    exact ⟨by rw [upd_ne hq]; exact g1, by rw [Mu.del_ne hq]; exact g2, g3⟩
  · rw [rep_lst]; exact ⟨p, vs, rfl, upd_same, h3.mono ex⟩
/-- a new object that is ours -/
theorem Rel.new {p : Addr} {m : MO} {o : HO} (h : Rel K μ M F H) (n : H p = none) (r : RepO K F m o) : μ p = none ∧ Rel K (μ.upd p m) M F (upd H p o) := by
  have hF : F p = none := h.sub.none n
  have hμ : μ p = none := by
    cases q : μ p with
    | none => rfl
    | some m => obtain ⟨_, o, e, _⟩ := h.own p m q; rw [n] at e; cases e
  refine ⟨hμ, h.sub.trans (.new n), fun q m' e => ?_, fun q o' e => ?_⟩
  · by_cases hq : q = p
    · subst hq; rw [Mu.upd_same] at e; cases e
      exact ⟨hF, o, upd_same, r⟩
    · rw [Mu.upd_ne hq] at e
      obtain ⟨g1, o', g2, g3⟩ := h.own q m' e
      exact ⟨g1, o', by rw [upd_ne hq]; exact g2, g3⟩
  · obtain ⟨g1, g2, g3⟩ := h.frm q o' e
    have hq : q ≠ p := fun z => by rw [z, n] at g3; cases g3
    exact ⟨g1, by rw [Mu.upd_ne hq]; exact g2, by rw [upd_ne hq]; exact g3⟩
/-- a new object that stands for good -/
theorem Rel.newF {p : Addr} {o : HO} (h : Rel K μ M F H) (n : H p = none) : Ex F (upd F p o) ∧ Rel K μ M (upd F p o) (upd H p o) := by
  have hF : F p = none := h.sub.none n
  refine ⟨.new hF, fun a u q => ?_, fun q m' e => ?_, fun q o' e => ?_⟩
  · by_cases ha : a = p
    · subst ha; rw [upd_same] at q ⊢; exact q
    · rw [upd_ne ha] at q ⊢; exact h.sub a u q
  · obtain ⟨g1, o', g2, g3⟩ := h.own q m' e
    have hq : q ≠ p := fun z => by rw [z, n] at g2; cases g2
    exact ⟨by rw [upd_ne hq]; exact g1, o', by rw [upd_ne hq]; exact g2, g3.mono (.new hF)⟩
  · obtain ⟨g1, g2, g3⟩ := h.frm q o' e
    have hq : q ≠ p := fun z => by rw [z, n] at g3; cases g3
    exact ⟨by rw [upd_ne hq]; exact g1, g2, by rw [upd_ne hq]; exact g3⟩
/-- what is ours changes -/
theorem Rel.write {p : Addr} {m m' : MO} {o : HO} (h : Rel K μ M F H) (e : μ p = some m) (r : RepO K F m' o) : Rel K (μ.upd p m') M F (upd H p o) := by
  obtain ⟨h1, o0, h2, h3⟩ := h.own p _ e
  refine ⟨fun a u q => ?_, fun q m1 e1 => ?_, fun q o' e' => ?_⟩
  · have ha : a ≠ p := fun z => by rw [z, h1] at q; cases q
    rw [upd_ne ha]; exact h.sub a u q
  · by_cases hq : q = p
    · subst hq; rw [Mu.upd_same] at e1; cases e1
      exact ⟨h1, o, upd_same, r⟩
    · rw [Mu.upd_ne hq] at e1
      obtain ⟨g1, o', g2, g3⟩ := h.own q m1 e1
      exact ⟨g1, o', by rw [upd_ne hq]; exact g2, g3⟩
  · obtain ⟨g1, g2, g3⟩ := h.frm q o' e'
    have hq : q ≠ p := fun z => by rw [z, e] at g2; cases g2
    exact ⟨g1, by rw [Mu.upd_ne hq]; exact g2, by rw [upd_ne hq]; exact g3⟩
end

/-! ### readings by what runs -/
/-- a wrapped proposition: nothing looks through it unasked -/
structure Bx (p : Prop) : Prop where
  o : p
def rdE (X : Cx) (e : Expr) : TE := fun σ H Q => Bx (∀ (pins : List (Addr × Obj)) (s : Shared), Inv X pins σ H s → wpAny (model X.prog X.w) X.A (eval e X.env) (EP X pins σ Q) X.xe s)
theorem pe_rd {X : Cx} {e : Expr} : PE X e (rdE X e) := ⟨fun pins s _ _ _ I h => h.o pins s I⟩
theorem rd_pe {X : Cx} {e : Expr} {t : TE} (h : PE X e t) {σ : L2.St} {H : Hp} {Q : VK} (q : t σ H Q) : rdE X e σ H Q := ⟨fun pins s I => h.run pins s σ H Q I q⟩
theorem rdE_mono {X : Cx} {e : Expr} {σ : L2.St} {H : Hp} {Q Q' : VK} (h : rdE X e σ H Q) (w : ∀ v H', Q v H' → Q' v H') : rdE X e σ H Q' :=
  ⟨fun pins s I => thn (h.o pins s I) fun _ _ ⟨v, H', I', r, q⟩ => ⟨v, H', I', r, w v H' q⟩⟩
def rdT (X : Cx) (e : Expr) : TT := fun σ H Q => Bx (∀ (pins : List (Addr × Obj)) (s : Shared), Inv X pins σ H s → wpAny (model X.prog X.w) X.A (isTrue e X.env (eval e X.env)) (TP X pins σ Q) X.xe s)
theorem pt_rd {X : Cx} {e : Expr} : PT X e (rdT X e) := ⟨fun pins s _ _ _ I h => h.o pins s I⟩
theorem rd_pt {X : Cx} {e : Expr} {t : TT} (h : PT X e t) {σ : L2.St} {H : Hp} {Q : Bool → Hp → Prop} (q : t σ H Q) : rdT X e σ H Q := ⟨fun pins s I => h.run pins s σ H Q I q⟩
def rdA (X : Cx) (es : List Expr) : TA := fun σ H Q => Bx (∀ (pos : Pos) (pins : List (Addr × Obj)) (s : Shared), Inv X pins σ H s → wpAny (model X.prog X.w) X.A (spliced (backTo pos (starEach es X.env))) (AP X pins σ Q) X.xe s)
theorem pa_rd {X : Cx} {es : List Expr} : PA X es (rdA X es) := ⟨fun pos pins s _ _ _ I h => h.o pos pins s I⟩
theorem rd_pa {X : Cx} {es : List Expr} {t : TA} (h : PA X es t) {σ : L2.St} {H : Hp} {Q : List V → Hp → Prop} (q : t σ H Q) : rdA X es σ H Q := ⟨fun pos pins s I => h.run pos pins s σ H Q I q⟩
def rdS (X : Cx) (st : Stmt) : TS := fun D σ H => Bx (∀ (pins : List (Addr × Obj)) (s : Shared), Inv X pins σ H s → wpAny (model X.prog X.w) X.A (exec st X.env) (SP X pins D) X.xe s)
theorem ps_rd {X : Cx} {st : Stmt} : PS X st (rdS X st) := ⟨fun pins s _ _ _ I h => h.o pins s I⟩
theorem rd_ps {X : Cx} {st : Stmt} {t : TS} (h : PS X st t) {σ : L2.St} {H : Hp} {D : Ends} (q : t D σ H) : rdS X st D σ H := ⟨fun pins s I => h.run pins s σ H D I q⟩
def rdSs (X : Cx) (st : List Stmt) : TS := fun D σ H => Bx (∀ (pins : List (Addr × Obj)) (s : Shared), Inv X pins σ H s → wpAny (model X.prog X.w) X.A (execs st X.env) (SP X pins D) X.xe s)
theorem pss_rd {X : Cx} {st : List Stmt} : PSs X st (rdSs X st) := ⟨fun pins s _ _ _ I h => h.o pins s I⟩
theorem rd_pss {X : Cx} {st : List Stmt} {t : TS} (h : PSs X st t) {σ : L2.St} {H : Hp} {D : Ends} (q : t D σ H) : rdSs X st D σ H := ⟨fun pins s I => h.run pins s σ H D I q⟩
def rdG (X : Cx) (tg : Expr) : TG := fun v σ H Q => Bx (∀ (pins : List (Addr × Obj)) (s : Shared) (u : Value), Inv X pins σ H s → RelV v u →
    wpAny (model X.prog X.w) X.A (assign tg X.env u) (fun _ s' => ∃ σ' H', Inv X pins σ' H' s' ∧ Q σ' H') X.xe s)
theorem pg_rd {X : Cx} {e : Expr} : PG X e (rdG X e) := ⟨fun pins s _ _ _ u _ I r h => h.o pins s u I r⟩
theorem rd_pg {X : Cx} {e : Expr} {t : TG} (h : PG X e t) {v : V} {σ : L2.St} {H : Hp} {Q : L2.St → Hp → Prop} (q : t v σ H Q) : rdG X e v σ H Q := ⟨fun pins s u I r => h.run pins s σ H v u Q I r q⟩
/-- an operator, a call, by values -/
def rdOp (X : Cx) (f : Value → Value → Sem Value) : R2 := fun x y H Q => Bx (∀ (pins : List (Addr × Obj)) (s : Shared) (σ : L2.St) (v u : Value), Inv X pins σ H s → RelV x v → RelV y u → wpAny (model X.prog X.w) X.A (f v u) (EP X pins σ Q) X.xe s)
theorem opr_rd {X : Cx} {f : Value → Value → Sem Value} : OpR X f (rdOp X f) := fun pins s σ H x y v u Q I r1 r2 h => h.o pins s σ v u I r1 r2
theorem rd_opr {X : Cx} {f : Value → Value → Sem Value} {r : R2} (h : OpR X f r) {x y : V} {H : Hp} {Q : VK} (q : r x y H Q) : rdOp X f x y H Q := ⟨fun pins s σ v u I r1 r2 => h pins s σ H x y v u Q I r1 r2 q⟩

/-! ### the judgements -/
/-- what stood at a def's entry: others' things, what stands for good -/
structure Bs where
  M : Hp
  F : Hp
/-- still so -/
structure Bs.ok (B : Bs) (M F : Hp) : Prop where
  m : Ex B.M M
  f : Ex B.F F
theorem Bs.ok.mono {B : Bs} {M F F' : Hp} (h : B.ok M F) (e : Ex F F') : B.ok M F' := ⟨h.m, h.f.trans e⟩
theorem Bs.ok.up {B : Bs} {M M' F : Hp} (h : B.ok M F) (e : Ex M M') : B.ok M' F := ⟨h.m.trans e, h.f⟩
theorem Bs.ok.own (M F : Hp) : Bs.ok ⟨M, F⟩ M F := ⟨.refl _, .refl _⟩
def QE (K : PySem.W.Frag) (M F : Hp) (Q : A → Mu → Prop) : VK := fun v H' => ∃ x F' μ', Ex F F' ∧ Rel K μ' M F' H' ∧ Rep K F' x v ∧ Q x μ'
def wE (B : Bs) (X : Cx) (e : Expr) (Γ : G) (μ : Mu) (Q : A → Mu → Prop) : Prop := ∀ σ M F H, B.ok M F → RelS X.K Γ F σ → Rel X.K μ M F H → rdE X e σ H (QE X.K M F Q)
def QT (K : PySem.W.Frag) (M F : Hp) (Q : Bool → Mu → Prop) : Bool → Hp → Prop := fun b H' => ∃ F' μ', Ex F F' ∧ Rel K μ' M F' H' ∧ Q b μ'
def wT (B : Bs) (X : Cx) (e : Expr) (Γ : G) (μ : Mu) (Q : Bool → Mu → Prop) : Prop := ∀ σ M F H, B.ok M F → RelS X.K Γ F σ → Rel X.K μ M F H → rdT X e σ H (QT X.K M F Q)
def QA (K : PySem.W.Frag) (M F : Hp) (Q : List A → Mu → Prop) : List V → Hp → Prop := fun vs H' => ∃ xs F' μ', Ex F F' ∧ Rel K μ' M F' H' ∧ RepL K F' xs vs ∧ Q xs μ'
def wA (B : Bs) (X : Cx) (es : List Expr) (Γ : G) (μ : Mu) (Q : List A → Mu → Prop) : Prop := ∀ σ M F H, B.ok M F → RelS X.K Γ F σ → Rel X.K μ M F H → rdA X es σ H (QA X.K M F Q)
structure AD where
  nx : G → Mu → Prop
  rt : A → Mu → Prop
  bk : G → Mu → Prop := fun _ _ => False
  ct : G → Mu → Prop := fun _ _ => False
def QS (K : PySem.W.Frag) (M F : Hp) (Q : G → Mu → Prop) : L2.St → Hp → Prop := fun σ' H' => ∃ Γ' F' μ', Ex F F' ∧ RelS K Γ' F' σ' ∧ Rel K μ' M F' H' ∧ Q Γ' μ'
def ends (K : PySem.W.Frag) (M F : Hp) (D : AD) : Ends := { nx := QS K M F D.nx, rt := QE K M F D.rt, bk := QS K M F D.bk, ct := QS K M F D.ct }
def wS (B : Bs) (X : Cx) (st : Stmt) (Γ : G) (μ : Mu) (D : AD) : Prop := ∀ σ M F H, B.ok M F → RelS X.K Γ F σ → Rel X.K μ M F H → rdS X st (ends X.K M F D) σ H
def wSs (B : Bs) (X : Cx) (st : List Stmt) (Γ : G) (μ : Mu) (D : AD) : Prop := ∀ σ M F H, B.ok M F → RelS X.K Γ F σ → Rel X.K μ M F H → rdSs X st (ends X.K M F D) σ H
def wG (B : Bs) (X : Cx) (tg : Expr) (x : A) (Γ : G) (μ : Mu) (Q : G → Mu → Prop) : Prop := ∀ σ M F H v, B.ok M F → RelS X.K Γ F σ → Rel X.K μ M F H → Rep X.K F x v → rdG X tg v σ H (QS X.K M F Q)
/-- operators by values -/
def wO (X : Cx) (f : Value → Value → Sem Value) (x y : A) (μ : Mu) (Q : A → Mu → Prop) : Prop := ∀ M F H v w, Rel X.K μ M F H → Rep X.K F x v → Rep X.K F y w → rdOp X f v w H (QE X.K M F Q)

section
variable {B : Bs} {X : Cx} {Γ : G} {μ : Mu}
theorem QE.mono {K : PySem.W.Frag} {M F F1 : Hp} {Q : A → Mu → Prop} (e : Ex F F1) {v : V} {H : Hp} (h : QE K M F1 Q v H) : QE K M F Q v H :=
  let ⟨x, F', μ', h1, h2⟩ := h; ⟨x, F', μ', e.trans h1, h2⟩
theorem QT.mono {K : PySem.W.Frag} {M F F1 : Hp} {Q : Bool → Mu → Prop} (e : Ex F F1) {v : Bool} {H : Hp} (h : QT K M F1 Q v H) : QT K M F Q v H :=
  let ⟨F', μ', h1, h2⟩ := h; ⟨F', μ', e.trans h1, h2⟩
theorem QA.mono {K : PySem.W.Frag} {M F F1 : Hp} {Q : List A → Mu → Prop} (e : Ex F F1) {v : List V} {H : Hp} (h : QA K M F1 Q v H) : QA K M F Q v H :=
  let ⟨x, F', μ', h1, h2⟩ := h; ⟨x, F', μ', e.trans h1, h2⟩
theorem QS.mono {K : PySem.W.Frag} {M F F1 : Hp} {Q : G → Mu → Prop} (e : Ex F F1) {σ : L2.St} {H : Hp} (h : QS K M F1 Q σ H) : QS K M F Q σ H :=
  let ⟨x, F', μ', h1, h2⟩ := h; ⟨x, F', μ', e.trans h1, h2⟩
/-- what is wanted is weakened -/
theorem rdE.imp {e : Expr} {σ : L2.St} {H : Hp} {Q Q' : VK} (h : rdE X e σ H Q) (w : ∀ v H', Q v H' → Q' v H') : rdE X e σ H Q' := rdE_mono h w
theorem rdS.imp {e : Stmt} {σ : L2.St} {H : Hp} {D D' : Ends} (h : rdS X e D σ H) (w1 : ∀ σ H, D.nx σ H → D'.nx σ H) (w2 : ∀ v H, D.rt v H → D'.rt v H) (w3 : ∀ σ H, D.bk σ H → D'.bk σ H) (w4 : ∀ σ H, D.ct σ H → D'.ct σ H) : rdS X e D' σ H := ⟨fun pins s I => thn (h.o pins s I) fun f s' q => by
  cases f with
  | next => obtain ⟨a, b, c, d⟩ := q; exact ⟨a, b, c, w1 _ _ d⟩
  | brk => obtain ⟨a, b, c, d⟩ := q; exact ⟨a, b, c, w3 _ _ d⟩
  | cont => obtain ⟨a, b, c, d⟩ := q; exact ⟨a, b, c, w4 _ _ d⟩
  | ret u => obtain ⟨v, a, b, c, r, d⟩ := q; exact ⟨v, a, b, c, r, w2 _ _ d⟩⟩
theorem rdSs.imp {e : List Stmt} {σ : L2.St} {H : Hp} {D D' : Ends} (h : rdSs X e D σ H) (w1 : ∀ σ H, D.nx σ H → D'.nx σ H) (w2 : ∀ v H, D.rt v H → D'.rt v H) (w3 : ∀ σ H, D.bk σ H → D'.bk σ H) (w4 : ∀ σ H, D.ct σ H → D'.ct σ H) : rdSs X e D' σ H := ⟨fun pins s I => thn (h.o pins s I) fun f s' q => by
  cases f with
  | next => obtain ⟨a, b, c, d⟩ := q; exact ⟨a, b, c, w1 _ _ d⟩
  | brk => obtain ⟨a, b, c, d⟩ := q; exact ⟨a, b, c, w3 _ _ d⟩
  | cont => obtain ⟨a, b, c, d⟩ := q; exact ⟨a, b, c, w4 _ _ d⟩
  | ret u => obtain ⟨v, a, b, c, r, d⟩ := q; exact ⟨v, a, b, c, r, w2 _ _ d⟩⟩
theorem ends_mono {e : List Stmt} {σ : L2.St} {H M F F1 : Hp} {D : AD} (ex : Ex F F1) (h : rdSs X e (ends X.K M F1 D) σ H) : rdSs X e (ends X.K M F D) σ H :=
  h.imp (fun _ _ q => QS.mono ex q) (fun _ _ q => QE.mono ex q) (fun _ _ q => QS.mono ex q) (fun _ _ q => QS.mono ex q)
theorem ends_mono1 {e : Stmt} {σ : L2.St} {H M F F1 : Hp} {D : AD} (ex : Ex F F1) (h : rdS X e (ends X.K M F1 D) σ H) : rdS X e (ends X.K M F D) σ H :=
  h.imp (fun _ _ q => QS.mono ex q) (fun _ _ q => QE.mono ex q) (fun _ _ q => QS.mono ex q) (fun _ _ q => QS.mono ex q)
/-- the end of a pure step -/
theorem QE.pure {K : PySem.W.Frag} {M F H : Hp} {Q : A → Mu → Prop} {x : A} {v : V} (r : Rel K μ M F H) (h : Rep K F x v) (q : Q x μ) : QE K M F Q v H := ⟨x, F, μ, .refl _, r, h, q⟩
end
end D

set_option Elab.async false
set_option linter.all false
set_option maxRecDepth 100000
set_option maxHeartbeats 4000000
/-! D2: the rules over data: expressions, tests, arguments, statements. -/
namespace D
open PySem PySem.Spec PyProof.Rows L2

/-- a call, a method's call, a subscript by values -/
def rdC (X : Cx) (f : Value) : List V → Hp → VK → Prop := fun xs H Q => Bx (∀ (pins : List (Addr × Obj)) (s : Shared) (σ : L2.St) (us : List Value), Inv X pins σ H s → Vals xs us → wpAny (model X.prog X.w) X.A (call f us) (EP X pins σ Q) X.xe s)
def wC (X : Cx) (f : Value) (xs : List A) (μ : Mu) (Q : A → Mu → Prop) : Prop := ∀ M F H vs, Rel X.K μ M F H → RepL X.K F xs vs → rdC X f vs H (QE X.K M F Q)

section
variable {B : Bs} {X : Cx} {Γ : G} {μ : Mu} {Q : A → Mu → Prop} {a b c e : Expr} {es : List Expr} {pos : Pos}

/-! ### weakening -/
theorem wE.imp {Q' : A → Mu → Prop} (h : wE B X e Γ μ Q) (w : ∀ x μ', Q x μ' → Q' x μ') : wE B X e Γ μ Q' := fun σ M F H bo rs r =>
  (h σ M F H bo rs r).imp fun v H' ⟨x, F', μ', h1, h2, h3, h4⟩ => ⟨x, F', μ', h1, h2, h3, w _ _ h4⟩
/-- a value that is a list of ours stands for good -/
theorem wE_frz (h : wE B X e Γ μ fun x μ' => ∃ p xs, x = .loc p ∧ μ' p = some (.lst xs) ∧ Q (.lst xs) (μ'.del p)) : wE B X e Γ μ Q := fun σ M F H bo rs r =>
  (h σ M F H bo rs r).imp fun v H' ⟨x, F', μ', h1, h2, h3, p, xs, h4, h5, h6⟩ => by
    subst h4
    rw [rep_loc] at h3
    obtain ⟨F2, e2, r2, q2⟩ := h2.freeze h5
    exact ⟨_, F2, _, h1.trans e2, r2, by rw [h3]; exact q2, h6⟩
/-- less is known of what may change -/
theorem wE_weak {μ' : Mu} (w : ∀ p m, μ' p = some m → μ p = some m) (h : wE B X e Γ μ' Q) : wE B X e Γ μ Q := fun σ M F H bo rs r => h σ M F H bo rs (r.weak w)
theorem wE_of {t : TE} (h : PE X e t) (q : ∀ σ M F H, B.ok M F → RelS X.K Γ F σ → Rel X.K μ M F H → t σ H (QE X.K M F Q)) : wE B X e Γ μ Q := fun σ M F H bo rs r => rd_pe h (q σ M F H bo rs r)

/-! names, and what is written out -/
theorem wE_name (i : Nat) {x : Str} {y : A} (hi : Γ[i]? = some (some y) := by rfl) (q : Q y μ) (hN : X.N[i]? = some x := by rfl)
    (hv : Vis X.env.scope x := by first | exact Or.inl rfl | exact Or.inr (Or.inl rfl) | exact Or.inr (Or.inr rfl)) (hd : (x == ("__debug__" : Str)) = false := by decide) (hcd : (x == ("__classdict__" : Str)) = false := by decide) :
    wE B X (.Name x pos) Γ μ Q := wE_of (pe_var hN hv hd hcd) fun σ M F H bo rs r => by
  obtain ⟨v, h1, h2⟩ := rs.at_ i y hi
  exact ⟨v, h1, .pure r h2 q⟩
theorem wE_int {i : Int} {j} (q : Q (.int i) μ) : wE B X (.Constant (.int i) j pos) Γ μ Q := wE_of pe_int fun σ M F H bo rs r => .pure r (rep_int.mpr rfl) q
theorem wE_bl {i : Bool} {j} (q : Q (.bl i) μ) : wE B X (.Constant (.bool i) j pos) Γ μ Q := wE_of pe_bl fun σ M F H bo rs r => .pure r (rep_bl.mpr rfl) q
theorem wE_non {j} (q : Q .non μ) : wE B X (.Constant .none j pos) Γ μ Q := wE_of pe_non fun σ M F H bo rs r => .pure r (rep_non.mpr rfl) q
theorem wE_str {x : Str} {j} (q : Q (.str x) μ) : wE B X (.Constant (.str x) j pos) Γ μ Q := wE_of pe_str fun σ M F H bo rs r => .pure r (rep_str.mpr rfl) q
/-- what the module's name holds, for good -/
structure Kn (K : PySem.W.Frag) (mg : Str → Option Value) (x : Str) (y : A) : Prop where
  ex : ∃ v u, mg x = some u ∧ RelV v u ∧ ∀ F, Rep K F y v
theorem wE_glob {x : Str} {y : A} (k : Kn X.K X.mg x y) (q : Q y μ) (hg : Gl X x := by rfl) (hd : (x == ("__debug__" : Str)) = false := by decide) : wE B X (.Name x pos) Γ μ Q := by
  obtain ⟨v, u, h1, h2, h3⟩ := k.ex
  exact wE_of (pe_glob hg h1 h2 hd) fun σ M F H bo rs r => .pure r (h3 F) q
/-- a built-in class as a value -/
theorem wE_type {x : Str} {n : String} (hm : X.mg x = none) (hv : bootBuiltins x = some (.type n)) (q : Q (.ty n) μ) (hg : Gl X x := by rfl) (hn : x ≠ "__name__" := by decide) (hd : (x == ("__debug__" : Str)) = false := by decide) : wE B X (.Name x pos) Γ μ Q :=
  wE_of (pe_bltn (v := .ty n) hg hm hv rfl hn hd) fun σ M F H bo rs r => .pure r (rep_ty.mpr rfl) q

/-! ### operators -/
theorem wO_of {f : Value → Value → Sem Value} {r : R2} {x y : A} (h : OpR X f r) (q : ∀ M F H v w, Rel X.K μ M F H → Rep X.K F x v → Rep X.K F y w → r v w H (QE X.K M F Q)) : wO X f x y μ Q :=
  fun M F H v w rl r1 r2 => rd_opr h (q M F H v w rl r1 r2)
theorem wE_bin {op : Operator} (h : wE B X a Γ μ fun x μ1 => wE B X b Γ μ1 fun y μ2 => wO X (binaryOp op) x y μ2 Q) : wE B X (.BinOp a op b pos) Γ μ Q := wE_of (pe_op opr_rd pe_rd pe_rd) fun σ M F H bo rs r => by
  refine (h σ M F H bo rs r).imp fun v H1 ⟨x, F1, μ1, e1, r1, p1, q1⟩ => ?_
  refine (q1 σ M F1 H1 (bo.mono e1) (rs.mono e1) r1).imp fun w H2 ⟨y, F2, μ2, e2, r2, p2, q2⟩ => ?_
  exact ⟨fun pins s σ' v' u' I hv hw => thn ((q2 M F2 H2 v w r2 (p1.mono e2) p2).o pins s σ' v' u' I hv hw) fun _ _ ⟨z, H3, I3, r3, q3⟩ => ⟨z, H3, I3, r3, q3.mono (e1.trans e2)⟩⟩
theorem wE_cmp {op : CmpOp} (h : wE B X a Γ μ fun x μ1 => wE B X b Γ μ1 fun y μ2 => wO X (compareOp op) x y μ2 Q) (hm : behindInMarks op b = false := by first | exact nomark _ | rfl) : wE B X (.Compare a [op] [b] pos) Γ μ Q := wE_of (pe_cmpR opr_rd pe_rd pe_rd hm) fun σ M F H bo rs r => by
  refine (h σ M F H bo rs r).imp fun v H1 ⟨x, F1, μ1, e1, r1, p1, q1⟩ => ?_
  refine (q1 σ M F1 H1 (bo.mono e1) (rs.mono e1) r1).imp fun w H2 ⟨y, F2, μ2, e2, r2, p2, q2⟩ => ?_
  exact ⟨fun pins s σ' v' u' I hv hw => thn ((q2 M F2 H2 v w r2 (p1.mono e2) p2).o pins s σ' v' u' I hv hw) fun _ _ ⟨z, H3, I3, r3, q3⟩ => ⟨z, H3, I3, r3, q3.mono (e1.trans e2)⟩⟩
theorem wE_un {op : UnaryOp} {r : V → Hp → VK → Prop} (ho : UnR X (unaryOp op) r) (h : wE B X a Γ μ fun x μ1 => ∀ M F H v, Rel X.K μ1 M F H → Rep X.K F x v → r v H (QE X.K M F Q))
    (mono : ∀ v H Q Q', (∀ z H', Q z H' → Q' z H') → r v H Q → r v H Q') : wE B X (.UnaryOp op a pos) Γ μ Q := wE_of (pe_un ho pe_rd) fun σ M F H bo rs r => by
  refine (h σ M F H bo rs r).imp fun v H1 ⟨x, F1, μ1, e1, r1, p1, q1⟩ => ?_
  exact mono _ _ _ _ (fun _ _ q => q.mono e1) (q1 M F1 H1 v r1 p1)
theorem wE_neg (h : wE B X a Γ μ fun x μ1 => ∃ i, x = .int i ∧ Q (.int (-i)) μ1) : wE B X (.UnaryOp .USub a pos) Γ μ Q :=
  wE_un un_neg (h.imp fun x μ1 ⟨i, e, q⟩ M F H v rl rp => by
    subst e; rw [rep_int] at rp
    exact ⟨i, rp, .pure rl (rep_int.mpr rfl) q⟩) fun v H Q Q' w ⟨i, e, q⟩ => ⟨i, e, w _ _ q⟩
/-- not a, as a value -/
theorem wE_not (h : wE B X a Γ μ fun x μ1 => ∃ k, x = .bl k ∧ Q (.bl (!k)) μ1) : wE B X (.UnaryOp .Not a pos) Γ μ Q := wE_of (pe_not pe_rd) fun σ M F H bo rs r => by
  refine (h σ M F H bo rs r).imp fun v H1 ⟨x, F1, μ1, e1, r1, p1, k, ek, q1⟩ => ?_
  subst ek; rw [rep_bl] at p1
  exact ⟨k, p1, _, F1, μ1, e1, r1, rep_bl.mpr rfl, q1⟩
theorem wE_one {op} (h : wE B X a Γ μ Q) : wE B X (.BoolOp op [a] pos) Γ μ Q := wE_of (pe_one pe_rd) fun σ M F H bo rs r => h σ M F H bo rs r
theorem wE_and (h : wE B X a Γ μ fun x μ1 => ∃ k, x = .bl k ∧ (k = true → wE B X (.BoolOp .And (b :: es) pos) Γ μ1 Q) ∧ (k = false → Q (.bl false) μ1)) : wE B X (.BoolOp .And (a :: b :: es) pos) Γ μ Q := wE_of (pe_and pe_rd pe_rd) fun σ M F H bo rs r => by
  refine (h σ M F H bo rs r).imp fun v H1 ⟨x, F1, μ1, e1, r1, p1, k, ek, q1, q2⟩ => ?_
  subst ek; rw [rep_bl] at p1
  refine ⟨k, p1, ?_⟩
  cases k with
  | true => exact iteT ((q1 rfl σ M F1 H1 (bo.mono e1) (rs.mono e1) r1).imp fun _ _ q => q.mono e1)
  | false => exact iteF ⟨_, F1, μ1, e1, r1, rep_bl.mpr rfl, q2 rfl⟩
theorem wE_or (h : wE B X a Γ μ fun x μ1 => ∃ k, x = .bl k ∧ (k = true → Q (.bl true) μ1) ∧ (k = false → wE B X (.BoolOp .Or (b :: es) pos) Γ μ1 Q)) : wE B X (.BoolOp .Or (a :: b :: es) pos) Γ μ Q := wE_of (pe_or pe_rd pe_rd) fun σ M F H bo rs r => by
  refine (h σ M F H bo rs r).imp fun v H1 ⟨x, F1, μ1, e1, r1, p1, k, ek, q1, q2⟩ => ?_
  subst ek; rw [rep_bl] at p1
  refine ⟨k, p1, ?_⟩
  cases k with
  | true => exact iteT ⟨_, F1, μ1, e1, r1, rep_bl.mpr rfl, q1 rfl⟩
  | false => exact iteF ((q2 rfl σ M F1 H1 (bo.mono e1) (rs.mono e1) r1).imp fun _ _ q => q.mono e1)

/-! ### tests -/
theorem rdT.imp {σ : L2.St} {H : Hp} {Q Q' : Bool → Hp → Prop} (h : rdT X e σ H Q) (w : ∀ v H', Q v H' → Q' v H') : rdT X e σ H Q' :=
  ⟨fun pins s I => thn (h.o pins s I) fun _ _ ⟨H', I', q⟩ => ⟨H', I', w _ _ q⟩⟩
variable {QB : Bool → Mu → Prop}
theorem wT.imp {Q' : Bool → Mu → Prop} (h : wT B X e Γ μ QB) (w : ∀ x μ', QB x μ' → Q' x μ') : wT B X e Γ μ Q' := fun σ M F H bo rs r =>
  (h σ M F H bo rs r).imp fun v H' ⟨F', μ', h1, h2, h4⟩ => ⟨F', μ', h1, h2, w _ _ h4⟩
theorem wT_of {t : TT} (h : PT X e t) (q : ∀ σ M F H, B.ok M F → RelS X.K Γ F σ → Rel X.K μ M F H → t σ H (QT X.K M F QB)) : wT B X e Γ μ QB := fun σ M F H bo rs r => rd_pt h (q σ M F H bo rs r)
theorem wT_val (h : wE B X e Γ μ fun x μ1 => ∃ k, x = .bl k ∧ QB k μ1) (he : ∀ whole, isTrue e X.env whole = (do let v ← whole; standAt e.pos; holding [v] (truthy v)) := by intro _; rfl) : wT B X e Γ μ QB := wT_of (pt_val pe_rd he) fun σ M F H bo rs r => by
  refine (h σ M F H bo rs r).imp fun v H1 ⟨x, F1, μ1, e1, r1, p1, k, ek, q1⟩ => ?_
  subst ek; rw [rep_bl] at p1
  exact ⟨k, p1, F1, μ1, e1, r1, q1⟩
theorem wT_cmp {op : CmpOp} (h : wE B X a Γ μ fun x μ1 => wE B X b Γ μ1 fun y μ2 => wO X (compareOp op) x y μ2 fun z μ3 => ∃ k, z = .bl k ∧ QB k μ3) (hm : behindInMarks op b = false := by first | exact nomark _ | rfl) : wT B X (.Compare a [op] [b] pos) Γ μ QB := wT_of (pt_cmpR opr_rd pe_rd pe_rd hm) fun σ M F H bo rs r => by
  refine (h σ M F H bo rs r).imp fun v H1 ⟨x, F1, μ1, e1, r1, p1, q1⟩ => ?_
  refine (q1 σ M F1 H1 (bo.mono e1) (rs.mono e1) r1).imp fun w H2 ⟨y, F2, μ2, e2, r2, p2, q2⟩ => ?_
  exact ⟨fun pins s σ' v' u' I hv hw => thn ((q2 M F2 H2 v w r2 (p1.mono e2) p2).o pins s σ' v' u' I hv hw) fun _ _ ⟨z, H3, I3, r3, x3, F3, μ3, e3, rl3, p3, k, ek, q3⟩ => by
    subst ek; rw [rep_bl] at p3
    exact ⟨z, H3, I3, r3, k, p3, F3, μ3, (e1.trans e2).trans e3, rl3, q3⟩⟩
theorem wT_not (h : wT B X a Γ μ fun k μ1 => QB (!k) μ1) : wT B X (.UnaryOp .Not a pos) Γ μ QB := wT_of (pt_not pt_rd) fun σ M F H bo rs r =>
  (h σ M F H bo rs r).imp fun k H1 ⟨F1, μ1, e1, r1, q1⟩ => ⟨F1, μ1, e1, r1, q1⟩
/-- a test in a chain of and, or -/
def rdW (X : Cx) (e : Expr) : TT := fun σ H Q => Bx (∀ (whole : Sem Value) (pins : List (Addr × Obj)) (s : Shared), Inv X pins σ H s → wpAny (model X.prog X.w) X.A (isTrue e X.env whole) (TP X pins σ Q) X.xe s)
theorem pw_rd : PW X e (rdW X e) := ⟨fun wh pins s _ _ _ I h => h.o wh pins s I⟩
theorem rd_pw {t : TT} (h : PW X e t) {σ : L2.St} {H : Hp} {Q : Bool → Hp → Prop} (q : t σ H Q) : rdW X e σ H Q := ⟨fun wh pins s I => h.run wh pins s σ H Q I q⟩
theorem rdW.imp {σ : L2.St} {H : Hp} {Q Q' : Bool → Hp → Prop} (h : rdW X e σ H Q) (w : ∀ v H', Q v H' → Q' v H') : rdW X e σ H Q' :=
  ⟨fun wh pins s I => thn (h.o wh pins s I) fun _ _ ⟨H', I', q⟩ => ⟨H', I', w _ _ q⟩⟩
def wW (B : Bs) (X : Cx) (e : Expr) (Γ : G) (μ : Mu) (Q : Bool → Mu → Prop) : Prop := ∀ σ M F H, B.ok M F → RelS X.K Γ F σ → Rel X.K μ M F H → rdW X e σ H (QT X.K M F Q)
theorem wT_chain (h : wW B X e Γ μ QB) : wT B X e Γ μ QB := wT_of (PW.pt pw_rd) h
theorem wW_and1 (h : wT B X a Γ μ QB) : wW B X (.BoolOp .And [a] pos) Γ μ QB := fun σ M F H bo rs r => rd_pw (pw_and1 pt_rd) (h σ M F H bo rs r)
theorem wW_or1 (h : wT B X a Γ μ QB) : wW B X (.BoolOp .Or [a] pos) Γ μ QB := fun σ M F H bo rs r => rd_pw (pw_or1 pt_rd) (h σ M F H bo rs r)
theorem wW_and (h : wT B X a Γ μ fun k μ1 => (k = true → wW B X (.BoolOp .And (b :: es) pos) Γ μ1 QB) ∧ (k = false → QB false μ1)) : wW B X (.BoolOp .And (a :: b :: es) pos) Γ μ QB := fun σ M F H bo rs r => rd_pw (pw_and pt_rd pw_rd) (by
  refine (h σ M F H bo rs r).imp fun k H1 ⟨F1, μ1, e1, r1, q1, q2⟩ => ?_
  cases k with
  | true => exact iteT ((q1 rfl σ M F1 H1 (bo.mono e1) (rs.mono e1) r1).imp fun _ _ q => q.mono e1)
  | false => exact iteF ⟨F1, μ1, e1, r1, q2 rfl⟩)
theorem wW_or (h : wT B X a Γ μ fun k μ1 => (k = true → QB true μ1) ∧ (k = false → wW B X (.BoolOp .Or (b :: es) pos) Γ μ1 QB)) : wW B X (.BoolOp .Or (a :: b :: es) pos) Γ μ QB := fun σ M F H bo rs r => rd_pw (pw_or pt_rd pw_rd) (by
  refine (h σ M F H bo rs r).imp fun k H1 ⟨F1, μ1, e1, r1, q1, q2⟩ => ?_
  cases k with
  | true => exact iteT ⟨F1, μ1, e1, r1, q1 rfl⟩
  | false => exact iteF ((q2 rfl σ M F1 H1 (bo.mono e1) (rs.mono e1) r1).imp fun _ _ q => q.mono e1))
/-- a if t else b -/
theorem wE_if (h : wT B X c Γ μ fun k μ1 => (k = true → wE B X a Γ μ1 Q) ∧ (k = false → wE B X b Γ μ1 Q)) : wE B X (.IfExp c a b pos) Γ μ Q := wE_of (pe_ifExp pt_rd pe_rd pe_rd) fun σ M F H bo rs r => by
  refine (h σ M F H bo rs r).imp fun k H1 ⟨F1, μ1, e1, r1, q1, q2⟩ => ?_
  cases k with
  | true => exact iteT ((q1 rfl σ M F1 H1 (bo.mono e1) (rs.mono e1) r1).imp fun _ _ q => q.mono e1)
  | false => exact iteF ((q2 rfl σ M F1 H1 (bo.mono e1) (rs.mono e1) r1).imp fun _ _ q => q.mono e1)

/-! ### argument lists, displays -/
theorem rdA.imp {σ : L2.St} {H : Hp} {Q Q' : List V → Hp → Prop} (h : rdA X es σ H Q) (w : ∀ v H', Q v H' → Q' v H') : rdA X es σ H Q' :=
  ⟨fun pos pins s I => thn (h.o pos pins s I) fun _ _ ⟨v, H', I', r, q⟩ => ⟨v, H', I', r, w v H' q⟩⟩
variable {QL : List A → Mu → Prop}
theorem wA_nil (q : QL [] μ) : wA B X [] Γ μ QL := fun σ M F H bo rs r => rd_pa pa_nil ⟨[], F, μ, .refl _, r, .nil, q⟩
theorem wA_cons (h : wE B X e Γ μ fun x μ1 => wA B X es Γ μ1 fun xs μ2 => QL (x :: xs) μ2) (hs : starEach (e :: es) X.env = (false, eval e X.env) :: starEach es X.env := by rfl) : wA B X (e :: es) Γ μ QL := fun σ M F H bo rs r => rd_pa (pa_cons pe_rd pa_rd hs) (by
  refine (h σ M F H bo rs r).imp fun v H1 ⟨x, F1, μ1, e1, r1, p1, q1⟩ => ?_
  refine (q1 σ M F1 H1 (bo.mono e1) (rs.mono e1) r1).imp fun vs H2 ⟨xs, F2, μ2, e2, r2, p2, q2⟩ => ?_
  exact ⟨x :: xs, F2, μ2, e1.trans e2, r2, .cons (p1.mono e2) p2, q2⟩)
theorem wE_tup {k : Nat} (h : wA B X es Γ μ fun xs μ1 => xs.length ≤ sizeLine ∧ Q (.tup xs) μ1) : wE B X (.Tuple es k pos) Γ μ Q := wE_of (pe_tup pa_rd) fun σ M F H bo rs r => by
  refine (h σ M F H bo rs r).imp fun vs H1 ⟨xs, F1, μ1, e1, r1, p1, z, q1⟩ => ⟨by rw [p1.len]; exact z, fun p np => ?_⟩
  obtain ⟨ex, rl⟩ := r1.newF (o := .tup vs) np
  exact ⟨_, _, μ1, e1.trans ex, rl, rep_tup.mpr ⟨p, vs, rfl, .inl (.inl upd_same), p1.mono ex⟩, q1⟩
/-- a list that is ours -/
theorem wE_lst (h : wA B X es Γ μ fun xs μ1 => xs.length ≤ sizeLine ∧ ∀ p, μ1 p = none → Q (.loc p) (μ1.upd p (.lst xs))) : wE B X (.List es pos) Γ μ Q := wE_of (pe_lst pa_rd) fun σ M F H bo rs r => by
  refine (h σ M F H bo rs r).imp fun vs H1 ⟨xs, F1, μ1, e1, r1, p1, z, q1⟩ => ⟨by rw [p1.len]; exact z, fun p np => ?_⟩
  obtain ⟨nμ, rl⟩ := r1.new (m := .lst xs) (o := .lst vs) np ⟨vs, rfl, p1⟩
  exact ⟨_, _, _, e1, rl, rep_loc.mpr rfl, q1 p nμ⟩
/-- a list that stands for good -/
theorem wE_lstF (h : wA B X es Γ μ fun xs μ1 => xs.length ≤ sizeLine ∧ Q (.lst xs) μ1) : wE B X (.List es pos) Γ μ Q := wE_of (pe_lst pa_rd) fun σ M F H bo rs r => by
  refine (h σ M F H bo rs r).imp fun vs H1 ⟨xs, F1, μ1, e1, r1, p1, z, q1⟩ => ⟨by rw [p1.len]; exact z, fun p np => ?_⟩
  obtain ⟨ex, rl⟩ := r1.newF (o := .lst vs) np
  exact ⟨_, _, μ1, e1.trans ex, rl, rep_lst.mpr ⟨p, vs, rfl, upd_same, p1.mono ex⟩, q1⟩

/-! ### subscripts, slices -/
def rdIx (X : Cx) : R2 := fun x y H Q => Bx (∀ (value slice : Expr) (pins : List (Addr × Obj)) (s : Shared) (σ : L2.St) (v u : Value), Inv X pins σ H s → RelV x v → RelV y u → subscripted slice false v u = operate [v, u] (getItem v u) → wpAny (model X.prog X.w) X.A (subscriptTail value slice v u) (EP X pins σ Q) X.xe s)
theorem ixr_rd : IxR X (rdIx X) := fun value slice pins s σ H x y v u Q I r1 r2 h hs => h.o value slice pins s σ v u I r1 r2 hs
theorem rd_ixr {r : R2} (h : IxR X r) {x y : V} {H : Hp} {Q : VK} (q : r x y H Q) : rdIx X x y H Q := ⟨fun value slice pins s σ v u I r1 r2 hs => h value slice pins s σ H x y v u Q I r1 r2 q hs⟩
def wI (X : Cx) (x y : A) (μ : Mu) (Q : A → Mu → Prop) : Prop := ∀ M F H v w, Rel X.K μ M F H → Rep X.K F x v → Rep X.K F y w → rdIx X v w H (QE X.K M F Q)
theorem wE_ix (h : wE B X a Γ μ fun x μ1 => wE B X b Γ μ1 fun y μ2 => wI X x y μ2 Q) (hs : PlainIx b := by exact fun _ _ => rfl) : wE B X (.Subscript a b pos) Γ μ Q := wE_of (pe_ix ixr_rd pe_rd pe_rd hs) fun σ M F H bo rs r => by
  refine (h σ M F H bo rs r).imp fun v H1 ⟨x, F1, μ1, e1, r1, p1, q1⟩ => ?_
  refine (q1 σ M F1 H1 (bo.mono e1) (rs.mono e1) r1).imp fun w H2 ⟨y, F2, μ2, e2, r2, p2, q2⟩ => ?_
  exact ⟨fun value slice pins s σ' v' u' I hv hw hs => thn ((q2 M F2 H2 v w r2 (p1.mono e2) p2).o value slice pins s σ' v' u' I hv hw hs) fun _ _ ⟨z, H3, I3, r3, q3⟩ => ⟨z, H3, I3, r3, q3.mono (e1.trans e2)⟩⟩
theorem atI_rep {K : PySem.W.Frag} {F : Hp} {xs : List A} {vs : List V} {i : Int} {y : A} (h : RepL K F xs vs) (e : atI xs i = some y) : ∃ v, atI vs i = some v ∧ Rep K F y v := by
  unfold atI at e ⊢
  rw [h.len]
  cases q : ixN xs.length i with
  | none => simp [q] at e
  | some j => rw [q] at e; exact h.get e
theorem wI_tup {xs : List A} {i : Int} {y : A} (e : atI xs i = some y) (q : Q y μ) : wI X (.tup xs) (.int i) μ Q := fun M F H v w rl r1 r2 => rd_ixr ix_tup (by
  rw [rep_tup] at r1; rw [rep_int] at r2
  obtain ⟨p, vs, rfl, h1, h2⟩ := r1
  obtain ⟨z, e1, e2⟩ := atI_rep h2 e
  exact ⟨p, vs, i, z, rfl, r2, rl.sub.t h1, e1, .pure rl e2 q⟩)
theorem wI_lst {xs : List A} {i : Int} {y : A} (e : atI xs i = some y) (q : Q y μ) : wI X (.lst xs) (.int i) μ Q := fun M F H v w rl r1 r2 => rd_ixr ix_list (by
  rw [rep_lst] at r1; rw [rep_int] at r2
  obtain ⟨p, vs, rfl, h1, h2⟩ := r1
  obtain ⟨z, e1, e2⟩ := atI_rep h2 e
  exact ⟨p, vs, i, z, rfl, r2, .inl (.inl (rl.sub _ _ h1)), e1, .pure rl e2 q⟩)
theorem wI_fls {xs : List A} {i : Int} {y : A} (e : atI xs i = some y) (q : Q y μ) : wI X (.fls xs) (.int i) μ Q := fun M F H v w rl r1 r2 => rd_ixr ix_list (by
  rw [rep_fls] at r1; rw [rep_int] at r2
  obtain ⟨p, vs, rfl, h1, h2⟩ := r1
  obtain ⟨z, e1, e2⟩ := atI_rep h2 e
  exact ⟨p, vs, i, z, rfl, r2, rl.sub.l h1, e1, .pure rl e2 q⟩)
theorem wI_loc {p : Addr} {xs : List A} {i : Int} {y : A} (hp : μ p = some (.lst xs)) (e : atI xs i = some y) (q : Q y μ) : wI X (.loc p) (.int i) μ Q := fun M F H v w rl r1 r2 => rd_ixr ix_list (by
  rw [rep_loc] at r1; rw [rep_int] at r2
  obtain ⟨_, o, h1, vs, rfl, h2⟩ := rl.own p _ hp
  obtain ⟨z, e1, e2⟩ := atI_rep h2 e
  exact ⟨p, vs, i, z, r1, r2, .inl (.inl h1), e1, .pure rl e2 q⟩)
theorem wI_str {x : Str} {i : Int} {ch : Nat} (hz : x.length ≤ sizeLine) (e : atI x.cps.toList i = some ch) (q : Q (.str ⟨#[ch]⟩) μ) : wI X (.str x) (.int i) μ Q := fun M F H v w rl r1 r2 => rd_ixr ix_str (by
  rw [rep_str] at r1; rw [rep_int] at r2
  exact ⟨x, i, ch, r1, r2, hz, e, .pure rl (rep_str.mpr rfl) q⟩)

def wP (B : Bs) (X : Cx) (e : Option Expr) (Γ : G) (μ : Mu) (Q : Option Int → Mu → Prop) : Prop := match e with
  | none => Q none μ
  | some e => wE B X e Γ μ fun x μ1 => ∃ i, x = .int i ∧ Q (some i) μ1
def cutA (xs : List A) (lo hi : Option Int) : List A := (xs.drop (HT.sIx xs.length 0 lo)).take (HT.sIx xs.length xs.length hi - HT.sIx xs.length 0 lo)
theorem cut_rep {K : PySem.W.Frag} {F : Hp} {xs : List A} {vs : List V} {lo hi : Option Int} (h : RepL K F xs vs) : RepL K F (cutA xs lo hi) (cutV vs lo hi) := by
  unfold cutA cutV; rw [h.len]; exact (h.drop _).take _
def rdSl (X : Cx) : V → Option Int → Option Int → Hp → VK → Prop := fun x lo hi H Q => Bx (∀ (pins : List (Addr × Obj)) (s : Shared) (σ : L2.St) (v vl vu : Value) (sl : Addr), Inv X pins σ H s → RelV x v → s.heap.IsSliceOf sl vl vu .none → IsPart vl lo → IsPart vu hi →
    ∃ T id, typeLookup (.type T) "__getitem__" = pure (some (.builtin id)) ∧ s.TypeIs v T ∧ wpAny (model X.prog X.w) X.A (getItem v (.ref sl)) (EP X pins σ Q) X.xe s)
theorem slr_rd : SlR X (rdSl X) := fun pins s σ H x v vl vu lo hi sl Q I rx hs pl pu h => h.o pins s σ v vl vu sl I rx hs pl pu
theorem rd_slr {r : V → Option Int → Option Int → Hp → VK → Prop} (h : SlR X r) {x : V} {lo hi : Option Int} {H : Hp} {Q : VK} (q : r x lo hi H Q) : rdSl X x lo hi H Q := ⟨fun pins s σ v vl vu sl I rx hs pl pu => h pins s σ H x v vl vu lo hi sl Q I rx hs pl pu q⟩
def wSl (X : Cx) (x : A) (lo hi : Option Int) (μ : Mu) (Q : A → Mu → Prop) : Prop := ∀ M F H v, Rel X.K μ M F H → Rep X.K F x v → rdSl X v lo hi H (QE X.K M F Q)
def toP (X : Cx) (e : Option Expr) : TO := match e with
  | none => tNoPart
  | some e => tPart (rdE X e)
theorem po_rd : ∀ {e : Option Expr}, PO X e (toP X e)
  | none => po_none
  | some _ => po_some pe_rd
theorem toP_of {o : Option Expr} {Q0 : Option Int → Mu → Prop} (h : wP B X o Γ μ Q0) {σ : L2.St} {M F H : Hp} {R : Option Int → Hp → Prop} (bo : B.ok M F) (rs : RelS X.K Γ F σ) (r : Rel X.K μ M F H)
    (w : ∀ i F' μ' H', Ex F F' → Rel X.K μ' M F' H' → Q0 i μ' → R i H') : toP X o σ H R := by
  cases o with
  | none => exact w none F μ H (.refl _) r h
  | some e =>
    refine (show wE B X e Γ μ _ from h) σ M F H bo rs r |>.imp fun v H' ⟨x, F', μ', e1, r1, p1, i, ei, q1⟩ => ?_
    subst ei; rw [rep_int] at p1
    exact ⟨i, p1, w _ F' μ' H' e1 r1 q1⟩
theorem wE_slice {lo hi : Option Expr} {p2 : Pos} (h : wE B X a Γ μ fun x μ1 => wP B X lo Γ μ1 fun l μ2 => wP B X hi Γ μ2 fun u μ3 => wSl X x l u μ3 Q) : wE B X (.Subscript a (.Slice lo hi none p2) pos) Γ μ Q := wE_of (pe_slice slr_rd pe_rd po_rd po_rd) fun σ M F H bo rs r => by
  refine (h σ M F H bo rs r).imp fun v H1 ⟨x, F1, μ1, e1, r1, p1, q1⟩ => ?_
  refine toP_of q1 (bo.mono e1) (rs.mono e1) r1 fun l F2 μ2 H2 e2 r2 q2 => ?_
  refine toP_of q2 (bo.mono (e1.trans e2)) (rs.mono (e1.trans e2)) r2 fun u F3 μ3 H3 e3 r3 q3 => ?_
  refine ⟨fun pins s σ' v' vl vu sl I rx hs pl pu => ?_⟩
  obtain ⟨T, id, h1, h2, h3⟩ := (q3 M F3 H3 v r3 (p1.mono (e2.trans e3))).o pins s σ' v' vl vu sl I rx hs pl pu
  exact ⟨T, id, h1, h2, thn h3 fun _ _ ⟨z, H4, I4, r4, q4⟩ => ⟨z, H4, I4, r4, q4.mono ((e1.trans e2).trans e3)⟩⟩
theorem wSl_lst {xs : List A} {lo hi : Option Int} (q : ∀ p, μ p = none → Q (.loc p) (μ.upd p (.lst (cutA xs lo hi)))) : wSl X (.lst xs) lo hi μ Q := fun M F H v rl r1 => rd_slr sl_list (by
  rw [rep_lst] at r1
  obtain ⟨a, vs, rfl, h1, h2⟩ := r1
  refine ⟨a, vs, rfl, .inl (.inl (rl.sub _ _ h1)), fun p np => ?_⟩
  obtain ⟨nμ, rl'⟩ := rl.new (m := .lst (cutA xs lo hi)) np ⟨_, rfl, cut_rep h2⟩
  exact ⟨_, _, _, .refl _, rl', rep_loc.mpr rfl, q p nμ⟩)
theorem wSl_lstF {xs : List A} {lo hi : Option Int} (q : Q (.lst (cutA xs lo hi)) μ) : wSl X (.lst xs) lo hi μ Q := fun M F H v rl r1 => rd_slr sl_list (by
  rw [rep_lst] at r1
  obtain ⟨a, vs, rfl, h1, h2⟩ := r1
  refine ⟨a, vs, rfl, .inl (.inl (rl.sub _ _ h1)), fun p np => ?_⟩
  obtain ⟨ex, rl'⟩ := rl.newF (o := .lst (cutV vs lo hi)) np
  exact ⟨_, _, _, ex, rl', rep_lst.mpr ⟨p, _, rfl, upd_same, (cut_rep h2).mono ex⟩, q⟩)
theorem wSl_locF {p0 : Addr} {xs : List A} {lo hi : Option Int} (hp : μ p0 = some (.lst xs)) (q : Q (.lst (cutA xs lo hi)) μ) : wSl X (.loc p0) lo hi μ Q := fun M F H v rl r1 => rd_slr sl_list (by
  rw [rep_loc] at r1
  obtain ⟨_, o, h1, vs, rfl, h2⟩ := rl.own p0 _ hp
  refine ⟨p0, vs, r1, .inl (.inl h1), fun p np => ?_⟩
  obtain ⟨ex, rl'⟩ := rl.newF (o := .lst (cutV vs lo hi)) np
  exact ⟨_, _, _, ex, rl', rep_lst.mpr ⟨p, _, rfl, upd_same, (cut_rep h2).mono ex⟩, q⟩)
theorem wSl_str {x : Str} {lo hi : Option Int} (hz : x.length ≤ sizeLine) (q : Q (.str (cutS x lo hi)) μ) : wSl X (.str x) lo hi μ Q := fun M F H v rl r1 => rd_slr sl_str (by
  rw [rep_str] at r1
  exact ⟨x, r1, hz, .pure rl (rep_str.mpr rfl) q⟩)
end
end D

set_option Elab.async false
set_option linter.all false
set_option maxRecDepth 100000
set_option maxHeartbeats 4000000
/-! D3: operators, calls of built-ins, methods, by data; statements, loops, comprehensions; a def's promise over data. -/
namespace D
open PySem PySem.Spec PyProof.Rows L2

section
variable {B : Bs} {X : Cx} {Γ : G} {μ : Mu} {Q : A → Mu → Prop} {a b c e : Expr} {es : List Expr} {pos : Pos}

/-! ### whole numbers -/
theorem op_mulG : OpR X (binaryOp .Mult) (rI IntMulOk fun i j => .int (i * j)) := opI fun _ _ _ _ _ _ _ hc q => mul_int q hc
def DivOk (i j : Int) : Prop := j ≠ 0 ∧ Builtin.divisionGoesByPylong i j = false
theorem op_fdivG : OpR X (binaryOp .FloorDiv) (rI DivOk fun i j => .int (i.fdiv j)) := opI fun _ _ _ _ _ _ _ hc q => floordiv_int hc.1 q (.inl hc.2)
theorem wO_I {f : Value → Value → Sem Value} {C : Int → Int → Prop} {g : Int → Int → Int} (h : OpR X f (rI C fun i j => .int (g i j))) {i j : Int} (hc : C i j) (q : Q (.int (g i j)) μ) : wO X f (.int i) (.int j) μ Q :=
  wO_of h fun M F H v w rl r1 r2 => ⟨i, j, rep_int.mp r1, rep_int.mp r2, hc, .pure rl (rep_int.mpr rfl) q⟩
theorem wO_I0 {f : Value → Value → Sem Value} {g : Int → Int → Int} (h : OpR X f (rI0 fun i j => .int (g i j))) {i j : Int} (q : Q (.int (g i j)) μ) : wO X f (.int i) (.int j) μ Q :=
  wO_of h fun M F H v w rl r1 r2 => ⟨i, j, rep_int.mp r1, rep_int.mp r2, .pure rl (rep_int.mpr rfl) q⟩
theorem wO_B0 {f : Value → Value → Sem Value} {g : Int → Int → Bool} (h : OpR X f (rI0 fun i j => .bl (g i j))) {i j : Int} (q : Q (.bl (g i j)) μ) : wO X f (.int i) (.int j) μ Q :=
  wO_of h fun M F H v w rl r1 r2 => ⟨i, j, rep_int.mp r1, rep_int.mp r2, .pure rl (rep_bl.mpr rfl) q⟩
theorem wO_add {i j : Int} (q : Q (.int (i + j)) μ) : wO X (binaryOp .Add) (.int i) (.int j) μ Q := wO_I0 op_add q
theorem wO_sub {i j : Int} (q : Q (.int (i - j)) μ) : wO X (binaryOp .Sub) (.int i) (.int j) μ Q := wO_I0 op_sub q
theorem wO_mul {i j : Int} (hc : IntMulOk i j) (q : Q (.int (i * j)) μ) : wO X (binaryOp .Mult) (.int i) (.int j) μ Q := wO_I op_mulG hc q
/-- one factor below 2 ^ 64 -/
theorem mulR {i j : Int} (h1 : -(2 ^ 64) < j) (h2 : j < 2 ^ 64) : IntMulOk i j := .of_right (intBits_le_64 h1 h2)
theorem mulL {i j : Int} (h1 : -(2 ^ 64) < i) (h2 : i < 2 ^ 64) : IntMulOk i j := .of_left (intBits_le_64 h1 h2)
theorem wO_fdiv {i j : Int} (h0 : 0 < j) (hc : Builtin.divisionGoesByPylong i j = false) (q : Q (.int (i / j)) μ) : wO X (binaryOp .FloorDiv) (.int i) (.int j) μ Q :=
  wO_I op_fdivG ⟨by omega, hc⟩ (by rw [Int.fdiv_eq_ediv_of_nonneg i (by omega)]; exact q)
theorem wO_fdivN {i j : Int} (h0 : j ≠ 0) (hc : Builtin.divisionGoesByPylong i j = false) (q : Q (.int (i.fdiv j)) μ) : wO X (binaryOp .FloorDiv) (.int i) (.int j) μ Q := wO_I op_fdivG ⟨h0, hc⟩ q
theorem divS {i j : Int} (h : j.natAbs < 1073741824) : Builtin.divisionGoesByPylong i j = false := PyProof.noPylong_small h
theorem wO_mod {i j : Int} (h0 : 0 < j) (q : Q (.int (i % j)) μ) : wO X (binaryOp .Mod) (.int i) (.int j) μ Q := wO_I (C := fun _ j => 0 < j) op_mod h0 q
theorem wO_pow {i j : Int} (hc : 0 ≤ j ∧ j ≤ 1000000 ∧ i.natAbs < 2 ^ 64) (q : Q (.int (i ^ j.toNat)) μ) : wO X (binaryOp .Pow) (.int i) (.int j) μ Q := wO_I op_pow hc q
theorem wO_lt {i j : Int} (q : Q (.bl (decide (i < j))) μ) : wO X (compareOp .Lt) (.int i) (.int j) μ Q := wO_B0 (g := fun i j => decide (i < j)) op_lt q
theorem wO_le {i j : Int} (q : Q (.bl (decide (i ≤ j))) μ) : wO X (compareOp .LtE) (.int i) (.int j) μ Q := wO_B0 (g := fun i j => decide (i ≤ j)) op_le q
theorem wO_gt {i j : Int} (q : Q (.bl (decide (j < i))) μ) : wO X (compareOp .Gt) (.int i) (.int j) μ Q := wO_B0 (g := fun i j => decide (j < i)) op_gt q
theorem wO_ge {i j : Int} (q : Q (.bl (decide (j ≤ i))) μ) : wO X (compareOp .GtE) (.int i) (.int j) μ Q := wO_B0 (g := fun i j => decide (j ≤ i)) op_ge q

/-! ### == of data -/
mutual
def toD : A → PyData
  | .non => .none
  | .bl b => .bool b
  | .int i => .int i
  | .str x => .str x
  | .ty _ => .none
  | .loc _ => .none
  | .tup xs => .tuple (toDs xs)
  | .lst xs => .list (toDs xs)
  | .fls xs => .list (toDs xs)
def toDs : List A → List PyData
  | [] => []
  | x :: xs => toD x :: toDs xs
end
mutual
def isD : A → Bool
  | .non | .bl _ | .int _ => true
  | .str x => PyData.strOk x
  | .ty _ => false
  | .loc _ => false
  | .tup xs => isDs xs
  | .lst xs => isDs xs
  | .fls xs => isDs xs
def isDs : List A → Bool
  | [] => true
  | x :: xs => isD x && isDs xs
end
section
variable {K : PySem.W.Frag} {H : Hp}
mutual
theorem dp_of : ∀ {x : A} {v : V}, isD x = true → Rep K H x v → Dp K H v (toD x)
  | .non, _, _, h => by rw [rep_non] at h; subst h; exact .non
  | .bl b, _, _, h => by rw [rep_bl] at h; subst h; exact .bl b
  | .int i, _, _, h => by rw [rep_int] at h; subst h; exact .int i
  | .str x, _, _, h => by rw [rep_str] at h; subst h; exact .str x
  | .ty _, _, h, _ => by simp [isD] at h
  | .loc _, _, h, _ => by simp [isD] at h
  | .tup xs, _, hd, h => by
    rw [rep_tup] at h; obtain ⟨a, vs, rfl, h1, h2⟩ := h
    simp only [toD]
    exact .tup h1 (dps_of (by simpa [isD] using hd) h2)
  | .lst xs, _, hd, h => by
    rw [rep_lst] at h; obtain ⟨a, vs, rfl, h1, h2⟩ := h
    simp only [toD]
    exact .lst (.inl (.inl h1)) (dps_of (by simpa [isD] using hd) h2)
  | .fls xs, _, hd, h => by
    rw [rep_fls] at h; obtain ⟨a, vs, rfl, h1, h2⟩ := h
    simp only [toD]
    exact .lst h1 (dps_of (by simpa [isD] using hd) h2)
theorem dps_of : ∀ {xs : List A} {vs : List V}, isDs xs = true → RepL K H xs vs → DpAll K H vs (toDs xs)
  | [], _, _, h => by simp only [RepL] at h; subst h; exact .nil
  | x :: xs, _, hd, h => by
    simp only [RepL] at h
    obtain ⟨v, r, rfl, h1, h2⟩ := h
    simp only [isDs, Bool.and_eq_true] at hd
    simp only [toDs]
    exact .cons (dp_of hd.1 h1) (dps_of hd.2 h2)
end
end
mutual
theorem canLay_of : ∀ x : A, isD x = true → (toD x).canLay0 = true
  | .non, _ => by simp only [toD, PyData.canLay0]
  | .bl _, _ => by simp only [toD, PyData.canLay0]
  | .int _, _ => by simp only [toD, PyData.canLay0]
  | .str x, h => by simpa only [toD, PyData.canLay0, isD] using h
  | .ty _, h => by simp [isD] at h
  | .loc _, h => by simp [isD] at h
  | .tup xs, h => by simp only [toD, PyData.canLay0]; exact canLays_of xs (by simpa [isD] using h)
  | .lst xs, h => by simp only [toD, PyData.canLay0]; exact canLays_of xs (by simpa [isD] using h)
  | .fls xs, h => by simp only [toD, PyData.canLay0]; exact canLays_of xs (by simpa [isD] using h)
theorem canLays_of : ∀ xs : List A, isDs xs = true → PyData.canLayAll0 (toDs xs) = true
  | [], _ => by simp only [toDs, PyData.canLayAll0]
  | x :: xs, h => by
    simp only [isDs, Bool.and_eq_true] at h
    simp only [toDs, PyData.canLayAll0, canLay_of x h.1, canLays_of xs h.2, Bool.and_self]
end
theorem toDs_map {α : Type} (f : α → A) : ∀ l : List α, toDs (l.map f) = l.map fun a => toD (f a)
  | [] => rfl
  | a :: l => by simp only [List.map_cons, toDs, toDs_map f l]
theorem toDs_eq : ∀ l : List A, toDs l = l.map toD
  | [] => rfl
  | a :: l => by simp only [List.map_cons, toDs, toDs_eq l]
theorem isDs_map {α : Type} {f : α → A} (h : ∀ a, isD (f a) = true) : ∀ l : List α, isDs (l.map f) = true
  | [] => rfl
  | a :: l => by simp only [List.map_cons, isDs, h a, isDs_map h l, Bool.and_self]
theorem isDs_all {l : List A} (h : ∀ a ∈ l, isD a = true) : isDs l = true := by
  induction l with
  | nil => rfl
  | cons a l ih => simp only [isDs, h a List.mem_cons_self, ih fun b hb => h b (List.mem_cons_of_mem _ hb), Bool.and_self]
theorem isDs_mem {l : List A} (h : isDs l = true) : ∀ a ∈ l, isD a = true := by
  induction l with
  | nil => simp
  | cons a l ih =>
    simp only [isDs, Bool.and_eq_true] at h
    exact List.forall_mem_cons.mpr ⟨h.1, ih h.2⟩
/-! depths -/
mutual
def deep : A → Nat
  | .tup xs => deeps xs + 1
  | .lst xs => deeps xs + 1
  | .fls xs => deeps xs + 1
  | _ => 0
def deeps : List A → Nat
  | [] => 0
  | x :: xs => max (deep x) (deeps xs)
end
mutual
theorem depth_of : ∀ x : A, (toD x).depth ≤ deep x
  | .non => by simp [toD, PyData.depth]
  | .bl _ => by simp [toD, PyData.depth]
  | .int _ => by simp [toD, PyData.depth]
  | .str _ => by simp [toD, PyData.depth]
  | .ty _ => by simp [toD, PyData.depth]
  | .loc _ => by simp [toD, PyData.depth]
  | .tup xs => by simp only [toD, PyData.depth, deep]; have := depths_of xs; omega
  | .lst xs => by simp only [toD, PyData.depth, deep]; have := depths_of xs; omega
  | .fls xs => by simp only [toD, PyData.depth, deep]; have := depths_of xs; omega
theorem depths_of : ∀ xs : List A, PyData.depthAll (toDs xs) ≤ deeps xs
  | [] => by simp [toDs, PyData.depthAll]
  | x :: xs => by simp only [toDs, PyData.depthAll, deeps]; have := depth_of x; have := depths_of xs; omega
end
theorem deeps_le {l : List A} {n : Nat} (h : ∀ a ∈ l, deep a ≤ n) : deeps l ≤ n := by
  induction l with
  | nil => exact Nat.zero_le _
  | cons a l ih =>
    have h1 := h a List.mem_cons_self
    have h2 := ih fun b hb => h b (List.mem_cons_of_mem _ hb)
    simp only [deeps]; omega
/-- data that is compared, shown -/
def DatOk (x : A) : Prop := isD x = true ∧ deep x ≤ 60
theorem DatOk.shaped {x : A} (h : DatOk x) : SeqAt.shaped (toD x) = true := by
  unfold SeqAt.shaped
  rw [canLay_of x h.1]
  have := depth_of x
  have h2 := h.2
  simp only [Bool.true_and, decide_eq_true_eq]
  omega
theorem wO_eqD {x y : A} (hu : X.A.units + 64 < cLine) (hx : DatOk x) (hy : DatOk y) (q : Q (.bl (PyData.eqv (toD x) (toD y))) μ) : wO X (compareOp .Eq) x y μ Q :=
  wO_of (op_eqD hu) fun M F H v w rl r1 r2 => ⟨_, _, dp_of hx.1 (r1.mono rl.sub), dp_of hy.1 (r2.mono rl.sub), hx.shaped, hy.shaped, .pure rl (rep_bl.mpr rfl) q⟩
theorem wO_neD {x y : A} (hu : X.A.units + 64 < cLine) (hx : DatOk x) (hy : DatOk y) (q : Q (.bl (!PyData.eqv (toD x) (toD y))) μ) : wO X (compareOp .NotEq) x y μ Q :=
  wO_of (op_neD hu) fun M F H v w rl r1 r2 => ⟨_, _, dp_of hx.1 (r1.mono rl.sub), dp_of hy.1 (r2.mono rl.sub), hx.shaped, hy.shaped, .pure rl (rep_bl.mpr rfl) q⟩
/-- == of ints, of texts -/
theorem wO_eqI {i j : Int} (q : Q (.bl (decide (i = j))) μ) : wO X (compareOp .Eq) (.int i) (.int j) μ Q :=
  wO_of op_eq fun M F H v w rl r1 r2 => by
    rw [rep_int] at r1 r2; subst r1; subst r2
    exact ⟨rfl, .pure rl (rep_bl.mpr (by simp)) q⟩
theorem wO_neI {i j : Int} (q : Q (.bl (!decide (i = j))) μ) : wO X (compareOp .NotEq) (.int i) (.int j) μ Q :=
  wO_of op_ne fun M F H v w rl r1 r2 => by
    rw [rep_int] at r1 r2; subst r1; subst r2
    exact ⟨rfl, .pure rl (rep_bl.mpr (by simp)) q⟩
theorem wO_eqS {i j : Str} (q : Q (.bl (decide (i = j))) μ) : wO X (compareOp .Eq) (.str i) (.str j) μ Q :=
  wO_of op_eq fun M F H v w rl r1 r2 => by
    rw [rep_str] at r1 r2; subst r1; subst r2
    exact ⟨rfl, .pure rl (rep_bl.mpr (by simp)) q⟩
theorem wO_neS {i j : Str} (q : Q (.bl (!decide (i = j))) μ) : wO X (compareOp .NotEq) (.str i) (.str j) μ Q :=
  wO_of op_ne fun M F H v w rl r1 r2 => by
    rw [rep_str] at r1 r2; subst r1; subst r2
    exact ⟨rfl, .pure rl (rep_bl.mpr (by simp)) q⟩
/-- is None -/
def isNon : A → Bool
  | .non => true
  | _ => false
theorem isNon_rep {K : PySem.W.Frag} {F : Hp} {x : A} {v : V} (h : Rep K F x v) : decide (v = .non) = isNon x := by
  cases x with
  | non => rw [rep_non] at h; subst h; rfl
  | bl b => rw [rep_bl] at h; subst h; rfl
  | int i => rw [rep_int] at h; subst h; rfl
  | str i => rw [rep_str] at h; subst h; rfl
  | ty i => rw [rep_ty] at h; subst h; rfl
  | loc i => rw [rep_loc] at h; subst h; rfl
  | tup i => rw [rep_tup] at h; obtain ⟨_, _, rfl, _⟩ := h; rfl
  | lst i => rw [rep_lst] at h; obtain ⟨_, _, rfl, _⟩ := h; rfl
  | fls i => rw [rep_fls] at h; obtain ⟨_, _, rfl, _⟩ := h; rfl
theorem wO_isN {x : A} (q : Q (.bl (isNon x)) μ) : wO X (compareOp .Is) x .non μ Q :=
  wO_of op_isN fun M F H v w rl r1 r2 => ⟨rep_non.mp r2, .pure rl (rep_bl.mpr (by rw [isNon_rep r1])) q⟩
theorem wO_notN {x : A} (q : Q (.bl (!isNon x)) μ) : wO X (compareOp .IsNot) x .non μ Q :=
  wO_of op_notN fun M F H v w rl r1 r2 => ⟨rep_non.mp r2, .pure rl (rep_bl.mpr (by rw [isNon_rep r1])) q⟩
theorem wO_isB {i j : Bool} (q : Q (.bl (decide (i = j))) μ) : wO X (compareOp .Is) (.bl i) (.bl j) μ Q :=
  wO_of op_isBl fun M F H v w rl r1 r2 => ⟨i, j, rep_bl.mp r1, rep_bl.mp r2, .pure rl (rep_bl.mpr rfl) q⟩
theorem wO_notB {i j : Bool} (q : Q (.bl (!decide (i = j))) μ) : wO X (compareOp .IsNot) (.bl i) (.bl j) μ Q :=
  wO_of op_notBl fun M F H v w rl r1 r2 => ⟨i, j, rep_bl.mp r1, rep_bl.mp r2, .pure rl (rep_bl.mpr rfl) q⟩
/-! ### sequences -/
theorem wO_addS {x y : Str} (hz : x.length + y.length ≤ sizeLine) (q : Q (.str (x ++ y)) μ) : wO X (binaryOp .Add) (.str x) (.str y) μ Q :=
  wO_of op_add_str fun M F H v w rl r1 r2 => ⟨x, y, rep_str.mp r1, rep_str.mp r2, hz, .pure rl (rep_str.mpr rfl) q⟩
theorem wO_catT {xs ys : List A} (hz : xs.length + ys.length ≤ sizeLine) (q : Q (.tup (xs ++ ys)) μ) : wO X (binaryOp .Add) (.tup xs) (.tup ys) μ Q :=
  wO_of op_catA fun M F H v w rl r1 r2 => by
    rw [rep_tup] at r1 r2
    obtain ⟨a, vs, rfl, h1, h2⟩ := r1
    obtain ⟨b, ws, rfl, g1, g2⟩ := r2
    refine ⟨a, b, vs, ws, rfl, rfl, rl.sub.t h1, rl.sub.t g1, by rw [h2.len, g2.len]; exact hz, fun e => ?_, fun _ e => ?_, fun _ _ p np => ?_⟩
    · have e1 : xs = [] := by have := h2.len; rw [e] at this; exact List.length_eq_zero_iff.mp this.symm
      subst e1
      exact .pure rl (rep_tup.mpr ⟨b, ws, rfl, g1, by simpa using g2⟩) q
    · have e1 : ys = [] := by have := g2.len; rw [e] at this; exact List.length_eq_zero_iff.mp this.symm
      subst e1
      exact .pure rl (rep_tup.mpr ⟨a, vs, rfl, h1, by simpa using h2⟩) q
    · obtain ⟨ex, rl'⟩ := rl.newF (o := .tup (vs ++ ws)) np
      exact ⟨_, _, μ, ex, rl', rep_tup.mpr ⟨p, _, rfl, .inl (.inl upd_same), (h2.append g2).mono ex⟩, q⟩
/-- what a list reads as -/
inductive IsL (μ : Mu) : A → List A → Prop
  | lst (xs) : IsL μ (.lst xs) xs
  | loc {p xs} (h : μ p = some (.lst xs)) : IsL μ (.loc p) xs
theorem IsL.rep {K : PySem.W.Frag} {M F H : Hp} {x : A} {xs : List A} {v : V} (h : IsL μ x xs) (rl : Rel K μ M F H) (r : Rep K F x v) : ∃ p vs, v = .ref p ∧ H p = some (.lst vs) ∧ RepL K F xs vs := by
  cases h with
  | lst => rw [rep_lst] at r; obtain ⟨a, vs, h1, h2, h3⟩ := r; exact ⟨a, vs, h1, rl.sub _ _ h2, h3⟩
  | loc h => rw [rep_loc] at r; obtain ⟨_, o, h1, vs, rfl, h2⟩ := rl.own _ _ h; exact ⟨_, vs, r, h1, h2⟩
theorem wO_cat {x y : A} {xs ys : List A} (hx : IsL μ x xs) (hy : IsL μ y ys) (hz : xs.length + ys.length ≤ sizeLine) (q : ∀ p, μ p = none → Q (.loc p) (μ.upd p (.lst (xs ++ ys)))) : wO X (binaryOp .Add) x y μ Q :=
  wO_of op_cat fun M F H v w rl r1 r2 => by
    obtain ⟨a, vs, e1, h1, h2⟩ := hx.rep rl r1
    obtain ⟨b, ws, e2, g1, g2⟩ := hy.rep rl r2
    refine ⟨a, b, vs, ws, e1, e2, h1, g1, by rw [h2.len, g2.len]; exact hz, fun p np => ?_⟩
    obtain ⟨nμ, rl'⟩ := rl.new (m := .lst (xs ++ ys)) np ⟨_, rfl, h2.append g2⟩
    exact ⟨_, _, _, .refl _, rl', rep_loc.mpr rfl, q p nμ⟩
theorem wO_catF {x y : A} {xs ys : List A} (hx : IsL μ x xs) (hy : IsL μ y ys) (hz : xs.length + ys.length ≤ sizeLine) (q : Q (.lst (xs ++ ys)) μ) : wO X (binaryOp .Add) x y μ Q :=
  wO_of op_cat fun M F H v w rl r1 r2 => by
    obtain ⟨a, vs, e1, h1, h2⟩ := hx.rep rl r1
    obtain ⟨b, ws, e2, g1, g2⟩ := hy.rep rl r2
    refine ⟨a, b, vs, ws, e1, e2, h1, g1, by rw [h2.len, g2.len]; exact hz, fun p np => ?_⟩
    obtain ⟨ex, rl'⟩ := rl.newF (o := .lst (vs ++ ws)) np
    exact ⟨_, _, _, ex, rl', rep_lst.mpr ⟨p, _, rfl, upd_same, (h2.append g2).mono ex⟩, q⟩
theorem rep_flat {K : PySem.W.Frag} {F : Hp} {xs : List A} {vs : List V} (h : RepL K F xs vs) : ∀ n : Nat, RepL K F (List.replicate n xs).flatten (List.replicate n vs).flatten
  | 0 => .nil
  | n + 1 => by rw [List.replicate_succ, List.replicate_succ, List.flatten_cons, List.flatten_cons]; exact h.append (rep_flat h n)
theorem wO_repF {x : A} {xs : List A} {k : Int} (hx : IsL μ x xs) (h1 : -(2 ^ 63) ≤ k) (h2 : k < 2 ^ 63) (hz : xs.length * k.toNat ≤ sizeLine) (q : Q (.lst (List.replicate k.toNat xs).flatten) μ) : wO X (binaryOp .Mult) x (.int k) μ Q :=
  wO_of op_rep fun M F H v w rl r1 r2 => by
    obtain ⟨a, vs, e1, g1, g2⟩ := hx.rep rl r1
    refine ⟨a, k, vs, e1, rep_int.mp r2, g1, h1, h2, by rw [g2.len]; exact hz, fun p np => ?_⟩
    obtain ⟨ex, rl'⟩ := rl.newF (o := .lst (List.replicate k.toNat vs).flatten) np
    exact ⟨_, _, _, ex, rl', rep_lst.mpr ⟨p, _, rfl, upd_same, (rep_flat g2 _).mono ex⟩, q⟩
theorem wSl_tup {xs : List A} {lo hi : Option Int} (q : Q (.tup (cutA xs lo hi)) μ) : wSl X (.tup xs) lo hi μ Q := fun M F H v rl r1 => rd_slr sl_tupA (by
  rw [rep_tup] at r1
  obtain ⟨a, vs, rfl, h1, h2⟩ := r1
  refine ⟨a, vs, rfl, rl.sub.t h1, fun e => ?_, fun _ p np => ?_⟩
  · refine .pure rl (rep_tup.mpr ⟨a, vs, rfl, h1, ?_⟩) q
    have e2 : cutA xs lo hi = xs := by
      unfold cutA
      rw [h2.len] at e
      rw [e.1, e.2]; simp
    rw [e2]; exact h2
  · obtain ⟨ex, rl'⟩ := rl.newF (o := .tup (cutV vs lo hi)) np
    exact ⟨_, _, _, ex, rl', rep_tup.mpr ⟨p, _, rfl, .inl (.inl upd_same), (cut_rep h2).mono ex⟩, q⟩)
/-! x in a list, x in a tuple -/
def flatA : A → Bool
  | .non | .bl _ | .int _ | .str _ => true
  | .ty _ | .loc _ | .tup _ | .lst _ | .fls _ => false
/-- a bool as a number -/
def numB (b : Bool) : Int := if b then 1 else 0
def isNon0 : A → Bool
  | .non => true
  | _ => false
def eqA : A → A → Bool
  | .str x, .str y => x == y
  | .int i, .int j => i == j
  | .bl s, .bl t => s == t
  | .bl s, .int j => numB s == j
  | .int i, .bl t => i == numB t
  | .non, y => isNon0 y
  | _, _ => false
def inA (x : A) (xs : List A) : Bool := xs.any fun y => eqA y x
theorem flat_rep {K : PySem.W.Frag} {F : Hp} {x : A} {v : V} (h : Rep K F x v) (f : flatA x = true) : flatV v = true := by
  cases x <;> simp [flatA] at f <;> simp only [Rep] at h <;> subst h <;> rfl
theorem eq_rep {K : PySem.W.Frag} {F : Hp} {x y : A} {v w : V} (h : Rep K F x v) (g : Rep K F y w) (f : flatA x = true) (f' : flatA y = true) : eqV v w = eqA x y := by
  cases x <;> simp [flatA] at f <;> cases y <;> simp [flatA] at f' <;> simp only [Rep] at h g <;> subst h <;> subst g <;> rfl
theorem flats_rep {K : PySem.W.Frag} {F : Hp} : ∀ {xs : List A} {vs : List V}, RepL K F xs vs → xs.all flatA = true → vs.all flatV = true
  | [], _, h, _ => by simp only [RepL] at h; subst h; rfl
  | x :: xs, _, h, f => by
    simp only [RepL] at h; obtain ⟨v, r, rfl, h1, h2⟩ := h
    rw [List.all_cons, Bool.and_eq_true] at f ⊢
    exact ⟨flat_rep h1 f.1, flats_rep h2 f.2⟩
theorem in_rep {K : PySem.W.Frag} {F : Hp} {y : A} {w : V} (g : Rep K F y w) (f' : flatA y = true) : ∀ {xs : List A} {vs : List V}, RepL K F xs vs → xs.all flatA = true → inV w vs = inA y xs
  | [], _, h, _ => by simp only [RepL] at h; subst h; rfl
  | x :: xs, _, h, f => by
    simp only [RepL] at h; obtain ⟨v, r, rfl, h1, h2⟩ := h
    obtain ⟨f1, f2⟩ := Bool.and_eq_true_iff.mp (List.all_cons ▸ f)
    have ih := in_rep g f' h2 f2
    unfold inV inA at ih ⊢
    rw [List.any_cons, List.any_cons, eq_rep h1 g f1 f', ih]
inductive IsQ (μ : Mu) : A → List A → Prop
  | lst (xs) : IsQ μ (.lst xs) xs
  | fls (xs) : IsQ μ (.fls xs) xs
  | tup (xs) : IsQ μ (.tup xs) xs
  | loc {p xs} (h : μ p = some (.lst xs)) : IsQ μ (.loc p) xs
theorem IsQ.rep {K : PySem.W.Frag} {M F H : Hp} {x : A} {xs : List A} {v : V} (h : IsQ μ x xs) (rl : Rel K μ M F H) (r : Rep K F x v) : ∃ p vs, v = .ref p ∧ (SqL K H p vs ∨ SqT K H p vs) ∧ RepL K F xs vs := by
  cases h with
  | lst => rw [rep_lst] at r; obtain ⟨a, vs, h1, h2, h3⟩ := r; exact ⟨a, vs, h1, .inl (.inl (.inl (rl.sub _ _ h2))), h3⟩
  | fls => rw [rep_fls] at r; obtain ⟨a, vs, h1, h2, h3⟩ := r; exact ⟨a, vs, h1, .inl (rl.sub.l h2), h3⟩
  | tup => rw [rep_tup] at r; obtain ⟨a, vs, h1, h2, h3⟩ := r; exact ⟨a, vs, h1, .inr (rl.sub.t h2), h3⟩
  | loc h => rw [rep_loc] at r; obtain ⟨_, o, h1, vs, rfl, h2⟩ := rl.own _ _ h; exact ⟨_, vs, r, .inl (.inl (.inl h1)), h2⟩
theorem wO_in {x y : A} {xs : List A} (hy : IsQ μ y xs) (hx : flatA x = true) (hs : xs.all flatA = true) (q : Q (.bl (inA x xs)) μ) : wO X (compareOp .In) x y μ Q :=
  wO_of op_in_seq fun M F H v w rl r1 r2 => by
    obtain ⟨p, vs, e, h1, h2⟩ := hy.rep rl r2
    refine ⟨p, vs, e, h1, flat_rep r1 hx, flats_rep h2 hs, .pure rl (rep_bl.mpr ?_) q⟩
    rw [in_rep r1 hx h2 hs]; simp
theorem wO_notIn {x y : A} {xs : List A} (hy : IsQ μ y xs) (hx : flatA x = true) (hs : xs.all flatA = true) (q : Q (.bl (!inA x xs)) μ) : wO X (compareOp .NotIn) x y μ Q :=
  wO_of op_notIn_seq fun M F H v w rl r1 r2 => by
    obtain ⟨p, vs, e, h1, h2⟩ := hy.rep rl r2
    refine ⟨p, vs, e, h1, flat_rep r1 hx, flats_rep h2 hs, .pure rl (rep_bl.mpr ?_) q⟩
    rw [in_rep r1 hx h2 hs]; simp
theorem wO_inSign {ch : Nat} {z : Str} (q : Q (.bl (decide (ch ∈ z.cps.toList))) μ) : wO X (compareOp .In) (.str ⟨#[ch]⟩) (.str z) μ Q :=
  wO_of op_in_sign fun M F H v w rl r1 r2 => ⟨ch, z, rep_str.mp r1, rep_str.mp r2, .pure rl (rep_bl.mpr rfl) q⟩

/-! ### calls of built-ins -/
theorem wC_of {f : Value} {r : List V → Hp → VK → Prop} {xs : List A} (h : CallR X f r) (q : ∀ M F H vs, Rel X.K μ M F H → RepL X.K F xs vs → r vs H (QE X.K M F Q)) : wC X f xs μ Q :=
  fun M F H vs rl r1 => ⟨fun pins s σ us I rv => h pins s σ H vs us _ I rv (q M F H vs rl r1)⟩
theorem callr_rd {f : Value} : CallR X f (rdC X f) := fun pins s σ H xs us Q I r h => h.o pins s σ us I r
theorem wE_callB {x : Str} {p : Pos} {id : String} (hm : X.mg x = none) (hv : bootBuiltins x = some (.builtin id)) (h : wA B X (e :: es) Γ μ fun xs μ1 => wC X (.builtin id) xs μ1 Q) (hg : Gl X x := by rfl) (hn : x ≠ "__name__" := by decide) (hdb : (x == ("__debug__" : Str)) = false := by decide)
    (he : starEach (e :: es) X.env = (false, eval e X.env) :: starEach es X.env := by rfl) (hpl : (backTo pos (starEach es X.env)).any (·.1) = false := by rfl) : wE B X (.Call (.Name x p) (e :: es) [] pos) Γ μ Q := wE_of (pe_callB callr_rd hg hm hv pa_rd hn hdb he hpl) fun σ M F H bo rs r => by
  refine (h σ M F H bo rs r).imp fun vs H1 ⟨xs, F1, μ1, e1, r1, p1, q1⟩ => ?_
  exact ⟨fun pins s σ' us I rv => thn ((q1 M F1 H1 vs r1 p1).o pins s σ' us I rv) fun _ _ ⟨z, H3, I3, r3, q3⟩ => ⟨z, H3, I3, r3, q3.mono e1⟩⟩
theorem wE_callTy {x : Str} {p : Pos} {T : String} (hm : X.mg x = none) (hv : bootBuiltins x = some (.type T)) (h : wA B X (e :: es) Γ μ fun xs μ1 => wC X (.type T) xs μ1 Q) (hg : Gl X x := by rfl) (hn : x ≠ "__name__" := by decide) (hdb : (x == ("__debug__" : Str)) = false := by decide)
    (he : starEach (e :: es) X.env = (false, eval e X.env) :: starEach es X.env := by rfl) (hpl : (backTo pos (starEach es X.env)).any (·.1) = false := by rfl) : wE B X (.Call (.Name x p) (e :: es) [] pos) Γ μ Q := wE_of (pe_callTy callr_rd hg hm hv pa_rd hn hdb he hpl) fun σ M F H bo rs r => by
  refine (h σ M F H bo rs r).imp fun vs H1 ⟨xs, F1, μ1, e1, r1, p1, q1⟩ => ?_
  exact ⟨fun pins s σ' us I rv => thn ((q1 M F1 H1 vs r1 p1).o pins s σ' us I rv) fun _ _ ⟨z, H3, I3, r3, q3⟩ => ⟨z, H3, I3, r3, q3.mono e1⟩⟩
theorem RepL.one {K : PySem.W.Frag} {F : Hp} {x : A} {vs : List V} (h : RepL K F [x] vs) : ∃ v, vs = [v] ∧ Rep K F x v := by
  simp only [RepL] at h; obtain ⟨v, r, rfl, h1, rfl⟩ := h; exact ⟨v, rfl, h1⟩
theorem RepL.two {K : PySem.W.Frag} {F : Hp} {x y : A} {vs : List V} (h : RepL K F [x, y] vs) : ∃ v w, vs = [v, w] ∧ Rep K F x v ∧ Rep K F y w := by
  simp only [RepL] at h; obtain ⟨v, r, rfl, h1, w, r', rfl, h2, rfl⟩ := h; exact ⟨v, w, rfl, h1, h2⟩
theorem wC_abs {i : Int} (q : Q (.int (if i < 0 then -i else i)) μ) : wC X (.builtin "abs") [.int i] μ Q := wC_of call_abs fun M F H vs rl r => by
  obtain ⟨v, rfl, h⟩ := r.one; rw [rep_int] at h; subst h
  exact ⟨i, rfl, .pure rl (rep_int.mpr rfl) q⟩
theorem wC_max2 {i j : Int} (hc : X.calm = true) (q : Q (.int (if j > i then j else i)) μ) : wC X (.builtin "max") [.int i, .int j] μ Q := wC_of (call_max2 hc) fun M F H vs rl r => by
  obtain ⟨v, w, rfl, h, h'⟩ := r.two; rw [rep_int] at h h'; subst h; subst h'
  exact ⟨i, j, rfl, .pure rl (rep_int.mpr rfl) q⟩
theorem wC_min2 {i j : Int} (hc : X.calm = true) (q : Q (.int (if j < i then j else i)) μ) : wC X (.builtin "min") [.int i, .int j] μ Q := wC_of (call_min2 hc) fun M F H vs rl r => by
  obtain ⟨v, w, rfl, h, h'⟩ := r.two; rw [rep_int] at h h'; subst h; subst h'
  exact ⟨i, j, rfl, .pure rl (rep_int.mpr rfl) q⟩
theorem wC_len {x : A} {xs : List A} (hx : IsQ μ x xs) (q : Q (.int xs.length) μ) : wC X (.builtin "len") [x] μ Q := wC_of call_len_seq fun M F H vs rl r => by
  obtain ⟨v, rfl, h⟩ := r.one
  obtain ⟨p, ws, e, h1, h2⟩ := hx.rep rl h
  exact ⟨p, ws, by rw [e], h1, .pure rl (rep_int.mpr (by rw [h2.len])) q⟩
theorem wC_lenS {x : Str} (hz : x.length ≤ sizeLine) (q : Q (.int x.length) μ) : wC X (.builtin "len") [.str x] μ Q := wC_of call_len_str fun M F H vs rl r => by
  obtain ⟨v, rfl, h⟩ := r.one; rw [rep_str] at h; subst h
  exact ⟨x, rfl, hz, .pure rl (rep_int.mpr rfl) q⟩
theorem wC_list {x : A} {xs : List A} (hx : IsQ μ x xs) (q : ∀ p, μ p = none → Q (.loc p) (μ.upd p (.lst xs))) : wC X (.type "list") [x] μ Q := wC_of call_list_of fun M F H vs rl r => by
  obtain ⟨v, rfl, h⟩ := r.one
  obtain ⟨p, ws, e, h1, h2⟩ := hx.rep rl h
  refine ⟨p, ws, by rw [e], h1, fun l nl => ?_⟩
  obtain ⟨nμ, rl'⟩ := rl.new (m := .lst xs) nl ⟨_, rfl, h2⟩
  exact ⟨_, _, _, .refl _, rl', rep_loc.mpr rfl, q l nμ⟩
theorem wC_listF {x : A} {xs : List A} (hx : IsQ μ x xs) (q : Q (.lst xs) μ) : wC X (.type "list") [x] μ Q := wC_of call_list_of fun M F H vs rl r => by
  obtain ⟨v, rfl, h⟩ := r.one
  obtain ⟨p, ws, e, h1, h2⟩ := hx.rep rl h
  refine ⟨p, ws, by rw [e], h1, fun l nl => ?_⟩
  obtain ⟨ex, rl'⟩ := rl.newF (o := .lst ws) nl
  exact ⟨_, _, _, ex, rl', rep_lst.mpr ⟨l, _, rfl, upd_same, h2.mono ex⟩, q⟩
theorem wC_tuple {x : A} {xs : List A} (hx : IsL μ x xs) (q : Q (.tup xs) μ) : wC X (.type "tuple") [x] μ Q := wC_of call_tuple_of fun M F H vs rl r => by
  obtain ⟨v, rfl, h⟩ := r.one
  obtain ⟨p, ws, e, h1, h2⟩ := hx.rep rl h
  refine ⟨p, ws, by rw [e], .inl ⟨.inl (.inl h1), fun l nl => ?_⟩⟩
  obtain ⟨ex, rl'⟩ := rl.newF (o := .tup ws) nl
  exact ⟨_, _, _, ex, rl', rep_tup.mpr ⟨l, _, rfl, .inl (.inl upd_same), h2.mono ex⟩, q⟩
theorem wC_tupleT {xs : List A} (q : Q (.tup xs) μ) : wC X (.type "tuple") [.tup xs] μ Q := wC_of call_tupleT fun M F H vs rl r => by
  obtain ⟨v, rfl, h⟩ := r.one
  have h0 := h
  rw [rep_tup] at h
  obtain ⟨p, ws, rfl, h1, h2⟩ := h
  exact ⟨p, ws, rfl, rl.sub.t h1, .pure rl h0 q⟩
theorem IsL.q {x : A} {xs : List A} (h : IsL μ x xs) : IsQ μ x xs := by
  cases h with
  | lst => exact .lst _
  | loc h => exact .loc h
/-! sums, greatest, least, all -/
theorem repL_int' {K : PySem.W.Frag} {F : Hp} {ns : List Int} {vs : List V} (h : RepL K F (ns.map A.int) vs) : vs = ns.map V.int := repL_ints h
theorem wC_min {x : A} {ns : List Int} (hc : X.calm = true) (hx : IsL μ x (ns.map A.int)) (hn : 0 < ns.length) (q : ∀ m, m ∈ ns → (∀ y, y ∈ ns → m ≤ y) → Q (.int m) μ) : wC X (.builtin "min") [x] μ Q := wC_of (cr_min hc) fun M F H vs rl r => by
  obtain ⟨v, rfl, h⟩ := r.one
  obtain ⟨p, ws, e, h1, h2⟩ := hx.rep rl h
  rw [repL_ints h2] at h1
  exact ⟨p, ns, by rw [e], .inl (.inl h1), hn, fun m h3 h4 => .pure rl (rep_int.mpr rfl) (q m h3 h4)⟩
theorem wC_max {x : A} {ns : List Int} (hc : X.calm = true) (hx : IsL μ x (ns.map A.int)) (hn : 0 < ns.length) (q : ∀ m, m ∈ ns → (∀ y, y ∈ ns → y ≤ m) → Q (.int m) μ) : wC X (.builtin "max") [x] μ Q := wC_of (cr_max hc) fun M F H vs rl r => by
  obtain ⟨v, rfl, h⟩ := r.one
  obtain ⟨p, ws, e, h1, h2⟩ := hx.rep rl h
  rw [repL_ints h2] at h1
  exact ⟨p, ns, by rw [e], .inl (.inl h1), hn, fun m h3 h4 => .pure rl (rep_int.mpr rfl) (q m h3 h4)⟩
theorem wC_sum {x : A} {ns : List Int} (hc : X.calm = true) (hx : IsL μ x (ns.map A.int)) (q : Q (.int ns.sum) μ) : wC X (.builtin "sum") [x] μ Q := wC_of (cr_sum hc) fun M F H vs rl r => by
  obtain ⟨v, rfl, h⟩ := r.one
  obtain ⟨p, ws, e, h1, h2⟩ := hx.rep rl h
  rw [repL_ints h2] at h1
  exact ⟨p, ns, by rw [e], .inl (.inl h1), .pure rl (rep_int.mpr rfl) q⟩
theorem wC_all {x : A} {ns : List Bool} (hc : X.calm = true) (hx : IsL μ x (ns.map A.bl)) (q : Q (.bl (ns.all id)) μ) : wC X (.builtin "all") [x] μ Q := wC_of (cr_all hc) fun M F H vs rl r => by
  obtain ⟨v, rfl, h⟩ := r.one
  obtain ⟨p, ws, e, h1, h2⟩ := hx.rep rl h
  rw [repL_bls h2] at h1
  exact ⟨p, ns, by rw [e], .inl (.inl h1), .pure rl (rep_bl.mpr rfl) q⟩
theorem wC_any {x : A} {ns : List Bool} (hc : X.calm = true) (hx : IsL μ x (ns.map A.bl)) (q : Q (.bl (ns.any id)) μ) : wC X (.builtin "any") [x] μ Q := wC_of (cr_any hc) fun M F H vs rl r => by
  obtain ⟨v, rfl, h⟩ := r.one
  obtain ⟨p, ws, e, h1, h2⟩ := hx.rep rl h
  rw [repL_bls h2] at h1
  exact ⟨p, ns, by rw [e], .inl (.inl h1), .pure rl (rep_bl.mpr rfl) q⟩
theorem wC_intI {i : Int} (q : Q (.int i) μ) : wC X (.type "int") [.int i] μ Q := wC_of call_int1 fun M F H vs rl r => by
  obtain ⟨v, rfl, h⟩ := r.one; rw [rep_int] at h; subst h
  exact .inl ⟨i, rfl, .pure rl (rep_int.mpr rfl) q⟩
theorem wC_intB {i : Bool} (q : Q (.int (if i then 1 else 0)) μ) : wC X (.type "int") [.bl i] μ Q := wC_of call_int1 fun M F H vs rl r => by
  obtain ⟨v, rfl, h⟩ := r.one; rw [rep_bl] at h; subst h
  exact .inr ⟨i, rfl, .pure rl (rep_int.mpr rfl) q⟩
theorem wC_boolI {i : Int} (q : Q (.bl (i != 0)) μ) : wC X (.type "bool") [.int i] μ Q := wC_of call_bool1 fun M F H vs rl r => by
  obtain ⟨v, rfl, h⟩ := r.one; rw [rep_int] at h; subst h
  exact .inl ⟨i, rfl, .pure rl (rep_bl.mpr rfl) q⟩
theorem wC_strI {i : Int} (hz : i.natAbs.log2 < 1920) (q : Q (.str (toString i)) μ) : wC X (.type "str") [.int i] μ Q := wC_of call_str_int fun M F H vs rl r => by
  obtain ⟨v, rfl, h⟩ := r.one; rw [rep_int] at h; subst h
  exact ⟨i, rfl, hz, .pure rl (rep_str.mpr rfl) q⟩
/-! isinstance with a built-in class -/
def tyN (μ : Mu) : A → Option String
  | .non => some "NoneType" | .bl _ => some "bool" | .int _ => some "int" | .str _ => some "str" | .tup _ => some "tuple" | .lst _ => some "list"
  | .loc p => (match μ p with | some (.lst _) => some "list" | some (.dic _) => some "dict" | _ => none)
  | _ => none
theorem tyX_of {K : PySem.W.Frag} {M F H : Hp} {x : A} {n : String} {v : V} (rl : Rel K μ M F H) (r : Rep K F x v) (h : tyN μ x = some n) : TyX K H v (.type n) := by
  cases x with
  | non => rw [rep_non] at r; subst r; cases h; exact .base .non
  | bl b => rw [rep_bl] at r; subst r; cases h; exact .base (.bl b)
  | int i => rw [rep_int] at r; subst r; cases h; exact .base (.int i)
  | str i => rw [rep_str] at r; subst r; cases h; exact .base (.str i)
  | ty i => cases h
  | fls i => cases h
  | tup i =>
    rw [rep_tup] at r; obtain ⟨a, vs, rfl, g1, g2⟩ := r; cases h
    rcases rl.sub.t g1 with (g | ⟨o, g⟩) | ⟨o, its, n, g, gc, _⟩
    · exact .base (.tup g)
    · exact .fTuple g
    · exact .kTuple g gc
  | lst i => rw [rep_lst] at r; obtain ⟨a, vs, rfl, g1, g2⟩ := r; cases h; exact .base (.lst (rl.sub _ _ g1))
  | loc p =>
    rw [rep_loc] at r; subst r
    simp only [tyN] at h
    split at h
    · rename_i xs e; cases h; obtain ⟨_, o, g1, vs, rfl, _⟩ := rl.own _ _ e; exact .base (.lst g1)
    · rename_i xs e; cases h; obtain ⟨_, o, g1, vs, rfl, _⟩ := rl.own _ _ e; exact .base (.dK g1)
    · cases h
theorem wC_isi {x : A} {n m : String} {k : Bool} (hx : tyN μ x = some n) (hk : kitB n m = some k) (q : Q (.bl k) μ) : wC X (.builtin "isinstance") [x, .ty m] μ Q := wC_of call_isi fun M F H vs rl r => by
  obtain ⟨v, w, rfl, h, h'⟩ := r.two
  rw [rep_ty] at h'; subst h'
  exact ⟨v, _, _, _, k, rfl, .ty m, tyX_of rl h hx, kit_ty hk, .pure rl (rep_bl.mpr rfl) q⟩
end
end D

set_option Elab.async false
set_option linter.all false
set_option maxRecDepth 100000
set_option maxHeartbeats 4000000
/-! D4: a def's promise over data, its call, its body; the law's own end. What is known of the runs around: room, and that nothing is being shown. -/
namespace D
open PySem PySem.Spec PyProof.Rows L2

/-- a promise over data: the arguments, what may change, what is wanted of the answer, what is wanted of an exception -/
abbrev AC := List A → Mu → (A → Mu → Prop) → (Value → Option Addr → Mu → Prop) → Prop
def spOf (K : PySem.W.Frag) (c : AC) : Sp := fun vs H Q E => ∃ (xs : List A) (F M : Hp) (μ : Mu) (Q0 : A → Mu → Prop) (E0 : Value → Option Addr → Mu → Prop), RepL K F xs vs ∧ Rel K μ M F H ∧ c xs μ Q0 E0 ∧
  (∀ y μ' F' H' v, Q0 y μ' → Ex F F' → Rel K μ' M F' H' → Rep K F' y v → Q v H') ∧ (∀ cls d μ' F' H', E0 cls d μ' → Ex F F' → Rel K μ' M F' H' → E cls d H')

structure FnD (P : Program) (w : World) (K : PySem.W.Frag) (mg : Str → Option Value) (base : Heap) (CX : CXT) (k : Nat) (f : Addr) (fd : FuncData) (ps : List Str) (c : AC) : Prop where
  len : ∀ xs μ Q E, c xs μ Q E → xs.length = ps.length
  run : ∀ (A : Around) (outer : List Env) (s : Shared) (H : Hp) (args : Args) (us : List Value) (vs : List V) (Q : VK) (E : XK), Room k A → A.guards = some [] → Env0 P w K mg base A outer s H → BindsTo s fd args (ps.zip us) → Vals vs us →
    spOf K c vs H Q E → codeAny (model P w) A (.call (.ref f) args) (CR CX outer P w H s Q E) s
section
variable {P : Program} {w : World} {mg : Str → Option Value} {base : Heap} {K : PySem.W.Frag} {CX : CXT} {k : Nat} {f : Addr} {fd : FuncData} {ps : List Str} {c : AC}
theorem FnD.up {j : Nat} (F : FnD P w K mg base CX j f fd ps c) (h : j ≤ k) : FnD P w K mg base CX k f fd ps c := { len := F.len, run := fun A outer s H args us vs Q E hr => F.run A outer s H args us vs Q E (hr.mono h) }
theorem FnD.imp {c' : AC} (F : FnD P w K mg base CX k f fd ps c) (h : ∀ xs μ Q E, c' xs μ Q E → c xs μ Q E) : FnD P w K mg base CX k f fd ps c' :=
  { len := fun xs μ Q E q => F.len xs μ Q E (h xs μ Q E q)
    run := fun A outer s H args us vs Q E hr hg e0 hb hv ⟨xs, F1, M, μ, Q0, E0, h1, h2, h3, h4⟩ => F.run A outer s H args us vs Q E hr hg e0 hb hv ⟨xs, F1, M, μ, Q0, E0, h1, h2, h xs μ Q0 E0 h3, h4⟩ }
theorem spOf.len {vs : List V} {H : Hp} {Q : VK} {E : XK} (hl : ∀ xs μ Q E, c xs μ Q E → xs.length = ps.length) (h : spOf K c vs H Q E) : vs.length = ps.length := by
  obtain ⟨xs, F, M, μ, Q0, E0, h1, _, h3, _⟩ := h
  rw [h1.len]; exact hl _ _ _ _ h3
end

/-- what is known around a body -/
structure Ar (X : Cx) (k : Nat) : Prop where
  room : Room k X.A
  show0 : X.A.guards = some []
theorem Ar.mono {X : Cx} {j k : Nat} (h : Ar X k) (hj : j ≤ k) : Ar X j := ⟨h.room.mono hj, h.show0⟩
theorem Ar.u64 {X : Cx} {k : Nat} (h : Ar X k) : X.A.units + 64 < cLine := h.room.units
theorem Ar.u1 {X : Cx} {k : Nat} (h : Ar X k) : X.A.units + 1 < cLine := hu_of h.room

/-! ### the call -/
section
variable {B : Bs} {X : Cx} {CX : CXT} {k : Nat} {f : Addr} {fd : FuncData} {ps : List Str} {c : AC} {Γ : G} {μ : Mu} {Q : A → Mu → Prop} {e : Expr} {es : List Expr} {pos p : Pos} {x : Str} {E : XK}
theorem runD {pins : List (Addr × Obj)} {σ : L2.St} {H : Hp} {s : Shared} {R : VK} {us ds : List Value} {vs dvs : List V} (F : FnD X.prog X.w X.K X.mg X.base CX k f fd ps c) (ar : Ar X k) (bi : Binds X.K fd ps ds) (dv : Vals dvs ds) (pa : Passes CX X E)
    (I : Inv X pins σ H s) (rv : Vals vs us) (sp : spOf X.K c (vs ++ dvs) H R E) : wpAny (model X.prog X.w) X.A (call (.ref f) us) (EP X pins σ R) X.xe s := by
  have all := rv.append dv
  have many : (us ++ ds).length = ps.length := all.length.symm.trans (spOf.len F.len sp)
  have go := F.run X.A X.stack s H ⟨us, []⟩ (us ++ ds) (vs ++ dvs) R E ar.room ar.show0 I.env0 (bi s us I.kIn many) all sp
  refine wpAny_call (codeAny_mono go fun res s2 end2 => ?_)
  match res, end2 with
  | .error e2, end2 => exact pa pins σ H s e2 s2 I end2
  | .ok (.ret u), end2 => exact I.after end2
  | .ok .next, end2 => exact end2.elim
  | .ok .brk, end2 => exact end2.elim
  | .ok .cont, end2 => exact end2.elim
/-- how a def is found by its name, and bound: what a caller needs besides the promise -/
structure At (X : Cx) (x : Str) (f : Addr) (fd : FuncData) (ps : List Str) (ds : List Value) : Prop where
  mg : X.mg x = some (.ref f)
  kp : PySem.W.keepIn X.K (.ref f) = true
  bi : Binds X.K fd ps ds
theorem wE_callX {ds : List Value} {dvs : List V} {das : List A} {E0 : Value → Option Addr → Mu → Prop} (F : FnD X.prog X.w X.K X.mg X.base CX k f fd ps c) (at0 : At X x f fd ps ds) (ar : Ar X k) (dv : Vals dvs ds) (da : ∀ F, RepL X.K F das dvs)
    (pa : ∀ M F, Passes CX X (fun cls d H' => ∃ F' μ', Ex F F' ∧ Rel X.K μ' M F' H' ∧ E0 cls d μ'))
    (h : wA B X (e :: es) Γ μ fun xs μ1 => c (xs ++ das) μ1 Q E0) (hg : Gl X x := by rfl) (hdb : (x == ("__debug__" : Str)) = false := by decide)
    (he : starEach (e :: es) X.env = (false, eval e X.env) :: starEach es X.env := by rfl) (hpl : (backTo pos (starEach es X.env)).any (·.1) = false := by rfl) : wE B X (.Call (.Name x p) (e :: es) [] pos) Γ μ Q := by
  intro σ M F0 H bo rs rl
  refine ⟨fun pins s I => ?_⟩
  refine wpAny_Call_Name_kw (ld_glob I hg at0.mg ?_ hdb)
  refine PySem.W.callWith_K (h₀ := X.base) I.ok.mod.kin at0.kp (thn ((h σ M F0 H bo rs rl).o pos pins s I) fun us s1 got => ?_) he hpl
  obtain ⟨vs, H1, I1, rv, xs, F1, μ1, ex, rl1, rp, hc⟩ := got
  refine ⟨I1.kIn, runD F ar at0.bi dv (pa M F0) I1 rv ⟨xs ++ das, F1, M, μ1, Q, E0, rp.append (da F1), rl1, hc, fun y μ' F' H' v q e1 r1 p1 => ?_, fun cls d μ' F' H' q e1 r1 => ?_⟩⟩
  · exact ⟨y, F', μ', ex.trans e1, r1, p1, q⟩
  · exact ⟨F', μ', ex.trans e1, r1, q⟩
/-- f(e, ..) where nothing is raised -/
theorem wE_call (F : FnD X.prog X.w X.K X.mg X.base CX0 k f fd ps c) (at0 : At X x f fd ps []) (ar : Ar X k) (h : wA B X (e :: es) Γ μ fun xs μ1 => c xs μ1 Q fun _ _ _ => False) (hg : Gl X x := by rfl) (hdb : (x == ("__debug__" : Str)) = false := by decide)
    (he : starEach (e :: es) X.env = (false, eval e X.env) :: starEach es X.env := by rfl) (hpl : (backTo pos (starEach es X.env)).any (·.1) = false := by rfl) : wE B X (.Call (.Name x p) (e :: es) [] pos) Γ μ Q :=
  wE_callX (das := []) (dvs := []) F at0 ar .nil (fun _ => .nil) (fun _ _ _ _ _ _ _ _ _ z => z.elim) (by simpa only [List.append_nil] using h) hg hdb he hpl
/-- .. where defaults fill up -/
theorem wE_callD {ds : List Value} {dvs : List V} (das : List A) (F : FnD X.prog X.w X.K X.mg X.base CX0 k f fd ps c) (at0 : At X x f fd ps ds) (ar : Ar X k) (dv : Vals dvs ds) (da : ∀ F, RepL X.K F das dvs) (h : wA B X (e :: es) Γ μ fun xs μ1 => c (xs ++ das) μ1 Q fun _ _ _ => False) (hg : Gl X x := by rfl) (hdb : (x == ("__debug__" : Str)) = false := by decide)
    (he : starEach (e :: es) X.env = (false, eval e X.env) :: starEach es X.env := by rfl) (hpl : (backTo pos (starEach es X.env)).any (·.1) = false := by rfl) : wE B X (.Call (.Name x p) (e :: es) [] pos) Γ μ Q :=
  wE_callX F at0 ar dv da (fun _ _ _ _ _ _ _ _ _ z => z.elim) h hg hdb he hpl
/-- f() -/
theorem wE_call0 (F : FnD X.prog X.w X.K X.mg X.base CX0 k f fd ps c) (at0 : At X x f fd ps []) (ar : Ar X k) (h : c [] μ Q fun _ _ _ => False) (hg : Gl X x := by rfl) (hdb : (x == ("__debug__" : Str)) = false := by decide) : wE B X (.Call (.Name x p) [] [] pos) Γ μ Q := by
  intro σ M F0 H bo rs rl
  refine ⟨fun pins s I => ?_⟩
  refine wpAny_Call_Name_kw (ld_glob I hg at0.mg ?_ hdb)
  refine PySem.W.callWith_K0 I.kIn at0.kp (runD (us := []) (vs := []) (dvs := []) (E := fun _ _ _ => False) F ar at0.bi .nil (fun _ _ _ _ _ _ _ z => z.elim) I .nil ⟨[], F0, M, μ, Q, _, .nil, rl, h, fun y μ' F' H' v q e1 r1 p1 => ?_, fun cls d μ' F' H' q e1 r1 => q⟩)
  exact ⟨y, F', μ', e1, r1, p1, q⟩
end

/-! ### the body -/
/-- the names' data at the entry -/
def startA (N : List Str) (xs : List A) : G := xs.map some ++ List.replicate (N.length - xs.length) none
theorem relS_start {K : PySem.W.Frag} {F : Hp} {xs : List A} {vs : List V} (N : List Str) (h : RepL K F xs vs) : RelS K (startA N xs) F (L2.start N vs) := by
  unfold startA L2.start
  have hl := h.len
  refine ⟨by simp [hl], fun i x q => ?_⟩
  by_cases hi : i < xs.length
  · rw [List.getElem?_append_left (by simpa using hi), List.getElem?_map] at q
    cases e : xs[i]? with
    | none => rw [e] at q; cases q
    | some y =>
      rw [e] at q; cases q
      obtain ⟨v, h1, h2⟩ := h.get e
      refine ⟨v, ?_, h2⟩
      rw [List.getElem?_append_left (by rw [List.length_map, hl]; exact hi), List.getElem?_map, h1]; rfl
  · rw [List.getElem?_append_right (by simpa using hi), List.getElem?_replicate] at q
    split at q <;> cases q

section
variable {P : Program} {w : World} {mg : Str → Option Value} {base : Heap} {K : PySem.W.Frag}
/-- the context of a def's body that lets nothing out -/
abbrev cx0 (P : Program) (w : World) (K : PySem.W.Frag) (mg : Str → Option Value) (base : Heap) (N : List Str) (qual : Str) (sc : Scope) (f : Addr) (cdv : Value) (A : Around) (outer : List Env) (s : Shared) (H : Hp) (E : XK) : Cx := (cxOf CX0 P w K mg base N qual sc f cdv A outer s H E).nox
theorem FnD.body {CX : CXT} {k : Nat} {f : Addr} {name qual : Str} {params : Arguments} {body : List Stmt} {scope : Scope} {dV kV doc pm cdv ct oc : Value} {an od : Option Addr} {osl : Array (Option Value)} {N ps : List Str} {c : AC}
    (lk : K.lookup f = some ⟨oc, od, .func (PySem.W.fnOf name qual params body scope dV kV doc pm an cdv ct), osl⟩) (hcd : PySem.W.codeIn K cdv qual = true) (S : FnScope N ps scope) (len : ∀ xs μ Q E, c xs μ Q E → xs.length = ps.length)
    (go : ∀ (A : Around) (outer : List Env) (s : Shared) (H : Hp) (vs : List V) (Q : VK) (E : XK), Room k (A.deeper (envOfC qual scope s.heap.objs.size f cdv)) → A.guards = some [] → spOf K c vs H Q E →
      rdSs (cxOf CX P w K mg base N qual scope f cdv A outer s H E) body { nx := fun _ H' => Q .non H', rt := Q } (L2.start N vs) H) : FnD P w K mg base CX (k + 1) f (PySem.W.fnOf name qual params body scope dV kV doc pm an cdv ct) ps c := by
  refine { len := len, run := fun A outer s H args us vs Q E room sh e0 bound rv sp => ?_ }
  have many : vs.length = ps.length := spOf.len len sp
  have inK : K.In s.heap := e0.mod.kin.keeps fun b o z => (e0.bs b o z).1
  have noLim : s.heap.NoLimit := e0.mod.nolimit.keeps fun b o z => (e0.bs b o z).1
  have kinds : ∀ y ∈ ps.zip us, scope.names.lookup y.1 = some .local ∨ (scope.names.lookup y.1 = some .cell ∧ ((cellsFrom (s.heap.objs.size + 1) scope.names []).lookup y.1).isSome = true) := by
    intro y hy
    obtain ⟨n, v⟩ := y
    have hn := S.par n (List.of_mem_zip hy).1
    exact hn.elim .inl fun z => .inr ⟨z, PySem.W.cellsFrom_some _ _ _ (.inl z)⟩
  refine codeAny_call_function room.depth (inK _ _ lk) rfl S.co S.gen rfl (PySem.W.codeRec_of inK hcd) (bound _ _ _ _ ?_)
  refine wpAny_newFunctionEnv_cells S.kind kinds fun env he s1 new => ?_
  subst he
  refine ⟨noLim.keeps new.toInCall.keep, codeAny_func ?_⟩
  have I := inv_start (CX := CX) (P := P) (w := w) (mg := mg) (base := base) (N := N) (outer := outer) (E := E) S room.hd e0 many rv new
  refine wpAny_mono ((go A outer s H vs Q E (room.deeper _) sh sp).o [] s1 I) (fun fl s2 q => ?_) fun e2 s2 q => q
  have fin : ∀ {σ2 : L2.St} {H2 : Hp} {v : V} {u : Value}, Inv (cxOf CX P w K mg base N qual scope f cdv A outer s H E) [] σ2 H2 s2 → RelV v u → Q v H2 → CE outer P w H s Q u s2 :=
    fun {σ2 H2 v u} J r q => ⟨v, H2, J.os, J.bare, J.base, J.hok, r, q⟩
  match fl, q with
  | .ret u, ⟨v, σ2, H2, J, r, q⟩ => exact fin J r q
  | .next, ⟨σ2, H2, J, q⟩ => exact fin (v := V.non) (u := Value.none) J rfl q
  | .brk, ⟨_, _, _, q⟩ => exact q.elim
  | .cont, ⟨_, _, _, q⟩ => exact q.elim
theorem rdSs_nox {X : Cx} {st : List Stmt} {D : Ends} {σ : L2.St} {H : Hp} (h : rdSs X.nox st D σ H) : rdSs X st D σ H := rd_pss (PSs.nox pss_rd) h
/-- THE RULE for a def that lets nothing out: its body over data -/
theorem fnD {x qual : Str} {st : Stmt} {f : Addr} {fd : FuncData} {N ps : List Str} {k : Nat} {c : AC} (F : Fun K x qual st f fd) (S : FnScope N ps (defScope st)) (len : ∀ xs μ Q E, c xs μ Q E → xs.length = ps.length)
    (go : ∀ {B : Bs} (cdv : Value) (A : Around) (outer : List Env) (s : Shared) (H : Hp) (E : XK) (xs : List D.A) (μ : Mu) (Q : D.A → Mu → Prop) (E0 : Value → Option Addr → Mu → Prop), Ar (cx0 P w K mg base N qual (defScope st) f cdv A outer s H E) k → c xs μ Q E0 →
      wSs B (cx0 P w K mg base N qual (defScope st) f cdv A outer s H E) (defBody st) (startA N xs) μ { nx := fun _ μ' => Q .non μ', rt := Q }) : FnD P w K mg base CX0 (k + 1) f fd ps c := by
  obtain ⟨oc, od, kV, doc, pm, an, cdv, ct, osl, rfl, lk, hcd⟩ := F.ex
  refine FnD.body lk hcd S len fun A outer s H vs Q E room sh sp => rdSs_nox ?_
  obtain ⟨xs, F0, M, μ, Q0, E0, rp, rl, hc, hq, he⟩ := sp
  refine (go cdv A outer s H E xs μ Q0 E0 ⟨room, sh⟩ hc (L2.start N vs) M F0 H (Bs.ok.own M F0) (relS_start N rp) rl).imp (fun σ2 H2 q => ?_) (fun v H2 q => ?_) (fun σ2 H2 q => ?_) (fun σ2 H2 q => ?_)
  · obtain ⟨Γ', F', μ', ex, _, rl', q⟩ := q
    exact hq .non μ' F' H2 .non q ex rl' (rep_non.mpr rfl)
  · obtain ⟨y, F', μ', ex, rl', rp', q⟩ := q
    exact hq y μ' F' H2 v q ex rl' rp'
  · obtain ⟨_, _, _, _, _, _, q⟩ := q; exact q
  · obtain ⟨_, _, _, _, _, _, q⟩ := q; exact q
end

/-! ### the law's end -/
theorem law_end {P : Program} {w : World} {K : PySem.W.Frag} {mg mb : Str → Option Value} {CX : CXT} {k : Nat} {fa a : Addr} {fd : FuncData} {x : Str} {c : AC} {s1 : Shared} {vs : List Value} {ns : List Int}
    (inK : K.In s1.heap) (gl : s1.heap.Ns mainGlobals mg) (bl : s1.heap.Ns builtinsNs mb) (bl2 : ∀ x : Str, x ≠ "__name__" → mb x = bootBuiltins x) (lim : s1.heap.NoLimit) (gens : s1.gens = #[])
    (obj : s1.heap.get? a = some { cls := .type "list", data := .seq vs.toArray }) (hints : IntsAre vs ns) (len : ns.length ≤ sizeLine) (room : Room k callerA)
    (F : ∀ base : Heap, K.In base → base.Ns mainGlobals mg → FnD P w K mg base CX k fa fd [x] c) (bind : ∀ (s : Shared) (u : Value), BindsTo s fd ⟨[u], []⟩ [(x, u)])
    (hc : c [.fls (ns.map A.int)] (fun _ => none) (fun y _ => y = .bl true) fun _ _ _ => False) (hCX : ∀ H e s', CX [] H s1 (fun _ _ _ => False) e s' → False) :
    codeAny (model P w) callerA (.call (.ref fa) ⟨[.ref a], []⟩) (fun r s' => r = .ok (.ret (.bool true)) ∧ OldK s1.heap s'.heap ∧ s'.os = s1.os ∧ AllBare s'.gens) s1 := by
  have rv := vals_ints hints
  have many := hints.length
  have main : ∀ H : Hp, Only H → SqL K H a (ns.map V.int) → HOk P w H s1.heap → (∀ b, H b ≠ none → b = a) → (H a ≠ none → K.lookup a = none) →
      codeAny (model P w) callerA (.call (.ref fa) ⟨[.ref a], []⟩) (fun r s' => r = .ok (.ret (.bool true)) ∧ OldK s1.heap s'.heap ∧ s'.os = s1.os ∧ AllBare s'.gens) s1 := by
    intro H only sq hok isA notK
    have off : ∀ {b : Addr} {o : Obj} {es : Array DictEntry} {ep : Nat}, s1.heap.get? b = some o → o.data = .dict es ep → H b = none := by
      intro b o es ep e d
      match q : H b with
      | none => rfl
      | some u =>
        obtain rfl : b = a := isA b (by rw [q]; exact fun z => nomatch z)
        rw [obj] at e
        cases e
        exact nomatch d
    have ns' : ∀ {b : Addr} {m : Str → Option Value}, s1.heap.Ns b m → (hidT s1.heap H).Ns b m := by
      intro b m h
      obtain ⟨o, es, ep, e, d, r⟩ := h
      exact ⟨o, es, ep, hidT_get e (off e d), d, r⟩
    have inKb : K.In (hidT s1.heap H) := by
      intro b o e
      refine hidT_get (inK b o e) ?_
      match q : H b with
      | none => rfl
      | some u =>
        obtain rfl : b = a := isA b (by rw [q]; exact fun z => nomatch z)
        rw [notK (by rw [q]; exact fun z => nomatch z)] at e
        cases e
    obtain ⟨mc, l1, l2⟩ := lim
    have e0 : Env0 P w K mg (hidT s1.heap H) callerA [] s1 H :=
      { frames := rfl, mod := ⟨inKb, ns' gl, ⟨mb, ns' bl, bl2⟩, ⟨mc, ns' l1, l2⟩⟩, bs := fun b o e => of_hidT e, bsz := Nat.le_of_eq (hidT_size _ _), funs := trivial, frf := fun b hb => (List.not_mem_nil hb).elim, hok := hok, bare := .of_eq gens }
    have rl : Rel K (fun _ => none) (fun _ => none) H H := ⟨.refl _, fun _ _ z => (nomatch z), fun _ _ z => (nomatch z)⟩
    have sp : spOf K c [.ref a] H (fun v _ => v = .bl true) (fun _ _ _ => False) :=
      ⟨[.fls (ns.map A.int)], H, fun _ => none, fun _ => none, _, _, .cons (rep_fls.mpr ⟨a, _, rfl, sq, .map (fun i => rep_int.mpr rfl) ns⟩) .nil, rl, hc, fun y μ' F' H' v q _ _ r => by rw [q, rep_bl] at r; exact r, fun _ _ _ _ _ z _ _ => z⟩
    refine codeAny_mono ((F _ inKb (ns' gl)).run callerA [] s1 H ⟨[.ref a], []⟩ [.ref a] [.ref a] _ _ room rfl e0 (bind s1 (.ref a)) (.cons rfl .nil) sp) fun r s2 h => ?_
    match r, h with
    | .error e, h => exact (hCX H e s2 h).elim
    | .ok .next, h => exact h.elim
    | .ok .brk, h => exact h.elim
    | .ok .cont, h => exact h.elim
    | .ok (.ret u), ⟨v, H2, os, bare, un, hok2, rv2, q⟩ =>
      have q2 : v = .bl true := q
      subst q2
      obtain rfl : u = Value.bool true := rv2
      suffices keep : ∀ b o, s1.heap.get? b = some o → s2.heap.get? b = some o from ⟨rfl, OldK.of_keep keep, os, bare⟩
      intro b o e
      match q3 : H b with
      | none => exact un.keep b o e q3 List.not_mem_nil List.not_mem_nil
      | some u3 =>
        rcases only b with z | ⟨ob, xs, z⟩
        · rw [z] at q3; cases q3
        · obtain ⟨g1, _⟩ := hok b _ z
          obtain ⟨g2, _⟩ := hok2 b _ (un.frzs b ob _ z)
          rw [g1] at e; cases e
          exact g2
  match hk : K.lookup a with
  | some o =>
    have e := inK a o hk
    rw [obj] at e
    cases e
    exact main (fun _ => none) (fun _ => .inl rfl) (.inr ⟨_, vs.toArray, _, hk, rfl, rfl, rfl, by rw [List.size_toArray, many]; exact len, by simpa using rv⟩) (fun _ _ z => nomatch z) (fun _ z => absurd rfl z) fun z => absurd rfl z
  | none =>
    refine main (upd (fun _ => none) a (.frz { cls := .type "list", data := .seq vs.toArray } (.lst (ns.map V.int)))) (fun b => ?_) (.inl (.inr ⟨_, upd_same⟩)) (fun b u z => ?_) (fun b z => ?_) fun _ => hk
    · by_cases hb : b = a
      · subst hb; exact .inr ⟨_, _, upd_same⟩
      · exact .inl (upd_ne hb)
    · by_cases hb : b = a
      · subst hb
        rw [upd_same] at z; cases z
        exact ⟨obj, by rw [List.length_map]; exact len, vs, _, rv, obj⟩
      · rw [upd_ne hb] at z; cases z
    · exact Classical.byContradiction fun hb => z (upd_ne hb)
/-- the goal that k_head leaves, by the law's promise over data -/
theorem walk_end {l : PySem.W.OpenLaw} {k : Nat} {q : Program} {loose : List Str} {XP : (Str → Option Value) → Heap → Prop} {YP : World → Heap → Prop} {d : DefRec} {K : Params → PySem.W.Frag} {c : World → AC} {x : Str}
    (hn : l.most = some 63) (hdf : d.params.defaults = []) (room : Room k callerA) (hY : ∀ (w : World) (h : Heap), YP w h → (K w.params).In h)
    (F : ∀ (w : World) (mg : Str → Option Value) (fa : Addr) (g : Heap), (K w.params).In g → g.Ns mainGlobals mg →
      mg d.name = some (.ref fa) → ∃ fd : FuncData, (∀ (s : Shared) (u : Value), BindsTo s fd ⟨[u], []⟩ [(x, u)]) ∧ ∀ base : Heap, (K w.params).In base → base.Ns mainGlobals mg → FnD l.prog w (K w.params) mg base CX0 k fa fd [x] (c w))
    (hc : ∀ (w : World) (ns : List Int), ns.length ≤ 63 → c w [.fls (ns.map A.int)] (fun _ => none) (fun y _ => y = .bl true) fun _ _ _ => False) : PySem.W.WalkO q loose XP YP l.row.toRowW d [] (fun f vs => PySem.call f vs) := by
  refine Att.attach_call hn hdf ?_
  intro w s0 s1 mg mb fa o pm cd doc a vs ns gr Y ho hd hcd hmg hobj hints hlen hg
  have inK := hY w _ Y
  obtain ⟨fd, hb, hF⟩ := F w mg fa _ inK gr.T.g hmg
  exact law_end inK gr.T.g gr.T.b gr.T.builtins gr.T.nolimit hg hobj hints (Nat.le_trans hlen (by decide)) room hF hb (hc w ns hlen) fun _ _ _ z => z
end D

set_option Elab.async false
set_option linter.all false
set_option maxRecDepth 100000
set_option maxHeartbeats 4000000
/-! D5: targets, statements, loops, comprehensions, methods, dicts, repr. -/
namespace D
open PySem PySem.Spec PyProof.Rows L2

section
variable {B : Bs} {X : Cx} {Γ : G} {μ : Mu} {Q : A → Mu → Prop} {Z : AD} {a b c e : Expr} {es : List Expr} {pos : Pos} {st : Stmt} {rest : List Stmt}

/-! ### targets -/
theorem rdG.imp {tg : Expr} {v : V} {σ : L2.St} {H : Hp} {R R' : L2.St → Hp → Prop} (h : rdG X tg v σ H R) (w : ∀ σ H, R σ H → R' σ H) : rdG X tg v σ H R' :=
  ⟨fun pins s u I r => thn (h.o pins s u I r) fun _ _ ⟨σ', H', I', q⟩ => ⟨σ', H', I', w _ _ q⟩⟩
variable {QG : G → Mu → Prop}
theorem wG_name (i : Nat) {x : Str} {y : A} (q : QG (Γ.set i (some y)) μ) (hN : X.N.Nodup) (hi : X.N[i]? = some x := by rfl) (hx : Loc X.env.scope x := by first | exact Or.inl rfl | exact Or.inr rfl)
    (hf : X.fn x = true ∨ X.env.scope.names.lookup x = some .local := by first | exact .inl rfl | exact .inr rfl) : wG B X (.Name x pos) y Γ μ QG := fun σ M F H v bo rs rl rp =>
  rd_pg (pg_name hN hi hx hf) (show QS X.K M F QG (σ.set i (some v)) H from ⟨_, F, μ, .refl _, rs.set rp, rl, q⟩)
/-- several names, from a tuple's items -/
def rdGs (X : Cx) (ts : List Expr) : TGs := fun vs σ H Q => Bx (∀ (pins : List (Addr × Obj)) (s : Shared) (us : List Value), Inv X pins σ H s → Vals vs us →
    wpAny (model X.prog X.w) X.A (assignInOrder ((assignEach ts X.env).map (·.2)) us) (fun _ s' => ∃ σ' H', Inv X pins σ' H' s' ∧ Q σ' H') X.xe s)
def wGs (B : Bs) (X : Cx) (ts : List Expr) (ys : List A) (Γ : G) (μ : Mu) (Q : G → Mu → Prop) : Prop := ∀ σ M F H vs, B.ok M F → RelS X.K Γ F σ → Rel X.K μ M F H → RepL X.K F ys vs → rdGs X ts vs σ H (QS X.K M F Q)
theorem pgs_rd {ts : List Expr} : PGs X ts (rdGs X ts) := ⟨fun pins s _ _ _ us _ I r h => h.o pins s us I r⟩
theorem rd_pgs {ts : List Expr} {t : TGs} (h : PGs X ts t) {vs : List V} {σ : L2.St} {H : Hp} {R : L2.St → Hp → Prop} (q : t vs σ H R) : rdGs X ts vs σ H R := ⟨fun pins s us I r => h.run pins s σ H vs us R I r q⟩
theorem wGs_nil (q : QG Γ μ) : wGs B X [] [] Γ μ QG := fun σ M F H vs bo rs rl rp => by
  simp only [RepL] at rp; subst rp
  exact rd_pgs pgs_nil (show gNil [] σ H (QS X.K M F QG) from ⟨rfl, Γ, F, μ, .refl _, rs, rl, q⟩)
theorem wGs_cons {t : Expr} {ts : List Expr} {y : A} {ys : List A} (h : wG B X t y Γ μ fun Γ1 μ1 => wGs B X ts ys Γ1 μ1 QG) (hs : (assignEach (t :: ts) X.env).map (·.2) = assign t X.env :: (assignEach ts X.env).map (·.2) := by rfl) : wGs B X (t :: ts) (y :: ys) Γ μ QG := fun σ M F H vs bo rs rl rp => by
  simp only [RepL] at rp
  obtain ⟨v, r, rfl, h1, h2⟩ := rp
  refine rd_pgs (pgs_cons pg_rd pgs_rd hs) ⟨v, r, rfl, (h σ M F H v bo rs rl h1).imp fun σ' H' q => ?_⟩
  obtain ⟨Γ', F', μ', ex, rs', rl', q⟩ := q
  refine ⟨fun pins s us I rv => ?_⟩
  refine thn ((q σ' M F' H' r (bo.mono ex) rs' rl' (h2.mono ex)).o pins s us I rv) fun _ _ ⟨σ2, H2, I2, q2⟩ => ⟨σ2, H2, I2, q2.mono ex⟩
theorem wG_tup {ts : List Expr} {k : Nat} {ys : List A} (h : wGs B X ts ys Γ μ QG) (hc : X.calm = true := by rfl) (hn : (assignEach ts X.env).length = ys.length := by rfl) (hst : (assignEach ts X.env).findIdx? (·.1) = none := by rfl) : wG B X (.Tuple ts k pos) (.tup ys) Γ μ QG := fun σ M F H v bo rs rl rp => by
  rw [rep_tup] at rp
  obtain ⟨p, vs, rfl, h1, h2⟩ := rp
  exact rd_pg (pg_tup (n := ys.length) hc pgs_rd hn hst) ⟨p, vs, rfl, rl.sub.t h1, h2.len, h σ M F H vs bo rs rl h2⟩
/-- o[i] = .., a list of ours -/
theorem wG_sub {o i : Expr} {y : A} (h : wE B X o Γ μ fun x μ1 => wE B X i Γ μ1 fun z μ2 => ∃ p xs k j, x = .loc p ∧ z = .int k ∧ μ2 p = some (.lst xs) ∧ ixN xs.length k = some j ∧ QG Γ (μ2.upd p (.lst (xs.set j y))))
    (ha : ∀ v, assign (.Subscript o i pos) X.env v = (holding [v] (eval o X.env) >>= fun a => holding [v, a] (eval i X.env) >>= fun b => (standAt pos >>= fun _ => (holding [v, a, b] (setItem a b v) >>= fun _ => release [v, a, b] []))) := by intro _; rfl) : wG B X (.Subscript o i pos) y Γ μ QG := fun σ M F H v bo rs rl rp =>
  rd_pg (pg_sub pe_rd pe_rd set_list ha) (by
    refine (h σ M F H bo rs rl).imp fun ov H1 ⟨x, F1, μ1, e1, r1, p1, q1⟩ => ?_
    refine (q1 σ M F1 H1 (bo.mono e1) (rs.mono e1) r1).imp fun iv H2 ⟨z, F2, μ2, e2, r2, p2, p, xs, k, j, ex, ez, hp, hj, q2⟩ => ?_
    subst ex; subst ez
    rw [rep_loc] at p1; rw [rep_int] at p2
    obtain ⟨_, ob, g1, vs, rfl, g2⟩ := r2.own p _ hp
    refine ⟨p, vs, k, j, p1, p2, g1, by rw [g2.len]; exact hj, Γ, F2, _, e1.trans e2, rs.mono (e1.trans e2), r2.write hp (m' := .lst (xs.set j y)) ⟨_, rfl, g2.set j (rp.mono (e1.trans e2))⟩, q2⟩)

/-! blocks; the small statements -/
theorem wSs.weak {μ' : Mu} (w : ∀ p m, μ' p = some m → μ p = some m) (h : wSs B X rest Γ μ' Z) : wSs B X rest Γ μ Z := fun σ M F H bo rs r => h σ M F H bo rs (r.weak w)
/-- a list in a slot stands for good from here on -/
theorem wSs_frz (i : Nat) {p : Addr} {xs : List A} (hp : μ p = some (.lst xs)) (hi : Γ[i]? = some (some (.loc p))) (h : wSs B X rest (Γ.set i (some (.lst xs))) (μ.del p) Z) : wSs B X rest Γ μ Z := fun σ M F H bo rs r => by
  obtain ⟨F', ex, rl', rp⟩ := r.freeze hp
  refine ends_mono ex (h σ M F' H (bo.mono ex) ?_ rl')
  have r2 := rs.mono ex
  refine ⟨by rw [List.length_set]; exact rs.len, fun j x q => ?_⟩
  rw [List.getElem?_set] at q
  split at q
  · rename_i e
    subst e
    split at q
    · cases q
      obtain ⟨v, h1, h2⟩ := rs.at_ _ _ hi
      rw [rep_loc] at h2; subst h2
      exact ⟨_, h1, rp⟩
    · cases q
  · exact r2.at_ j x q
theorem wSs_nil (q : Z.nx Γ μ) : wSs B X [] Γ μ Z := fun σ M F H bo rs r => rd_pss pss_nil (show QS X.K M F Z.nx σ H from ⟨Γ, F, μ, .refl _, rs, r, q⟩)
theorem wSs_cons (h : wS B X st Γ μ { Z with nx := fun Γ' μ' => wSs B X rest Γ' μ' Z }) : wSs B X (st :: rest) Γ μ Z := fun σ M F H bo rs r => rd_pss (pss_cons ps_rd pss_rd) (by
  refine (h σ M F H bo rs r).imp (fun σ' H' q => ?_) (fun _ _ q => q) (fun _ _ q => q) (fun _ _ q => q)
  obtain ⟨Γ', F', μ', ex, rs', r', q⟩ := q
  exact ends_mono ex (q σ' M F' H' (bo.mono ex) rs' r'))
theorem wS_of {t : TS} (h : PS X st t) (q : ∀ σ M F H, B.ok M F → RelS X.K Γ F σ → Rel X.K μ M F H → t (ends X.K M F Z) σ H) : wS B X st Γ μ Z := fun σ M F H bo rs r => rd_ps h (q σ M F H bo rs r)
theorem wS_pass (q : Z.nx Γ μ) : wS B X (.Pass pos) Γ μ Z := wS_of ps_pass fun σ M F H bo rs r => (show QS X.K M F Z.nx σ H from ⟨Γ, F, μ, .refl _, rs, r, q⟩)
theorem wS_break (q : Z.bk Γ μ) : wS B X (.Break pos) Γ μ Z := wS_of ps_break fun σ M F H bo rs r => (show QS X.K M F Z.bk σ H from ⟨Γ, F, μ, .refl _, rs, r, q⟩)
theorem wS_continue (q : Z.ct Γ μ) : wS B X (.Continue pos) Γ μ Z := wS_of ps_continue fun σ M F H bo rs r => (show QS X.K M F Z.ct σ H from ⟨Γ, F, μ, .refl _, rs, r, q⟩)
theorem wS_expr (h : wE B X e Γ μ fun _ μ' => Z.nx Γ μ') (hs : swapsWith e none pos.line X.env = pure false := by rfl) : wS B X (.Expr e pos) Γ μ Z := wS_of (ps_expr pe_rd hs) fun σ M F H bo rs r =>
  (h σ M F H bo rs r).imp fun v H' ⟨x, F', μ', e1, r1, _, q⟩ => ⟨Γ, F', μ', e1, rs.mono e1, r1, q⟩
theorem wS_ret (h : wE B X e Γ μ Z.rt) : wS B X (.Return (some e) pos) Γ μ Z := wS_of (ps_ret pe_rd) fun σ M F H bo rs r => h σ M F H bo rs r
theorem wS_retN (h : Z.rt .non μ) : wS B X (.Return none pos) Γ μ Z := wS_of ps_retN fun σ M F H bo rs r => (show QE X.K M F Z.rt .non H from .pure r (rep_non.mpr rfl) h)
theorem wS_if {s1 s2 : List Stmt} (h : wT B X c Γ μ fun k μ1 => (k = true → wSs B X s1 Γ μ1 Z) ∧ (k = false → wSs B X s2 Γ μ1 Z)) : wS B X (.If c s1 s2 pos) Γ μ Z := wS_of (ps_if pt_rd pss_rd pss_rd) fun σ M F H bo rs r => by
  refine (h σ M F H bo rs r).imp fun k H1 ⟨F1, μ1, e1, r1, q1, q2⟩ => ?_
  cases k with
  | true => exact iteT (ends_mono e1 (q1 rfl σ M F1 H1 (bo.mono e1) (rs.mono e1) r1))
  | false => exact iteF (ends_mono e1 (q2 rfl σ M F1 H1 (bo.mono e1) (rs.mono e1) r1))
/-- name = e -/
theorem wS_set (i : Nat) {x : Str} {pos' : Pos} (h : wE B X e Γ μ fun y μ1 => Z.nx (Γ.set i (some y)) μ1) (hN : X.N.Nodup) (hi : X.N[i]? = some x := by rfl) (hx : Loc X.env.scope x := by first | exact Or.inl rfl | exact Or.inr rfl)
    (hs : swapsWith e (some (.Name x pos')) pos.line X.env = pure false := by rfl) (hf : X.fn x = true ∨ X.env.scope.names.lookup x = some .local := by first | exact .inl rfl | exact .inr rfl) : wS B X (.Assign [.Name x pos'] e pos) Γ μ Z :=
  wS_of (ps_set hN hi hx pe_rd hs hf) fun σ M F H bo rs r => (h σ M F H bo rs r).imp fun v H1 ⟨y, F1, μ1, e1, r1, p1, q1⟩ =>
    (show QS X.K M F Z.nx (σ.set i (some v)) H1 from ⟨_, F1, μ1, e1, (rs.mono e1).set p1, r1, q1⟩)
/-- target = e -/
theorem wS_asg {tg : Expr} (h : wE B X e Γ μ fun y μ1 => wG B X tg y Γ μ1 Z.nx) (hs : swapsWithSole [tg] e pos.line X.env = pure false := by rfl) (hw : swappedStores [tg] e X.env = pure none := by rfl) (h1 : (assignEach [tg] X.env).map (·.2) = [assign tg X.env] := by rfl) : wS B X (.Assign [tg] e pos) Γ μ Z :=
  wS_of (ps_asg pe_rd pg_rd hs hw h1) fun σ M F H bo rs r => (h σ M F H bo rs r).imp fun v H1 ⟨y, F1, μ1, e1, r1, p1, q1⟩ =>
    (q1 σ M F1 H1 v (bo.mono e1) (rs.mono e1) r1 p1).imp fun σ' H' q => q.mono e1
/-- a, b = e1, e2 -/
theorem wS_par (i j : Nat) {x y : Str} {px py pt pt2 : Pos} {kt k2 : Nat} (h : wA B X [a, b] Γ μ fun xs μ1 => ∃ u w, xs = [u, w] ∧ Z.nx ((Γ.set i (some u)).set j (some w)) μ1) (hN : X.N.Nodup) (hc : X.calm = true := by rfl) (hi : X.N[i]? = some x := by rfl) (hj : X.N[j]? = some y := by rfl) (hij : i ≠ j := by decide)
    (hx : X.env.scope.names.lookup x = some .local := by rfl) (hy : X.env.scope.names.lookup y = some .local := by rfl)
    (hw : swappedStores [.Tuple [.Name x px, .Name y py] kt pt] (.Tuple [a, b] k2 pt2) X.env = pure (some [x, y]) := by rfl)
    (hs : swapsWithSole [.Tuple [.Name x px, .Name y py] kt pt] (.Tuple [a, b] k2 pt2) pos.line X.env = pure false := by rfl) : wS B X (.Assign [.Tuple [.Name x px, .Name y py] kt pt] (.Tuple [a, b] k2 pt2) pos) Γ μ Z :=
  wS_of (ps_par hc hN hi hj hij hx hy pa_rd hw hs) fun σ M F H bo rs r => (h σ M F H bo rs r).imp fun vs H1 ⟨xs, F1, μ1, e1, r1, p1, u, w, ex, q1⟩ => by
    subst ex
    obtain ⟨v1, v2, rfl, g1, g2⟩ := p1.two
    exact ⟨v1, v2, rfl, _, F1, μ1, e1, ((rs.mono e1).set g1).set g2, r1, q1⟩

/-! ### while -/
theorem wS_while {body : List Stmt} (W : Nat → G → Mu → Prop) (m0 : Nat) (h0 : W m0 Γ μ)
    (turn : ∀ m Γ μ, W m Γ μ → wT B X c Γ μ fun k μ1 => (k = true → wSs B X body Γ μ1 { nx := fun Γ' μ' => ∃ m', m' < m ∧ W m' Γ' μ', rt := Z.rt, ct := fun Γ' μ' => ∃ m', m' < m ∧ W m' Γ' μ', bk := Z.nx }) ∧ (k = false → Z.nx Γ μ1))
    (hp : PassesOwn (model X.prog X.w) X.A X.env X.xe := by first | exact PassesOwn.never | assumption) : wS B X (.While c body [] pos) Γ μ Z := wS_of (ps_while hp pt_rd pss_rd) fun σ M F H bo rs r => by
  refine ⟨fun m σ' H' => ∃ Γ' F' μ', Ex F F' ∧ RelS X.K Γ' F' σ' ∧ Rel X.K μ' M F' H' ∧ W m Γ' μ', ⟨m0, Γ, F, μ, .refl _, rs, r, h0⟩, fun m σ' H' ⟨Γ', F', μ', e1, rs1, r1, w1⟩ => ?_⟩
  refine (turn m Γ' μ' w1 σ' M F' H' (bo.mono e1) rs1 r1).imp fun k H1 ⟨F2, μ2, e2, r2, q1, q2⟩ => ?_
  cases k with
  | true =>
    refine iteT ⟨fun σ2 H2 => ∃ m', m' < m ∧ ∃ Γ' F' μ', Ex F F' ∧ RelS X.K Γ' F' σ2 ∧ Rel X.K μ' M F' H2 ∧ W m' Γ' μ', fun _ _ z => z, ?_⟩
    refine (q1 rfl σ' M F2 H1 (bo.mono (e1.trans e2)) (rs1.mono e2) r2).imp (fun σ3 H3 q => ?_) (fun v H3 q => q.mono (e1.trans e2)) (fun σ3 H3 q => q.mono (e1.trans e2)) (fun σ3 H3 q => ?_)
    · obtain ⟨Γ3, F3, μ3, e3, rs3, r3, m', hm, w3⟩ := q
      exact ⟨m', hm, Γ3, F3, μ3, (e1.trans e2).trans e3, rs3, r3, w3⟩
    · obtain ⟨Γ3, F3, μ3, e3, rs3, r3, m', hm, w3⟩ := q
      exact ⟨m', hm, Γ3, F3, μ3, (e1.trans e2).trans e3, rs3, r3, w3⟩
  | false => exact iteF ⟨Γ', F2, μ2, e1.trans e2, rs1.mono e2, r2, q2 rfl⟩

/-! ### what is walked -/
/-- n turns; while F stands the i-th gives the i-th of ys -/
structure WkA (K : PySem.W.Frag) (F : Hp) (J : It) (ys : List A) : Prop where
  goes : ∀ i H, i < ys.length → Ex F H → J.go i H
  stops : ∀ H, Ex F H → J.stop ys.length H
  yields : ∀ i H x H' M F1 μ, i < ys.length → Ex F F1 → Rel K μ M F1 H → J.yld i H x H' → ∃ F2 y, Ex F1 F2 ∧ Rel K μ M F2 H' ∧ ys[i]? = some y ∧ Rep K F2 y x
def rdI (X : Cx) (tg iter : Expr) : TI := fun σ H R => Bx (∀ (pins : List (Addr × Obj)) (s : Shared), Inv X pins σ H s → wpAny (model X.prog X.w) X.A (eval iter X.env) (fun v s1 => wpAny (model X.prog X.w) X.A (pyIter v) (PIE X pins σ tg R) X.xe s1) X.xe s)
theorem pi_rd {tg iter : Expr} : PI X tg iter (rdI X tg iter) := ⟨fun pins s _ _ _ I h => h.o pins s I⟩
theorem rd_pi {tg iter : Expr} {wi : TI} (h : PI X tg iter wi) {σ : L2.St} {H : Hp} {R : It → Hp → Prop} (q : wi σ H R) : rdI X tg iter σ H R := ⟨fun pins s I => h.run pins s σ H R I q⟩
def wIt (B : Bs) (X : Cx) (tg iter : Expr) (Γ : G) (μ : Mu) (R : List A → Mu → Prop) : Prop := ∀ σ M F H, B.ok M F → RelS X.K Γ F σ → Rel X.K μ M F H → rdI X tg iter σ H fun J H' => ∃ ys F' μ', Ex F F' ∧ Rel X.K μ' M F' H' ∧ WkA X.K F' J ys ∧ R ys μ'
variable {R : List A → Mu → Prop} {tg : Expr} {body : List Stmt}
theorem wS_for (h : wIt B X tg a Γ μ fun ys μ1 => ∃ I : Nat → G → Mu → Prop, I 0 Γ μ1 ∧
      (∀ (i : Nat) y Γ' μ', ys[i]? = some y → I i Γ' μ' → wG B X tg y Γ' μ' fun Γ2 μ2 => wSs B X body Γ2 μ2 { nx := I (i + 1), rt := Z.rt, ct := I (i + 1), bk := Z.nx }) ∧ (∀ Γ' μ', I ys.length Γ' μ' → Z.nx Γ' μ'))
    (hp : PassesOwn (model X.prog X.w) X.A X.env X.xe := by first | exact PassesOwn.never | assumption) (hc : X.calm = true := by rfl) (hs : ∀ x, foldedSetIterable a X.env x = pure x := by intro _; rfl) : wS B X (.For tg a body [] pos) Γ μ Z :=
  wS_of (ps_for hp hc pi_rd pg_rd pss_rd hs) fun σ M F H bo rs r => by
  refine ⟨fun pins s I0 => ?_⟩
  refine thn ((h σ M F H bo rs r).o pins s I0) fun v s1 h1 => thn h1 fun itv s2 h2 => ?_
  obtain ⟨it, fp, tn, J, H2, g1, g2, g3, g4, g5, ys, F1, μ1, e1, r1, wk, I, i0, turn, done⟩ := h2
  refine ⟨it, fp, tn, J, H2, g1, g2, g3, g4, g5, fun i m σ' H' => m = ys.length - i ∧ i ≤ ys.length ∧ QS X.K M F1 (I i) σ' H', ⟨ys.length, by simp, Nat.zero_le _, Γ, F1, μ1, .refl _, rs.mono e1, r1, i0⟩, ?_⟩
  rintro i m σ' H' ⟨rfl, hi, Γ', F', μ', e2, rs2, r2, q⟩
  by_cases lt : i < ys.length
  · refine .inr ⟨wk.goes i H' lt (e2.trans r2.sub), fun σ3 H3 => QS X.K M F1 (I (i + 1)) σ3 H3, fun σ3 H3 q3 => ⟨ys.length - (i + 1), by omega, rfl, lt, q3⟩, fun x H3 yl => ?_⟩
    obtain ⟨F2, y, e3, r3, hy, rp⟩ := wk.yields i H' x H3 M F' μ' lt e2 r2 yl
    refine (turn i y Γ' μ' hy q σ' M F2 H3 x (bo.mono (e1.trans (e2.trans e3))) (rs2.mono e3) r3 rp).imp fun σ4 H4 q4 => ?_
    obtain ⟨Γ4, F4, μ4, e4, rs4, r4, q4⟩ := q4
    have eF : Ex F1 F4 := (e2.trans e3).trans e4
    exact (q4 σ4 M F4 H4 (bo.mono (e1.trans eF)) rs4 r4).imp (fun _ _ q => q.mono eF) (fun _ _ q => q.mono (e1.trans eF)) (fun _ _ q => q.mono (e1.trans eF)) (fun _ _ q => q.mono eF)
  · obtain rfl : i = ys.length := by omega
    exact .inl ⟨wk.stops H' (e2.trans r2.sub), Γ', F', μ', e1.trans e2, rs2, r2, done Γ' μ' q⟩

theorem wk_list {K : PySem.W.Frag} {F : Hp} {p : Addr} {ys : List A} {vs : List V} (h : SqL K F p vs) (r : RepL K F ys vs) : WkA K F (Itl K p) ys :=
  { goes := fun i H hi e => ⟨vs, vs[i]'(by rw [r.len]; exact hi), e.l h, by simp [r.len, hi]⟩
    stops := fun H e => ⟨vs, e.l h, by rw [r.len]; exact Nat.le_refl _⟩
    yields := fun i H x H' M F1 μ hi e rl yl => by
      obtain ⟨rfl, g⟩ := yl
      obtain ⟨v, h1, h2⟩ := r.get (List.getElem?_eq_getElem hi)
      have := g vs ((e.trans rl.sub).l h)
      rw [h1] at this; cases this
      exact ⟨F1, _, .refl _, rl, List.getElem?_eq_getElem hi, h2.mono e⟩ }
theorem wk_tup {K : PySem.W.Frag} {F : Hp} {p : Addr} {ys : List A} {vs : List V} (h : SqT K F p vs) (r : RepL K F ys vs) : WkA K F (Itt K p) ys :=
  { goes := fun i H hi e => ⟨vs, vs[i]'(by rw [r.len]; exact hi), e.t h, by simp [r.len, hi]⟩
    stops := fun H e => ⟨vs, e.t h, by rw [r.len]; exact Nat.le_refl _⟩
    yields := fun i H x H' M F1 μ hi e rl yl => by
      obtain ⟨rfl, g⟩ := yl
      obtain ⟨v, h1, h2⟩ := r.get (List.getElem?_eq_getElem hi)
      have := g vs ((e.trans rl.sub).t h)
      rw [h1] at this; cases this
      exact ⟨F1, _, .refl _, rl, List.getElem?_eq_getElem hi, h2.mono e⟩ }
/-- for .. in a list that stands for good -/
theorem wIt_list (h : wE B X a Γ μ fun x μ1 => ∃ ys, x = .lst ys ∧ R ys μ1) : wIt B X tg a Γ μ R := fun σ M F H bo rs rl => rd_pi (pi_list pe_rd) (by
  refine (h σ M F H bo rs rl).imp fun v H1 ⟨x, F1, μ1, e1, r1, p1, ys, ex, q1⟩ => ?_
  subst ex; rw [rep_lst] at p1
  obtain ⟨p, vs, rfl, h1, h2⟩ := p1
  exact ⟨p, rfl, ⟨vs, .inl (.inl (r1.sub _ _ h1))⟩, ys, F1, μ1, e1, r1, wk_list (.inl (.inl h1)) h2, q1⟩)
theorem wIt_fls (h : wE B X a Γ μ fun x μ1 => ∃ ys, x = .fls ys ∧ R ys μ1) : wIt B X tg a Γ μ R := fun σ M F H bo rs rl => rd_pi (pi_list pe_rd) (by
  refine (h σ M F H bo rs rl).imp fun v H1 ⟨x, F1, μ1, e1, r1, p1, ys, ex, q1⟩ => ?_
  subst ex; rw [rep_fls] at p1
  obtain ⟨p, vs, rfl, h1, h2⟩ := p1
  exact ⟨p, rfl, ⟨vs, r1.sub.l h1⟩, ys, F1, μ1, e1, r1, wk_list h1 h2, q1⟩)
theorem wIt_tup (h : wE B X a Γ μ fun x μ1 => ∃ ys, x = .tup ys ∧ R ys μ1) : wIt B X tg a Γ μ R := fun σ M F H bo rs rl => rd_pi (pi_tup pe_rd) (by
  refine (h σ M F H bo rs rl).imp fun v H1 ⟨x, F1, μ1, e1, r1, p1, ys, ex, q1⟩ => ?_
  subst ex; rw [rep_tup] at p1
  obtain ⟨p, vs, rfl, h1, h2⟩ := p1
  exact ⟨p, rfl, ⟨vs, r1.sub.t h1⟩, ys, F1, μ1, e1, r1, wk_tup h1 h2, q1⟩)
/-- the ints lo, lo + 1, .. -/
def rgA (lo : Int) (n : Nat) : List A := (List.range n).map fun i => A.int (lo + (i : Nat))
theorem rgA_len (lo : Int) (n : Nat) : (rgA lo n).length = n := by simp [rgA]
theorem rgA_get {lo : Int} {n i : Nat} (h : i < n) : (rgA lo n)[i]? = some (.int (lo + (i : Nat))) := by simp [rgA, h]
theorem wk_range {K : PySem.W.Frag} {F : Hp} {lo : Int} {n : Nat} : WkA K F (Itr lo n) (rgA lo n) :=
  { goes := fun i H hi _ => by rw [rgA_len] at hi; exact hi
    stops := fun H _ => by rw [rgA_len]; exact Nat.le_refl _
    yields := fun i H x H' M F1 μ hi e rl yl => by
      obtain ⟨rfl, rfl⟩ := yl
      rw [rgA_len] at hi
      exact ⟨F1, _, .refl _, rl, rgA_get hi, rep_int.mpr rfl⟩ }
theorem wIt_range1 {p : Pos} (hm : X.mg "range" = none) (h : wA B X [a] Γ μ fun xs μ1 => ∃ n : Int, xs = [.int n] ∧ -(2 ^ 62) ≤ n ∧ n < 2 ^ 62 ∧ R (rgA 0 n.toNat) μ1) (hg : Gl X "range" := by rfl) (hs : starEach [a] X.env = [(false, eval a X.env)] := by rfl) :
    wIt B X tg (.Call (.Name "range" p) [a] [] pos) Γ μ R := fun σ M F H bo rs rl => rd_pi (pi_range1 hg hm pa_rd hs) (by
  refine (h σ M F H bo rs rl).imp fun vs H1 ⟨xs, F1, μ1, e1, r1, p1, n, ex, n1, n2, q1⟩ => ?_
  subst ex
  obtain ⟨v, rfl, h1⟩ := p1.one
  rw [rep_int] at h1; subst h1
  exact ⟨n, rfl, n1, n2, _, F1, μ1, e1, r1, wk_range, q1⟩)
theorem wIt_range2 {p : Pos} (hm : X.mg "range" = none) (h : wA B X [a, b] Γ μ fun xs μ1 => ∃ i j : Int, xs = [.int i, .int j] ∧ (-(2 ^ 62) ≤ i ∧ i < 2 ^ 62 ∧ -(2 ^ 62) ≤ j ∧ j < 2 ^ 62) ∧ R (rgA i (j - i).toNat) μ1) (hg : Gl X "range" := by rfl)
    (hs : starEach [a, b] X.env = [(false, eval a X.env), (false, eval b X.env)] := by rfl) (hs2 : starEach [b] X.env = [(false, eval b X.env)] := by rfl) :
    wIt B X tg (.Call (.Name "range" p) [a, b] [] pos) Γ μ R := fun σ M F H bo rs rl => rd_pi (pi_range2 hg hm pa_rd hs hs2) (by
  refine (h σ M F H bo rs rl).imp fun vs H1 ⟨xs, F1, μ1, e1, r1, p1, i, j, ex, n1, q1⟩ => ?_
  subst ex
  obtain ⟨v, w, rfl, h1, h2⟩ := p1.two
  rw [rep_int] at h1 h2; subst h1; subst h2
  exact ⟨i, j, rfl, n1, _, F1, μ1, e1, r1, wk_range, q1⟩)
/-- lo, lo + c, .. -/
def rgC (lo c : Int) (n : Nat) : List A := (List.range n).map fun i => A.int (lo + (i : Nat) * c)
theorem rgC_len (lo c : Int) (n : Nat) : (rgC lo c n).length = n := by simp [rgC]
theorem rgC_get {lo c : Int} {n i : Nat} (h : i < n) : (rgC lo c n)[i]? = some (.int (lo + (i : Nat) * c)) := by simp [rgC, h]
theorem wIt_range3 {p : Pos} (hm : X.mg "range" = none) (h : wA B X [a, b, c] Γ μ fun xs μ1 => ∃ (i j k : Int) (n : Nat), xs = [.int i, .int j, .int k] ∧ RgC i j k n ∧ R (rgC i k n) μ1) (hg : Gl X "range" := by rfl)
    (hs : starEach [a, b, c] X.env = (false, eval a X.env) :: starEach [b, c] X.env := by rfl) (hpl : (backTo pos (starEach [b, c] X.env)).any (·.1) = false := by rfl) :
    wIt B X tg (.Call (.Name "range" p) [a, b, c] [] pos) Γ μ R := fun σ M F H bo rs rl => rd_pi (pi_range3 hg hm pa_rd hs hpl) (by
  refine (h σ M F H bo rs rl).imp fun vs H1 ⟨xs, F1, μ1, e1, r1, p1, i, j, k, n, ex, n1, q1⟩ => ?_
  subst ex
  simp only [RepL] at p1
  obtain ⟨v, r, rfl, h1, v2, r', rfl, h2, v3, r'', rfl, h3, rfl⟩ := p1
  rw [rep_int] at h1 h2 h3; subst h1; subst h2; subst h3
  refine ⟨i, j, k, n, rfl, n1, _, F1, μ1, e1, r1, ?_, q1⟩
  exact { goes := fun i H hi _ => by rw [rgC_len] at hi; exact hi
          stops := fun H _ => by rw [rgC_len]; exact Nat.le_refl _
          yields := fun i H x H' M F1 μ hi e rl yl => by
            obtain ⟨rfl, rfl⟩ := yl
            rw [rgC_len] at hi
            exact ⟨F1, _, .refl _, rl, rgC_get hi, rep_int.mpr rfl⟩ })
/-- the pairs of two lists -/
def pairsA (f g : Nat → Option A) : Nat → List A
  | 0 => []
  | n + 1 => pairsA f g n ++ [.tup [(f n).getD .non, (g n).getD .non]]
def zipA : List A → List A → List A
  | x :: xs, y :: ys => .tup [x, y] :: zipA xs ys
  | _, _ => []
theorem zipA_len : ∀ xs ys : List A, (zipA xs ys).length = min xs.length ys.length
  | [], _ => by simp [zipA]
  | _ :: _, [] => by simp [zipA]
  | x :: xs, y :: ys => by simp only [zipA, List.length_cons, zipA_len xs ys]; omega
theorem zipA_get : ∀ {xs ys : List A} {i : Nat} {x y : A}, xs[i]? = some x → ys[i]? = some y → (zipA xs ys)[i]? = some (.tup [x, y])
  | [], _, _, _, _, h, _ => by simp at h
  | _ :: _, [], _, _, _, _, h => by simp at h
  | x :: xs, y :: ys, 0, _, _, h, h' => by simp at h h'; subst h; subst h'; rfl
  | x :: xs, y :: ys, i + 1, _, _, h, h' => by
    simp only [zipA, List.getElem?_cons_succ] at h h' ⊢
    exact zipA_get h h'
theorem zipA_map {α β : Type} (f : α → A) (g : β → A) : ∀ (l : List α) (m : List β), zipA (l.map f) (m.map g) = (l.zip m).map fun p => A.tup [f p.1, g p.2]
  | [], _ => by simp [zipA]
  | _ :: _, [] => by simp [zipA]
  | a :: l, b :: m => by simp only [List.map_cons, zipA, List.zip_cons_cons, zipA_map f g l m]
theorem pair_new {K : PySem.W.Frag} {μ : Mu} {M F H : Hp} {T : Addr} {x y : A} {v w : V} (rl : Rel K μ M F H) (n : H T = none) (h1 : Rep K F x v) (h2 : Rep K F y w) : ∃ F2, Ex F F2 ∧ Rel K μ M F2 (upd H T (.tup [v, w])) ∧ Rep K F2 (.tup [x, y]) (.ref T) := by
  obtain ⟨ex, rl'⟩ := rl.newF (o := .tup [v, w]) n
  exact ⟨_, ex, rl', rep_tup.mpr ⟨T, _, rfl, .inl (.inl upd_same), .cons (h1.mono ex) (.cons (h2.mono ex) .nil)⟩⟩
theorem wk_zip {K : PySem.W.Frag} {F : Hp} {p q : Addr} {xs ys : List A} {vs ws : List V} (h : SqL K F p vs) (r : RepL K F xs vs) (g : SqL K F q ws) (r' : RepL K F ys ws) : WkA K F (Itz K p q) (zipA xs ys) :=
  { goes := fun i H hi e => by
      rw [zipA_len] at hi
      have h1 : i < vs.length := by rw [r.len]; omega
      have h2 : i < ws.length := by rw [r'.len]; omega
      exact ⟨vs, ws, vs[i], ws[i], e.l h, e.l g, by simp [h1], by simp [h2]⟩
    stops := fun H e => ⟨vs, ws, e.l h, e.l g, by rw [zipA_len, r.len, r'.len]; omega⟩
    yields := fun i H x H' M F1 μ hi e rl yl => by
      rw [zipA_len] at hi
      obtain ⟨T, v, w, rfl, nT, rfl, g1, g2⟩ := yl
      have h1 := g1 vs ((e.trans rl.sub).l h)
      have h2 := g2 ws ((e.trans rl.sub).l g)
      obtain ⟨x1, k1, k2⟩ := r.rev h1
      obtain ⟨y1, k3, k4⟩ := r'.rev h2
      obtain ⟨F2, ex, rl', rp⟩ := pair_new rl nT (k2.mono e) (k4.mono e)
      exact ⟨F2, _, ex, rl', zipA_get k1 k3, rp⟩ }
theorem wk_zipT {K : PySem.W.Frag} {F : Hp} {p q : Addr} {xs ys : List A} {vs ws : List V} (h : SqT K F p vs) (r : RepL K F xs vs) (g : SqT K F q ws) (r' : RepL K F ys ws) : WkA K F (RZ.ItzT K p q) (zipA xs ys) :=
  { goes := fun i H hi e => by
      rw [zipA_len] at hi
      have h1 : i < vs.length := by rw [r.len]; omega
      have h2 : i < ws.length := by rw [r'.len]; omega
      exact ⟨vs, ws, vs[i], ws[i], e.t h, e.t g, by simp [h1], by simp [h2]⟩
    stops := fun H e => ⟨vs, ws, e.t h, e.t g, by rw [zipA_len, r.len, r'.len]; omega⟩
    yields := fun i H x H' M F1 μ hi e rl yl => by
      rw [zipA_len] at hi
      obtain ⟨T, v, w, rfl, nT, rfl, g1, g2⟩ := yl
      have h1 := g1 vs ((e.trans rl.sub).t h)
      have h2 := g2 ws ((e.trans rl.sub).t g)
      obtain ⟨x1, k1, k2⟩ := r.rev h1
      obtain ⟨y1, k3, k4⟩ := r'.rev h2
      obtain ⟨F2, ex, rl', rp⟩ := pair_new rl nT (k2.mono e) (k4.mono e)
      exact ⟨F2, _, ex, rl', zipA_get k1 k3, rp⟩ }
theorem wIt_zip {e2 : Expr} {p tpos : Pos} {elts : List Expr} {kk : Nat} (hm : X.mg "zip" = none) (h : wA B X [e, e2] Γ μ fun zs μ1 => ∃ xs ys, (zs = [.lst xs, .lst ys] ∨ zs = [.tup xs, .tup ys]) ∧ R (zipA xs ys) μ1) (hg : Gl X "zip" := by rfl)
    (hs : starEach [e, e2] X.env = (false, eval e X.env) :: starEach [e2] X.env := by rfl) (hpl : (backTo pos (starEach [e2] X.env)).any (·.1) = false := by rfl) : wIt B X (.Tuple elts kk tpos) (.Call (.Name "zip" p) [e, e2] [] pos) Γ μ R := fun σ M F H bo rs rl =>
  rd_pi (RZ.pi_zipA hg hm pa_rd hs hpl) (by
  refine (h σ M F H bo rs rl).imp fun us H1 ⟨zs, F1, μ1, e1, r1, p1, xs, ys, ez, q1⟩ => ?_
  rcases ez with ez | ez
  · subst ez
    obtain ⟨v, w, rfl, h1, h2⟩ := p1.two
    rw [rep_lst] at h1 h2
    obtain ⟨p, vs, rfl, g1, g2⟩ := h1
    obtain ⟨q, ws, rfl, k1, k2⟩ := h2
    exact ⟨p, q, vs, ws, rfl, .inl ⟨.inl (.inl (r1.sub _ _ g1)), .inl (.inl (r1.sub _ _ k1)), _, F1, μ1, e1, r1, wk_zip (.inl (.inl g1)) g2 (.inl (.inl k1)) k2, q1⟩⟩
  · subst ez
    obtain ⟨v, w, rfl, h1, h2⟩ := p1.two
    rw [rep_tup] at h1 h2
    obtain ⟨p, vs, rfl, g1, g2⟩ := h1
    obtain ⟨q, ws, rfl, k1, k2⟩ := h2
    exact ⟨p, q, vs, ws, rfl, .inr ⟨r1.sub.t g1, r1.sub.t k1, _, F1, μ1, e1, r1, wk_zipT g1 g2 k1 k2, q1⟩⟩)
/-- 0, x; 1, y; .. -/
def enumA : Nat → List A → List A
  | _, [] => []
  | n, x :: xs => .tup [.int (n : Nat), x] :: enumA (n + 1) xs
theorem enumA_len : ∀ (n : Nat) (xs : List A), (enumA n xs).length = xs.length
  | _, [] => rfl
  | n, x :: xs => by simp only [enumA, List.length_cons, enumA_len (n + 1) xs]
theorem enumA_get : ∀ {n : Nat} {xs : List A} {i : Nat} {x : A}, xs[i]? = some x → (enumA n xs)[i]? = some (.tup [.int ((n + i : Nat) : Int), x])
  | _, [], _, _, h => by simp at h
  | n, y :: xs, 0, _, h => by simp at h; subst h; simp [enumA]
  | n, y :: xs, i + 1, _, h => by
    simp only [enumA, List.getElem?_cons_succ] at h ⊢
    rw [enumA_get h, show n + 1 + i = n + (i + 1) by omega]
theorem wk_enum {K : PySem.W.Frag} {F : Hp} {p : Addr} {xs : List A} {vs : List V} (h : SqL K F p vs) (r : RepL K F xs vs) : WkA K F (Ite K p) (enumA 0 xs) :=
  { goes := fun i H hi e => by
      rw [enumA_len] at hi
      have h1 : i < vs.length := by rw [r.len]; omega
      exact ⟨vs, vs[i], e.l h, by simp [h1]⟩
    stops := fun H e => ⟨vs, e.l h, by rw [enumA_len, r.len]; exact Nat.le_refl _⟩
    yields := fun i H x H' M F1 μ hi e rl yl => by
      obtain ⟨T, v, rfl, nT, rfl, g1⟩ := yl
      have h1 := g1 vs ((e.trans rl.sub).l h)
      obtain ⟨x1, k1, k2⟩ := r.rev h1
      obtain ⟨F2, ex, rl', rp⟩ := pair_new (x := .int (i : Nat)) rl nT (rep_int.mpr rfl) (k2.mono e)
      exact ⟨F2, _, ex, rl', by rw [enumA_get k1]; simp, rp⟩ }
theorem wIt_enum {p tpos : Pos} {elts : List Expr} {kk : Nat} (hm : X.mg "enumerate" = none) (h : wA B X [e] Γ μ fun zs μ1 => ∃ xs, (zs = [.lst xs] ∨ zs = [.fls xs]) ∧ R (enumA 0 xs) μ1) (hg : Gl X "enumerate" := by rfl) (hs : starEach [e] X.env = [(false, eval e X.env)] := by rfl) :
    wIt B X (.Tuple elts kk tpos) (.Call (.Name "enumerate" p) [e] [] pos) Γ μ R := fun σ M F H bo rs rl => rd_pi (pi_enum hg hm pa_rd hs) (by
  refine (h σ M F H bo rs rl).imp fun us H1 ⟨zs, F1, μ1, e1, r1, p1, xs, ez, q1⟩ => ?_
  rcases ez with ez | ez
  · subst ez
    obtain ⟨v, rfl, h1⟩ := p1.one
    rw [rep_lst] at h1
    obtain ⟨p, vs, rfl, g1, g2⟩ := h1
    exact ⟨p, vs, rfl, .inl (.inl (r1.sub _ _ g1)), _, F1, μ1, e1, r1, wk_enum (.inl (.inl g1)) g2, q1⟩
  · subst ez
    obtain ⟨v, rfl, h1⟩ := p1.one
    rw [rep_fls] at h1
    obtain ⟨p, vs, rfl, g1, g2⟩ := h1
    exact ⟨p, vs, rfl, r1.sub.l g1, _, F1, μ1, e1, r1, wk_enum g1 g2, q1⟩)
/-- a text, sign by sign -/
def signsA (x : Str) : List A := x.cps.toList.map fun ch => A.str ⟨#[ch]⟩
theorem wIt_str (h : wE B X a Γ μ fun y μ1 => ∃ x, y = .str x ∧ R (signsA x) μ1) : wIt B X tg a Γ μ R := fun σ M F H bo rs rl => rd_pi (pi_str pe_rd) (by
  refine (h σ M F H bo rs rl).imp fun v H1 ⟨y, F1, μ1, e1, r1, p1, x, ex, q1⟩ => ?_
  subst ex; rw [rep_str] at p1; subst p1
  have hl : (signsA x).length = x.cps.size := by simp [signsA]
  refine ⟨x, rfl, _, F1, μ1, e1, r1, ?_, q1⟩
  exact { goes := fun i H hi _ => by rw [hl] at hi; exact hi
          stops := fun H _ => by rw [hl]; exact Nat.le_refl _
          yields := fun i H z H' M F1 μ hi e rl yl => by
            obtain ⟨rfl, ch, hc, rfl⟩ := yl
            refine ⟨F1, .str ⟨#[ch]⟩, .refl _, rl, ?_, rep_str.mpr rfl⟩
            simp only [signsA, List.getElem?_map, Array.getElem?_toList, hc, Option.map_some] })
end
end D

set_option Elab.async false
set_option linter.all false
set_option maxRecDepth 100000
set_option maxHeartbeats 4000000
/-! D6: comprehensions, methods, dicts, repr. -/
namespace D
open PySem PySem.Spec PyProof.Rows L2

/-! ### comprehensions -/
def wipeA (Γ : G) : List Nat → G
  | [] => Γ
  | v :: vs => (wipeA Γ vs).set v none
theorem wipeA_len (Γ : G) : ∀ vs, (wipeA Γ vs).length = Γ.length
  | [] => rfl
  | v :: vs => by unfold wipeA; rw [List.length_set, wipeA_len Γ vs]
theorem wipeA_rel {K : PySem.W.Frag} {Γ : G} {F : Hp} {σ : L2.St} (h : RelS K Γ F σ) : ∀ vs, RelS K (wipeA Γ vs) F (wipe σ vs)
  | [] => h
  | v :: vs => by
    have ih := wipeA_rel h vs
    unfold wipeA wipe
    refine ⟨by rw [List.length_set, List.length_set]; exact ih.len, fun i x q => ?_⟩
    rw [List.getElem?_set] at q ⊢
    split at q
    · split at q <;> cases q
    · rename_i e
      rw [if_neg e]
      exact ih.at_ i x q
theorem wipe_set_out {σ : L2.St} {i : Nat} {o : Option V} : ∀ vs : List Nat, (wipe (σ.set i o) vs).set i none = (wipe σ vs).set i none
  | [] => by show (σ.set i o).set i none = σ.set i none; rw [List.set_set]
  | v :: vs => by
    have ih := wipe_set_out (σ := σ) (i := i) (o := o) vs
    show ((wipe (σ.set i o) vs).set v none).set i none = ((wipe σ vs).set v none).set i none
    by_cases e : v = i
    · subst e; rw [ih]
    · rw [List.set_comm _ _ e, List.set_comm _ _ e, ih]
theorem wipe_set {σ : L2.St} {i : Nat} {o : Option V} : ∀ {vs : List Nat}, i ∈ vs → wipe (σ.set i o) vs = wipe σ vs
  | v :: vs, h => by
    show (wipe (σ.set i o) vs).set v none = (wipe σ vs).set v none
    by_cases e : i = v
    · subst e; exact wipe_set_out vs
    · rw [wipe_set (List.mem_of_ne_of_mem e h)]
theorem wipe_wipe {σ : L2.St} {vs : List Nat} : ∀ us : List Nat, (∀ u ∈ us, u ∈ vs) → wipe (wipe σ us) vs = wipe σ vs
  | [], _ => rfl
  | u :: us, h => by
    show wipe ((wipe σ us).set u none) vs = wipe σ vs
    rw [wipe_set (h u List.mem_cons_self), wipe_wipe us fun v hv => h v (List.mem_cons_of_mem _ hv)]

section
variable {K : PySem.W.Frag} {μ : Mu} {M F H : Hp} {p : Addr} {m : MO} {o : HO}
theorem Rel.frmNew (h : Rel K μ M F H) (n : H p = none) : M p = none ∧ Rel K μ (upd M p o) F (upd H p o) := by
  have hF : F p = none := h.sub.none n
  have hμ : μ p = none := by
    cases q : μ p with
    | none => rfl
    | some m => obtain ⟨_, o, e, _⟩ := h.own p m q; rw [n] at e; cases e
  have hM : M p = none := by
    cases q : M p with
    | none => rfl
    | some m => obtain ⟨_, _, e⟩ := h.frm p m q; rw [n] at e; cases e
  refine ⟨hM, h.sub.trans (.new n), fun q m' e => ?_, fun q o' e => ?_⟩
  · obtain ⟨g1, o', g2, g3⟩ := h.own q m' e
    have hq : q ≠ p := fun z => by rw [z, n] at g2; cases g2
    exact ⟨g1, o', by rw [upd_ne hq]; exact g2, g3⟩
  · by_cases hq : q = p
    · subst hq; rw [upd_same] at e; cases e
      exact ⟨hF, hμ, upd_same⟩
    · rw [upd_ne hq] at e
      obtain ⟨g1, g2, g3⟩ := h.frm q o' e
      exact ⟨g1, g2, by rw [upd_ne hq]; exact g3⟩
theorem Rel.frmWrite {o' : HO} (h : Rel K μ (upd M p o) F H) : Rel K μ (upd M p o') F (upd H p o') := by
  obtain ⟨hF, hμ, hH⟩ := h.frm p o upd_same
  refine ⟨fun a u q => ?_, fun q m' e => ?_, fun q u e => ?_⟩
  · have ha : a ≠ p := fun z => by rw [z, hF] at q; cases q
    rw [upd_ne ha]; exact h.sub a u q
  · obtain ⟨g1, o1, g2, g3⟩ := h.own q m' e
    have hq : q ≠ p := fun z => by rw [z, hμ] at e; cases e
    exact ⟨g1, o1, by rw [upd_ne hq]; exact g2, g3⟩
  · by_cases hq : q = p
    · subst hq; rw [upd_same] at e; cases e
      exact ⟨hF, hμ, upd_same⟩
    · rw [upd_ne hq] at e
      obtain ⟨g1, g2, g3⟩ := h.frm q u (by rw [upd_ne hq]; exact e)
      exact ⟨g1, g2, by rw [upd_ne hq]; exact g3⟩
theorem Rel.frmOut (h : Rel K μ (upd M p o) F H) (n : M p = none) (r : RepO K F m o) : μ p = none ∧ Rel K (μ.upd p m) M F H := by
  obtain ⟨hF, hμ, hH⟩ := h.frm p o upd_same
  refine ⟨hμ, h.sub, fun q m' e => ?_, fun q u e => ?_⟩
  · by_cases hq : q = p
    · subst hq; rw [Mu.upd_same] at e; cases e
      exact ⟨hF, o, hH, r⟩
    · rw [Mu.upd_ne hq] at e; exact h.own q m' e
  · have hq : q ≠ p := fun z => by rw [z, n] at e; cases e
    obtain ⟨g1, g2, g3⟩ := h.frm q u (by rw [upd_ne hq]; exact e)
    exact ⟨g1, by rw [Mu.upd_ne hq]; exact g2, g3⟩
end

section
variable {B : Bs} {X : Cx} {Γ : G} {μ : Mu} {Q : A → Mu → Prop} {Z : AD} {e : Expr} {pos : Pos} {QG : G → Mu → Prop}
/-- a target within a comprehension: only the comprehension's own slots vs change -/
def wGw (B : Bs) (X : Cx) (tg : Expr) (vs : List Nat) (y : A) (Γ : G) (μ : Mu) (Q : G → Mu → Prop) : Prop := ∀ σ M F H v, B.ok M F → RelS X.K Γ F σ → Rel X.K μ M F H → Rep X.K F y v → rdG X tg v σ H fun σ' H' => wipe σ' vs = wipe σ vs ∧ QS X.K M F Q σ' H'
theorem wGw_name (i : Nat) {x : Str} {vs : List Nat} {y : A} (q : QG (Γ.set i (some y)) μ) (hN : X.N.Nodup) (hv : i ∈ vs := by decide) (hi : X.N[i]? = some x := by rfl) (hx : Loc X.env.scope x := by first | exact Or.inl rfl | exact Or.inr rfl)
    (hf : X.fn x = true ∨ X.env.scope.names.lookup x = some .local := by first | exact .inl rfl | exact .inr rfl) : wGw B X (.Name x pos) vs y Γ μ QG := fun σ M F H v bo rs rl rp =>
  rd_pg (pg_name hN hi hx hf) (show _ ∧ QS X.K M F QG (σ.set i (some v)) H from ⟨wipe_set hv, _, F, μ, .refl _, rs.set rp, rl, q⟩)
theorem wGw_tup2 (i j : Nat) {x x' : Str} {p1 p2 : Pos} {kk : Nat} {vs : List Nat} {y z : A} (q : QG ((Γ.set i (some y)).set j (some z)) μ) (hN : X.N.Nodup) (hc : X.calm = true := by rfl) (hv : i ∈ vs := by decide) (hv' : j ∈ vs := by decide) (hi : X.N[i]? = some x := by rfl) (hj : X.N[j]? = some x' := by rfl)
    (hx : Loc X.env.scope x := by first | exact Or.inl rfl | exact Or.inr rfl) (hx' : Loc X.env.scope x' := by first | exact Or.inl rfl | exact Or.inr rfl)
    (hf : X.fn x = true ∨ X.env.scope.names.lookup x = some .local := by first | exact .inl rfl | exact .inr rfl) (hf' : X.fn x' = true ∨ X.env.scope.names.lookup x' = some .local := by first | exact .inl rfl | exact .inr rfl) : wGw B X (.Tuple [.Name x p1, .Name x' p2] kk pos) vs (.tup [y, z]) Γ μ QG := fun σ M F H v bo rs rl rp => by
  rw [rep_tup] at rp
  obtain ⟨p, ws, rfl, h1, h2⟩ := rp
  obtain ⟨v1, v2, rfl, g1, g2⟩ := h2.two
  refine rd_pg (pg_tup (n := 2) hc (pgs_cons (pg_name hN hi hx hf) (pgs_cons (pg_name hN hj hx' hf') pgs_nil))) ⟨p, [v1, v2], rfl, rl.sub.t h1, rfl, v1, [v2], rfl, v2, [], rfl, rfl, ?_⟩
  exact ⟨by rw [wipe_set hv', wipe_set hv], _, F, μ, .refl _, (rs.set g1).set g2, rl, q⟩
/-- the block of a comprehension -/
abbrev bk (X : Cx) (scope : Scope) (s0 : Shared) (H0 : Hp) (C : Addr) (cl : List (Str × Addr)) (fp : List Addr) : Cx := X.blk s0 H0 scope (compEnvC scope cl C X.env) fp
variable {elt tg iter c : Expr} {scope : Scope} {own : List (Str × Nat)}
/-- what a comprehension's turns ask: J by the turn, the list so far, what may change -/
def lcTurns (B : Bs) (X : Cx) (scope : Scope) (tg elt : Expr) (ifs : List Expr) (vs : List Nat) (Γ : G) (ys : List A) (J : Nat → List A → Mu → Prop) : Prop :=
  ∀ (i : Nat) y acc μ', ys[i]? = some y → J i acc μ' → ∀ s0 H0 C cl fp, wGw B (bk X scope s0 H0 C cl fp) tg vs y (wipeA Γ vs) μ' fun Γ2 μ2 =>
    match ifs with
    | [] => ∀ s0 H0 C cl fp, wE B (bk X scope s0 H0 C cl fp) elt Γ2 μ2 fun z μ4 => J (i + 1) (acc ++ [z]) μ4
    | [c] => ∀ s0 H0 C cl fp, wT B (bk X scope s0 H0 C cl fp) c Γ2 μ2 fun k μ3 => (k = true → ∀ s0 H0 C cl fp, wE B (bk X scope s0 H0 C cl fp) elt Γ2 μ3 fun z μ4 => J (i + 1) (acc ++ [z]) μ4) ∧ (k = false → J (i + 1) acc μ3)
    | _ => False
def lcAsk (B : Bs) (X : Cx) (scope : Scope) (tg iter elt : Expr) (ifs : List Expr) (vs : List Nat) (Γ : G) (μ : Mu) (Q : A → Mu → Prop) : Prop :=
  wIt B X tg iter Γ μ fun ys μ1 => ys.length ≤ sizeLine ∧ ∃ J : Nat → List A → Mu → Prop, J 0 [] μ1 ∧ lcTurns B X scope tg elt ifs vs Γ ys J ∧ ∀ acc μ', J ys.length acc μ' → ∀ p, μ' p = none → Q (.loc p) (μ'.upd p (.lst acc))
def bkG (X : Cx) (scope : Scope) (tg : Expr) : TG := fun v σ H Q => ∀ s0 H0 C cl fp, rdG (bk X scope s0 H0 C cl fp) tg v σ H Q
def bkE (X : Cx) (scope : Scope) (e : Expr) : TE := fun σ H Q => ∀ s0 H0 C cl fp, rdE (bk X scope s0 H0 C cl fp) e σ H Q
def bkT (X : Cx) (scope : Scope) (ifs : List Expr) : TT := match ifs with
  | [c] => fun σ H Q => ∀ s0 H0 C cl fp, rdT (bk X scope s0 H0 C cl fp) c σ H Q
  | _ => tYes
theorem lc_core_ask {ifs : List Expr} (hi : ifs = [] ∨ ∃ c, ifs = [c]) (h : lcAsk B X scope tg iter elt ifs (own.map (·.2)) Γ μ Q) {σ : L2.St} {M F H : Hp} (bo : B.ok M F) (rs : RelS X.K Γ F σ) (r : Rel X.K μ M F H) :
    tLc (rdI X tg iter) (bkG X scope tg) (bkT X scope ifs) (bkE X scope elt) (own.map (·.2)) σ H (QE X.K M F Q) := by
  generalize hvs : own.map (·.2) = vs at h
  refine ⟨fun pins s I0 => ?_⟩
  refine thn ((h σ M F H bo rs r).o pins s I0) fun v s1 h1 => thn h1 fun itv s2 h2 => ?_
  obtain ⟨it, fp, tn, J0, H2, g1, g2, g3, g4, g5, ys, F1, μ1, e1, r1, wk, hz, J, j0, turn, done⟩ := h2
  refine ⟨it, fp, tn, J0, H2, g1, g2, g3, g4, g5, fun p np => ?_⟩
  obtain ⟨hM, rN⟩ := r1.frmNew (o := .lst []) np
  refine ⟨fun i m H' => m = ys.length - i ∧ i ≤ ys.length ∧ ∃ F' μ' acc ws, Ex F1 F' ∧ Rel X.K μ' (upd M p (.lst ws)) F' H' ∧ RepL X.K F' acc ws ∧ acc.length ≤ i ∧ J i acc μ', ⟨ys.length, by simp, Nat.zero_le _, F1, μ1, [], [], .refl _, rN, .nil, Nat.le_refl _, j0⟩, ?_⟩
  rintro i m H' ⟨rfl, hi', F', μ', acc, ws, e2, r2, ra, hl, q⟩
  have rs' : RelS X.K (wipeA Γ vs) F' (wipe σ vs) := (wipeA_rel rs vs).mono (e1.trans e2)
  have bo' : B.ok (upd M p (.lst ws)) F' := (bo.up (.new hM)).mono (e1.trans e2)
  by_cases lt : i < ys.length
  · refine .inr ⟨wk.goes i H' lt (e2.trans r2.sub), fun H3 => ∃ F' μ' acc ws, Ex F1 F' ∧ Rel X.K μ' (upd M p (.lst ws)) F' H3 ∧ RepL X.K F' acc ws ∧ acc.length ≤ i + 1 ∧ J (i + 1) acc μ', fun H3 q3 => ⟨ys.length - (i + 1), by omega, rfl, lt, q3⟩, fun x H3 yl => ?_⟩
    obtain ⟨F2, y, e3, r3, hy, rp⟩ := wk.yields i H' x H3 _ F' μ' lt e2 r2 yl
    intro s0 H0 C cl fp'
    refine (turn i y acc μ' hy q s0 H0 C cl fp' (wipe σ vs) _ F2 H3 x (bo'.mono e3) (rs'.mono e3) r3 rp).imp fun σ4 H4 q4 => ?_
    obtain ⟨w4, Γ4, F4, μ4, e4, rs4, r4, q4⟩ := q4
    rw [hvs] at *
    have w5 : wipe σ4 vs = wipe σ vs := w4.trans (wipe_wipe vs fun _ h => h)
    refine ⟨w5, ?_⟩
    have elem : ∀ {F5 : Hp} {μ5 : Mu} {H5 : Hp}, Ex F4 F5 → Rel X.K μ5 (upd M p (.lst ws)) F5 H5 → (∀ s0 H0 C cl fp, wE B (bk X scope s0 H0 C cl fp) elt Γ4 μ5 fun z μ6 => J (i + 1) (acc ++ [z]) μ6) →
        bkE X scope elt σ4 H5 fun y H6 => ∃ acc', H6 p = some (.lst acc') ∧ acc'.length < sizeLine ∧ ∃ F' μ' acc ws, Ex F1 F' ∧ Rel X.K μ' (upd M p (.lst ws)) F' (upd H6 p (.lst (acc' ++ [y]))) ∧ RepL X.K F' acc ws ∧ acc.length ≤ i + 1 ∧ J (i + 1) acc μ' := by
      intro F5 μ5 H5 e5 r5 hE s0 H0 C cl fp6
      refine (hE s0 H0 C cl fp6 σ4 _ F5 H5 (bo'.mono ((e3.trans e4).trans e5)) (rs4.mono e5) r5).imp fun z6 H6 ⟨z, F6, μ6, e6, r6, p6, q6⟩ => ?_
      obtain ⟨_, _, hp6⟩ := r6.frm p _ upd_same
      have ex := ((e3.trans e4).trans e5).trans e6
      refine ⟨ws, hp6, by rw [ra.len]; omega, F6, μ6, acc ++ [z], ws ++ [z6], e2.trans ex, r6.frmWrite, (ra.mono ex).snoc p6, by simp; omega, q6⟩
    rcases hi with rfl | ⟨c, rfl⟩
    · have k := elem (.refl _) r4 q4
      simp only [bkT, tYes, if_true]
      exact k
    · intro s0 H0 C cl fp6
      refine (q4 s0 H0 C cl fp6 σ4 _ F4 H4 (bo'.mono (e3.trans e4)) rs4 r4).imp fun k H5 ⟨F5, μ5, e5, r5, k1, k2⟩ => ?_
      cases k with
      | true => exact iteT (elem e5 r5 (k1 rfl))
      | false => exact iteF ⟨F5, μ5, acc, ws, (e2.trans (e3.trans e4)).trans e5, r5, ra.mono ((e3.trans e4).trans e5), by omega, k2 rfl⟩
  · obtain rfl : i = ys.length := by omega
    obtain ⟨nμ, rO⟩ := r2.frmOut (m := .lst acc) hM ⟨ws, rfl, ra⟩
    exact .inl ⟨wk.stops H' (e2.trans r2.sub), .loc p, F', _, e1.trans e2, rO, rep_loc.mpr rfl, done acc μ' q p nμ⟩
end
end D

set_option Elab.async false
set_option linter.all false
set_option maxRecDepth 100000
set_option maxHeartbeats 4000000
/-! D7: comprehensions as they are used, methods, dicts, repr. -/
namespace D
open PySem PySem.Spec PyProof.Rows L2
section
variable {B : Bs} {X : Cx} {Γ : G} {μ : Mu} {Q : A → Mu → Prop} {Z : AD} {e o i : Expr} {pos apos cpos : Pos}
variable {elt tg iter c : Expr} {scope : Scope} {own : List (Str × Nat)} {ifs : List Expr}
theorem bk_pts (hi : ifs = [] ∨ ∃ c, ifs = [c]) : ∀ (s0 : Shared) (H0 : Hp) (C : Addr) (cl : List (Str × Addr)) (fp : List Addr), PTs (X.blk s0 H0 scope (compEnvC scope cl C X.env) fp) ifs (bkT X scope ifs) := by
  rcases hi with rfl | ⟨c, rfl⟩
  · exact fun _ _ _ _ _ => pts_nil
  · exact fun s0 H0 C cl fp => pts_one ⟨fun pins s σ H Q I h => (h s0 H0 C cl fp).o pins s I⟩
theorem bkG_pg (s0 : Shared) (H0 : Hp) (C : Addr) (cl : List (Str × Addr)) (fp : List Addr) : PG (X.blk s0 H0 scope (compEnvC scope cl C X.env) fp) tg (bkG X scope tg) := ⟨fun pins s _ _ _ u _ I r h => (h s0 H0 C cl fp).o pins s u I r⟩
theorem bkE_pe (s0 : Shared) (H0 : Hp) (C : Addr) (cl : List (Str × Addr)) (fp : List Addr) : PE (X.blk s0 H0 scope (compEnvC scope cl C X.env) fp) elt (bkE X scope elt) := ⟨fun pins s _ _ _ I h => (h s0 H0 C cl fp).o pins s I⟩
/-- a comprehension: a list that is ours -/
theorem wE_lc (own : List (Str × Nat)) (h : lcAsk B X scope tg iter elt ifs (own.map (·.2)) Γ μ Q) (hN : X.N.Nodup) (ok : BlkOk X.N X.env.scope scope own) (hi : ifs = [] ∨ ∃ c, ifs = [c] := by first | exact .inl rfl | exact .inr ⟨_, rfl⟩) (hc : X.calm = true := by rfl) (hs : ∀ x, foldedSetIterable iter X.env x = pure x := by intro _; rfl) :
    wE B X (.ListComp elt [⟨tg, iter, ifs, 0⟩] scope pos) Γ μ Q :=
  wE_of (pe_lc (own := own) hc hN pi_rd ok (fun s0 H0 C cl fp => bkG_pg s0 H0 C cl fp) (bk_pts hi) (fun s0 H0 C cl fp => bkE_pe s0 H0 C cl fp) hs) fun σ M F H bo rs r => lc_core_ask hi h bo rs r
/-- name = a comprehension -/
theorem wS_setLc (own : List (Str × Nat)) (i : Nat) {y : Str} {py spos : Pos} (h : lcAsk B X scope tg iter elt ifs (own.map (·.2)) Γ μ fun z μ1 => Z.nx (Γ.set i (some z)) μ1) (hN : X.N.Nodup) (ok : BlkOk X.N X.env.scope scope own)
    (hsw : swapsWith (.ListComp elt [⟨tg, iter, ifs, 0⟩] scope pos) (some (.Name y py)) spos.line X.env = pure true)
    (hi : ifs = [] ∨ ∃ c, ifs = [c] := by first | exact .inl rfl | exact .inr ⟨_, rfl⟩) (hc : X.calm = true := by rfl) (hy : X.N[i]? = some y := by rfl) (hyl : X.env.scope.names.lookup y = some .local := by rfl) (hs : ∀ x, foldedSetIterable iter X.env x = pure x := by intro _; rfl) :
    wS B X (.Assign [.Name y py] (.ListComp elt [⟨tg, iter, ifs, 0⟩] scope pos) spos) Γ μ Z :=
  wS_of (ps_setLc (own := own) hc hN hy hyl hsw pi_rd ok (fun s0 H0 C cl fp => bkG_pg s0 H0 C cl fp) (bk_pts hi) (fun s0 H0 C cl fp => bkE_pe s0 H0 C cl fp) hs) fun σ M F H bo rs r => by
  have k := lc_core_ask hi h bo rs r
  obtain ⟨K0⟩ : Nonempty Unit := ⟨()⟩
  refine ⟨fun pins s I => ?_⟩
  refine thn (k.o pins s I) fun v s1 h1 => thn h1 fun itv s2 h2 => ?_
  obtain ⟨it, fp, tn, J0, H2, g1, g2, g3, g4, g5, q⟩ := h2
  refine ⟨it, fp, tn, J0, H2, g1, g2, g3, g4, g5, fun p np => ?_⟩
  obtain ⟨W, w0, turn⟩ := q p np
  refine ⟨W, w0, fun i' m H' w => ?_⟩
  rcases turn i' m H' w with ⟨st, q⟩ | q
  · refine .inl ⟨st, ?_⟩
    obtain ⟨x, F', μ', ex, rl, rp, q⟩ := q
    exact ⟨_, F', μ', ex, (rs.mono ex).set rp, rl, q⟩
  · exact .inr q

/-! ### comprehensions whose turns change nothing: the list of the answers -/
def Sub (μ μ' : Mu) : Prop := ∀ p m, μ p = some m → μ' p = some m
theorem Sub.refl (μ : Mu) : Sub μ μ := fun _ _ h => h
theorem Sub.trans {μ μ1 μ2 : Mu} (a : Sub μ μ1) (b : Sub μ1 μ2) : Sub μ μ2 := fun p m h => b p m (a p m h)
theorem Sub.new {μ : Mu} {p : Addr} {m : MO} (h : μ p = none) : Sub μ (μ.upd p m) := fun q n e => by
  have hq : q ≠ p := fun z => by rw [z, h] at e; cases e
  rw [Mu.upd_ne hq]; exact e
theorem Sub.none {μ μ' : Mu} {p : Addr} (a : Sub μ μ') (h : μ' p = Option.none) : μ p = Option.none := by
  cases q : μ p with
  | none => rfl
  | some m => rw [a p m q] at h; cases h
/-- what is not ours any more is forgotten -/
theorem wE_sub (h : wE B X e Γ μ fun x μ' => ∃ μ2, Sub μ2 μ' ∧ Q x μ2) : wE B X e Γ μ Q := fun σ M F H bo rs r =>
  (h σ M F H bo rs r).imp fun v H' ⟨x, F', μ', h1, h2, h3, μ2, h4, h5⟩ => ⟨x, F', μ2, h1, h2.weak h4, h3, h5⟩
/-- an expression that comes to z and leaves what is ours -/
def vE (B : Bs) (X : Cx) (e : Expr) (Γ : G) (μ : Mu) (z : A) : Prop := wE B X e Γ μ fun z' μ' => z' = z ∧ Sub μ μ'
theorem vE.use {z : A} (h : vE B X e Γ μ z) (q : Q z μ) : wE B X e Γ μ Q := wE_sub (wE.imp h fun x μ' ⟨e1, s1⟩ => ⟨μ, s1, by rw [e1]; exact q⟩)
theorem lcMap {vs : List Nat} (h : wIt B X tg iter Γ μ fun ys μ1 => ys.length ≤ sizeLine ∧ ∃ zs : List A, zs.length = ys.length ∧
      (∀ (i : Nat) y z, ys[i]? = some y → zs[i]? = some z → ∀ s0 H0 C cl fp, wGw B (bk X scope s0 H0 C cl fp) tg vs y (wipeA Γ vs) μ1 fun Γ2 μ2 => μ2 = μ1 ∧ ∀ s0 H0 C cl fp, vE B (bk X scope s0 H0 C cl fp) elt Γ2 μ1 z) ∧
      ∀ p : Addr, μ1 p = none → Q (.loc p) (μ1.upd p (.lst zs))) : lcAsk B X scope tg iter elt [] vs Γ μ Q := fun σ M F H bo rs r => by
  refine ⟨fun pins s I => ?_⟩
  refine thn ((h σ M F H bo rs r).o pins s I) fun v s1 h1 => thn h1 fun itv s2 h2 => ?_
  obtain ⟨it, fp, tn, J0, H2, g1, g2, g3, g4, g5, ys, F1, μ1, e1, r1, wk, hz, zs, hl, turn, done⟩ := h2
  refine ⟨it, fp, tn, J0, H2, g1, g2, g3, g4, g5, ys, F1, μ1, e1, r1, wk, hz, fun i acc μ' => acc = zs.take i ∧ μ' = μ1, ⟨by simp, rfl⟩, ?_, ?_⟩
  · rintro i y acc _ hy ⟨ea, rfl⟩ s0 H0 C cl fp'
    have hi : i < zs.length := by rw [hl]; exact (List.getElem?_eq_some_iff.mp hy).1
    have t := turn i y zs[i] hy (List.getElem?_eq_getElem hi) s0 H0 C cl fp'
    intro σ3 M3 F3 H3 v3 bo3 rs3 r3 rp3
    refine (t σ3 M3 F3 H3 v3 bo3 rs3 r3 rp3).imp fun σ4 H4 ⟨w4, Γ4, F4, μ4, e4, rs4, r4, em, q4⟩ => ⟨w4, Γ4, F4, μ4, e4, rs4, r4, ?_⟩
    subst em
    intro s0 H0 C cl fp6
    refine (q4 s0 H0 C cl fp6).use ⟨?_, rfl⟩
    rw [ea, List.take_succ, List.getElem?_eq_getElem hi]; rfl
  · rintro acc _ ⟨ea, rfl⟩ p np
    rw [ea, ← hl, List.take_length]
    exact done p np
/-- .. with a test: ks tells which are taken -/
def pickA : List Bool → List A → List A
  | k :: ks, z :: zs => if k then z :: pickA ks zs else pickA ks zs
  | _, _ => []
theorem pickA_snoc : ∀ (ks : List Bool) (zs : List A) (k : Bool) (z : A), ks.length = zs.length → pickA (ks ++ [k]) (zs ++ [z]) = pickA ks zs ++ (if k then [z] else [])
  | [], [], k, z, _ => by cases k <;> simp [pickA]
  | k' :: ks, z' :: zs, k, z, h => by
    have ih := pickA_snoc ks zs k z (by simpa using h)
    simp only [List.cons_append, pickA, ih]
    cases k' <;> simp
  | [], _ :: _, _, _, h => by simp at h
  | _ :: _, [], _, _, h => by simp at h
theorem pickA_map {α : Type} (p : α → Bool) (f : α → A) : ∀ l : List α, pickA (l.map p) (l.map f) = (l.filter p).map f
  | [] => rfl
  | a :: l => by
    simp only [List.map_cons, pickA, pickA_map p f l, List.filter_cons]
    cases p a <;> simp
/-- a test that comes to k and leaves what is ours -/
def vT (B : Bs) (X : Cx) (e : Expr) (Γ : G) (μ : Mu) (k : Bool) : Prop := wT B X e Γ μ fun k' μ' => k' = k ∧ Sub μ μ'
theorem wT_sub {QB : Bool → Mu → Prop} (h : wT B X e Γ μ fun x μ' => ∃ μ2, Sub μ2 μ' ∧ QB x μ2) : wT B X e Γ μ QB := fun σ M F H bo rs r =>
  (h σ M F H bo rs r).imp fun v H' ⟨F', μ', h1, h2, μ2, h4, h5⟩ => ⟨F', μ2, h1, h2.weak h4, h5⟩
theorem vT.use {k : Bool} {QB : Bool → Mu → Prop} (h : vT B X e Γ μ k) (q : QB k μ) : wT B X e Γ μ QB := wT_sub (wT.imp h fun x μ' ⟨e1, s1⟩ => ⟨μ, s1, by rw [e1]; exact q⟩)
theorem lcPick {vs : List Nat} (h : wIt B X tg iter Γ μ fun ys μ1 => ys.length ≤ sizeLine ∧ ∃ (ks : List Bool) (zs : List A), ks.length = ys.length ∧ zs.length = ys.length ∧
      (∀ (i : Nat) y k z, ys[i]? = some y → ks[i]? = some k → zs[i]? = some z → ∀ s0 H0 C cl fp, wGw B (bk X scope s0 H0 C cl fp) tg vs y (wipeA Γ vs) μ1 fun Γ2 μ2 => μ2 = μ1 ∧ (∀ s0 H0 C cl fp, vT B (bk X scope s0 H0 C cl fp) c Γ2 μ1 k) ∧ (k = true → ∀ s0 H0 C cl fp, vE B (bk X scope s0 H0 C cl fp) elt Γ2 μ1 z)) ∧
      ∀ p : Addr, μ1 p = none → Q (.loc p) (μ1.upd p (.lst (pickA ks zs)))) : lcAsk B X scope tg iter elt [c] vs Γ μ Q := fun σ M F H bo rs r => by
  refine ⟨fun pins s I => ?_⟩
  refine thn ((h σ M F H bo rs r).o pins s I) fun v s1 h1 => thn h1 fun itv s2 h2 => ?_
  obtain ⟨it, fp, tn, J0, H2, g1, g2, g3, g4, g5, ys, F1, μ1, e1, r1, wk, hz, ks, zs, hk, hl, turn, done⟩ := h2
  refine ⟨it, fp, tn, J0, H2, g1, g2, g3, g4, g5, ys, F1, μ1, e1, r1, wk, hz, fun i acc μ' => acc = pickA (ks.take i) (zs.take i) ∧ μ' = μ1, ⟨by simp [pickA], rfl⟩, ?_, ?_⟩
  · rintro i y acc _ hy ⟨ea, rfl⟩ s0 H0 C cl fp'
    have hy' := (List.getElem?_eq_some_iff.mp hy).1
    have hi : i < zs.length := by rw [hl]; exact hy'
    have hi' : i < ks.length := by rw [hk]; exact hy'
    have t := turn i y ks[i] zs[i] hy (List.getElem?_eq_getElem hi') (List.getElem?_eq_getElem hi) s0 H0 C cl fp'
    have en : pickA (ks.take (i + 1)) (zs.take (i + 1)) = acc ++ (if ks[i] then [zs[i]] else []) := by
      rw [ea, List.take_succ, List.take_succ, List.getElem?_eq_getElem hi, List.getElem?_eq_getElem hi']
      exact pickA_snoc _ _ _ _ (by simp; omega)
    intro σ3 M3 F3 H3 v3 bo3 rs3 r3 rp3
    refine (t σ3 M3 F3 H3 v3 bo3 rs3 r3 rp3).imp fun σ4 H4 ⟨w4, Γ4, F4, μ4, e4, rs4, r4, em, q4, q5⟩ => ⟨w4, Γ4, F4, μ4, e4, rs4, r4, ?_⟩
    subst em
    intro s0 H0 C cl fp6
    refine (q4 s0 H0 C cl fp6).use ⟨fun kt s0 H0 C cl fp7 => (q5 kt s0 H0 C cl fp7).use ⟨?_, rfl⟩, fun kf => ⟨?_, rfl⟩⟩
    · rw [en, kt]; rfl
    · rw [en, kf]; simp
  · rintro acc _ ⟨ea, rfl⟩ p np
    rw [ea, ← hl, List.take_length, hl, ← hk, List.take_length]
    exact done p np

/-! ### methods of lists -/
theorem wE_append (h : wE B X o Γ μ fun x μ1 => ∃ p ys0, x = .loc p ∧ μ1 p = some (.lst ys0) ∧ wE B X e Γ μ1 fun y μ2 => ∃ ys, μ2 p = some (.lst ys) ∧ ys.length < sizeLine ∧ Q .non (μ2.upd p (.lst (ys ++ [y]))))
    (hbase : attributeBase o "append" X.env (eval o X.env) = eval o X.env := by rfl)
    (hfew : ((backTo cpos (starEach [e] X.env)).all (fun x => !x.1) && (backToKw cpos (keywordEach [] X.env)).all (fun x => x.1.isSome) && decide (([e] : List Expr).length + ([] : List Keyword).length + (if ([] : List Keyword).isEmpty then 0 else 1) < 30)) = true := by rfl)
    (hline : (apos.endLine == cpos.line) = true := by rfl) (hs : starEach [e] X.env = (false, eval e X.env) :: starEach [] X.env := by rfl) (hplain : (backTo cpos (starEach [] X.env)).any (·.1) = false := by rfl) : wE B X (.Call (.Attribute o "append" apos) [e] [] cpos) Γ μ Q :=
  wE_of (pe_bm PySem.F.plainAttrs_list PySem.F.slot_list_append PySem.F.type_list_append mt_append pe_rd (pa_cons pe_rd pa_nil hs) hbase hfew hline hs hplain) fun σ M F H bo rs r => by
  refine (h σ M F H bo rs r).imp fun v H1 ⟨x, F1, μ1, e1, r1, p1, p, ys0, ex, hp, q1⟩ => ?_
  subst ex; rw [rep_loc] at p1
  obtain ⟨_, ob, k1, vs, rfl, k2⟩ := r1.own p _ hp
  refine ⟨by rw [p1]; exact .inl ⟨rfl, _, .inl (.inl k1)⟩, ?_⟩
  refine (q1 σ M F1 H1 (bo.mono e1) (rs.mono e1) r1).imp fun w H2 ⟨y, F2, μ2, e2, r2, p2, ys, hq, hz, q2⟩ => ?_
  obtain ⟨_, ob, k3, ws, rfl, k4⟩ := r2.own p _ hq
  exact ⟨p, ws, w, p1, rfl, k3, by rw [k4.len]; exact hz, _, F2, _, e1.trans e2, r2.write hq (m' := .lst (ys ++ [y])) ⟨_, rfl, k4.snoc p2⟩, rep_non.mpr rfl, q2⟩

/-! ### dicts -/
def kA : Key → A
  | .inl i => .int i
  | .inr x => .str x
theorem kA_rep {K : PySem.W.Frag} {F : Hp} {k : Key} {v : V} (h : Rep K F (kA k) v) : v = kV k := by
  cases k with
  | inl i => exact rep_int.mp h
  | inr x => exact rep_str.mp h
def valA (kvs : List (Key × A)) (k : Key) : Option A := (kvs.find? fun kv => decide (kv.1 = k)).map (·.2)
def putA (kvs : List (Key × A)) (k : Key) (v : A) : List (Key × A) := if (kvs.any fun kv => decide (kv.1 = k)) = true then kvs.map (fun kv => if kv.1 = k then (kv.1, v) else kv) else kvs ++ [(k, v)]
theorem valA_rep {K : PySem.W.Frag} {F : Hp} : ∀ {kvs : List (Key × A)} {ws : List (Key × V)} (k : Key), RepK K F kvs ws → (valA kvs k = none ∧ valV ws k = none) ∨ ∃ z v, valA kvs k = some z ∧ valV ws k = some v ∧ Rep K F z v
  | [], _, k, h => by rw [show _ = [] from h]; exact .inl ⟨rfl, rfl⟩
  | (k', x) :: r, _, k, ⟨v, t, e, h1, h2⟩ => by
    subst e
    by_cases ek : k' = k
    · exact .inr ⟨x, v, by simp [valA, ek], by simp [valV, ek], h1⟩
    · rcases valA_rep k h2 with h | ⟨z, w, h3, h4, h5⟩
      · refine .inl ⟨?_, ?_⟩
        · have := h.1; simp only [valA, List.find?_cons, ek, decide_false] at this ⊢; exact this
        · have := h.2; simp only [valV, List.find?_cons, ek, decide_false] at this ⊢; exact this
      · refine .inr ⟨z, w, ?_, ?_, h5⟩
        · simp only [valA, List.find?_cons, ek, decide_false] at h3 ⊢; exact h3
        · simp only [valV, List.find?_cons, ek, decide_false] at h4 ⊢; exact h4
theorem any_rep {K : PySem.W.Frag} {F : Hp} (k : Key) : ∀ {kvs : List (Key × A)} {ws : List (Key × V)}, RepK K F kvs ws → (ws.any fun kv => decide (kv.1 = k)) = kvs.any fun kv => decide (kv.1 = k)
  | [], _, h => by rw [show _ = [] from h]; rfl
  | (k', x) :: r, _, ⟨v, t, e, h1, h2⟩ => by subst e; simp only [List.any_cons, any_rep k h2]
theorem mapK_rep {K : PySem.W.Frag} {F : Hp} {k : Key} {z : A} {w : V} (g : Rep K F z w) : ∀ {kvs : List (Key × A)} {ws : List (Key × V)}, RepK K F kvs ws → RepK K F (kvs.map fun kv => if kv.1 = k then (kv.1, z) else kv) (ws.map fun kv => if kv.1 = k then (kv.1, w) else kv)
  | [], _, h => by rw [show _ = [] from h]; rfl
  | (k', x) :: r, _, ⟨v, t, e, h1, h2⟩ => by
    subst e
    simp only [List.map_cons]
    by_cases ek : k' = k
    · rw [if_pos ek, if_pos ek]; exact ⟨w, _, rfl, g, mapK_rep g h2⟩
    · rw [if_neg ek, if_neg ek]; exact ⟨v, _, rfl, h1, mapK_rep g h2⟩
theorem snocK_rep {K : PySem.W.Frag} {F : Hp} {k : Key} {z : A} {w : V} (g : Rep K F z w) : ∀ {kvs : List (Key × A)} {ws : List (Key × V)}, RepK K F kvs ws → RepK K F (kvs ++ [(k, z)]) (ws ++ [(k, w)])
  | [], _, h => by rw [show _ = [] from h]; exact ⟨w, [], rfl, g, rfl⟩
  | (k', x) :: r, _, ⟨v, t, e, h1, h2⟩ => by subst e; exact ⟨v, _, rfl, h1, snocK_rep g h2⟩
theorem putA_rep {K : PySem.W.Frag} {F : Hp} {k : Key} {z : A} {w : V} (g : Rep K F z w) {kvs : List (Key × A)} {ws : List (Key × V)} (h : RepK K F kvs ws) : RepK K F (putA kvs k z) (putK ws k w) := by
  unfold putA putK
  rw [any_rep k h]
  split
  · exact mapK_rep g h
  · exact snocK_rep g h
theorem wE_dget {k : Nat} (ar : Ar X k) (h : wE B X o Γ μ fun x μ1 => wE B X i Γ μ1 fun y μ2 => ∃ p kvs k z, x = .loc p ∧ μ2 p = some (.dic kvs) ∧ y = kA k ∧ valA kvs k = some z ∧ Q z μ2) (hs : NoSl i := by exact fun _ _ => rfl) : wE B X (.Subscript o i pos) Γ μ Q :=
  wE_of (pe_dget ar.u1 pe_rd pe_rd hs) fun σ M F H bo rs r => by
  refine (h σ M F H bo rs r).imp fun v H1 ⟨x, F1, μ1, e1, r1, p1, q1⟩ => ?_
  refine (q1 σ M F1 H1 (bo.mono e1) (rs.mono e1) r1).imp fun w H2 ⟨y, F2, μ2, e2, r2, p2, p, kvs, k, z, ex, hp, ey, hv, q2⟩ => ?_
  subst ex; subst ey
  rw [rep_loc] at p1
  obtain ⟨_, ob, k1, ws, rfl, k2⟩ := r2.own p _ hp
  rcases valA_rep k k2 with ⟨h1, _⟩ | ⟨z', v', h1, h2, h3⟩
  · rw [h1] at hv; cases hv
  · rw [hv] at h1; cases h1
    refine ⟨p, v', p1, ?_, z, F2, μ2, e1.trans e2, r2, h3, q2⟩
    rw [kA_rep p2, ← h2]
    exact DGet.k k1
theorem wS_dput {k : Nat} {pos' : Pos} (ar : Ar X k) (h : wE B X e Γ μ fun z μ1 => wE B X o Γ μ1 fun x μ2 => wE B X i Γ μ2 fun y μ3 => ∃ p kvs k, x = .loc p ∧ μ3 p = some (.dic kvs) ∧ y = kA k ∧ kvs.length < sizeLine ∧ Z.nx Γ (μ3.upd p (.dic (putA kvs k z))))
    (hs : swapsWith e (some (.Subscript o i pos')) pos.line X.env = pure false := by rfl) : wS B X (.Assign [.Subscript o i pos'] e pos) Γ μ Z := wS_of (ps_dput ar.u1 pe_rd pe_rd pe_rd hs) fun σ M F H bo rs r => by
  refine (h σ M F H bo rs r).imp fun u H0 ⟨z, F0, μ0, e0, r0, p0, q0⟩ => ?_
  refine (q0 σ M F0 H0 (bo.mono e0) (rs.mono e0) r0).imp fun v H1 ⟨x, F1, μ1, e1, r1, p1, q1⟩ => ?_
  refine (q1 σ M F1 H1 (bo.mono (e0.trans e1)) (rs.mono (e0.trans e1)) r1).imp fun w H2 ⟨y, F2, μ2, e2, r2, p2, p, kvs, k, ex, hp, ey, hl, q2⟩ => ?_
  subst ex; subst ey
  rw [rep_loc] at p1
  obtain ⟨_, ob, k1, ws, rfl, k2⟩ := r2.own p _ hp
  refine ⟨p, upd H2 p (.dK (putK ws k u)), p1, ?_, Γ, F2, _, (e0.trans e1).trans e2, rs.mono ((e0.trans e1).trans e2), r2.write hp (m' := .dic (putA kvs k z)) ⟨_, rfl, putA_rep (p0.mono (e1.trans e2)) k2⟩, q2⟩
  rw [kA_rep p2]
  exact DPut.k k1 (by rw [k2.len]; exact hl)
/-- {} -/
theorem wE_dnew (q : ∀ p, μ p = none → Q (.loc p) (μ.upd p (.dic []))) : wE B X (.Dict [] [] pos) Γ μ Q := wE_of pe_dnewK fun σ M F H bo rs r p np => by
  obtain ⟨nμ, rl'⟩ := r.new (m := .dic []) (o := .dK []) np ⟨[], rfl, rfl⟩
  exact ⟨_, _, _, .refl _, rl', rep_loc.mpr rfl, q p nμ⟩
end
end D

set_option Elab.async false
set_option linter.all false
set_option maxRecDepth 100000
set_option maxHeartbeats 4000000
/-! D8: dict displays, repr. -/
namespace D
open PySem PySem.Spec PyProof.Rows L2
section
variable {B : Bs} {X : Cx} {Γ : G} {μ : Mu} {Q : A → Mu → Prop} {Z : AD} {e o i : Expr} {pos apos cpos : Pos}
/-! ### a written dict -/
def rdPs (X : Cx) : List (Option Expr) → List Expr → List (TE × TE)
  | some k :: ks, v :: vs => (rdE X k, rdE X v) :: rdPs X ks vs
  | _, _ => []
def okPs : List (Option Expr) → List Expr → Bool
  | [], [] => true
  | some _ :: ks, _ :: vs => okPs ks vs
  | _, _ => false
theorem pps_rd : ∀ {ks : List (Option Expr)} {vs : List Expr}, okPs ks vs = true → PPs X pos ks vs (rdPs X ks vs)
  | [], [], _ => pps_nil
  | some _ :: _, _ :: _, h => pps_cons pe_rd pe_rd (pps_rd (by simpa [okPs] using h))
  | [], _ :: _, h => by simp [okPs] at h
  | none :: _, _, h => by simp [okPs] at h
  | some _ :: _, [], h => by simp [okPs] at h
def wPs (B : Bs) (X : Cx) : List (Option Expr) → List Expr → G → Mu → (List (A × A) → Mu → Prop) → Prop
  | some k :: ks, v :: vs, Γ, μ, R => wE B X k Γ μ fun x μ1 => wE B X v Γ μ1 fun y μ2 => wPs B X ks vs Γ μ2 fun ps μ3 => R ((x, y) :: ps) μ3
  | _, _, _, μ, R => R [] μ
def RepP (K : PySem.W.Frag) (F : Hp) : List (A × A) → List (V × V) → Prop
  | [], vs => vs = []
  | (x, y) :: r, vs => ∃ v w t, vs = (v, w) :: t ∧ Rep K F x v ∧ Rep K F y w ∧ RepP K F r t
theorem RepP.mono {K : PySem.W.Frag} {F F' : Hp} (e : Ex F F') : ∀ {ps : List (A × A)} {vs : List (V × V)}, RepP K F ps vs → RepP K F' ps vs
  | [], _, h => h
  | (x, y) :: r, _, ⟨v, w, t, h1, h2, h3, h4⟩ => ⟨v, w, t, h1, h2.mono e, h3.mono e, RepP.mono e h4⟩
theorem pairs_run {M : Hp} : ∀ {ks : List (Option Expr)} {vs : List Expr} {μ : Mu} {R : List (A × A) → Mu → Prop} {σ : L2.St} {F H : Hp}, wPs B X ks vs Γ μ R → B.ok M F → RelS X.K Γ F σ → Rel X.K μ M F H → tPairs (rdPs X ks vs) σ H fun ps H' => ∃ qs F' μ', Ex F F' ∧ Rel X.K μ' M F' H' ∧ RepP X.K F' qs ps ∧ R qs μ'
  | [], [], μ, R, σ, F, H, h, bo, rs, r => ⟨[], F, μ, .refl _, r, rfl, h⟩
  | [], _ :: _, μ, R, σ, F, H, h, bo, rs, r => ⟨[], F, μ, .refl _, r, rfl, h⟩
  | none :: _, _, μ, R, σ, F, H, h, bo, rs, r => ⟨[], F, μ, .refl _, r, rfl, h⟩
  | some _ :: _, [], μ, R, σ, F, H, h, bo, rs, r => ⟨[], F, μ, .refl _, r, rfl, h⟩
  | some k :: ks, v :: vs, μ, R, σ, F, H, h, bo, rs, r => by
    refine (show wE B X k Γ μ _ from h) σ M F H bo rs r |>.imp fun a H1 ⟨x, F1, μ1, e1, r1, p1, q1⟩ => ?_
    refine (q1 σ M F1 H1 (bo.mono e1) (rs.mono e1) r1).imp fun b H2 ⟨y, F2, μ2, e2, r2, p2, q2⟩ => ?_
    have k := pairs_run q2 (bo.mono (e1.trans e2)) (rs.mono (e1.trans e2)) r2
    have mono : ∀ (trs : List (TE × TE)), (∀ p ∈ trs, ∃ e1 e2, p = (rdE X e1, rdE X e2)) → ∀ (σ : L2.St) (H : Hp) (P P' : List (V × V) → Hp → Prop), (∀ ps H, P ps H → P' ps H) → tPairs trs σ H P → tPairs trs σ H P' := by
      intro trs
      induction trs with
      | nil => intro _ σ H P P' w h; exact w _ _ h
      | cons p r ih =>
        intro hp σ H P P' w h
        obtain ⟨a1, a2, rfl⟩ := hp _ List.mem_cons_self
        exact rdE_mono h fun x H1 h1 => rdE_mono h1 fun y H2 h2 => ih (fun q hq => hp q (List.mem_cons_of_mem _ hq)) σ H2 _ _ (fun ps H3 q => w _ _ q) h2
    have shape : ∀ (ks : List (Option Expr)) (vs : List Expr), ∀ p ∈ rdPs X ks vs, ∃ e1 e2, p = (rdE X e1, rdE X e2) := by
      intro ks
      induction ks with
      | nil => intro vs p hp; simp [rdPs] at hp
      | cons k ks ih =>
        intro vs p hp
        cases k with
        | none => simp [rdPs] at hp
        | some k => cases vs with
          | nil => simp [rdPs] at hp
          | cons v vs =>
            simp only [rdPs, List.mem_cons] at hp
            rcases hp with rfl | hp
            · exact ⟨_, _, rfl⟩
            · exact ih vs p hp
    refine mono _ (shape ks vs) _ _ _ _ (fun ps H3 q => ?_) k
    obtain ⟨qs, F3, μ3, e3, r3, p3, q3⟩ := q
    exact ⟨(x, y) :: qs, F3, μ3, (e1.trans e2).trans e3, r3, ⟨a, b, ps, rfl, p1.mono (e2.trans e3), p2.mono e3, p3⟩, q3⟩
def mergeA (kvs more : List (Key × A)) : List (Key × A) := more.foldl (fun acc kv => putA acc kv.1 kv.2) kvs
theorem merge_rep {K : PySem.W.Frag} {F : Hp} : ∀ {more : List (Key × A)} {ms : List (Key × V)} {kvs : List (Key × A)} {ws : List (Key × V)}, RepK K F more ms → RepK K F kvs ws → RepK K F (mergeA kvs more) (mergeK ws ms)
  | [], _, _, _, h, g => by rw [show _ = [] from h]; exact g
  | (k, x) :: r, _, kvs, ws, ⟨v, t, e, h1, h2⟩, g => by subst e; exact merge_rep (kvs := putA kvs k x) (ws := putK ws k v) h2 (putA_rep h1 g)
theorem keys_rep {K : PySem.W.Frag} {F : Hp} : ∀ {kvs : List (Key × A)} {ps : List (V × V)}, RepP K F (kvs.map fun kv => (kA kv.1, kv.2)) ps → ∃ ws : List (Key × V), ps = ws.map (fun kv => (kV kv.1, kv.2)) ∧ RepK K F kvs ws
  | [], _, h => ⟨[], h, rfl⟩
  | (k, x) :: r, _, h => by
    obtain ⟨v, w, t, rfl, h1, h2, h3⟩ := h
    obtain ⟨ws, rfl, h4⟩ := keys_rep (kvs := r) h3
    exact ⟨(k, w) :: ws, by rw [kA_rep h1]; rfl, w, ws, rfl, h2, h4⟩
theorem wE_disp {ks : List (Option Expr)} {vs : List Expr} (h : wPs B X ks vs Γ μ fun ps μ1 => ∃ kvs : List (Key × A), ps = kvs.map (fun kv => (kA kv.1, kv.2)) ∧ kvs.length ≤ 15 ∧ ∀ p : Addr, μ1 p = none → Q (.loc p) (μ1.upd p (.dic (mergeA [] kvs))))
    (ok : okPs ks vs = true := by rfl) (h0 : ks ≠ [] := by exact fun z => nomatch z) (hall : ks.all (·.isSome) = true := by rfl) (hl : ks.length = vs.length := by rfl) (h15 : ks.length ≤ 15 := by decide) : wE B X (.Dict ks vs pos) Γ μ Q :=
  wE_of (pe_disp (pps_rd ok) hall hl h0 h15) fun σ M F H bo rs r p np => by
  obtain ⟨hM, rN⟩ := r.frmNew (o := .dK []) np
  have k := pairs_run h (bo.up (.new hM)) rs rN
  have mono : ∀ (trs : List (TE × TE)), (∀ p ∈ trs, ∃ e1 e2, p = (rdE X e1, rdE X e2)) → ∀ (σ : L2.St) (H : Hp) (P P' : List (V × V) → Hp → Prop), (∀ ps H, P ps H → P' ps H) → tPairs trs σ H P → tPairs trs σ H P' := by
    intro trs
    induction trs with
    | nil => intro _ σ H P P' w h; exact w _ _ h
    | cons p r ih =>
      intro hp σ H P P' w h
      obtain ⟨a1, a2, rfl⟩ := hp _ List.mem_cons_self
      exact rdE_mono h fun x H1 h1 => rdE_mono h1 fun y H2 h2 => ih (fun q hq => hp q (List.mem_cons_of_mem _ hq)) σ H2 _ _ (fun ps H3 q => w _ _ q) h2
  have shape : ∀ (ks : List (Option Expr)) (vs : List Expr), ∀ p ∈ rdPs X ks vs, ∃ e1 e2, p = (rdE X e1, rdE X e2) := by
    intro ks
    induction ks with
    | nil => intro vs p hp; simp [rdPs] at hp
    | cons k ks ih =>
      intro vs p hp
      cases k with
      | none => simp [rdPs] at hp
      | some k => cases vs with
        | nil => simp [rdPs] at hp
        | cons v vs =>
          simp only [rdPs, List.mem_cons] at hp
          rcases hp with rfl | hp
          · exact ⟨_, _, rfl⟩
          · exact ih vs p hp
  refine mono _ (shape ks vs) _ _ _ _ (fun ps H2 q => ?_) k
  obtain ⟨qs, F2, μ2, e2, r2, p2, kvs, rfl, hk, q2⟩ := q
  obtain ⟨_, _, hp2⟩ := r2.frm p _ upd_same
  obtain ⟨ws, ep, hw⟩ := keys_rep p2
  refine ⟨hp2, ws, ep, by rw [hw.len]; exact hk, ?_⟩
  have r3 := r2.frmWrite (o' := .dK (mergeK [] ws))
  obtain ⟨nμ, r4⟩ := r3.frmOut (m := .dic (mergeA [] kvs)) hM ⟨_, rfl, merge_rep hw rfl⟩
  exact ⟨_, F2, _, e2, r4, rep_loc.mpr rfl, q2 p nμ⟩

/-! ### repr -/
mutual
def isShow : A → Bool
  | .non => true
  | .bl _ => true
  | .int i => decide (i.natAbs.log2 < 1920)
  | .str _ => true
  | .ty _ => false
  | .loc _ => false
  | .tup xs => isShows xs
  | .lst xs => isShows xs
  | .fls xs => isShows xs
def isShows : List A → Bool
  | [] => true
  | x :: xs => isShow x && isShows xs
end
mutual
/-- a bound of the length of what is shown -/
def shl : A → Nat
  | .non => 4
  | .bl _ => 5
  | .int i => if i.natAbs < 10 ^ 18 then 20 else 1922
  | .str x => (reprText x).length
  | .ty _ => 4
  | .loc _ => 4
  | .tup xs => shls xs + 3
  | .lst xs => shls xs + 3
  | .fls xs => shls xs + 3
def shls : List A → Nat
  | [] => 0
  | x :: xs => shl x + 2 + shls xs
end
mutual
theorem showable_of : ∀ x : A, isShow x = true → (toD x).showable = true
  | .non, _ => by simp only [toD, PyData.showable]
  | .bl _, _ => by simp only [toD, PyData.showable]
  | .int _, h => by simpa only [toD, PyData.showable, isShow] using h
  | .str _, _ => by simp only [toD, PyData.showable]
  | .ty _, h => by simp [isShow] at h
  | .loc _, h => by simp [isShow] at h
  | .tup xs, h => by simp only [toD, PyData.showable]; exact showables_of xs (by simpa [isShow] using h)
  | .lst xs, h => by simp only [toD, PyData.showable]; exact showables_of xs (by simpa [isShow] using h)
  | .fls xs, h => by simp only [toD, PyData.showable]; exact showables_of xs (by simpa [isShow] using h)
theorem showables_of : ∀ xs : List A, isShows xs = true → PyData.showableAll (toDs xs) = true
  | [], _ => by simp only [toDs, PyData.showableAll]
  | x :: xs, h => by
    simp only [isShows, Bool.and_eq_true] at h
    simp only [toDs, PyData.showableAll, showable_of x h.1, showables_of xs h.2, Bool.and_self]
end
mutual
theorem noDict_of : ∀ x : A, (toD x).hasDict = false
  | .non => by simp only [toD, PyData.hasDict]
  | .bl _ => by simp only [toD, PyData.hasDict]
  | .int _ => by simp only [toD, PyData.hasDict]
  | .str _ => by simp only [toD, PyData.hasDict]
  | .ty _ => by simp only [toD, PyData.hasDict]
  | .loc _ => by simp only [toD, PyData.hasDict]
  | .tup xs => by simp only [toD, PyData.hasDict]; exact noDicts_of xs
  | .lst xs => by simp only [toD, PyData.hasDict]; exact noDicts_of xs
  | .fls xs => by simp only [toD, PyData.hasDict]; exact noDicts_of xs
theorem noDicts_of : ∀ xs : List A, PyData.hasDictAll (toDs xs) = false
  | [] => by simp only [toDs, PyData.hasDictAll]
  | x :: xs => by simp only [toDs, PyData.hasDictAll, noDict_of x, noDicts_of xs, Bool.or_self]
end
theorem len_intText {i : Int} (h : i.natAbs.log2 < 1920) : (Str.ofString (toString i)).length ≤ if i.natAbs < 10 ^ 18 then 20 else 1922 := by
  rw [PySem.ofString_length]
  split
  · rename_i h2
    have e := int_text_length_le10 (k := 18) (by decide) h2
    omega
  · have e := int_text_length_le (k := 1920) (by decide) h
    omega
theorem reprIs_d {x : A} (hs : isShow x = true) : isShow x = true := hs
mutual
theorem shown_le : ∀ x : A, isShow x = true → (toD x).shown.length ≤ shl x
  | .non, _ => by simp only [toD, PyData.shown, shl]; decide
  | .bl b, _ => by simp only [toD, PyData.shown, shl]; cases b <;> decide
  | .int i, h => by
    simp only [toD, PyData.shown, shl]
    exact len_intText (by simpa [isShow] using h)
  | .str x, _ => by simp only [toD, PyData.shown, shl]; exact Nat.le_refl _
  | .ty _, _ => by simp only [toD, PyData.shown, shl]; decide
  | .loc _, _ => by simp only [toD, PyData.shown, shl]; decide
  | .tup xs, h => by
    simp only [toD, PyData.shown, shl]
    have h1 := tupleText_len_le (PyData.shownAll (toDs xs))
    have h2 := showns_le xs (by simpa [isShow] using h)
    omega
  | .lst xs, h => by
    simp only [toD, PyData.shown, shl]
    have h1 := listText_len_le (PyData.shownAll (toDs xs))
    have h2 := showns_le xs (by simpa [isShow] using h)
    omega
  | .fls xs, h => by
    simp only [toD, PyData.shown, shl]
    have h1 := listText_len_le (PyData.shownAll (toDs xs))
    have h2 := showns_le xs (by simpa [isShow] using h)
    omega
theorem showns_le : ∀ xs : List A, isShows xs = true → ((PyData.shownAll (toDs xs)).map (·.length)).sum + 2 * (PyData.shownAll (toDs xs)).length ≤ shls xs
  | [], _ => by simp [toDs, PyData.shownAll, shls]
  | x :: xs, h => by
    simp only [isShows, Bool.and_eq_true] at h
    have h1 := shown_le x h.1
    have h2 := showns_le xs h.2
    simp only [toDs, PyData.shownAll, shls, List.map_cons, List.sum_cons, List.length_cons]
    omega
end
/-- data whose repr is asked -/
structure ShowOk (x : A) : Prop where
  sh : isShow x = true
  dp : deep x ≤ 60
  ln : shl x ≤ sizeLine
mutual
theorem dp_show : ∀ {K : PySem.W.Frag} {H : Hp} {x : A} {v : V}, isShow x = true → Rep K H x v → Dp K H v (toD x)
  | _, _, .non, _, _, h => by rw [rep_non] at h; subst h; exact .non
  | _, _, .bl b, _, _, h => by rw [rep_bl] at h; subst h; exact .bl b
  | _, _, .int i, _, _, h => by rw [rep_int] at h; subst h; exact .int i
  | _, _, .str x, _, _, h => by rw [rep_str] at h; subst h; exact .str x
  | _, _, .ty _, _, h, _ => by simp [isShow] at h
  | _, _, .loc _, _, h, _ => by simp [isShow] at h
  | _, _, .tup xs, _, hd, h => by
    rw [rep_tup] at h; obtain ⟨a, vs, rfl, h1, h2⟩ := h
    simp only [toD]
    exact .tup h1 (dps_show (by simpa [isShow] using hd) h2)
  | _, _, .lst xs, _, hd, h => by
    rw [rep_lst] at h; obtain ⟨a, vs, rfl, h1, h2⟩ := h
    simp only [toD]
    exact .lst (.inl (.inl h1)) (dps_show (by simpa [isShow] using hd) h2)
  | _, _, .fls xs, _, hd, h => by
    rw [rep_fls] at h; obtain ⟨a, vs, rfl, h1, h2⟩ := h
    simp only [toD]
    exact .lst h1 (dps_show (by simpa [isShow] using hd) h2)
theorem dps_show : ∀ {K : PySem.W.Frag} {H : Hp} {xs : List A} {vs : List V}, isShows xs = true → RepL K H xs vs → DpAll K H vs (toDs xs)
  | _, _, [], _, _, h => by simp only [RepL] at h; subst h; exact .nil
  | _, _, x :: xs, _, hd, h => by
    simp only [RepL] at h
    obtain ⟨v, r, rfl, h1, h2⟩ := h
    simp only [isShows, Bool.and_eq_true] at hd
    simp only [toDs]
    exact .cons (dp_show hd.1 h1) (dps_show hd.2 h2)
end
theorem wC_repr {k : Nat} {x : A} (ar : Ar X k) (hx : ShowOk x) (q : Q (.str (toD x).shown) μ) : wC X (.builtin "repr") [x] μ Q := by
  intro M F H vs rl rp
  refine ⟨fun pins s σ us I rv => ?_⟩
  obtain ⟨v, rfl, h⟩ := rp.one
  obtain ⟨u, rfl, ru⟩ := rv.one
  have hl := shown_le x hx.sh
  have hz : (toD x).shown.length ≤ sizeLine := Nat.le_trans hl hx.ln
  have fin : ∀ (t : Nat) (h' : Heap) (tk : Nat), (∀ b o, s.heap.get? b = some o → h'.get? b = some o) → EP X pins σ (QE X.K M F Q) (.str (toD x).shown t) { s with heap := h', toks := tk } := fun t h' tk kp => ⟨.str (toD x).shown, H, I.kept kp, ⟨t, rfl⟩, .pure rl (rep_str.mpr rfl) q⟩
  have big : ∀ a, u = .ref a → wpAny (model X.prog X.w) X.A (call (.builtin "repr") [u]) (EP X pins σ (QE X.K M F Q)) X.xe s := by
    intro a e
    subst e
    obtain ⟨as, rd⟩ := Dp.reads I (toD x) v _ (dp_show hx.sh (h.mono rl.sub)) ru
    have hd := depth_of x
    have hu := ar.u64
    exact repr_of_reads' rd (showable_of x hx.sh) (PyData.noDict_hsm (noDict_of x)) ar.show0 (by have := hx.dp; omega) (fun _ _ z => z) (fun h' t tk kp => fin t h' tk kp) hz
  cases x with
  | non =>
    rw [rep_non] at h; subst h; cases ru
    exact P.repr_of_none (by simpa only [toD, PyData.shown] using fin s.toks s.heap (s.toks + 1) fun _ _ z => z)
  | bl b =>
    rw [rep_bl] at h; subst h; cases ru
    exact P.repr_of_bool (by simpa only [toD, PyData.shown] using fin s.toks s.heap (s.toks + 1) fun _ _ z => z)
  | int i =>
    rw [rep_int] at h; subst h; obtain ⟨t, rfl⟩ := ru
    exact P.repr_of_int (by simpa [isShow] using hx.sh) (by simpa only [toD, PyData.shown] using fin s.toks s.heap (s.toks + 1) fun _ _ z => z)
  | str i =>
    rw [rep_str] at h; subst h; obtain ⟨t, rfl⟩ := ru
    exact P.repr_of_str (by simpa only [toD, PyData.shown] using fin s.toks s.heap (s.toks + 1) fun _ _ z => z) (by simpa only [toD, PyData.shown] using hz)
  | ty n => exact absurd hx.sh (by simp [isShow])
  | loc n => exact absurd hx.sh (by simp [isShow])
  | tup xs => rw [rep_tup] at h; obtain ⟨a, ws, rfl, _⟩ := h; cases ru; exact big a rfl
  | lst xs => rw [rep_lst] at h; obtain ⟨a, ws, rfl, _⟩ := h; cases ru; exact big a rfl
  | fls xs => rw [rep_fls] at h; obtain ⟨a, ws, rfl, _⟩ := h; cases ru; exact big a rfl
end
end D

set_option Elab.async false
set_option linter.all false
set_option maxRecDepth 100000
set_option maxHeartbeats 4000000
/-! D9: conveniences. -/
namespace D
open PySem PySem.Spec PyProof.Rows L2
section
variable {B : Bs} {X : Cx} {Γ : G} {μ : Mu} {Q : A → Mu → Prop} {Z Z' : AD} {e o i : Expr} {pos apos cpos : Pos} {st : Stmt} {ss rest : List Stmt}
variable {elt tg iter c : Expr} {scope : Scope} {ifs : List Expr}
theorem wS.imp (h : wS B X st Γ μ Z) (w1 : ∀ Γ μ, Z.nx Γ μ → Z'.nx Γ μ) (w2 : ∀ x μ, Z.rt x μ → Z'.rt x μ) (w3 : ∀ Γ μ, Z.bk Γ μ → Z'.bk Γ μ) (w4 : ∀ Γ μ, Z.ct Γ μ → Z'.ct Γ μ) : wS B X st Γ μ Z' := fun σ M F H bo rs r =>
  (h σ M F H bo rs r).imp (fun _ _ ⟨a, b, c, d, e, f, q⟩ => ⟨a, b, c, d, e, f, w1 _ _ q⟩) (fun _ _ ⟨a, b, c, d, e, f, q⟩ => ⟨a, b, c, d, e, f, w2 _ _ q⟩) (fun _ _ ⟨a, b, c, d, e, f, q⟩ => ⟨a, b, c, d, e, f, w3 _ _ q⟩) (fun _ _ ⟨a, b, c, d, e, f, q⟩ => ⟨a, b, c, d, e, f, w4 _ _ q⟩)
/-- a word P between a statement and what follows it -/
theorem wSs_cut (P : G → Mu → Prop) (h : wS B X st Γ μ { Z with nx := P }) (k : ∀ Γ' μ', P Γ' μ' → wSs B X rest Γ' μ' Z) : wSs B X (st :: rest) Γ μ Z :=
  wSs_cons (wS.imp h (fun _ _ q => k _ _ q) (fun _ _ q => q) (fun _ _ q => q) (fun _ _ q => q))
/-- what stands at the slots may be forgotten -/
theorem wSs_slots {Γ' : G} (hl : Γ'.length = Γ.length) (w : ∀ (i : Nat) (x : A), Γ'[i]? = some (some x) → Γ[i]? = some (some x)) (h : wSs B X ss Γ' μ Z) : wSs B X ss Γ μ Z := fun σ M F H bo rs r => h σ M F H bo (rs.weak hl w) r
/-- a comprehension whose turns only reckon, the list for good -/
theorem wE_lcF (own : List (Str × Nat)) (h : wIt B X tg iter Γ μ fun ys μ1 => ys.length ≤ sizeLine ∧ ∃ zs : List A, zs.length = ys.length ∧
      (∀ (i : Nat) y z, ys[i]? = some y → zs[i]? = some z → ∀ s0 H0 C cl fp, wGw B (bk X scope s0 H0 C cl fp) tg (own.map (·.2)) y (wipeA Γ (own.map (·.2))) μ1 fun Γ2 μ2 => μ2 = μ1 ∧ ∀ s0 H0 C cl fp, vE B (bk X scope s0 H0 C cl fp) elt Γ2 μ1 z) ∧ Q (.lst zs) μ1)
    (hN : X.N.Nodup) (ok : BlkOk X.N X.env.scope scope own) (hc : X.calm = true := by rfl) (hs : ∀ x, foldedSetIterable iter X.env x = pure x := by intro _; rfl) : wE B X (.ListComp elt [⟨tg, iter, [], 0⟩] scope pos) Γ μ Q := by
  refine wE_frz (wE_lc own (lcMap ?_) hN ok (.inl rfl) hc hs)
  intro σ M F H bo rs r
  refine ⟨fun pins s I => ?_⟩
  refine thn ((h σ M F H bo rs r).o pins s I) fun v s1 h1 => thn h1 fun itv s2 h2 => ?_
  obtain ⟨it, fp, tn, J0, H2, g1, g2, g3, g4, g5, ys, F1, μ1, e1, r1, wk, hz, zs, hl, turn, done⟩ := h2
  exact ⟨it, fp, tn, J0, H2, g1, g2, g3, g4, g5, ys, F1, μ1, e1, r1, wk, hz, zs, hl, turn, fun p np => ⟨p, zs, rfl, Mu.upd_same, by rw [Mu.del_upd np]; exact done⟩⟩
theorem wE_lcPF (own : List (Str × Nat)) (h : wIt B X tg iter Γ μ fun ys μ1 => ys.length ≤ sizeLine ∧ ∃ (ks : List Bool) (zs : List A), ks.length = ys.length ∧ zs.length = ys.length ∧
      (∀ (i : Nat) y k z, ys[i]? = some y → ks[i]? = some k → zs[i]? = some z → ∀ s0 H0 C cl fp, wGw B (bk X scope s0 H0 C cl fp) tg (own.map (·.2)) y (wipeA Γ (own.map (·.2))) μ1 fun Γ2 μ2 => μ2 = μ1 ∧ (∀ s0 H0 C cl fp, vT B (bk X scope s0 H0 C cl fp) c Γ2 μ1 k) ∧ (k = true → ∀ s0 H0 C cl fp, vE B (bk X scope s0 H0 C cl fp) elt Γ2 μ1 z)) ∧ Q (.lst (pickA ks zs)) μ1)
    (hN : X.N.Nodup) (ok : BlkOk X.N X.env.scope scope own) (hc : X.calm = true := by rfl) (hs : ∀ x, foldedSetIterable iter X.env x = pure x := by intro _; rfl) : wE B X (.ListComp elt [⟨tg, iter, [c], 0⟩] scope pos) Γ μ Q := by
  refine wE_frz (wE_lc own (lcPick ?_) hN ok (.inr ⟨_, rfl⟩) hc hs)
  intro σ M F H bo rs r
  refine ⟨fun pins s I => ?_⟩
  refine thn ((h σ M F H bo rs r).o pins s I) fun v s1 h1 => thn h1 fun itv s2 h2 => ?_
  obtain ⟨it, fp, tn, J0, H2, g1, g2, g3, g4, g5, ys, F1, μ1, e1, r1, wk, hz, ks, zs, hk, hl, turn, done⟩ := h2
  exact ⟨it, fp, tn, J0, H2, g1, g2, g3, g4, g5, ys, F1, μ1, e1, r1, wk, hz, ks, zs, hk, hl, turn, fun p np => ⟨p, _, rfl, Mu.upd_same, by rw [Mu.del_upd np]; exact done⟩⟩
/-- name = a comprehension, the list for good -/
theorem wS_frzNx (i : Nat) (h : wS B X st Γ μ { Z with nx := fun Γ' μ' => ∃ p xs, Γ'[i]? = some (some (.loc p)) ∧ μ' p = some (.lst xs) ∧ Z.nx (Γ'.set i (some (.lst xs))) (μ'.del p) }) : wS B X st Γ μ Z := fun σ M F H bo rs r =>
  (h σ M F H bo rs r).imp (fun σ' H' ⟨Γ', F', μ', ex, rs', rl', p, xs, e1, e2, q⟩ => by
    obtain ⟨F2, ex2, rl2, rp⟩ := rl'.freeze e2
    refine ⟨_, F2, _, ex.trans ex2, ?_, rl2, q⟩
    have r2 := rs'.mono ex2
    refine ⟨by rw [List.length_set]; exact rs'.len, fun j x q => ?_⟩
    rw [List.getElem?_set] at q
    split at q
    · rename_i e
      subst e
      split at q
      · cases q
        obtain ⟨v, h1, h2⟩ := rs'.at_ _ _ e1
        rw [rep_loc] at h2; subst h2
        exact ⟨_, h1, rp⟩
      · cases q
    · exact r2.at_ j x q) (fun _ _ q => q) (fun _ _ q => q) (fun _ _ q => q)
end
end D

set_option Elab.async false
set_option linter.all false
set_option maxRecDepth 100000
set_option maxHeartbeats 4000000
/-! DA: calls by what is known of a def, names for comprehensions. -/
namespace D
open PySem PySem.Spec PyProof.Rows L2
/-- what a caller knows of a def: it lets nothing out, keeps c, at most level k -/
structure Cal (P : Program) (w : World) (K : PySem.W.Frag) (mg : Str → Option Value) (base : Heap) (k : Nat) (x : Str) (c : AC) : Prop where
  ex : ∃ (f : Addr) (fd : FuncData) (ps : List Str), FnD P w K mg base CX0 k f fd ps c ∧ mg x = some (.ref f) ∧ PySem.W.keepIn K (.ref f) = true ∧ Binds K fd ps []
/-- .. the last arguments das by default -/
structure CalD (P : Program) (w : World) (K : PySem.W.Frag) (mg : Str → Option Value) (base : Heap) (k : Nat) (x : Str) (das : List A) (c : AC) : Prop where
  ex : ∃ (f : Addr) (fd : FuncData) (ps : List Str) (ds : List Value) (dvs : List V), FnD P w K mg base CX0 k f fd ps c ∧ mg x = some (.ref f) ∧ PySem.W.keepIn K (.ref f) = true ∧ Binds K fd ps ds ∧ Vals dvs ds ∧ ∀ F, RepL K F das dvs
section
variable {B : Bs} {X : Cx} {Γ : G} {μ : Mu} {Q : A → Mu → Prop} {Z : AD} {e : Expr} {es : List Expr} {pos p : Pos} {k j : Nat} {x : Str} {c : AC}
variable {elt tg iter t : Expr} {scope : Scope}
theorem wE_cal (C : Cal X.prog X.w X.K X.mg X.base k x c) (ar : Ar X j) (hk : k ≤ j) (h : wA B X (e :: es) Γ μ fun xs μ1 => c xs μ1 Q fun _ _ _ => False) (hg : Gl X x := by rfl) (hdb : (x == ("__debug__" : Str)) = false := by decide)
    (he : starEach (e :: es) X.env = (false, eval e X.env) :: starEach es X.env := by rfl) (hpl : (backTo pos (starEach es X.env)).any (·.1) = false := by rfl) : wE B X (.Call (.Name x p) (e :: es) [] pos) Γ μ Q := by
  obtain ⟨f, fd, ps, F, h1, h2, h3⟩ := C.ex
  exact wE_call F ⟨h1, h2, h3⟩ (ar.mono hk) h hg hdb he hpl
theorem wE_cal0 (C : Cal X.prog X.w X.K X.mg X.base k x c) (ar : Ar X j) (hk : k ≤ j) (h : c [] μ Q fun _ _ _ => False) (hg : Gl X x := by rfl) (hdb : (x == ("__debug__" : Str)) = false := by decide) : wE B X (.Call (.Name x p) [] [] pos) Γ μ Q := by
  obtain ⟨f, fd, ps, F, h1, h2, h3⟩ := C.ex
  exact wE_call0 F ⟨h1, h2, h3⟩ (ar.mono hk) h hg hdb
theorem wE_calD {das : List A} (C : CalD X.prog X.w X.K X.mg X.base k x das c) (ar : Ar X j) (hk : k ≤ j) (h : wA B X (e :: es) Γ μ fun xs μ1 => c (xs ++ das) μ1 Q fun _ _ _ => False) (hg : Gl X x := by rfl) (hdb : (x == ("__debug__" : Str)) = false := by decide)
    (he : starEach (e :: es) X.env = (false, eval e X.env) :: starEach es X.env := by rfl) (hpl : (backTo pos (starEach es X.env)).any (·.1) = false := by rfl) : wE B X (.Call (.Name x p) (e :: es) [] pos) Γ μ Q := by
  obtain ⟨f, fd, ps, ds, dvs, F, h1, h2, h3, h4, h5⟩ := C.ex
  exact wE_callD das F ⟨h1, h2, h3⟩ (ar.mono hk) h4 h5 h hg hdb he hpl
/-- name = a comprehension whose turns only reckon, the list for good -/
theorem wS_setLcF (own : List (Str × Nat)) (i : Nat) {y : Str} {py spos : Pos} (h : wIt B X tg iter Γ μ fun ys μ1 => ys.length ≤ sizeLine ∧ ∃ zs : List A, zs.length = ys.length ∧
      (∀ (i : Nat) y z, ys[i]? = some y → zs[i]? = some z → ∀ s0 H0 C cl fp, wGw B (bk X scope s0 H0 C cl fp) tg (own.map (·.2)) y (wipeA Γ (own.map (·.2))) μ1 fun Γ2 μ2 => μ2 = μ1 ∧ ∀ s0 H0 C cl fp, vE B (bk X scope s0 H0 C cl fp) elt Γ2 μ1 z) ∧ Z.nx (Γ.set i (some (.lst zs))) μ1)
    (hN : X.N.Nodup) (ok : BlkOk X.N X.env.scope scope own) (hsw : swapsWith (.ListComp elt [⟨tg, iter, [], 0⟩] scope pos) (some (.Name y py)) spos.line X.env = pure true) (hl : i < Γ.length := by exact Nat.le_of_ble_eq_true rfl)
    (hc : X.calm = true := by rfl) (hy : X.N[i]? = some y := by rfl) (hyl : X.env.scope.names.lookup y = some .local := by rfl) (hs : ∀ x, foldedSetIterable iter X.env x = pure x := by intro _; rfl) :
    wS B X (.Assign [.Name y py] (.ListComp elt [⟨tg, iter, [], 0⟩] scope pos) spos) Γ μ Z := by
  refine wS_frzNx i (wS_setLc own i (lcMap ?_) hN ok hsw (.inl rfl) hc hy hyl hs)
  intro σ M F H bo rs r
  refine ⟨fun pins s I => ?_⟩
  refine thn ((h σ M F H bo rs r).o pins s I) fun v s1 h1 => thn h1 fun itv s2 h2 => ?_
  obtain ⟨it, fp, tn, J0, H2, g1, g2, g3, g4, g5, ys, F1, μ1, e1, r1, wk, hz, zs, hl2, turn, done⟩ := h2
  refine ⟨it, fp, tn, J0, H2, g1, g2, g3, g4, g5, ys, F1, μ1, e1, r1, wk, hz, zs, hl2, turn, fun p np => ⟨p, zs, ?_, Mu.upd_same, ?_⟩⟩
  · rw [List.getElem?_set_self hl]
  · rw [Mu.del_upd np, List.set_set]; exact done
theorem wS_setLcPF (own : List (Str × Nat)) (i : Nat) {y : Str} {py spos : Pos} (h : wIt B X tg iter Γ μ fun ys μ1 => ys.length ≤ sizeLine ∧ ∃ (ks : List Bool) (zs : List A), ks.length = ys.length ∧ zs.length = ys.length ∧
      (∀ (i : Nat) y k z, ys[i]? = some y → ks[i]? = some k → zs[i]? = some z → ∀ s0 H0 C cl fp, wGw B (bk X scope s0 H0 C cl fp) tg (own.map (·.2)) y (wipeA Γ (own.map (·.2))) μ1 fun Γ2 μ2 => μ2 = μ1 ∧ (∀ s0 H0 C cl fp, vT B (bk X scope s0 H0 C cl fp) t Γ2 μ1 k) ∧ (k = true → ∀ s0 H0 C cl fp, vE B (bk X scope s0 H0 C cl fp) elt Γ2 μ1 z)) ∧ Z.nx (Γ.set i (some (.lst (pickA ks zs)))) μ1)
    (hN : X.N.Nodup) (ok : BlkOk X.N X.env.scope scope own) (hsw : swapsWith (.ListComp elt [⟨tg, iter, [t], 0⟩] scope pos) (some (.Name y py)) spos.line X.env = pure true) (hl : i < Γ.length := by exact Nat.le_of_ble_eq_true rfl)
    (hc : X.calm = true := by rfl) (hy : X.N[i]? = some y := by rfl) (hyl : X.env.scope.names.lookup y = some .local := by rfl) (hs : ∀ x, foldedSetIterable iter X.env x = pure x := by intro _; rfl) :
    wS B X (.Assign [.Name y py] (.ListComp elt [⟨tg, iter, [t], 0⟩] scope pos) spos) Γ μ Z := by
  refine wS_frzNx i (wS_setLc own i (lcPick ?_) hN ok hsw (.inr ⟨_, rfl⟩) hc hy hyl hs)
  intro σ M F H bo rs r
  refine ⟨fun pins s I => ?_⟩
  refine thn ((h σ M F H bo rs r).o pins s I) fun v s1 h1 => thn h1 fun itv s2 h2 => ?_
  obtain ⟨it, fp, tn, J0, H2, g1, g2, g3, g4, g5, ys, F1, μ1, e1, r1, wk, hz, ks, zs, hk, hl2, turn, done⟩ := h2
  refine ⟨it, fp, tn, J0, H2, g1, g2, g3, g4, g5, ys, F1, μ1, e1, r1, wk, hz, ks, zs, hk, hl2, turn, fun p np => ⟨p, _, ?_, Mu.upd_same, ?_⟩⟩
  · rw [List.getElem?_set_self hl]
  · rw [Mu.del_upd np, List.set_set]; exact done
end
section
variable {P : Program} {w : World} {mg : Str → Option Value} {base : Heap} {K : PySem.W.Frag}
theorem Cal.imp {k : Nat} {x : Str} {c c' : AC} (C : Cal P w K mg base k x c) (h : ∀ xs μ Q E, c' xs μ Q E → c xs μ Q E) : Cal P w K mg base k x c' := by
  obtain ⟨f, fd, ps, F, r⟩ := C.ex
  exact ⟨f, fd, ps, F.imp h, r⟩
end
theorem atI_pos {α : Type} {xs : List α} {i : Int} {y : α} (h : xs[i.toNat]? = some y) (h0 : 0 ≤ i) : atI xs i = some y := by
  have hl : i.toNat < xs.length := (List.getElem?_eq_some_iff.mp h).1
  unfold atI ixN
  rw [if_pos h0, if_pos (by omega)]
  exact h
theorem atI_neg {α : Type} {xs : List α} {i : Int} {y : α} (h : xs[(i + xs.length).toNat]? = some y) (h0 : i < 0) (h1 : -(xs.length : Int) ≤ i) : atI xs i = some y := by
  unfold atI ixN
  rw [if_neg (by omega), if_pos h1]
  exact h
end D

set_option Elab.async false
set_option linter.all false
set_option maxRecDepth 100000
set_option maxHeartbeats 4000000
/-! DB: small facts about what is walked; what a law draws by. -/
namespace D
open PySem PySem.Spec PyProof.Rows L2
theorem rgA_at {lo : Int} {n i : Nat} {y : A} (h : (rgA lo n)[i]? = some y) : i < n ∧ y = .int (lo + (i : Nat)) := by
  have hi : i < n := by have := (List.getElem?_eq_some_iff.mp h).1; rwa [rgA_len] at this
  rw [rgA_get hi] at h; cases h
  exact ⟨hi, rfl⟩
theorem mapR_at {α : Type} {f : Nat → α} {n i : Nat} {z : α} (h : ((List.range n).map f)[i]? = some z) : i < n ∧ z = f i := by
  have hi : i < n := by have := (List.getElem?_eq_some_iff.mp h).1; simpa using this
  simp [hi] at h
  exact ⟨hi, h.symm⟩
theorem map_at {α β : Type} {f : α → β} {l : List α} {i : Nat} {z : β} (h : (l.map f)[i]? = some z) : ∃ a, l[i]? = some a ∧ z = f a := by
  rw [List.getElem?_map] at h
  cases e : l[i]? with
  | none => simp [e] at h
  | some a => rw [e] at h; cases h; exact ⟨a, rfl, rfl⟩
theorem enumA_at {xs : List A} {i : Nat} {y : A} (h : (enumA 0 xs)[i]? = some y) : ∃ x, xs[i]? = some x ∧ y = .tup [.int (i : Nat), x] := by
  have hi : i < xs.length := by have := (List.getElem?_eq_some_iff.mp h).1; rwa [enumA_len] at this
  rw [enumA_get (List.getElem?_eq_getElem hi)] at h
  cases h
  exact ⟨xs[i], List.getElem?_eq_getElem hi, by simp⟩
theorem zipA_at : ∀ {xs ys : List A} {i : Nat} {y : A}, (zipA xs ys)[i]? = some y → ∃ a b, xs[i]? = some a ∧ ys[i]? = some b ∧ y = .tup [a, b]
  | [], _, _, _, h => by simp [zipA] at h
  | _ :: _, [], _, _, h => by simp [zipA] at h
  | x :: xs, z :: ys, 0, y, h => by simp [zipA] at h; exact ⟨x, z, rfl, rfl, h.symm⟩
  | x :: xs, z :: ys, i + 1, y, h => by
    simp only [zipA, List.getElem?_cons_succ] at h ⊢
    exact zipA_at h
section
variable {B : Bs} {X : Cx} {μ : Mu} {Q : A → Mu → Prop} {x y : A} {xs ys : List A}
/-- == of lists, ours or for good -/
theorem wO_eqL (hu : X.A.units + 64 < cLine) (hx : IsL μ x xs) (hy : IsL μ y ys) (dx : DatOk (.lst xs)) (dy : DatOk (.lst ys)) (q : Q (.bl (PyData.eqv (toD (.lst xs)) (toD (.lst ys)))) μ) : wO X (compareOp .Eq) x y μ Q :=
  wO_of (op_eqD hu) fun M F H v w rl r1 r2 => by
    obtain ⟨a, vs, e1, h1, h2⟩ := hx.rep rl r1
    obtain ⟨b, ws, e2, g1, g2⟩ := hy.rep rl r2
    have d1 : Dp X.K H v (toD (.lst xs)) := dp_of dx.1 (rep_lst.mpr ⟨a, vs, e1, h1, h2.mono rl.sub⟩)
    have d2 : Dp X.K H w (toD (.lst ys)) := dp_of dy.1 (rep_lst.mpr ⟨b, ws, e2, g1, g2.mono rl.sub⟩)
    exact ⟨_, _, d1, d2, dx.shaped, dy.shaped, .pure rl (rep_bl.mpr rfl) q⟩
theorem wO_neL (hu : X.A.units + 64 < cLine) (hx : IsL μ x xs) (hy : IsL μ y ys) (dx : DatOk (.lst xs)) (dy : DatOk (.lst ys)) (q : Q (.bl (!PyData.eqv (toD (.lst xs)) (toD (.lst ys)))) μ) : wO X (compareOp .NotEq) x y μ Q :=
  wO_of (op_neD hu) fun M F H v w rl r1 r2 => by
    obtain ⟨a, vs, e1, h1, h2⟩ := hx.rep rl r1
    obtain ⟨b, ws, e2, g1, g2⟩ := hy.rep rl r2
    have d1 : Dp X.K H v (toD (.lst xs)) := dp_of dx.1 (rep_lst.mpr ⟨a, vs, e1, h1, h2.mono rl.sub⟩)
    have d2 : Dp X.K H w (toD (.lst ys)) := dp_of dy.1 (rep_lst.mpr ⟨b, ws, e2, g1, g2.mono rl.sub⟩)
    exact ⟨_, _, d1, d2, dx.shaped, dy.shaped, .pure rl (rep_bl.mpr rfl) q⟩
end
theorem datInts (ns : List Int) : DatOk (.lst (ns.map A.int)) := by
  refine ⟨by simp only [isD]; exact isDs_map (fun _ => by simp only [isD]) ns, ?_⟩
  have : deeps (ns.map A.int) ≤ 0 := deeps_le fun a ha => by
    obtain ⟨n, _, rfl⟩ := List.mem_map.mp ha
    simp [deep]
  simp only [deep]; omega
theorem datNil : DatOk (.lst []) := ⟨rfl, by simp [deep, deeps]⟩
theorem eqvNil (xs : List A) : PyData.eqv (toD (.lst xs)) (toD (.lst [])) = xs.isEmpty := by
  cases xs with
  | nil => simp [toD, toDs, PyData.eqv, PyData.eqvAll]
  | cons x xs => simp [toD, toDs, PyData.eqv, PyData.eqvAll]
/-- sixty-four numbers -/
def G64 (fs : List Int) : Prop := fs.length = 64 ∧ ∀ v ∈ fs, 0 ≤ v ∧ v < 2 ^ 31
theorem G64.at {fs : List Int} (h : G64 fs) {i : Int} (h0 : 0 ≤ i) (h1 : i < 64) : ∃ v, atI (fs.map A.int) i = some (.int v) ∧ 0 ≤ v ∧ v < 2 ^ 31 := by
  have hi : i.toNat < fs.length := by rw [h.1]; omega
  refine ⟨fs[i.toNat], atI_pos (by rw [List.getElem?_map, List.getElem?_eq_getElem hi]; rfl) h0, h.2 _ (List.getElem_mem hi)⟩
theorem G64.set {fs : List Int} (h : G64 fs) (n : Nat) {v : Int} (h0 : 0 ≤ v) (h1 : v < 2 ^ 31) : G64 (fs.set n v) := by
  refine ⟨by rw [List.length_set]; exact h.1, fun u hu => ?_⟩
  rcases List.mem_or_eq_of_mem_set hu with hu | rfl
  · exact h.2 u hu
  · exact ⟨h0, h1⟩
theorem set_map {α : Type} (f : α → A) (l : List α) (n : Nat) (v : α) : (l.map f).set n (f v) = (l.set n v).map f := by rw [List.map_set]
theorem ixN_pos {n : Nat} {i : Int} (h0 : 0 ≤ i) (h1 : i < n) : ixN n i = some i.toNat := by
  unfold ixN; rw [if_pos h0, if_pos h1]
/-- what a law draws by: the dict at m, its list at l; at most c draws so far -/
structure Lw (m l : Addr) (c : Nat) (μ : Mu) : Prop where
  ex : ∃ (fs left : List Int) (at_ room : Int), μ m = some (.dic [(.inr "cells", .lst (fs.map A.int)), (.inr "left", .loc l), (.inr "at", .int at_), (.inr "room", .int room)]) ∧ μ l = some (.lst (left.map A.int)) ∧ G64 fs ∧ left.length ≤ 63 ∧ 0 ≤ at_ ∧ at_ ≤ c
  ne : l ≠ m
theorem Lw.up {m l : Addr} {c d : Nat} {μ : Mu} (h : Lw m l c μ) (hd : c ≤ d) : Lw m l d μ := by
  obtain ⟨⟨fs, left, a, r, h1, h2, h3, h4, h5, h6⟩, h7⟩ := h
  exact ⟨⟨fs, left, a, r, h1, h2, h3, h4, h5, by omega⟩, h7⟩
/-- all else stands -/
def Ls (m l : Addr) (μ μ' : Mu) : Prop := ∀ p o, p ≠ m → p ≠ l → μ p = some o → μ' p = some o
theorem Ls.refl {m l : Addr} (μ : Mu) : Ls m l μ μ := fun _ _ _ _ h => h
theorem Ls.trans {m l : Addr} {μ μ1 μ2 : Mu} (a : Ls m l μ μ1) (b : Ls m l μ1 μ2) : Ls m l μ μ2 := fun p o h1 h2 h => b p o h1 h2 (a p o h1 h2 h)
theorem Ls.m {m l : Addr} {μ : Mu} {o : MO} : Ls m l μ (μ.upd m o) := fun p o h1 h2 h => by rw [Mu.upd_ne h1]; exact h
theorem Ls.l {m l : Addr} {μ : Mu} {o : MO} : Ls m l μ (μ.upd l o) := fun p o h1 h2 h => by rw [Mu.upd_ne h2]; exact h
theorem Lw.sub {m l : Addr} {c : Nat} {μ μ' : Mu} (h : Lw m l c μ) (s : Sub μ μ') : Lw m l c μ' := by
  obtain ⟨⟨fs, left, a, r, h1, h2, h3⟩, h7⟩ := h
  exact ⟨⟨fs, left, a, r, s _ _ h1, s _ _ h2, h3⟩, h7⟩
/-- a new cell is neither m nor l -/
theorem Lw.off {m l : Addr} {c : Nat} {μ : Mu} (h : Lw m l c μ) {p : Addr} (n : μ p = none) : p ≠ m ∧ p ≠ l := by
  obtain ⟨⟨fs, left, a, r, h1, h2, h3⟩, h7⟩ := h
  exact ⟨fun z => by (rw [z, h1] at n; cases n), fun z => by (rw [z, h2] at n; cases n)⟩
end D

set_option Elab.async false
set_option linter.all false
set_option maxRecDepth 100000
set_option maxHeartbeats 4000000
/-! DF: small things of use in many laws. -/
namespace D
open PySem PySem.Spec PyProof.Rows L2
theorem szOk {n : Nat} (h : n ≤ 16777215) : n ≤ sizeLine := Nat.le_trans h (by decide)
theorem szLt {n : Nat} (h : n ≤ 16777215) : n < sizeLine := Nat.lt_of_le_of_lt h (by decide)
theorem and_flip {a b : Prop} (hb : b) (ha : a) : a ∧ b := ⟨ha, hb⟩
theorem Ar.bk {X : Cx} {k : Nat} (h : Ar X k) {scope : Scope} {s0 : Shared} {H0 : Hp} {C : Addr} {cl : List (Str × Addr)} {fp : List Addr} : Ar (D.bk X scope s0 H0 C cl fp) k := ⟨h.room, h.show0⟩
section
variable {B : Bs} {X : Cx} {Γ : G} {μ : Mu} {Q : A → Mu → Prop} {x : A} {xs : List A} {i : Int} {y : A}
theorem wI_tl (h : x = .tup xs ∨ x = .lst xs) (e : atI xs i = some y) (q : Q y μ) : wI X x (.int i) μ Q := by
  rcases h with rfl | rfl
  · exact wI_tup e q
  · exact wI_lst e q
end
theorem atInt {l : List Int} {i : Int} (k : Nat) (h0 : i = k) (h : k < l.length) : atI (l.map A.int) i = some (.int (l.getD k 0)) := by
  subst h0
  refine atI_pos ?_ (by omega)
  rw [Int.toNat_natCast, List.getElem?_map, List.getElem?_eq_getElem h]
  simp [List.getD_eq_getElem?_getD, List.getElem?_eq_getElem h]
theorem atLast {α : Type} {l : List α} {y : α} (h : l[l.length - 1]? = some y) : atI l (-1) = some y := by
  have hl : 0 < l.length := by have := (List.getElem?_eq_some_iff.mp h).1; omega
  refine atI_neg (by rw [show ((-1 : Int) + l.length).toNat = l.length - 1 by omega]; exact h) (by omega) (by omega)
theorem cut1 (l : List A) : cutA l (some 1) none = l.drop 1 := by
  unfold cutA HT.sIx
  simp only [show ¬ ((1 : Int) < 0) by omega, if_false]
  cases l with
  | nil => rfl
  | cons x l =>
    have e : min (1 : Int).toNat (x :: l).length = 1 := by simp
    rw [e]
    exact List.take_of_length_le (Nat.le_of_eq (by simp))
theorem cut1_at {α : Type} {f : α → A} {l : List α} {i : Nat} {y : A} (h : (cutA (l.map f) (some 1) none)[i]? = some y) : (l.map f)[i + 1]? = some y := by
  rw [cut1, List.getElem?_drop, Nat.add_comm] at h; exact h
def minL : List Int → Int
  | [] => 0
  | [x] => x
  | x :: y :: l => if x ≤ minL (y :: l) then x else minL (y :: l)
theorem minL_spec : ∀ {l : List Int}, 0 < l.length → minL l ∈ l ∧ ∀ y ∈ l, minL l ≤ y
  | [], h => by simp at h
  | [x], _ => by simp [minL]
  | x :: y :: l, _ => by
    obtain ⟨h1, h2⟩ := minL_spec (l := y :: l) (by simp)
    simp only [minL]
    split
    · rename_i hc
      exact ⟨by simp, List.forall_mem_cons.mpr ⟨Int.le_refl _, fun z hz => by have := h2 z hz; omega⟩⟩
    · rename_i hc
      exact ⟨List.mem_cons_of_mem _ h1, List.forall_mem_cons.mpr ⟨by omega, h2⟩⟩
theorem minL_eq {l : List Int} {m : Int} (h1 : m ∈ l) (h2 : ∀ y ∈ l, m ≤ y) : m = minL l := by
  obtain ⟨g1, g2⟩ := minL_spec (List.length_pos_of_mem h1)
  have := h2 _ g1
  have := g2 _ h1
  omega
mutual
theorem eqvInts_ : ∀ a b : List Int, PyData.eqvAll (toDs (a.map A.int)) (toDs (b.map A.int)) = decide (a = b)
  | [], [] => by simp [toDs, PyData.eqvAll]
  | [], y :: b => by simp [toDs, PyData.eqvAll]
  | x :: a, [] => by simp [toDs, PyData.eqvAll]
  | x :: a, y :: b => by
    simp only [List.map_cons, toDs, toD, PyData.eqvAll, PyData.eqv, eqvInts_ a b]
    by_cases h : x = y <;> by_cases h2 : a = b <;> simp [h, h2]
end
theorem eqvInts (a b : List Int) : PyData.eqv (toD (.lst (a.map A.int))) (toD (.lst (b.map A.int))) = decide (a = b) := by
  simp only [toD, PyData.eqv]; exact eqvInts_ a b
end D

set_option Elab.async false
set_option linter.all false
set_option maxRecDepth 100000
set_option maxHeartbeats 4000000
/-! DG: pop, extend, remove; chained comparisons. -/
namespace D
open PySem PySem.Spec PyProof.Rows L2
section
variable {B : Bs} {X : Cx} {Γ : G} {μ : Mu} {Q : A → Mu → Prop} {QB : Bool → Mu → Prop} {o e a b c : Expr} {apos cpos pos : Pos}
theorem RepL.dropLast {K : PySem.W.Frag} {F : Hp} {xs : List A} {vs : List V} (h : RepL K F xs vs) : RepL K F xs.dropLast vs.dropLast := by
  rw [List.dropLast_eq_take, List.dropLast_eq_take, h.len]; exact h.take _
theorem wE_pop (h : wE B X o Γ μ fun x μ1 => ∃ p ys y, x = .loc p ∧ μ1 p = some (.lst (ys ++ [y])) ∧ Q y (μ1.upd p (.lst ys)))
    (hbase : attributeBase o "pop" X.env (eval o X.env) = eval o X.env := by rfl)
    (hline : (apos.endLine == cpos.line) = true := by rfl) : wE B X (.Call (.Attribute o "pop" apos) [] [] cpos) Γ μ Q :=
  wE_of (pe_bm0 PySem.F.plainAttrs_list PySem.F.slot_list_pop PySem.F.type_list_pop mt_pop pe_rd hbase hline) fun σ M F H bo rs r => by
  refine (h σ M F H bo rs r).imp fun v H1 ⟨x, F1, μ1, e1, r1, p1, p, ys, y, ex, hp, q1⟩ => ?_
  subst ex; rw [rep_loc] at p1
  obtain ⟨_, ob, k1, vs, rfl, k2⟩ := r1.own p _ hp
  refine ⟨by rw [p1]; exact .inl ⟨rfl, _, .inl (.inl k1)⟩, ?_⟩
  have hl : (ys ++ [y])[vs.length - 1]? = some y := by rw [k2.len]; simp
  obtain ⟨w, g1, g2⟩ := k2.get hl
  refine ⟨p, vs, w, p1, rfl, k1, g1, y, F1, _, e1, r1.write hp (m' := .lst ys) ⟨_, rfl, ?_⟩, g2, q1⟩
  have := RepL.dropLast k2
  rwa [List.dropLast_concat] at this
theorem wE_extend (h : wE B X o Γ μ fun x μ1 => ∃ p ys0, x = .loc p ∧ μ1 p = some (.lst ys0) ∧ wE B X e Γ μ1 fun y μ2 => ∃ ys zs, μ2 p = some (.lst ys) ∧ IsL μ2 y zs ∧ ys.length + zs.length ≤ sizeLine ∧ Q .non (μ2.upd p (.lst (ys ++ zs))))
    (hbase : attributeBase o "extend" X.env (eval o X.env) = eval o X.env := by rfl)
    (hfew : ((backTo cpos (starEach [e] X.env)).all (fun x => !x.1) && (backToKw cpos (keywordEach [] X.env)).all (fun x => x.1.isSome) && decide (([e] : List Expr).length + ([] : List Keyword).length + (if ([] : List Keyword).isEmpty then 0 else 1) < 30)) = true := by rfl)
    (hline : (apos.endLine == cpos.line) = true := by rfl) (hs : starEach [e] X.env = (false, eval e X.env) :: starEach [] X.env := by rfl) (hplain : (backTo cpos (starEach [] X.env)).any (·.1) = false := by rfl) : wE B X (.Call (.Attribute o "extend" apos) [e] [] cpos) Γ μ Q :=
  wE_of (pe_bm PySem.F.plainAttrs_list PySem.F.slot_list_extend PySem.F.type_list_extend mt_extend pe_rd (pa_cons pe_rd pa_nil hs) hbase hfew hline hs hplain) fun σ M F H bo rs r => by
  refine (h σ M F H bo rs r).imp fun v H1 ⟨x, F1, μ1, e1, r1, p1, p, ys0, ex, hp, q1⟩ => ?_
  subst ex; rw [rep_loc] at p1
  obtain ⟨_, ob, k1, vs, rfl, k2⟩ := r1.own p _ hp
  refine ⟨by rw [p1]; exact .inl ⟨rfl, _, .inl (.inl k1)⟩, ?_⟩
  refine (q1 σ M F1 H1 (bo.mono e1) (rs.mono e1) r1).imp fun w H2 ⟨y, F2, μ2, e2, r2, p2, ys, zs, hq, hy, hz, q2⟩ => ?_
  obtain ⟨_, ob, k3, ws, rfl, k4⟩ := r2.own p _ hq
  obtain ⟨b, us, rfl, h1, h2⟩ := hy.rep r2 p2
  exact ⟨p, b, ws, us, p1, rfl, k3, h1, by rw [k4.len, h2.len]; exact hz, _, F2, _, e1.trans e2, r2.write hq (m' := .lst (ys ++ zs)) ⟨_, rfl, k4.append h2⟩, rep_non.mpr rfl, q2⟩
theorem wE_removeI (h : wE B X o Γ μ fun x μ1 => ∃ p ys0, x = .loc p ∧ μ1 p = some (.lst ys0) ∧ wE B X e Γ μ1 fun y μ2 => ∃ (ns : List Int) (k : Int), y = .int k ∧ μ2 p = some (.lst (ns.map A.int)) ∧ k ∈ ns ∧ Q .non (μ2.upd p (.lst ((ns.erase k).map A.int))))
    (hbase : attributeBase o "remove" X.env (eval o X.env) = eval o X.env := by rfl)
    (hfew : ((backTo cpos (starEach [e] X.env)).all (fun x => !x.1) && (backToKw cpos (keywordEach [] X.env)).all (fun x => x.1.isSome) && decide (([e] : List Expr).length + ([] : List Keyword).length + (if ([] : List Keyword).isEmpty then 0 else 1) < 30)) = true := by rfl)
    (hline : (apos.endLine == cpos.line) = true := by rfl) (hs : starEach [e] X.env = (false, eval e X.env) :: starEach [] X.env := by rfl) (hplain : (backTo cpos (starEach [] X.env)).any (·.1) = false := by rfl) : wE B X (.Call (.Attribute o "remove" apos) [e] [] cpos) Γ μ Q :=
  wE_of (pe_bm PySem.F.plainAttrs_list PySem.F.slot_list_remove PySem.F.type_list_remove mt_remove pe_rd (pa_cons pe_rd pa_nil hs) hbase hfew hline hs hplain) fun σ M F H bo rs r => by
  refine (h σ M F H bo rs r).imp fun v H1 ⟨x, F1, μ1, e1, r1, p1, p, ys0, ex, hp, q1⟩ => ?_
  subst ex; rw [rep_loc] at p1
  obtain ⟨_, ob, k1, vs, rfl, k2⟩ := r1.own p _ hp
  refine ⟨by rw [p1]; exact .inl ⟨rfl, _, .inl (.inl k1)⟩, ?_⟩
  refine (q1 σ M F1 H1 (bo.mono e1) (rs.mono e1) r1).imp fun w H2 ⟨y, F2, μ2, e2, r2, p2, ns, k, ey, hq, hk, q2⟩ => ?_
  subst ey; rw [rep_int] at p2; subst p2
  obtain ⟨_, ob, k3, ws, rfl, k4⟩ := r2.own p _ hq
  have e9 := repL_ints k4
  subst e9
  obtain ⟨j, _, j1, j2, j3⟩ := first_at hk
  refine ⟨p, ns, k, j, p1, rfl, k3, j1, j2, ?_⟩
  rw [j3]
  exact ⟨_, F2, _, e1.trans e2, r2.write hq (m' := .lst ((ns.erase k).map A.int)) ⟨_, rfl, .map (fun i => rep_int.mpr rfl) _⟩, rep_non.mpr rfl, q2⟩
theorem wT_chain2 {op op' : CmpOp} (h : wE B X a Γ μ fun x μ1 => wE B X b Γ μ1 fun y μ2 => wO X (compareOp op) x y μ2 fun z μ3 => ∃ k, z = .bl k ∧ (k = true → wE B X c Γ μ3 fun w μ4 => wO X (compareOp op') y w μ4 fun z μ5 => ∃ k, z = .bl k ∧ QB k μ5) ∧ (k = false → QB false μ3))
    (hm : lastMarks [op, op'] [b, c] = false := by with_unfolding_all rfl) : wT B X (.Compare a [op, op'] [b, c] pos) Γ μ QB := wT_of (pt_chain opr_rd opr_rd pe_rd pe_rd pe_rd hm) fun σ M F H bo rs r => by
  refine (h σ M F H bo rs r).imp fun v H1 ⟨x, F1, μ1, e1, r1, p1, q1⟩ => ?_
  refine (q1 σ M F1 H1 (bo.mono e1) (rs.mono e1) r1).imp fun w H2 ⟨y, F2, μ2, e2, r2, p2, q2⟩ => ?_
  refine ⟨fun pins s σ' v' u' I hv hw => ?_⟩
  refine thn ((q2 M F2 H2 v w r2 (p1.mono e2) p2).o pins s σ' v' u' I hv hw) fun _ _ ⟨z, H3, I3, r3, x3, F3, μ3, e3, rl3, p3, k, ek, q3, q4⟩ => ?_
  subst ek; rw [rep_bl] at p3
  refine ⟨z, H3, I3, r3, k, p3, ?_⟩
  have e12 := (e1.trans e2).trans e3
  cases k with
  | false => exact iteF ⟨false, rfl, F3, μ3, e12, rl3, q4 rfl⟩
  | true =>
    refine iteT ((q3 rfl σ M F3 H3 (bo.mono e12) (rs.mono e12) rl3).imp fun w' H4 ⟨y', F4, μ4, e4, r4, p4, q5⟩ => ?_)
    refine ⟨fun pins s σ' v' u' I hv hw => ?_⟩
    exact thn ((q5 M F4 H4 w w' r4 (p2.mono (e3.trans e4)) p4).o pins s σ' v' u' I hv hw) fun _ _ ⟨z', H5, I5, r5, x5, F5, μ5, e5, rl5, p5, k', ek', q6⟩ => by
      subst ek'; rw [rep_bl] at p5
      exact ⟨z', H5, I5, r5, k', p5, F5, μ5, (e12.trans e4).trans e5, rl5, q6⟩
end
end D

set_option Elab.async false
set_option linter.all false
set_option maxRecDepth 100000
set_option maxHeartbeats 4000000
/-! DH: methods of texts; int(text). -/
namespace D
open PySem PySem.Spec PyProof.Rows L2
section
variable {B : Bs} {X : Cx} {Γ : G} {μ : Mu} {Q : A → Mu → Prop} {o e : Expr} {apos pos : Pos}
def rdM (X : Cx) (id : String) : V → List V → Hp → VK → Prop := fun x xs H Q => Bx (∀ (pins : List (Addr × Obj)) (s : Shared) (σ : L2.St) (v : Value) (us : List Value), Inv X pins σ H s → RelV x v → Vals xs us → wpAny (model X.prog X.w) X.A (call (.builtin id) (v :: us)) (EP X pins σ Q) X.xe s)
theorem mtr_rd {id : String} : MtR X id (rdM X id) := fun pins s σ H x xs v us Q I rx rs h => h.o pins s σ v us I rx rs
def wM (X : Cx) (id : String) (x : A) (xs : List A) (μ : Mu) (Q : A → Mu → Prop) : Prop := ∀ M F H v vs, Rel X.K μ M F H → Rep X.K F x v → RepL X.K F xs vs → rdM X id v vs H (QE X.K M F Q)
theorem wM_of {id : String} {r : V → List V → Hp → VK → Prop} {x : A} {xs : List A} (h : MtR X id r) (q : ∀ M F H v vs, Rel X.K μ M F H → Rep X.K F x v → RepL X.K F xs vs → r v vs H (QE X.K M F Q)) : wM X id x xs μ Q :=
  fun M F H v vs rl r1 r2 => ⟨fun pins s σ v' us I rx rs => h pins s σ H v vs v' us _ I rx rs (q M F H v vs rl r1 r2)⟩
theorem wE_m0 {id : String} {name : Str} (slot : Slot "str" name id) (ty : typeOf (.builtin id) = pure (.type "method_descriptor")) (h : wE B X o Γ μ fun x μ1 => ∃ a, x = .str a ∧ wM X id (.str a) [] μ1 Q)
    (hbase : attributeBase o name X.env (eval o X.env) = eval o X.env := by rfl) (hline : (apos.endLine == pos.line) = true := by rfl) : wE B X (.Call (.Attribute o name apos) [] [] pos) Γ μ Q := wE_of (pe_m0 slot ty mtr_rd pe_rd hbase hline) fun σ M F H bo rs r => by
  refine (h σ M F H bo rs r).imp fun v H1 ⟨x, F1, μ1, e1, r1, p1, a, ex, q1⟩ => ?_
  subst ex
  refine ⟨⟨a, rep_str.mp p1⟩, ?_⟩
  refine ⟨fun pins s σ' v' us I rx rs' => ?_⟩
  exact thn ((q1 M F1 H1 v [] r1 p1 .nil).o pins s σ' v' us I rx rs') fun _ _ ⟨z, H2, I2, r2, q2⟩ => ⟨z, H2, I2, r2, q2.mono e1⟩
theorem wE_m1 {id : String} {name : Str} (slot : Slot "str" name id) (ty : typeOf (.builtin id) = pure (.type "method_descriptor")) (h : wE B X o Γ μ fun x μ1 => ∃ a, x = .str a ∧ wE B X e Γ μ1 fun y μ2 => wM X id (.str a) [y] μ2 Q)
    (hs : starEach [e] X.env = [(false, eval e X.env)] := by rfl) (hbase : attributeBase o name X.env (eval o X.env) = eval o X.env := by rfl) (hline : (apos.endLine == pos.line) = true := by rfl) : wE B X (.Call (.Attribute o name apos) [e] [] pos) Γ μ Q :=
  wE_of (pe_m1 slot ty mtr_rd pe_rd pe_rd hs hbase hline) fun σ M F H bo rs r => by
  refine (h σ M F H bo rs r).imp fun v H1 ⟨x, F1, μ1, e1, r1, p1, a, ex, q1⟩ => ?_
  subst ex
  refine ⟨⟨a, rep_str.mp p1⟩, ?_⟩
  refine (q1 σ M F1 H1 (bo.mono e1) (rs.mono e1) r1).imp fun w H2 ⟨y, F2, μ2, e2, r2, p2, q2⟩ => ?_
  refine ⟨fun pins s σ' v' us I rx rs' => ?_⟩
  exact thn ((q2 M F2 H2 v [w] r2 (p1.mono e2) (.cons p2 .nil)).o pins s σ' v' us I rx rs') fun _ _ ⟨z, H3, I3, r3, q3⟩ => ⟨z, H3, I3, r3, q3.mono (e1.trans e2)⟩
theorem wM_tt {id : String} {g : Str → Str → V} {f : Str → Str → A} {a b : Str} (h : MtR X id (fun x xs H Q => ∃ a b, x = .str a ∧ xs = [.str b] ∧ Q (g a b) H)) (hf : ∀ F, Rep X.K F (f a b) (g a b)) (q : Q (f a b) μ) : wM X id (.str a) [.str b] μ Q := wM_of h fun M F H v vs rl r1 r2 => by
  obtain ⟨w, rfl, r3⟩ := r2.one
  exact ⟨a, b, rep_str.mp r1, by rw [rep_str.mp r3], .pure rl (hf F) q⟩
theorem wM_startswith {a b : Str} (q : Q (.bl (Txt.startswith a b)) μ) : wM X "str.startswith" (.str a) [.str b] μ Q := wM_tt (f := fun a b => .bl (Txt.startswith a b)) mt_startswith (fun F => rep_bl.mpr rfl) q
theorem wM_endswith {a b : Str} (q : Q (.bl (Txt.endswith a b)) μ) : wM X "str.endswith" (.str a) [.str b] μ Q := wM_tt (f := fun a b => .bl (Txt.endswith a b)) mt_endswith (fun F => rep_bl.mpr rfl) q
theorem wM_partition {a b : Str} (hb : (b.length == 0) = false) (hz : a.length ≤ sizeLine) (q : Q (.tup [.str (Txt.partition a b).1, .str (Txt.partition a b).2.1, .str (Txt.partition a b).2.2]) μ) : wM X "str.partition" (.str a) [.str b] μ Q := wM_of mt_partition fun M F H v vs rl r1 r2 => by
  obtain ⟨w, rfl, r3⟩ := r2.one
  refine ⟨a, b, rep_str.mp r1, by rw [rep_str.mp r3], hb, hz, fun p np => ?_⟩
  obtain ⟨ex, rl'⟩ := rl.newF (o := .tup [.str (Txt.partition a b).1, .str (Txt.partition a b).2.1, .str (Txt.partition a b).2.2]) np
  exact ⟨_, _, _, ex, rl', rep_tup.mpr ⟨p, _, rfl, .inl (.inl upd_same), .cons (rep_str.mpr rfl) (.cons (rep_str.mpr rfl) (.cons (rep_str.mpr rfl) .nil))⟩, q⟩
theorem repL_mkS {K : PySem.W.Frag} {F : Hp} (ys : List Str) : RepL K F (ys.map A.str) (ys.map V.str) := by
  induction ys with
  | nil => exact .nil
  | cons y ys ih => exact .cons (rep_str.mpr rfl) ih
theorem wM_split {a b : Str} (hb : (b.length == 0) = false) (hz : a.length + 2 ≤ sizeLine) (q : Q (.lst ((Txt.split a b).map A.str)) μ) : wM X "str.split" (.str a) [.str b] μ Q := wM_of mt_split fun M F H v vs rl r1 r2 => by
  obtain ⟨w, rfl, r3⟩ := r2.one
  refine ⟨a, b, rep_str.mp r1, by rw [rep_str.mp r3], hb, hz, fun p np => ?_⟩
  obtain ⟨ex, rl'⟩ := rl.newF (o := .lst ((Txt.split a b).map V.str)) np
  exact ⟨_, _, _, ex, rl', rep_lst.mpr ⟨p, _, rfl, upd_same, repL_mkS _⟩, q⟩
theorem wM_words {a : Str} (hz : a.length + 2 ≤ sizeLine) (q : Q (.lst ((Txt.words a).map A.str)) μ) : wM X "str.split" (.str a) [] μ Q := wM_of mt_words fun M F H v vs rl r1 r2 => by
  refine ⟨a, rep_str.mp r1, by simpa [RepL] using r2, hz, fun p np => ?_⟩
  obtain ⟨ex, rl'⟩ := rl.newF (o := .lst ((Txt.words a).map V.str)) np
  exact ⟨_, _, _, ex, rl', rep_lst.mpr ⟨p, _, rfl, upd_same, repL_mkS _⟩, q⟩
theorem wM_join {a : Str} {x : A} {ys : List Str} (hx : IsL μ x (ys.map A.str) ∨ x = .tup (ys.map A.str)) (hz : (ys.map (·.length)).sum + ys.length * a.length ≤ 16777216) (q : Q (.str (Txt.join a ys)) μ) : wM X "str.join" (.str a) [x] μ Q := wM_of mt_join fun M F H v vs rl r1 r2 => by
  obtain ⟨w, rfl, r3⟩ := r2.one
  rcases hx with hx | rfl
  · obtain ⟨p, ws, rfl, h1, h2⟩ := hx.rep rl r3
    rw [repL_strs h2] at h1
    exact ⟨a, p, ys, rep_str.mp r1, rfl, .inl (.inl (.inl h1)), hz, .pure rl (rep_str.mpr rfl) q⟩
  · rw [rep_tup] at r3
    obtain ⟨p, ws, rfl, h1, h2⟩ := r3
    rw [repL_strs h2] at h1
    exact ⟨a, p, ys, rep_str.mp r1, rfl, .inr (rl.sub.t h1), hz, .pure rl (rep_str.mpr rfl) q⟩
theorem wM_strip {a : Str} (hz : a.length ≤ sizeLine) (q : Q (.str (Txt.strip a)) μ) : wM X "str.strip" (.str a) [] μ Q := wM_of mt_strip fun M F H v vs rl r1 r2 => ⟨a, rep_str.mp r1, by simpa [RepL] using r2, hz, .pure rl (rep_str.mpr rfl) q⟩
theorem wC_intS {a : Str} {n : Int} (hn : PySem.intText? a = some n) (hl : a.length ≤ 640) (q : Q (.int n) μ) : wC X (.type "int") [.str a] μ Q := wC_of call_int_str fun M F H vs rl r => by
  obtain ⟨v, rfl, h⟩ := r.one; rw [rep_str] at h; subst h
  exact ⟨a, n, rfl, hn, hl, .pure rl (rep_int.mpr rfl) q⟩
end
end D

set_option Elab.async false
set_option linter.all false
set_option maxRecDepth 100000
set_option maxHeartbeats 4000000
/-! DI: great numbers, and fractions in lowest terms. -/
namespace D
open PySem PySem.Spec PyProof.Rows L2
theorem log2_100 {i : Int} (h0 : 0 < i) (h1 : i < 2 ^ 100) : i.natAbs.log2 < 9000 := by
  have : i.natAbs < 2 ^ 100 := by omega
  exact Nat.lt_of_lt_of_le ((Nat.log2_lt (by omega)).mpr this) (by decide)
/-- a number of at most n bits -/
def Bd (n : Nat) (i : Int) : Prop := i.natAbs < 2 ^ n
theorem Bd.mono {n m : Nat} {i : Int} (h : Bd n i) (hm : n ≤ m) : Bd m i := Nat.lt_of_lt_of_le h (Nat.pow_le_pow_right (by decide) hm)
theorem Bd.mul {n m : Nat} {i j : Int} (hi : Bd n i) (hj : Bd m j) : Bd (n + m) (i * j) := by
  unfold Bd; rw [Int.natAbs_mul, Nat.pow_add]; exact Nat.mul_lt_mul'' hi hj
theorem Bd.add {n : Nat} {i j : Int} (hi : Bd n i) (hj : Bd n j) : Bd (n + 1) (i + j) := by
  unfold Bd at *; rw [Nat.pow_succ]; omega
theorem Bd.sub {n : Nat} {i j : Int} (hi : Bd n i) (hj : Bd n j) : Bd (n + 1) (i - j) := by
  unfold Bd at *; rw [Nat.pow_succ]; omega
theorem Bd.log {n : Nat} {i : Int} (h : Bd n i) (hn : 0 < n) : i.natAbs.log2 < n := by
  rcases Nat.eq_zero_or_pos i.natAbs with h0 | h0
  · rw [h0]; simpa using hn
  · exact (Nat.log2_lt (by omega)).mpr h
theorem Bd.of {n : Nat} {i : Int} (h1 : -(2 ^ n : Nat) < i) (h2 : i < (2 ^ n : Nat)) : Bd n i := by unfold Bd; omega
theorem Bd.mulOk {n : Nat} {i j : Int} (hi : Bd n i) (hj : Bd n j) (hn : n ≤ 2 ^ 20) : IntMulOk i j := by
  have key : ∀ {x : Int}, Bd n x → Builtin.Int.intBits x ≤ 2 ^ 20 := fun {x} hx => by
    unfold Builtin.Int.intBits
    split
    · decide
    · rename_i h
      have h0 : x.natAbs ≠ 0 := by simpa using h
      have := (Nat.log2_lt h0).mpr hx
      omega
  exact IntMulOk.of_bits (key hi) (key hj)
theorem Bd.noPy {n : Nat} {i j : Int} (hj : Bd n j) (hn : n ≤ 9000) (h0 : 0 < n) : Builtin.divisionGoesByPylong i j = false := PyProof.noPylong_of_log2 (Nat.lt_of_lt_of_le (hj.log h0) hn)
/-- the sign of d on the greatest part of both -/
def part (n d : Int) : Int := if 0 < d then (Int.gcd n d : Int) else 0 - (Int.gcd n d : Int)
def lowN (n d : Int) : Int := n.fdiv (part n d)
def lowD (n d : Int) : Int := d.fdiv (part n d)
def low (n d : Int) : A := .tup [.int (lowN n d), .int (lowD n d)]
theorem part_ne {n d : Int} (h : d ≠ 0) : part n d ≠ 0 := by
  have : 0 < Int.gcd n d := Int.gcd_pos_of_ne_zero_right _ h
  unfold part; split <;> omega
theorem part_bd {n d : Int} {k : Nat} (h : d ≠ 0) (hd : Bd k d) : Bd k (part n d) := by
  have h1 : Int.gcd n d ≤ d.natAbs := Nat.le_of_dvd (by omega) (Int.gcd_dvd_natAbs_right n d)
  unfold Bd at *
  have : (part n d).natAbs = Int.gcd n d := by unfold part; split <;> omega
  omega
theorem part_n {n d : Int} : part n d ∣ n := by
  have := Int.gcd_dvd_left n d
  unfold part; split
  · exact this
  · rw [show (0 : Int) - (Int.gcd n d : Int) = -(Int.gcd n d : Int) by omega]; exact (Int.neg_dvd).mpr this
theorem part_d {n d : Int} : part n d ∣ d := by
  have := Int.gcd_dvd_right n d
  unfold part; split
  · exact this
  · rw [show (0 : Int) - (Int.gcd n d : Int) = -(Int.gcd n d : Int) by omega]; exact (Int.neg_dvd).mpr this
theorem lowN_eq {n d : Int} (h : d ≠ 0) : lowN n d * part n d = n := by unfold lowN; rw [Int.fdiv_eq_ediv_of_dvd part_n, Int.ediv_mul_cancel part_n]
theorem lowD_eq {n d : Int} (h : d ≠ 0) : lowD n d * part n d = d := by unfold lowD; rw [Int.fdiv_eq_ediv_of_dvd part_d, Int.ediv_mul_cancel part_d]
end D
namespace D
open PySem PySem.Spec PyProof.Rows L2
/-- a fraction in lowest terms -/
structure Fr (n d : Int) : Prop where
  pos : 0 < d
  low : Int.gcd n d = 1
theorem part_pos {n d : Int} (h : 0 < d) : part n d = (Int.gcd n d : Int) := by unfold part; rw [if_pos h]
theorem low_fr {n d : Int} (h : 0 < d) : Fr (lowN n d) (lowD n d) := by
  have hg : 0 < Int.gcd n d := Int.gcd_pos_of_ne_zero_right _ (by omega)
  have e1 : lowN n d = n / (Int.gcd n d : Int) := by unfold lowN; rw [Int.fdiv_eq_ediv_of_dvd part_n, part_pos h]
  have e2 : lowD n d = d / (Int.gcd n d : Int) := by unfold lowD; rw [Int.fdiv_eq_ediv_of_dvd part_d, part_pos h]
  refine ⟨?_, by rw [e1, e2]; exact Int.gcd_ediv_gcd_ediv_gcd hg⟩
  have h2 := lowD_eq (n := n) (d := d) (by omega)
  rw [part_pos h] at h2
  refine Int.pos_of_mul_pos_left (b := (Int.gcd n d : Int)) ?_ (by omega)
  omega
theorem lowN_le {n d : Int} (h : d ≠ 0) : (lowN n d).natAbs ≤ n.natAbs := by
  have h1 := lowN_eq (n := n) h
  have h2 : 0 < (part n d).natAbs := by have := part_ne (n := n) h; omega
  have e : n.natAbs = (lowN n d).natAbs * (part n d).natAbs := by rw [← Int.natAbs_mul, h1]
  rw [e]; exact Nat.le_mul_of_pos_right _ h2
theorem lowD_le {n d : Int} (h : d ≠ 0) : (lowD n d).natAbs ≤ d.natAbs := by
  have h1 := lowD_eq (n := n) h
  have h2 : 0 < (part n d).natAbs := by have := part_ne (n := n) h; omega
  have e : d.natAbs = (lowD n d).natAbs * (part n d).natAbs := by rw [← Int.natAbs_mul, h1]
  rw [e]; exact Nat.le_mul_of_pos_right _ h2
/-- what is in lowest terms stays so, told in others -/
theorem low_of {n d k : Int} (h : Fr n d) (hk : 0 < k) : low (n * k) (d * k) = .tup [.int n, .int d] := by
  have hd : 0 < d * k := Int.mul_pos h.pos hk
  have g : (Int.gcd (n * k) (d * k) : Int) = k := by rw [Int.gcd_mul_right, h.low]; omega
  have p : part (n * k) (d * k) = k := by rw [part_pos hd, g]
  unfold low lowN lowD
  rw [p, Int.fdiv_eq_ediv_of_dvd ⟨n, Int.mul_comm _ _⟩, Int.fdiv_eq_ediv_of_dvd ⟨d, Int.mul_comm _ _⟩, Int.mul_ediv_cancel _ (by omega), Int.mul_ediv_cancel _ (by omega)]
end D

set_option Elab.async false
set_option linter.all false
set_option maxRecDepth 100000
set_option maxHeartbeats 4000000
/-! DJ: constants of the module, defs with defaults. -/
namespace D
open PySem PySem.Spec PyProof.Rows L2
section
variable {P : Program} {w : World} {mg : Str → Option Value} {base : Heap} {K : PySem.W.Frag}
/-- THE RULE for a def with defaults -/
theorem fnDD {x qual : Str} {st : Stmt} {f : Addr} {fd : FuncData} {N ps : List Str} {k : Nat} {c : AC} {dvs : List V} {kws : List (Str × V)} (F : FunD K x qual (defArgs st) (defBody st) (defScope st) dvs kws f fd) (S : FnScope N ps (defScope st)) (len : ∀ xs μ Q E, c xs μ Q E → xs.length = ps.length)
    (go : ∀ {B : Bs} (cdv : Value) (A : Around) (outer : List Env) (s : Shared) (H : Hp) (E : XK) (xs : List D.A) (μ : Mu) (Q : D.A → Mu → Prop) (E0 : Value → Option Addr → Mu → Prop), Ar (cx0 P w K mg base N qual (defScope st) f cdv A outer s H E) k → c xs μ Q E0 →
      wSs B (cx0 P w K mg base N qual (defScope st) f cdv A outer s H E) (defBody st) (startA N xs) μ { nx := fun _ μ' => Q .non μ', rt := Q }) : FnD P w K mg base CX0 (k + 1) f fd ps c := by
  obtain ⟨oc, od, dV, kV, doc, pm, an, cdv, ct, osl, rfl, lk, hcd, _, _⟩ := F.ex
  refine FnD.body lk hcd S len fun A outer s H vs Q E room sh sp => rdSs_nox ?_
  obtain ⟨xs, F0, M, μ, Q0, E0, rp, rl, hc, hq, he⟩ := sp
  refine (go cdv A outer s H E xs μ Q0 E0 ⟨room, sh⟩ hc (L2.start N vs) M F0 H (Bs.ok.own M F0) (relS_start N rp) rl).imp (fun σ2 H2 q => ?_) (fun v H2 q => ?_) (fun σ2 H2 q => ?_) (fun σ2 H2 q => ?_)
  · obtain ⟨Γ', F', μ', ex, _, rl', q⟩ := q
    exact hq .non μ' F' H2 .non q ex rl' (rep_non.mpr rfl)
  · obtain ⟨y, F', μ', ex, rl', rp', q⟩ := q
    exact hq y μ' F' H2 v q ex rl' rp'
  · obtain ⟨_, _, _, _, _, _, q⟩ := q; exact q
  · obtain ⟨_, _, _, _, _, _, q⟩ := q; exact q
/-- what stands as defaults -/
theorem fund_mk {x qual : Str} {st : Stmt} {f T : Addr} {oc tc : Value} {od an td : Option Addr} {osl tsl : Array (Option Value)} {kV doc pm cdv ct : Value} {its : Array Value} {n : Nat} {dvs : List V}
    (l : K.lookup f = some ⟨oc, od, .func (PySem.W.fnOf x qual (defArgs st) (defBody st) (defScope st) (.ref T) kV doc pm an cdv ct), osl⟩)
    (c : PySem.W.codeIn K cdv qual = true) (k : PySem.W.keepIn K (.ref f) = true) (lT : K.lookup T = some ⟨tc, td, .seq its n, tsl⟩) (hv : Vals dvs its.toList) (hd : dvs ≠ []) :
    FunD K x qual (defArgs st) (defBody st) (defScope st) dvs [] f (PySem.W.fnOf x qual (defArgs st) (defBody st) (defScope st) (.ref T) kV doc pm an cdv ct) :=
  ⟨⟨oc, od, .ref T, kV, doc, pm, an, cdv, ct, osl, rfl, l, c, .inr ⟨hd, T, _, its.toList, n, rfl, lT, rfl, hv⟩, .inl rfl⟩, k⟩
def strOf : Value → Option Str
  | .str x _ => some x
  | _ => none
def intOf : Value → Option Int
  | .int i _ => some i
  | _ => none
theorem vals_by {α : Type} {f : Value → Option α} {g : α → V} (hf : ∀ u x, f u = some x → RelV (g x) u) : ∀ (us : List Value) (ws : List α), us.map f = ws.map some → Vals (ws.map g) us := by
  intro us
  induction us with
  | nil => intro ws e; cases ws <;> first | exact .nil | simp at e
  | cons u us ih =>
    intro ws e
    cases ws with
    | nil => simp at e
    | cons x ws =>
      have e2 : f u = some x ∧ us.map f = ws.map some := by simpa using e
      exact .cons (hf u x e2.1) (ih ws e2.2)
theorem vals_strs {us : List Value} {ws : List Str} (e : us.map strOf = ws.map some) : Vals (ws.map V.str) us :=
  vals_by (f := strOf) (g := V.str) (fun u x q => by cases u <;> simp [strOf] at q <;> exact q ▸ ⟨_, rfl⟩) us ws e
theorem vals_nums {us : List Value} {ws : List Int} (e : us.map intOf = ws.map some) : Vals (ws.map V.int) us :=
  vals_by (f := intOf) (g := V.int) (fun u x q => by cases u <;> simp [intOf] at q <;> exact q ▸ ⟨_, rfl⟩) us ws e
theorem kn_int {h : Heap} {x : Str} {i : Int} {t : Tok} (X : K.In h) (G : h.Ns mainGlobals mg) (q : PySem.W.nsIn K mainGlobals x = some (some (.int i t))) : Kn K mg x (.int i) := ⟨.int i, _, PySem.W.mg_of X G q, ⟨_, rfl⟩, fun F => rep_int.mpr rfl⟩
theorem kn_str {h : Heap} {x y z : Str} {t : Tok} (X : K.In h) (G : h.Ns mainGlobals mg) (q : PySem.W.nsIn K mainGlobals x = some (some (.str y t))) (e : y = z) : Kn K mg x (.str z) := by
  subst e
  exact ⟨.str y, _, PySem.W.mg_of X G q, ⟨_, rfl⟩, fun F => rep_str.mpr rfl⟩
theorem repL_strs' {F : Hp} (ws : List Str) : RepL K F (ws.map A.str) (ws.map V.str) := .map (fun w => rep_str.mpr rfl) ws
theorem kn_strs {h : Heap} {x : Str} {p : Addr} {its : Array Value} {n : Nat} {sl : Array (Option Value)} {od : Option Addr} {ws : List Str} (X : K.In h) (G : h.Ns mainGlobals mg) (q : PySem.W.nsIn K mainGlobals x = some (some (.ref p)))
    (l : K.lookup p = some ⟨.type "tuple", od, .seq its n, sl⟩) (e : its.toList.map strOf = ws.map some) (hz : ws.length ≤ 1000) : Kn K mg x (.tup (ws.map A.str)) := by
  have hv := vals_strs e
  have hl : its.size = ws.length := by have := congrArg List.length e; simpa using this
  exact ⟨.ref p, _, PySem.W.mg_of X G q, rfl, fun F => rep_tup.mpr ⟨p, ws.map V.str, rfl, .inr ⟨_, its, n, l, rfl, rfl, by rw [hl]; exact Nat.le_trans hz (by decide), hv⟩, repL_strs' ws⟩⟩
end
end D

set_option Elab.async false
set_option linter.all false
set_option maxRecDepth 100000
set_option maxHeartbeats 4000000
/-! DK: instances of own classes, their fields and methods; more of dicts. -/
namespace D
open PySem PySem.Spec PyProof.Rows L2
section
variable {K : PySem.W.Frag} {F : Hp} {f : Str}
theorem lookup_some : ∀ {fs : List (Str × A)} {ws : List (Str × V)} {y : A}, RepK K F fs ws → fs.lookup f = some y → ∃ v, ws.lookup f = some v ∧ Rep K F y v
  | [], _, _, _, e => by simp at e
  | (g, x) :: r, _, y, ⟨v, t, h1, h2, h3⟩, e => by
    subst h1
    rw [List.lookup_cons] at e ⊢
    cases hg : f == g with
    | true => rw [hg] at e; cases e; exact ⟨v, rfl, h2⟩
    | false => rw [hg] at e; exact lookup_some h3 e
theorem lookup_none : ∀ {fs : List (Str × A)} {ws : List (Str × V)}, RepK K F fs ws → fs.lookup f = none → ws.lookup f = none
  | [], _, h, _ => by rw [show _ = [] from h]; rfl
  | (g, x) :: r, _, ⟨v, t, h1, h2, h3⟩, e => by
    subst h1
    rw [List.lookup_cons] at e ⊢
    cases hg : f == g with
    | true => rw [hg] at e; cases e
    | false => rw [hg] at e; exact lookup_none h3 e
/-- the fields, one of them stored -/
def putL (f : Str) (y : A) : List (Str × A) → List (Str × A)
  | [] => [(f, y)]
  | (g, x) :: r => if g = f then (g, y) :: r else (g, x) :: putL f y r
theorem putL_rep {y : A} {v : V} (hy : Rep K F y v) : ∀ {fs : List (Str × A)} {ws : List (Str × V)}, RepK K F fs ws → RepK K F (putL f y fs) (putF f v ws)
  | [], _, h => by rw [show _ = [] from h]; exact ⟨v, [], rfl, hy, rfl⟩
  | (g, x) :: r, _, ⟨u, t, h1, h2, h3⟩ => by
    subst h1
    by_cases hg : g = f
    · simp only [putL, putF, if_pos hg]; exact ⟨v, t, rfl, hy, h3⟩
    · simp only [putL, putF, if_neg hg]; exact ⟨u, _, rfl, h2, putL_rep hy h3⟩
end
section
variable {B : Bs} {X : Cx} {Γ : G} {μ : Mu} {Q : A → Mu → Prop} {Z : AD} {a b c e o value : Expr} {es : List Expr} {pos apos tpos p0 : Pos} {f m : Str} {C : Addr} {j k : Nat} {cc : AC}
/-- o.f -/
theorem wE_fld (cl : Cls X.K C) (n : NoAttr X.K C f) (h : wE B X e Γ μ fun x μ1 => ∃ p dx fs y, x = .loc p ∧ μ1 p = some (.ins C dx fs) ∧ fs.lookup f = some y ∧ Q y μ1) (hb : attributeBase e f X.env (eval e X.env) = eval e X.env := by rfl) : wE B X (.Attribute e f pos) Γ μ Q := wE_of (pe_fld pe_rd hb) fun σ M F H bo rs r => by
  refine (h σ M F H bo rs r).imp fun v H1 ⟨x, F1, μ1, e1, r1, p1, p, dx, fs, y, ex, hp, hl, q1⟩ => ?_
  subst ex; rw [rep_loc] at p1
  obtain ⟨_, ob, g1, ws, rfl, g2⟩ := r1.own p _ hp
  obtain ⟨v1, k1, k2⟩ := lookup_some g2 hl
  exact ⟨p, C, dx, ws, v1, p1, g1, cl, n, k1, y, F1, μ1, e1, r1, k2, q1⟩
/-- o.f = value -/
theorem wS_fld (cl : Cls X.K C) (n : NoAttr X.K C f) (h : wE B X value Γ μ fun y μ1 => wE B X o Γ μ1 fun x μ2 => ∃ p dx fs, x = .loc p ∧ μ2 p = some (.ins C dx fs) ∧ fs.length < 1000 ∧ Z.nx Γ (μ2.upd p (.ins C dx (putL f y fs))))
    (hs : swapsWith value (some (.Attribute o f apos)) pos.line X.env = pure false := by rfl) : wS B X (.Assign [.Attribute o f apos] value pos) Γ μ Z := wS_of (ps_fld pe_rd pe_rd hs) fun σ M F H bo rs r => by
  refine (h σ M F H bo rs r).imp fun v H1 ⟨y, F1, μ1, e1, r1, p1, q1⟩ => ?_
  refine (q1 σ M F1 H1 (bo.mono e1) (rs.mono e1) r1).imp fun w H2 ⟨x, F2, μ2, e2, r2, p2, p, dx, fs, ex, hp, hl, q2⟩ => ?_
  subst ex; rw [rep_loc] at p2
  obtain ⟨_, ob, g1, ws, rfl, g2⟩ := r2.own p _ hp
  exact ⟨p, C, dx, ws, p2, g1, cl, n, by rw [g2.len]; exact hl, Γ, F2, _, e1.trans e2, rs.mono (e1.trans e2), r2.write hp (m' := .ins C dx (putL f y fs)) ⟨_, rfl, putL_rep (p1.mono e2) g2⟩, q2⟩
/-- o.f += value, whole numbers -/
theorem wS_fldadd (cl : Cls X.K C) (n : NoAttr X.K C f) (h : wE B X o Γ μ fun x μ1 => ∃ p dx fs i, x = .loc p ∧ μ1 p = some (.ins C dx fs) ∧ fs.lookup f = some (.int i) ∧
      wE B X value Γ μ1 fun y μ2 => ∃ j dx' fs', y = .int j ∧ μ2 p = some (.ins C dx' fs') ∧ fs'.length < 1000 ∧ Z.nx Γ (μ2.upd p (.ins C dx' (putL f (.int (i + j)) fs')))) : wS B X (.AugAssign (.Attribute o f tpos) .Add value pos) Γ μ Z := wS_of (ps_fldaug pe_rd pe_rd in_add) fun σ M F H bo rs r => by
  refine (h σ M F H bo rs r).imp fun v H1 ⟨x, F1, μ1, e1, r1, p1, p, dx, fs, i, ex, hp, hl, q1⟩ => ?_
  subst ex; rw [rep_loc] at p1
  obtain ⟨_, ob, g1, ws, rfl, g2⟩ := r1.own p _ hp
  obtain ⟨v1, k1, k2⟩ := lookup_some g2 hl
  rw [rep_int] at k2; subst k2
  refine ⟨p, C, dx, ws, _, p1, g1, cl, n, k1, ?_⟩
  refine (q1 σ M F1 H1 (bo.mono e1) (rs.mono e1) r1).imp fun w H2 ⟨y, F2, μ2, e2, r2, p2, j, dx', fs', ey, hp', hl', q2⟩ => ?_
  subst ey; rw [rep_int] at p2
  obtain ⟨_, ob', g1', ws', rfl, g2'⟩ := r2.own p _ hp'
  exact ⟨i, j, rfl, p2, dx', ws', g1', by rw [g2'.len]; exact hl', Γ, F2, _, e1.trans e2, rs.mono (e1.trans e2), r2.write hp' (m' := .ins C dx' (putL f (.int (i + j)) fs')) ⟨_, rfl, putL_rep (rep_int.mpr rfl) g2'⟩, q2⟩
/-- what a caller knows of a method -/
structure CalM (P : Program) (w : World) (K : PySem.W.Frag) (mg : Str → Option Value) (base : Heap) (k : Nat) (C : Addr) (m : Str) (c : AC) : Prop where
  ex : ∃ (f : Addr) (fd : FuncData) (ps : List Str), FnD P w K mg base CX0 k f fd ps c ∧ Meth K C m f ∧ Binds K fd ps []
/-- .. of the making of an instance: the promise is __init__'s -/
structure CalK (P : Program) (w : World) (K : PySem.W.Frag) (mg : Str → Option Value) (base : Heap) (k : Nat) (x : Str) (C : Addr) (c : AC) : Prop where
  ex : ∃ (f : Addr) (fd : FuncData) (ps : List Str), FnD P w K mg base CX0 k f fd ps c ∧ Mk K C f ∧ mg x = some (.ref C) ∧ Binds K fd ps []
theorem CalM.imp {P : Program} {w : World} {K : PySem.W.Frag} {mg : Str → Option Value} {base : Heap} {c c' : AC} (Dm : CalM P w K mg base k C m c) (h : ∀ xs μ Q E, c' xs μ Q E → c xs μ Q E) : CalM P w K mg base k C m c' := by
  obtain ⟨f, fd, ps, F, r⟩ := Dm.ex
  exact ⟨f, fd, ps, F.imp h, r⟩
/-- o.m(e, ..) -/
theorem wE_meth (cl : Cls X.K C) (Dm : CalM X.prog X.w X.K X.mg X.base k C m cc) (ar : Ar X j) (hk : k ≤ j) (h : wE B X o Γ μ fun x μ1 => ∃ p dx fs, x = .loc p ∧ μ1 p = some (.ins C dx fs) ∧ fs.lookup m = none ∧ wA B X (e :: es) Γ μ1 fun xs μ2 => cc (.loc p :: xs) μ2 Q fun _ _ _ => False)
    {pl : Sem Bool} (hst : starEach (e :: es) X.env = (false, eval e X.env) :: starEach es X.env := by rfl) (hpl : (backTo pos (starEach es X.env)).any (·.1) = false := by rfl)
    (ht : eval (.Call (.Attribute o m apos) (e :: es) [] pos) X.env = (eval o X.env >>= fun a => standAt apos.atName >>= fun _ => (holding [a] (getMethod a m pl) >>= fun g => callWith pos g.1 g.2 (backTo pos (starEach (e :: es) X.env)) (backToKw pos (keywordEach [] X.env)))) := by rfl) : wE B X (.Call (.Attribute o m apos) (e :: es) [] pos) Γ μ Q := by
  obtain ⟨fa, fd, ps, Fn, hm, bi⟩ := Dm.ex
  intro σ M F0 H bo rs rl
  refine ⟨fun pins s I => ?_⟩
  refine PySem.W.methodCall_KW (pl := pl) (thn ((h σ M F0 H bo rs rl).o pins s I) fun u s1 got => ?_) ht
  obtain ⟨v, H1, I1, rv, x, F1, μ1, ex1, r1, p1, p, dx, fs, ex, hp, hl, q1⟩ := got
  subst ex; rw [rep_loc] at p1; subst p1
  obtain rfl : u = Value.ref p := rv
  obtain ⟨_, ob, g1, ws, rfl, g2⟩ := r1.own p _ hp
  refine getmeth_ok I1 g1 cl hm (lookup_none g2 hl) ?_
  refine PySem.W.callWith_K (first := [.ref p]) (h₀ := X.base) I.ok.mod.kin hm.kp (thn ((q1 σ M F1 H1 (bo.mono ex1) (rs.mono ex1) r1).o pos pins s1 I1) fun us s2 got2 => ?_) hst hpl
  obtain ⟨vs, H2, I2, rvs, xs, F2, μ2, ex2, r2, rp, hc⟩ := got2
  refine ⟨I2.kIn, runD (us := .ref p :: us) (vs := .ref p :: vs) (dvs := []) (E := fun _ _ _ => False) Fn (ar.mono hk) bi .nil (fun _ _ _ _ _ _ _ z => z.elim) I2 (.cons rfl rvs) ⟨.loc p :: xs, F2, M, μ2, Q, fun _ _ _ => False, ?_, r2, hc, fun y μ' F' H' v q e1 r1 p1 => ?_, fun _ _ _ _ _ z _ _ => z⟩⟩
  · rw [List.append_nil]; exact .cons (rep_loc.mpr rfl) rp
  · exact ⟨y, F', μ', (ex1.trans ex2).trans e1, r1, p1, q⟩
/-- o.m() -/
theorem wE_meth0 (cl : Cls X.K C) (Dm : CalM X.prog X.w X.K X.mg X.base k C m cc) (ar : Ar X j) (hk : k ≤ j) (h : wE B X o Γ μ fun x μ1 => ∃ p dx fs, x = .loc p ∧ μ1 p = some (.ins C dx fs) ∧ fs.lookup m = none ∧ cc [.loc p] μ1 Q fun _ _ _ => False)
    {pl : Sem Bool} (ht : eval (.Call (.Attribute o m apos) [] [] pos) X.env = (eval o X.env >>= fun a => standAt apos.atName >>= fun _ => (holding [a] (getMethod a m pl) >>= fun g => callWith pos g.1 g.2 (backTo pos (starEach [] X.env)) (backToKw pos (keywordEach [] X.env)))) := by rfl) : wE B X (.Call (.Attribute o m apos) [] [] pos) Γ μ Q := by
  obtain ⟨fa, fd, ps, Fn, hm, bi⟩ := Dm.ex
  intro σ M F0 H bo rs rl
  refine ⟨fun pins s I => ?_⟩
  refine PySem.W.methodCall_KW (pl := pl) (thn ((h σ M F0 H bo rs rl).o pins s I) fun u s1 got => ?_) ht
  obtain ⟨v, H1, I1, rv, x, F1, μ1, ex1, r1, p1, p, dx, fs, ex, hp, hl, q1⟩ := got
  subst ex; rw [rep_loc] at p1; subst p1
  obtain rfl : u = Value.ref p := rv
  obtain ⟨_, ob, g1, ws, rfl, g2⟩ := r1.own p _ hp
  refine getmeth_ok I1 g1 cl hm (lookup_none g2 hl) ?_
  refine PySem.W.callWith_K0 (first := [.ref p]) I1.kIn hm.kp (runD (us := [.ref p]) (vs := [.ref p]) (dvs := []) (E := fun _ _ _ => False) Fn (ar.mono hk) bi .nil (fun _ _ _ _ _ _ _ z => z.elim) I1 (.cons rfl .nil) ⟨[.loc p], F1, M, μ1, Q, fun _ _ _ => False, .cons (rep_loc.mpr rfl) .nil, r1, q1, fun y μ' F' H' v q e1 r1 p1 => ?_, fun _ _ _ _ _ z _ _ => z⟩)
  exact ⟨y, F', μ', ex1.trans e1, r1, p1, q⟩
/-- anything laid in an empty place -/
theorem Rel.grow {K : PySem.W.Frag} {M F H : Hp} {p : Addr} {ob : HO} (h : Rel K μ M F H) (n : H p = none) : Rel K μ M F (upd H p ob) := by
  refine ⟨h.sub.trans (.new n), fun q m e => ?_, fun q o e => ?_⟩
  · obtain ⟨g1, o', g2, g3⟩ := h.own q m e
    have hq : q ≠ p := fun z => by rw [z, n] at g2; cases g2
    exact ⟨g1, o', by rw [upd_ne hq]; exact g2, g3⟩
  · obtain ⟨g1, g2, g3⟩ := h.frm q o e
    have hq : q ≠ p := fun z => by rw [z, n] at g3; cases g3
    exact ⟨g1, g2, by rw [upd_ne hq]; exact g3⟩
theorem under_guards {A : Around} (C : Addr) (us : List Value) (kw : List (Str × Value)) : (A.under (.builtin "type.__call__" ⟨.ref C :: us, kw⟩)).guards = A.guards := by
  unfold Around.under; rfl
theorem make_run {pins : List (Addr × Obj)} {σ : L2.St} {H M F0 : Hp} {s : Shared} {us : List Value} {vs : List V} {x : Str} (Dm : CalK X.prog X.w X.K X.mg X.base k x C cc) (ar : Ar X j) (hk : k + 1 ≤ j) (I : Inv X pins σ H s) (rv : Vals vs us) {xs : List D.A} (rp : RepL X.K F0 xs vs) (rl : Rel X.K μ M F0 H)
    (h : ∀ p dx, μ p = none → cc (.loc p :: xs) (μ.upd p (.ins C dx [])) (fun v μ' => v = .non ∧ Q (.loc p) μ') fun _ _ _ => False) :
    wpAny (model X.prog X.w) X.A (call (.ref C) us) (EP X pins σ (QE X.K M F0 Q)) X.xe s := by
  obtain ⟨fa, fd, ps, Fn, hm, hmg, bi⟩ := Dm.ex
  have ar2 := ar.mono hk
  have I2 := Inv.made (C := C) I
  have n1 : H (s.heap.objs.size + 1) = none := I.hok.fresh (Nat.le_succ _)
  have n0 : H s.heap.objs.size = none := I.hok.fresh (Nat.le_refl _)
  have ne : s.heap.objs.size + 1 ≠ s.heap.objs.size := by omega
  have rl1 : Rel X.K μ M F0 (upd H s.heap.objs.size (.own (s.heap.objs.size + 1))) := rl.grow n0
  obtain ⟨nμ, rl2⟩ := rl1.new (p := s.heap.objs.size + 1) (m := .ins C s.heap.objs.size []) (o := .ins C s.heap.objs.size []) (by rw [upd_ne ne]; exact n1) ⟨[], rfl, rfl⟩
  have all : Vals (V.ref (s.heap.objs.size + 1) :: vs) (Value.ref (s.heap.objs.size + 1) :: us) := .cons rfl rv
  have sp : spOf X.K cc (.ref (s.heap.objs.size + 1) :: vs) _ (fun v H2 => v = .non ∧ QE X.K M F0 Q (.ref (s.heap.objs.size + 1)) H2) (fun _ _ _ => False) :=
    ⟨.loc (s.heap.objs.size + 1) :: xs, F0, M, _, _, _, .cons (rep_loc.mpr rfl) rp, rl2, h _ _ nμ, fun y μ' F' H' v q e1 r1 p1 => by
      obtain ⟨rfl, q⟩ := q
      rw [rep_non] at p1
      exact ⟨p1, _, F', μ', e1, r1, rep_loc.mpr rfl, q⟩, fun _ _ _ _ _ z _ _ => z⟩
  have hl : (Value.ref (s.heap.objs.size + 1) :: us).length = ps.length := by rw [← all.length]; exact spOf.len Fn.len sp
  have hb := bi _ (Value.ref (s.heap.objs.size + 1) :: us) I2.kIn (by rw [List.append_nil]; exact hl)
  rw [List.append_nil] at hb
  refine wpAny_call (make_map (f := fa) I.kIn hm.makes hm.init (beq_iff_eq.mp hm.fn) (codeAny_mono (Fn.run _ X.stack _ _ ⟨Value.ref (s.heap.objs.size + 1) :: us, []⟩ _ _ _ _ (ar2.room.make C us []) ((under_guards C us []).trans ar.show0) (I2.env0.make C us []) hb all sp) fun r s' hq' => ?_))
  match r, hq' with
  | .error e, hq' => exact hq'.elim
  | .ok (.ret u), hq' =>
    obtain ⟨v, H', I3, rv', ev, q3⟩ := I2.after hq'
    subst ev
    exact ⟨rv', ⟨V.ref (s.heap.objs.size + 1), H', I3, rfl, q3⟩⟩
  | .ok .next, hq' => exact hq'.elim
  | .ok .brk, hq' => exact hq'.elim
  | .ok .cont, hq' => exact hq'.elim
/-- C(e, ..) -/
theorem wE_make {x : Str} (Dm : CalK X.prog X.w X.K X.mg X.base k x C cc) (ar : Ar X j) (hk : k + 1 ≤ j) (h : wA B X (e :: es) Γ μ fun xs μ1 => ∀ p dx, μ1 p = none → cc (.loc p :: xs) (μ1.upd p (.ins C dx [])) (fun v μ' => v = .non ∧ Q (.loc p) μ') fun _ _ _ => False) (hg : Gl X x := by rfl) (hdb : (x == ("__debug__" : Str)) = false := by decide)
    (he : starEach (e :: es) X.env = (false, eval e X.env) :: starEach es X.env := by rfl) (hpl : (backTo pos (starEach es X.env)).any (·.1) = false := by rfl) : wE B X (.Call (.Name x p0) (e :: es) [] pos) Γ μ Q := by
  obtain ⟨fa, fd, ps, Fn, hm, hmg, bi⟩ := Dm.ex
  intro σ M F0 H bo rs rl
  refine ⟨fun pins s I => ?_⟩
  refine wpAny_Call_Name_kw (ld_glob I hg hmg ?_ hdb)
  refine PySem.W.callWith_K (h₀ := X.base) I.ok.mod.kin hm.kp (thn ((h σ M F0 H bo rs rl).o pos pins s I) fun us s1 got => ?_) he hpl
  obtain ⟨vs, H1, I1, rv, xs, F1, μ1, ex, rl1, rp, hc⟩ := got
  exact ⟨I1.kIn, thn (make_run Dm ar hk I1 rv rp rl1 hc) fun _ _ ⟨z, H3, I3, r3, q3⟩ => ⟨z, H3, I3, r3, q3.mono ex⟩⟩
/-- C() -/
theorem wE_make0 {x : Str} (Dm : CalK X.prog X.w X.K X.mg X.base k x C cc) (ar : Ar X j) (hk : k + 1 ≤ j) (h : ∀ p dx, μ p = none → cc [.loc p] (μ.upd p (.ins C dx [])) (fun v μ' => v = .non ∧ Q (.loc p) μ') fun _ _ _ => False) (hg : Gl X x := by rfl) (hdb : (x == ("__debug__" : Str)) = false := by decide) : wE B X (.Call (.Name x p0) [] [] pos) Γ μ Q := by
  obtain ⟨fa, fd, ps, Fn, hm, hmg, bi⟩ := Dm.ex
  intro σ M F0 H bo rs rl
  refine ⟨fun pins s I => ?_⟩
  refine wpAny_Call_Name_kw (ld_glob I hg hmg ?_ hdb)
  exact PySem.W.callWith_K0 I.kIn hm.kp (make_run (us := []) (vs := []) Dm ar hk I .nil .nil rl h)
/-- a < b < c, as a value -/
theorem wE_chain2 {op op' : CmpOp} (h : wE B X a Γ μ fun x μ1 => wE B X b Γ μ1 fun y μ2 => wO X (compareOp op) x y μ2 fun z μ3 => ∃ k, z = .bl k ∧ (k = true → wE B X c Γ μ3 fun w μ4 => wO X (compareOp op') y w μ4 Q) ∧ (k = false → Q (.bl false) μ3))
    (hm : lastMarks [op, op'] [b, c] = false := by with_unfolding_all rfl) : wE B X (.Compare a [op, op'] [b, c] pos) Γ μ Q := wE_of (pe_chain opr_rd opr_rd pe_rd pe_rd pe_rd hm) fun σ M F H bo rs r => by
  refine (h σ M F H bo rs r).imp fun v H1 ⟨x, F1, μ1, e1, r1, p1, q1⟩ => ?_
  refine (q1 σ M F1 H1 (bo.mono e1) (rs.mono e1) r1).imp fun w H2 ⟨y, F2, μ2, e2, r2, p2, q2⟩ => ?_
  refine ⟨fun pins s σ' v' u' I hv hw => ?_⟩
  refine thn ((q2 M F2 H2 v w r2 (p1.mono e2) p2).o pins s σ' v' u' I hv hw) fun _ _ ⟨z, H3, I3, r3, x3, F3, μ3, e3, rl3, p3, k, ek, q3, q4⟩ => ?_
  subst ek; rw [rep_bl] at p3
  refine ⟨z, H3, I3, r3, k, p3, ?_⟩
  have e12 := (e1.trans e2).trans e3
  cases k with
  | false => exact iteF ⟨_, F3, μ3, e12, rl3, rep_bl.mpr rfl, q4 rfl⟩
  | true =>
    refine iteT ((q3 rfl σ M F3 H3 (bo.mono e12) (rs.mono e12) rl3).imp fun w' H4 ⟨y', F4, μ4, e4, r4, p4, q5⟩ => ?_)
    refine ⟨fun pins s σ' v' u' I hv hw => ?_⟩
    exact thn ((q5 M F4 H4 w w' r4 (p2.mono (e3.trans e4)) p4).o pins s σ' v' u' I hv hw) fun _ _ ⟨z', H5, I5, r5, q6⟩ => ⟨z', H5, I5, r5, q6.mono (e12.trans e4)⟩
/-- d.get(k, x) -/
theorem wE_dget2 {f : Expr} {cpos : Pos} (ar : Ar X j) (h : wE B X o Γ μ fun x μ1 => ∃ p kvs0, x = .loc p ∧ μ1 p = some (.dic kvs0) ∧ wE B X e Γ μ1 fun y μ2 => wE B X f Γ μ2 fun z μ3 => ∃ kvs k, μ3 p = some (.dic kvs) ∧ y = kA k ∧ Q ((valA kvs k).getD z) μ3)
    (hb : attributeBase o "get" X.env (eval o X.env) = eval o X.env := by rfl)
    (hf : ((backTo cpos (starEach [e, f] X.env)).all (fun x => !x.1) && (backToKw cpos (keywordEach [] X.env)).all (fun x => x.1.isSome) && decide (([e, f] : List Expr).length + ([] : List Keyword).length + (if ([] : List Keyword).isEmpty then 0 else 1) < 30)) = true := by rfl)
    (hl : (apos.endLine == cpos.line) = true := by rfl) (ht : backTo cpos (starEach [e, f] X.env) = [(false, eval e X.env), (false, eval f X.env)] := by rfl) : wE B X (.Call (.Attribute o "get" apos) [e, f] [] cpos) Γ μ Q := wE_of (pe_dget2 ar.u1 pe_rd pe_rd pe_rd ⟨hb, hf, hl, ht⟩) fun σ M F H bo rs r => by
  refine (h σ M F H bo rs r).imp fun v H1 ⟨x, F1, μ1, e1, r1, p1, p, kvs0, ex, hp, q1⟩ => ?_
  subst ex; rw [rep_loc] at p1
  obtain ⟨_, ob, g1, ws0, rfl, g2⟩ := r1.own p _ hp
  refine ⟨p, p1, .inl ⟨_, .inl g1⟩, ?_⟩
  refine (q1 σ M F1 H1 (bo.mono e1) (rs.mono e1) r1).imp fun w H2 ⟨y, F2, μ2, e2, r2, p2, q2⟩ => ?_
  refine (q2 σ M F2 H2 (bo.mono (e1.trans e2)) (rs.mono (e1.trans e2)) r2).imp fun u H3 ⟨z, F3, μ3, e3, r3, p3, kvs, k, hq, ey, q3⟩ => ?_
  subst ey
  have hw := kA_rep p2
  obtain ⟨_, ob, k1, ws, rfl, k2⟩ := r3.own p _ hq
  refine ⟨valV ws k, by rw [hw]; exact DGet.k k1, ?_⟩
  rcases valA_rep k k2 with ⟨h1, h2⟩ | ⟨z', v', h1, h2, h3⟩
  · rw [h1] at q3; rw [h2]
    exact ⟨z, F3, μ3, (e1.trans e2).trans e3, r3, p3, q3⟩
  · rw [h1] at q3; rw [h2]
    exact ⟨z', F3, μ3, (e1.trans e2).trans e3, r3, h3, q3⟩
end
end D

set_option Elab.async false
set_option linter.all false
set_option maxRecDepth 100000
set_option maxHeartbeats 4000000
/-! DL: in of dicts, dict of pairs, a dict of the module. -/
namespace D
open PySem PySem.Spec PyProof.Rows L2
section
variable {B : Bs} {X : Cx} {Γ : G} {μ : Mu} {Q : A → Mu → Prop} {QB : Bool → Mu → Prop} {e o f : Expr} {pos apos cpos : Pos} {j : Nat}
theorem valO_rep {K : PySem.W.Frag} {F : Hp} {kvs : List (Key × A)} {ws : List (Key × V)} (k : Key) (h : RepK K F kvs ws) : (valV ws k).isSome = (valA kvs k).isSome := by
  rcases valA_rep k h with ⟨h1, h2⟩ | ⟨z, v, h1, h2, _⟩
  · rw [h1, h2]; rfl
  · rw [h1, h2]; rfl
/-- k in d -/
theorem wE_inD (ar : Ar X j) (h : wE B X e Γ μ fun y μ1 => wE B X o Γ μ1 fun x μ2 => ∃ p kvs k, x = .loc p ∧ μ2 p = some (.dic kvs) ∧ y = kA k ∧ Q (.bl (valA kvs k).isSome) μ2) (hm : behindInMarks .In o = false := by rfl) : wE B X (.Compare e [.In] [o] pos) Γ μ Q := wE_of (pe_cmp (pc_din ar.u1 pe_rd pe_rd) hm) fun σ M F H bo rs r => by
  refine (h σ M F H bo rs r).imp fun w H2 ⟨y, F2, μ2, e2, r2, p2, q2⟩ => ?_
  refine (q2 σ M F2 H2 (bo.mono e2) (rs.mono e2) r2).imp fun v H1 ⟨x, F1, μ1, e1, r1, p1, p, kvs, k, ex, hp, ey, q1⟩ => ?_
  subst ex; subst ey; rw [rep_loc] at p1
  have hw := kA_rep p2
  obtain ⟨_, ob, g1, ws, rfl, g2⟩ := r1.own p _ hp
  exact ⟨p, _, p1, by rw [hw]; exact DGet.k g1, _, F1, μ1, e2.trans e1, r1, rep_bl.mpr (by rw [valO_rep k g2]), q1⟩
theorem wE_notInD (ar : Ar X j) (h : wE B X e Γ μ fun y μ1 => wE B X o Γ μ1 fun x μ2 => ∃ p kvs k, x = .loc p ∧ μ2 p = some (.dic kvs) ∧ y = kA k ∧ Q (.bl (!(valA kvs k).isSome)) μ2) (hm : behindInMarks .NotIn o = false := by rfl) : wE B X (.Compare e [.NotIn] [o] pos) Γ μ Q := wE_of (pe_cmp (pc_dnotin ar.u1 pe_rd pe_rd) hm) fun σ M F H bo rs r => by
  refine (h σ M F H bo rs r).imp fun w H2 ⟨y, F2, μ2, e2, r2, p2, q2⟩ => ?_
  refine (q2 σ M F2 H2 (bo.mono e2) (rs.mono e2) r2).imp fun v H1 ⟨x, F1, μ1, e1, r1, p1, p, kvs, k, ex, hp, ey, q1⟩ => ?_
  subst ex; subst ey; rw [rep_loc] at p1
  have hw := kA_rep p2
  obtain ⟨_, ob, g1, ws, rfl, g2⟩ := r1.own p _ hp
  exact ⟨p, _, p1, by rw [hw]; exact DGet.k g1, _, F1, μ1, e2.trans e1, r1, rep_bl.mpr (by rw [valO_rep k g2]), q1⟩
theorem wT_inD (ar : Ar X j) (h : wE B X e Γ μ fun y μ1 => wE B X o Γ μ1 fun x μ2 => ∃ p kvs k, x = .loc p ∧ μ2 p = some (.dic kvs) ∧ y = kA k ∧ QB (valA kvs k).isSome μ2) (hm : behindInMarks .In o = false := by rfl) : wT B X (.Compare e [.In] [o] pos) Γ μ QB := wT_of (pt_cmp (pc_din ar.u1 pe_rd pe_rd) hm) fun σ M F H bo rs r => by
  refine (h σ M F H bo rs r).imp fun w H2 ⟨y, F2, μ2, e2, r2, p2, q2⟩ => ?_
  refine (q2 σ M F2 H2 (bo.mono e2) (rs.mono e2) r2).imp fun v H1 ⟨x, F1, μ1, e1, r1, p1, p, kvs, k, ex, hp, ey, q1⟩ => ?_
  subst ex; subst ey; rw [rep_loc] at p1
  have hw := kA_rep p2
  obtain ⟨_, ob, g1, ws, rfl, g2⟩ := r1.own p _ hp
  exact ⟨p, _, p1, by rw [hw]; exact DGet.k g1, _, by rw [valO_rep k g2], F1, μ1, e2.trans e1, r1, q1⟩
theorem wT_notInD (ar : Ar X j) (h : wE B X e Γ μ fun y μ1 => wE B X o Γ μ1 fun x μ2 => ∃ p kvs k, x = .loc p ∧ μ2 p = some (.dic kvs) ∧ y = kA k ∧ QB (!(valA kvs k).isSome) μ2) (hm : behindInMarks .NotIn o = false := by rfl) : wT B X (.Compare e [.NotIn] [o] pos) Γ μ QB := wT_of (pt_cmp (pc_dnotin ar.u1 pe_rd pe_rd) hm) fun σ M F H bo rs r => by
  refine (h σ M F H bo rs r).imp fun w H2 ⟨y, F2, μ2, e2, r2, p2, q2⟩ => ?_
  refine (q2 σ M F2 H2 (bo.mono e2) (rs.mono e2) r2).imp fun v H1 ⟨x, F1, μ1, e1, r1, p1, p, kvs, k, ex, hp, ey, q1⟩ => ?_
  subst ex; subst ey; rw [rep_loc] at p1
  have hw := kA_rep p2
  obtain ⟨_, ob, g1, ws, rfl, g2⟩ := r1.own p _ hp
  exact ⟨p, _, p1, by rw [hw]; exact DGet.k g1, _, by rw [valO_rep k g2], F1, μ1, e2.trans e1, r1, q1⟩
theorem pairs_in {K : PySem.W.Frag} {F : Hp} : ∀ {kvs : List (Key × A)} {vs : List V}, RepL K F (kvs.map fun kv => A.tup [kA kv.1, kv.2]) vs → ∃ (ps : List Addr) (ws : List (Key × V)), vs = ps.map V.ref ∧ Paired (fun p kv => SqT K F p [kV kv.1, kv.2]) ps ws ∧ RepK K F kvs ws
  | [], _, h => by simp only [List.map_nil, RepL] at h; subst h; exact ⟨[], [], rfl, .nil, rfl⟩
  | (k, y) :: r, _, h => by
    simp only [List.map_cons, RepL] at h
    obtain ⟨v, t, rfl, h1, h2⟩ := h
    obtain ⟨ps, ws, rfl, h3, h4⟩ := pairs_in h2
    rw [rep_tup] at h1
    obtain ⟨a, us, rfl, g1, g2⟩ := h1
    obtain ⟨v1, v2, rfl, k1, k2⟩ := g2.two
    rw [kA_rep k1] at g1
    exact ⟨a :: ps, (k, v2) :: ws, rfl, .cons g1 h3, ⟨v2, ws, rfl, k2, h4⟩⟩
theorem paired_imp {α β : Type} {R S : α → β → Prop} (h : ∀ a b, R a b → S a b) : ∀ {l : List α} {m : List β}, Paired R l m → Paired S l m
  | _, _, .nil => .nil
  | _, _, .cons a t => .cons (h _ _ a) (paired_imp h t)
/-- dict(pairs) -/
theorem wC_dictP {x : A} {kvs : List (Key × A)} (hc : X.calm = true) (hx : IsL μ x (kvs.map fun kv => A.tup [kA kv.1, kv.2])) (q : ∀ p, μ p = none → Q (.loc p) (μ.upd p (.dic (mergeA [] kvs)))) : wC X (.type "dict") [x] μ Q := wC_of (call_dictP hc) fun M F H vs rl r => by
  obtain ⟨v, rfl, h⟩ := r.one
  obtain ⟨a, us, e, h1, h2⟩ := hx.rep rl h
  obtain ⟨ps, ws, rfl, h3, h4⟩ := pairs_in h2
  refine ⟨a, ps, ws, by rw [e], .inl (.inl h1), paired_imp (fun p kv => rl.sub.t) h3, fun p np => ?_⟩
  obtain ⟨nμ, rl'⟩ := rl.new (m := .dic (mergeA [] kvs)) np ⟨_, rfl, merge_rep h4 rfl⟩
  exact ⟨_, _, _, .refl _, rl', rep_loc.mpr rfl, q p nμ⟩
/-- what an entry of a written dict says, numbers by texts -/
def entI (d : DictEntry) : Option (Str × Int) := match d.key, d.val with
  | .str x _, .int i _ => some (x, i)
  | _, _ => none
/-- a written dict of numbers by texts -/
structure KDi (K : PySem.W.Frag) (w : World) (p : Addr) (kvs : List (Str × Int)) : Prop where
  ex : ∃ (es : Array DictEntry) (n : Nat), K.lookup p = some ⟨.type "dict", none, .dict es n, #[]⟩ ∧ PySem.W.KeysLit w.params es.toList ∧ (p == sysModules) = false ∧ es.toList.map entI = kvs.map some
def valI (kvs : List (Str × Int)) (z : Str) : Option Int := (kvs.find? fun kv => decide (kv.1 = z)).map (·.2)
theorem ent_is {dh : Int} {dk dv : Value} {x : Str} {i : Int} (h : entI ⟨dh, dk, dv⟩ = some (x, i)) : ∃ tx ti, dk = .str x tx ∧ dv = .int i ti := by
  unfold entI at h
  simp only at h
  split at h
  · cases h; exact ⟨_, _, rfl, rfl⟩
  · cases h
theorem ent_find (z : Str) : ∀ {es : List DictEntry} {kvs : List (Str × Int)}, es.map entI = kvs.map some → (valI kvs z = none ∧ es.find? (fun d => Value.isStrOf z d.key) = none) ∨ ∃ d i t, valI kvs z = some i ∧ es.find? (fun d => Value.isStrOf z d.key) = some d ∧ d.val = .int i t
  | [], [], _ => .inl ⟨rfl, rfl⟩
  | [], _ :: _, e0 => by cases e0
  | _ :: _, [], e0 => by cases e0
  | d :: es, (x, i) :: kvs, e0 => by
    obtain ⟨h1, h2⟩ : entI d = some (x, i) ∧ es.map entI = kvs.map some := by simpa using e0
    have ih := ent_find z h2
    obtain ⟨dh, dk, dv⟩ := d
    obtain ⟨tx, ti, rfl, rfl⟩ := ent_is h1
    by_cases e : x = z
    · subst e
      refine .inr ⟨⟨dh, .str x tx, .int i ti⟩, i, ti, by simp [valI], ?_, rfl⟩
      rw [List.find?_cons]
      simp [Value.isStrOf]
    · have e2 : Value.isStrOf z (.str x tx) = false := by simp [Value.isStrOf]; exact fun h => e h
      simp only [valI, List.find?_cons, e, decide_false, e2] at ih ⊢
      exact ih
/-- D.get(k, x) of a dict of the module -/
theorem wE_kget {p : Addr} {kvs : List (Str × Int)} (Dk : KDi X.K X.w p kvs) (h : wE B X o Γ μ fun x μ1 => x = .loc p ∧ wE B X e Γ μ1 fun y μ2 => wE B X f Γ μ2 fun z μ3 => ∃ (k : Str) (i : Int), y = .str k ∧ z = .int i ∧ Q (.int ((valI kvs k).getD i)) μ3)
    (hb : attributeBase o "get" X.env (eval o X.env) = eval o X.env := by rfl)
    (hf : ((backTo cpos (starEach [e, f] X.env)).all (fun x => !x.1) && (backToKw cpos (keywordEach [] X.env)).all (fun x => x.1.isSome) && decide (([e, f] : List Expr).length + ([] : List Keyword).length + (if ([] : List Keyword).isEmpty then 0 else 1) < 30)) = true := by rfl)
    (hl : (apos.endLine == cpos.line) = true := by rfl) (ht : backTo cpos (starEach [e, f] X.env) = [(false, eval e X.env), (false, eval f X.env)] := by rfl) : wE B X (.Call (.Attribute o "get" apos) [e, f] [] cpos) Γ μ Q := by
  obtain ⟨es, n, k1, k2, k3, k4⟩ := Dk.ex
  intro σ M F H bo rs rl
  refine ⟨fun pins s I => ?_⟩
  refine wpAny_Call_method hb hf hl PySem.F.plainAttrs_dict PySem.F.slot_dict_get PySem.F.type_dict_get (thn ((h σ M F H bo rs rl).o pins s I) fun u s1 got => ?_)
  obtain ⟨v, H1, I1, rv, x, F1, μ1, ex1, r1, p1, rfl, q1⟩ := got
  rw [rep_loc] at p1; subst p1
  obtain rfl : u = Value.ref p := rv
  have mo := fun {s : Shared} {pins : List (Addr × Obj)} {σ : L2.St} {H : Hp} (I : Inv X pins σ H s) => PySem.W.mapOf_K (prog := X.prog) (w := X.w) I.kIn k1 k2
  refine ⟨(mo I1).typeIs, fun b q => ?_, ?_⟩
  · cases q; exact ⟨_, I1.kIn _ _ k1, rfl⟩
  rw [ht]
  refine Calls.callWith_builtin rfl (Calls.evalArgs_plain (Calls.spliced_cons (thn ((q1 σ M F1 H1 (bo.mono ex1) (rs.mono ex1) r1).o pins s1 I1) fun iv s2 got2 => Calls.spliced_cons ?_)))
  obtain ⟨v2, H2, I2, rv2, y, F2, μ2, ex2, r2, p2, q2⟩ := got2
  refine thn ((q2 σ M F2 H2 (bo.mono (ex1.trans ex2)) (rs.mono (ex1.trans ex2)) r2).o pins s2 I2) fun fv s3 got3 => Calls.spliced_nil ?_
  obtain ⟨v3, H3, I3, rv3, z, F3, μ3, ex3, r3, p3, k, i, rfl, rfl, q3⟩ := got3
  rw [rep_str] at p2; subst p2
  rw [rep_int] at p3; subst p3
  obtain ⟨t2, rfl⟩ := rv2
  obtain ⟨t3, rfl⟩ := rv3
  refine call_meetsIn PySem.F.slot_dict_get (mo I3).typeIs PySem.F.entry_dict_get (PySem.F.args_dict_get_3 _ _ _) (meets_dict_get_default (strKind X.prog X.w) p (strKind_is X.prog X.w k t2) k3 (.int i t3)) ⟨_, mo I3, ?_⟩
  have fin : ∀ (m : Int) (tm : Tok) (tk : Nat), m = (valI kvs k).getD i → EP X pins σ (QE X.K M F Q) (.int m tm) { s3 with toks := tk } := fun m tm tk e => ⟨.int m, H3, I3.tok _, ⟨_, rfl⟩, .int m, F3, μ3, (ex1.trans ex2).trans ex3, r3, rep_int.mpr rfl, by rw [e]; exact q3⟩
  rcases ent_find k k4 with ⟨h1, h2⟩ | ⟨d, m, t, h1, h2, h3⟩
  · have e0 : findBy Value.isStrOf es k = none := by unfold findBy; rw [← Array.find?_toList, h2]; rfl
    simp only [e0, Option.getD_none]
    exact fin i t3 _ (by rw [h1]; rfl)
  · have e0 : findBy Value.isStrOf es k = some (.int m t) := by unfold findBy; rw [← Array.find?_toList, h2, ← h3]; rfl
    simp only [e0, Option.getD_some]
    exact fin m t _ (by rw [h1]; rfl)
end
end D

set_option Elab.async false
set_option linter.all false
set_option maxRecDepth 100000
set_option maxHeartbeats 4000000
/-! DM: how many unlike texts a tuple holds. -/
namespace D
open PySem PySem.Spec PyProof.Rows L2
/-- the unlike ones, in the order in which they are met -/
def unl (l : List Str) : List Str := l.foldl (fun a x => if x ∈ a then a else a ++ [x]) []
theorem unl_snoc (l : List Str) (x : Str) : unl (l ++ [x]) = if x ∈ unl l then unl l else unl l ++ [x] := by unfold unl; rw [List.foldl_append]; rfl
theorem mem_unl : ∀ (n : Nat) (l : List Str) (y : Str), l.length = n → (y ∈ unl l ↔ y ∈ l)
  | 0, l, y, h => by rw [List.length_eq_zero_iff.mp h]; simp [unl]
  | n + 1, l, y, h => by
    obtain ⟨m, x, rfl⟩ : ∃ m x, l = m ++ [x] := ⟨l.dropLast, l.getLast (fun z => by rw [z] at h; simp at h), (List.dropLast_concat_getLast _).symm⟩
    have ih := fun y => mem_unl n m y (by simpa using h)
    rw [unl_snoc]
    split
    · rename_i hx
      rw [ih]
      simp only [List.mem_append, List.mem_singleton]
      exact ⟨.inl, fun z => z.elim id fun e => by rw [e]; exact (ih x).mp hx⟩
    · simp only [List.mem_append, List.mem_singleton, ih]
theorem mem_un {l : List Str} {y : Str} : y ∈ unl l ↔ y ∈ l := mem_unl _ l y rfl
theorem unl_le : ∀ (n : Nat) (l : List Str), l.length = n → (unl l).length ≤ l.length
  | 0, l, h => by rw [List.length_eq_zero_iff.mp h]; simp [unl]
  | n + 1, l, h => by
    obtain ⟨m, x, rfl⟩ : ∃ m x, l = m ++ [x] := ⟨l.dropLast, l.getLast (fun z => by rw [z] at h; simp at h), (List.dropLast_concat_getLast _).symm⟩
    have ih := unl_le n m (by simpa using h)
    rw [unl_snoc]
    split
    · simp; omega
    · simp; omega
theorem unl_nodup : ∀ (n : Nat) (l : List Str), l.length = n → l.Nodup → unl l = l
  | 0, l, h, _ => by rw [List.length_eq_zero_iff.mp h]; rfl
  | n + 1, l, h, hd => by
    obtain ⟨m, x, rfl⟩ : ∃ m x, l = m ++ [x] := ⟨l.dropLast, l.getLast (fun z => by rw [z] at h; simp at h), (List.dropLast_concat_getLast _).symm⟩
    rw [List.nodup_append] at hd
    rw [unl_snoc, unl_nodup n m (by simpa using h) hd.1, if_neg fun hx => hd.2.2 x hx x (by simp) rfl]
section
variable {P : Program} {w : World} {B : Around} {T : Result → Shared → Prop} {it : Addr} {fp wr : List Addr} {G0 : Array GenState → Array GenState → Prop} {n : Nat} {Pv : Nat → Value → Prop} {St0 : Nat → Shared → Prop}
/-- what the set holds behind i turns -/
abbrev HasT (P : Program) (w : World) (h : Heap) (a : Addr) (l : List Str) : Prop := h.SetOf (PySem.strKind P w) a (fun z => decide (z ∈ l)) (unl l).length
theorem set_turns (W : WalksS P w B.in1 it fp wr G0 n Pv St0) (a : Addr) (ha : a ∉ fp) (xs : List Str) (hn : xs.length = n) (hb : n + 1 < scanBound) (hv : ∀ i u, Pv i u → ∃ t, u = .str (xs.getD i Str.empty) t) :
    ∀ (m i : Nat) (s : Shared), i + m = n → St0 i s → HasT P w s.heap a (xs.take i) → (∀ s', Moved (a :: wr) G0 s s' → HasT P w s'.heap a xs → T (.ok (.ret .none)) s') →
      codeAny (model P w) B (.builtin "set.update.loop" ⟨[.ref a, .ref it], []⟩) T s
  | 0, i, s, hi, st, hS, hT => by
    refine codeAny_builtin PyProof.Rows.F.entry_set_update_loop ?_; rw [Around.under_plainId PyProof.Rows.F.plain_set_update_loop _]
    have e : i = n := by omega
    subst e; rw [← hn, List.take_length] at hS
    refine (show wpAny _ B.in1 (pyNext (.ref it) >>= _) _ _ s from wpAny_bind (W.done s _ _ st fun s1 mv => ?_))
    refine (show wpAny _ B.in1 (ret Value.none) _ _ s1 from wpAny_pure (hT s1 (mv.mono fun b hb => List.mem_cons_of_mem _ hb) ?_))
    obtain ⟨ob, es, ep, tb, h0, more⟩ := hS; exact ⟨ob, es, ep, tb, mv.heap a _ (fun z => ha (W.sub _ z)) h0, more⟩
  | m + 1, i, s, hi, st, hS, hT => by
    refine codeAny_builtin PyProof.Rows.F.entry_set_update_loop ?_; rw [Around.under_plainId PyProof.Rows.F.plain_set_update_loop _]
    refine (show wpAny _ B.in1 (pyNext (.ref it) >>= _) _ _ s from wpAny_bind (W.item i s _ _ (by omega) st fun v s1 hp st1 mv => ?_))
    obtain ⟨t, rfl⟩ := hv i v hp
    have hS1 : HasT P w s1.heap a (xs.take i) := by obtain ⟨ob, es, ep, tb, h0, more⟩ := hS; exact ⟨ob, es, ep, tb, mv.heap a _ (fun z => ha (W.sub _ z)) h0, more⟩
    have hx : xs.take (i + 1) = xs.take i ++ [xs.getD i Str.empty] := by
      rw [List.take_add_one, List.getD_eq_getElem?_getD, List.getElem?_eq_getElem (by omega)]; rfl
    have hl := unl_le _ (xs.take i) rfl
    rw [List.length_take] at hl
    refine (show wpAny _ B.in1 (holding [Value.str (xs.getD i Str.empty) t] (setAdd a (.str (xs.getD i Str.empty) t)) >>= _) _ _ s1 from wpAny_bind (wpAny_holding ?_))
    unfold setAdd; refine wpAny_holding (wpAny_bind ((PySem.strKind P w).pyHash (k := xs.getD i Str.empty) (strKind_is _ _ _ _) ?_))
    refine wpAny_setAddHashed_of (knd := PySem.strKind P w) (s := { s1 with toks := s1.toks + 1 }) (strKind_is _ _ _ _) rfl hS1 (by omega) fun h2 sb hS2 => ?_
    have hS3 : HasT P w h2 a (xs.take (i + 1)) := by
      refine PyProof.Rows.SetOf_congr hS2 (fun z => ?_) ?_
      · rw [hx]; simp only [List.mem_append, List.mem_singleton, Bool.decide_or]
      · rw [hx, unl_snoc]
        by_cases hm : xs.getD i Str.empty ∈ xs.take i
        · rw [if_pos (mem_un.mpr hm), decide_eq_true hm]; rfl
        · rw [if_neg fun z => hm (mem_un.mp z), decide_eq_false hm, List.length_append]; rfl
    have mono : ∀ b ∈ wr, b ∈ a :: wr := fun b hb => List.mem_cons_of_mem _ hb
    refine wpAny_pure ⟨plainId_quiet PyProof.Rows.F.plain_set_update_loop _, set_turns W a ha xs hn hb hv m (i + 1) _ (by omega) (W.frame _ s1 _ _ st1 (Nat.le_succ _) fun b hb o e => by rw [sb.2 b (fun z : b = a => ha (z ▸ hb))]; exact e) hS3 fun s3 mv3 hS4 => ?_⟩
    exact hT s3 (Moved.trans W.gtrans ((mv.mono mono).then_heap (Nat.le_succ _) fun b o hb e => by rw [sb.2 b (fun z : b = a => hb (z ▸ List.mem_cons_self))]; exact e) mv3) hS4
end
section
variable {P : Program} {w : World} {B : Around} {E : Value → Shared → Prop} {s : Shared}
/-- an empty set -/
abbrev fresh0 (led : Bool) : Obj := { cls := .type "set", dict := none, data := .set #[] 0 (.fresh 0 0 led) }
set_option maxHeartbeats 8000000 in
theorem set_of_tuple {l : Addr} {its : Array Value} {xs : List Str} {Q : Value → Shared → Prop} (hh : B.handled = none) (hl : s.heap.IsTuple l its) (hx : PyProof.Rows.StrsAre its.toList xs) (hb : xs.length + 1 < scanBound)
    (q : ∀ (h' : Heap) (tk : Nat), HasT P w h' s.heap.objs.size xs → (∀ b o, b < s.heap.objs.size → s.heap.get? b = some o → h'.get? b = some o) → Q (.ref s.heap.objs.size) { s with heap := h', toks := tk }) : wpAny (model P w) B (call (.type "set") [.ref l]) Q E s := by
  obtain ⟨mc, mt, hmro⟩ := PySem.F.called_set.mro
  have g1 := PySem.F.called_set.made; have g2 := PySem.F.called_set.sub; have g3 := PySem.F.called_set.notType; have g4 := PySem.F.called_set.canCreate; have g5 := PySem.F.typeCall_set_1 (.ref l)
  refine (wpAny_call (codeAny_of_tree (show wpAny _ _ (callAny (.type "set") _) _ _ _ from wpAny_pure ⟨Code.quiet_builtin _ (by decide +kernel), codeAny_builtin PySem.F.entry_type_call ?_⟩)))
  rw [Around.under_plain (weight_type_call_type "set" [.ref l] []) rfl]
  repeat (any_goals (first | wp_step | assumption))
  refine codeAny_mono (code_set_new_1 (.ref l) (E := E) (Q₁ := fun ob s1 => ∃ led : Bool, ob = .ref s.heap.objs.size ∧ s1 = { s with heap := s.heap.push (fresh0 led) }) fun led => ⟨led, rfl, rfl⟩) fun r s1 hr => ?_
  match r, hr with
  | .error e, hr => exact hr
  | .ok .next, hr => exact hr.elim
  | .ok .brk, hr => exact hr.elim
  | .ok .cont, hr => exact hr.elim
  | .ok (.ret ob), hr =>
    obtain ⟨led, rfl, rfl⟩ := hr
    have hS : (s.heap.push (fresh0 led)).get? s.heap.objs.size = some (fresh0 led) := Heap.get?_push_size _ rfl
    have hT : Shared.TypeIs { s with heap := s.heap.push (fresh0 led) } (.ref s.heap.objs.size) "set" := ⟨_, hS, rfl⟩
    have k1 := PySem.F.called_set.init.lookup; have k2 := PySem.F.called_set.init.bind (.ref s.heap.objs.size)
    repeat (any_goals (first | wp_step | assumption))
    refine codeAny_mono (codeAny_call_builtin (R := wants (fun r s2 => r = .none ∧ ∃ h' tk, s2 = { s with heap := h', toks := tk } ∧ HasT P w h' s.heap.objs.size xs ∧ (∀ b o, b < s.heap.objs.size → s.heap.get? b = some o → h'.get? b = some o)) E) PySem.F.called_set.init.plain PySem.F.entry_set_init (check_set_init_1 hT ?_)) fun r2 s2 hr2 => ?_
    · obtain ⟨⟨_, od, _, osl⟩, hol, rfl, nl, rfl⟩ := hl
      have hol2 : (s.heap.push (fresh0 led)).get? l = some { cls := .type "tuple", dict := od, data := .seq its nl, slots := osl } := Heap.get?_push_of_some _ hol
      have n1 := PySem.F.sub_tuple_set; have n2 := PySem.F.sub_tuple_frozenset; have n3 : (Value.type "tuple" == Value.type "dict") = false := by decide
      have isT : (s.heap.push (fresh0 led)).IsTuple l its := ⟨_, hol2, rfl, nl, rfl⟩
      unfold Builtin.«set.__init__» noKeywords Builtin.Frozenset.updateFrom
      generalize hpi : pyIter = PI
      wp_walk
      subst hpi
      refine wpAny_pyIter_tuple isT (wpAny_bind (wpAny_runValue ?_))
      have lS : l < s.heap.objs.size := Heap.lt_size hol
      have hsz : its.size = xs.length := by rw [← StrsAre.len_eq hx, Array.length_toList]
      have neI : l ≠ (s.heap.push (fresh0 led)).objs.size := by rw [Heap.size_push]; exact Nat.ne_of_lt (Nat.lt_succ_of_lt lS)
      have off : s.heap.objs.size ∉ [(s.heap.push (fresh0 led)).objs.size, l] := by rw [Heap.size_push]; simp only [List.mem_cons, List.not_mem_nil, or_false, not_or]; exact ⟨Nat.ne_of_lt (Nat.lt_succ_self _), Nat.ne_of_gt lS⟩
      refine set_turns ((Walks.tuple (by simp [hh]) _ l neI its).toS) s.heap.objs.size off xs hsz.symm (by omega) (fun i v hv => SS.strs_at hx i v (by rw [Array.getElem?_toList]; exact hv)) its.size 0 _ (by omega) ⟨⟨_, Heap.get?_push_size _ rfl, rfl, rfl⟩, isT.push _⟩ ?_ fun s3 mv hS3 => ?_
      · have hg : ((s.heap.push (fresh0 led)).push { cls := .type "tuple_iterator", data := .fields #[.ref l, .int 0 0] }).get? s.heap.objs.size = some (fresh0 led) := Heap.get?_push_of_some _ hS
        exact PyProof.Rows.SetOf_congr ((PyProof.Rows.setObjOf_fresh (knd := PySem.strKind P w) led).setOf hg (by unfold scanBound; omega)) (fun _ => by simp) rfl
      · obtain ⟨h3, gn3, dr3, tk3, os3⟩ := s3
        obtain rfl : gn3 = s.gens := mv.gens
        obtain rfl : dr3 = s.drawn := mv.drawn
        obtain rfl : os3 = s.os := mv.os
        refine (show wpAny _ _ _ _ _ _ from wpAny_pure (show wpAny _ _ (ret Value.none) _ _ _ from wpAny_pure ⟨rfl, h3, tk3, rfl, hS3, fun b o lb e => ?_⟩))
        refine mv.heap b o ?_ (Heap.get?_push_of_some _ (Heap.get?_push_of_some _ e))
        rw [Heap.size_push]; simp only [List.mem_cons, List.not_mem_nil, or_false, not_or]; exact ⟨Nat.ne_of_lt lb, Nat.ne_of_lt (Nat.lt_succ_of_lt lb)⟩
    · match r2, hr2 with
      | .error e, hr2 => exact hr2
      | .ok .next, hr2 => exact hr2.elim
      | .ok .brk, hr2 => exact hr2.elim
      | .ok .cont, hr2 => exact hr2.elim
      | .ok (.ret _), hr2 =>
        obtain ⟨rfl, h', tk, rfl, hS', hk⟩ := hr2
        repeat (any_goals (first | wp_step | assumption))
        exact q _ _ hS' hk
end
section
variable {B : Bs} {X : Cx} {Γ : G} {μ : Mu} {Q : A → Mu → Prop} {e : Expr} {p p2 q0 pos : Pos}
/-- len(set(names)), a tuple of texts -/
theorem wE_lenSet (hm : X.mg "len" = none) (hm2 : X.mg "set" = none) (h : wE B X e Γ μ fun x μ1 => ∃ xs : List Str, x = .tup (xs.map A.str) ∧ xs.length ≤ 1000 ∧ Q (.int (unl xs).length) μ1) (hg : Gl X "len" := by rfl) (hg2 : Gl X "set" := by rfl) (hc : X.calm = true := by rfl)
    (na : starEach [e] X.env = (false, eval e X.env) :: starEach [] X.env := by rfl) : wE B X (.Call (.Name "len" p) [.Call (.Name "set" p2) [e] [] q0] [] pos) Γ μ Q := by
  intro σ M F H bo rs rl
  refine ⟨fun pins s I => ?_⟩
  refine Call_ (ld_blt I hg hm boot_len (PyProof.Rows.callWith_builtin1 (PyProof.Rows.args_cons ?_ rfl) rfl rfl))
  refine Call_ (ld_blt I hg2 hm2 boot_set (PyProof.Rows.callWith_type1 (PyProof.Rows.args_cons (thn ((h σ M F H bo rs rl).o pins s I) fun v s1 got => PyProof.Rows.args_nil ?_) na) na rfl))
  obtain ⟨u, H1, I1, ru, x, F1, μ1, ex, r1, p1, xs, rfl, hx, q1⟩ := got
  rw [rep_tup] at p1
  obtain ⟨a, vs, rfl, h1, h2⟩ := p1
  rw [repL_strs h2] at h1
  cases ru
  obtain ⟨its, rv, pl, hz⟩ := I1.tuple (r1.sub.t h1)
  refine set_of_tuple (I1.ok.hd hc) pl (by simpa using L2.strsAre_of rv) (by unfold scanBound; omega) fun h' tk hS hk => PyProof.Rows.args_nil ?_
  obtain ⟨o, es, ep, t, ho, hex, hd, _, _, _, hf, hn⟩ := hS
  have I2 : Inv X pins σ H1 { s1 with heap := h', toks := tk } := I1.kept fun b o e => hk b o (Heap.lt_size e) e
  have hu := unl_le _ xs rfl
  exact call_len_set ho hex hd hf (by rw [hn]; omega) ⟨.int (unl xs).length, H1, I2.tok _, ⟨_, by rw [hn]⟩, _, F1, μ1, ex, r1, rep_int.mpr rfl, q1⟩
end
end D

set_option Elab.async false
set_option linter.all false
set_option maxRecDepth 100000
set_option maxHeartbeats 4000000
/-! P01: words that write numbers, in plain terms. -/
namespace D
open PySem PySem.Spec PyProof.Rows L2 NumText
def digA (w : Str) : Bool := w.cps.toList.all fun ch => decide (ch ∈ ("0123456789" : Str).cps.toList)
def figIn (w : Str) : Option Int := if (decide ((1 : Int) ≤ w.length) && decide ((w.length : Int) ≤ 4000) && digA w) = true then (if (Txt.startswith w "0" && !decide (w = "0")) = true then none else PySem.intText? w) else none
def optA : Option Int → A
  | none => .non
  | some i => .int i
def wholeOf (w : Str) : Option Int → Option Int
  | none => none
  | some v => if w = "-0" then none else some (if Txt.startswith w "-" = true then 0 - v else v)
def wholeIn (w : Str) : Option Int := wholeOf w (figIn (if Txt.startswith w "-" = true then cutS w (some 1) none else w))
def belowIn (w : Str) : Option Int := if (Txt.partition w "/").2.1 ≠ "" then figIn (Txt.partition w "/").2.2 else some 1
def numOf : Option Int → Option Int → A
  | some n, some d => if d = 0 then .non else low n d
  | _, _ => .non
def numIn (w : Str) : A := numOf (wholeIn (Txt.partition w "/").1) (belowIn w)
theorem fig_mem (c : Nat) : c ∈ ("0123456789" : Str).cps.toList ↔ 48 ≤ c ∧ c ≤ 57 := by
  have e : ("0123456789" : Str).cps.toList = [48, 49, 50, 51, 52, 53, 54, 55, 56, 57] := by decide
  rw [e]
  simp only [List.mem_cons, List.not_mem_nil, or_false]
  omega
theorem digA_all {w : Str} (h : digA w = true) : AllDigits w.cps.toList := fun c hc => by
  have := List.all_eq_true.mp h c hc
  exact (fig_mem c).mp (of_decide_eq_true this)
theorem digitsVal_bound (cs : List Nat) : ∀ acc : Nat, AllDigits cs → cs.foldl (fun acc c => acc * 10 + (c - 48)) acc < (acc + 1) * 10 ^ cs.length := by
  induction cs with
  | nil => intro acc _; simp
  | cons c cs ih =>
    intro acc h
    have hc := h.head
    have := ih (acc * 10 + (c - 48)) h.tail
    rw [List.foldl_cons, List.length_cons, Nat.pow_succ]
    refine Nat.lt_of_lt_of_le this ?_
    have h2 : acc * 10 + (c - 48) + 1 ≤ (acc + 1) * 10 := by omega
    calc _ ≤ (acc + 1) * 10 * 10 ^ cs.length := Nat.mul_le_mul_right _ h2
      _ = _ := by rw [Nat.mul_assoc, Nat.mul_comm 10]
theorem dig_int {w : Str} (h : digA w = true) (h1 : 1 ≤ w.length) (h2 : w.length ≤ 640) : ∃ n : Int, PySem.intText? w = some n ∧ 0 ≤ n ∧ Bd 2200 n := by
  have ha := digA_all h
  have hl : w.cps.toList.length = w.length := Array.length_toList
  refine ⟨_, intText_digits ha (fun z => by rw [z] at hl; simp at hl; omega) (by omega), by omega, ?_⟩
  have hb := digitsVal_bound w.cps.toList 0 ha
  unfold Bd
  rw [Int.natAbs_natCast]
  refine Nat.lt_of_lt_of_le (show digitsVal w.cps.toList < (0 + 1) * 10 ^ w.cps.toList.length from hb) ?_
  rw [Nat.zero_add, Nat.one_mul]
  exact Nat.le_trans (Nat.pow_le_pow_right (by decide) (show w.cps.toList.length ≤ 640 by omega)) (by decide +kernel)
end D

set_option Elab.async false
set_option linter.all false
set_option maxRecDepth 100000
set_option maxHeartbeats 4000000
/-! P02: numbers written and read again; names. -/
namespace D
open PySem PySem.Spec PyProof.Rows L2 TL NumText
theorem starts1 (w : Str) (c : Nat) : Txt.startswith w ⟨#[c]⟩ = decide ((tl w)[0]? = some c) := by
  have h := PySem.StrLaws.subAt_one w c 0
  unfold Txt.startswith
  by_cases e : (tl w)[0]? = some c
  · have h2 := h.mpr e
    rw [decide_eq_true e, h2.2, decide_eq_true h2.1]; rfl
  · rw [decide_eq_false e]
    refine Bool.eq_false_iff.mpr fun z => e (h.mp ?_)
    simpa using z
theorem nought : ("0" : Str) = ⟨#[48]⟩ := by decide
theorem dash : ("-" : Str) = ⟨#[45]⟩ := by decide
/-- what is written of a number, from the number itself -/
def txtN (n : Nat) : Str := Str.ofString (toString ((n : Nat) : Int))
theorem tl_txtN (n : Nat) : tl (txtN n) = numL n := tl_num n
theorem tl_neg (n : Nat) : tl (Str.ofString (toString (Int.negSucc n))) = 45 :: numL (n + 1) := by
  show (Str.ofString ("-" ++ Nat.repr (n + 1))).cps.toList = _
  rw [signs_ofString, String.toList_append, List.map_append, Nat.toList_repr]
  rfl
theorem head48 : ∀ n : Nat, (numL n)[0]? = some 48 → n = 0 := by
  intro n
  induction n using Nat.strongRecOn with
  | _ n ih =>
    intro h
    by_cases hn : n < 10
    · rw [numL_lt hn] at h
      simp at h; omega
    · rw [numL_step (by omega)] at h
      have h0 := numL_ne (n / 10)
      have h1 : (numL (n / 10))[0]? = some 48 := by
        cases e : numL (n / 10) with
        | nil => exact absurd e h0
        | cons x l => rw [e] at h; simpa using h
      have := ih (n / 10) (by omega) h1
      omega
theorem numL_bd {n : Nat} (h : n < 2 ^ 1900) : (numL n).length ≤ 620 := numL_len (by decide) (Nat.lt_of_lt_of_le h (by decide +kernel))
theorem len_txtN {n : Nat} (h : n < 2 ^ 1900) : 1 ≤ (txtN n).length ∧ (txtN n).length ≤ 620 := by
  rw [len_tl, tl_txtN]
  exact ⟨List.length_pos_iff.mpr (numL_ne n), numL_bd h⟩
theorem digA_txtN (n : Nat) : digA (txtN n) = true := by
  unfold digA
  refine List.all_eq_true.mpr fun c hc => decide_eq_true ((fig_mem c).mpr ?_)
  exact numL_digits n c (by rw [← tl_txtN]; exact hc)
theorem figIn_txtN {n : Nat} (h : n < 2 ^ 1900) : figIn (txtN n) = some (n : Int) := by
  obtain ⟨h1, h2⟩ := len_txtN h
  have e1 : PySem.intText? (txtN n) = some (n : Int) := int_num (Nat.le_trans (numL_bd h) (by decide))
  unfold figIn
  rw [digA_txtN, decide_eq_true (show (1 : Int) ≤ (txtN n).length by omega), decide_eq_true (show ((txtN n).length : Int) ≤ 4000 by omega), if_pos (by rfl), e1]
  refine if_neg ?_
  rw [nought, starts1, tl_txtN]
  intro z
  simp only [Bool.and_eq_true, decide_eq_true_eq, Bool.not_eq_true', decide_eq_false_iff_not] at z
  have e2 := head48 n z.1
  subst e2
  exact z.2 (ext_tl (by rw [tl_txtN, numL_lt (by decide)]))
theorem notDash {n : Nat} : (numL n)[0]? ≠ some 45 := fun h => by
  have h1 := List.mem_of_getElem? h
  exact numL_free (Or.inl (by decide)) h1
theorem wholeIn_txt {i : Int} (h : i.natAbs < 2 ^ 1900) : wholeIn (Str.ofString (toString i)) = some i := by
  cases i with
  | ofNat n =>
    have e0 : Str.ofString (toString (Int.ofNat n)) = txtN n := rfl
    have e : Txt.startswith (txtN n) "-" = false := by rw [dash, starts1, tl_txtN]; exact decide_eq_false notDash
    have e3 : txtN n ≠ "-0" := fun z => by
      have z2 := congrArg (fun w => (tl w)[0]?) z
      simp only [tl_txtN] at z2
      exact notDash (n := n) (by rw [z2]; rfl)
    rw [e0]
    unfold wholeIn
    rw [e, if_neg (by simp), figIn_txtN (by simpa using h)]
    unfold wholeOf
    simp only [e, Bool.false_eq_true, if_false, if_neg e3]
    rfl
  | negSucc n =>
    have et := tl_neg n
    generalize hw : Str.ofString (toString (Int.negSucc n)) = w at et
    have e : Txt.startswith w "-" = true := by rw [dash, starts1, et]; rfl
    have e2 : cutS w (some 1) none = txtN (n + 1) := by
      refine ext_tl ?_
      rw [tl_txtN]
      have l1 : w.length = (numL (n + 1)).length + 1 := by rw [len_tl, et]; rfl
      have l2 := List.length_pos_iff.mpr (numL_ne (n + 1))
      unfold cutS HT.sIx
      simp only [show ¬ ((1 : Int) < 0) by omega, if_false]
      have e1 : min (1 : Int).toNat w.length = 1 := by rw [l1]; simp
      rw [e1, tl_mk, show w.cps.toList = 45 :: numL (n + 1) from et, List.drop_one, List.tail_cons, l1]
      exact List.take_of_length_le (by omega)
    have e3 : w ≠ "-0" := fun z => by
      have z2 := congrArg tl z
      rw [et] at z2
      have z3 : numL (n + 1) = [48] := by
        have : tl ("-0" : Str) = [45, 48] := by decide
        rw [this] at z2
        exact (List.cons.inj z2).2
      have := head48 (n + 1) (by rw [z3]; rfl)
      omega
    unfold wholeIn
    rw [e, if_pos rfl, e2, figIn_txtN (by simpa using h)]
    unfold wholeOf
    simp only [e, if_true, if_neg e3]
    congr 1
theorem noStroke (i : Int) : 47 ∉ tl (Str.ofString (toString i)) := by
  cases i with
  | ofNat n => rw [show tl (Str.ofString (toString (Int.ofNat n))) = numL n from tl_num n]; exact numL_free (Or.inl (by decide))
  | negSucc n =>
    rw [tl_neg]
    intro h
    rcases List.mem_cons.mp h with h | h
    · cases h
    · exact numL_free (Or.inl (by decide)) h
theorem strokeL : tl ("/" : Str) = 47 :: [] := by decide
theorem numIn_one {i : Int} (h : i.natAbs < 2 ^ 1900) : numIn (Str.ofString (toString i)) = low i 1 := by
  have e := partition_none strokeL (noStroke i)
  unfold numIn belowIn
  rw [e]
  simp only
  rw [if_neg (by decide), wholeIn_txt h]
  rfl
theorem numIn_two {i : Int} {d : Nat} (h : i.natAbs < 2 ^ 1900) (hd : d < 2 ^ 1900) (d0 : d ≠ 0) : numIn (Str.ofString (toString i) ++ "/" ++ txtN d) = low i d := by
  have e := partition_app strokeL (b := txtN d) (noStroke i)
  unfold numIn belowIn
  rw [e]
  simp only
  rw [if_pos (by decide), wholeIn_txt h, figIn_txtN hd]
  unfold numOf
  simp only
  rw [if_neg (by omega)]
end D

set_option Elab.async false
set_option linter.all false
set_option maxRecDepth 100000
set_option maxHeartbeats 4000000
/-! P03: names. -/
namespace D
open PySem PySem.Spec PyProof.Rows L2 TL NumText
abbrev LETS : Str := "abcdefghijklmnopqrstuvwxyz"
def BARS : List Str := ["in", "out", "part", "give", "call", "repeat", "end", "plus", "less", "times", "over", "power", "most", "least", "size", "pick", "copy"]
def letA (w : Str) : Bool := w.cps.toList.all fun ch => decide (ch ∈ LETS.cps.toList)
def isNm : A → Bool
  | .str w => decide ((1 : Int) ≤ w.length) && decide ((w.length : Int) ≤ 8) && !inA (.str w) (BARS.map A.str) && letA w
  | _ => false
structure NmOk (w : Str) : Prop where
  lt : letA w = true
  lo : 1 ≤ w.length
  hi : w.length ≤ 8
def ltr (i : Int) : Str := ⟨#[LETS.cps.toList.getD i.toNat 97]⟩
theorem ltr_at {i : Int} (h0 : 0 ≤ i) (h1 : i < 26) : atI LETS.cps.toList i = some (LETS.cps.toList.getD i.toNat 97) := by
  have hl : LETS.cps.toList.length = 26 := by decide
  refine atI_pos ?_ h0
  rw [List.getElem?_eq_getElem (by omega), List.getD_eq_getElem?_getD, List.getElem?_eq_getElem (by omega)]; rfl
theorem letA_ltr (i : Int) : letA (ltr i) = true := by
  unfold letA ltr
  simp only [List.all_cons, List.all_nil, Bool.and_true, decide_eq_true_eq]
  by_cases h : i.toNat < LETS.cps.toList.length
  · rw [List.getD_eq_getElem?_getD, List.getElem?_eq_getElem h]; exact List.getElem_mem h
  · rw [List.getD_eq_getElem?_getD, List.getElem?_eq_none (by omega)]; decide
theorem letA_app (a b : Str) : letA (a ++ b) = (letA a && letA b) := by
  unfold letA
  rw [show (a ++ b).cps.toList = a.cps.toList ++ b.cps.toList from tl_append a b, List.all_append]
theorem letA_cut {w : Str} (h : letA w = true) {lo hi : Option Int} : letA (cutS w lo hi) = true := by
  unfold letA at *
  refine List.all_eq_true.mpr fun c hc => List.all_eq_true.mp h c ?_
  unfold cutS at hc
  exact List.mem_of_mem_drop (List.mem_of_mem_take (by simpa using hc))
theorem letA_tl (w : Str) : letA w = (tl w).all fun ch => decide (ch ∈ LETS.cps.toList) := rfl
theorem mem_joinL {S : List Nat} {c : Nat} : ∀ {l : List (List Nat)}, c ∈ joinL S l → c ∈ S ∨ ∃ p ∈ l, c ∈ p
  | [], h => by simp [joinL] at h
  | [p], h => .inr ⟨p, by simp, by simpa [joinL] using h⟩
  | p :: q :: r, h => by
    simp only [joinL, List.mem_append] at h
    rcases h with h | h | h
    · exact .inr ⟨p, by simp, h⟩
    · exact .inl h
    · rcases mem_joinL h with h | ⟨x, hx, h⟩
      · exact .inl h
      · exact .inr ⟨x, List.mem_cons_of_mem _ hx, h⟩
theorem letA_join {ys : List Str} (h : ∀ w ∈ ys, letA w = true) : letA (Txt.join "" ys) = true := by
  rw [letA_tl, join_eq, tl_join]
  refine List.all_eq_true.mpr fun c hc => ?_
  rcases mem_joinL hc with h1 | ⟨p, hp, h1⟩
  · rw [show tl ("" : Str) = [] by decide] at h1; cases h1
  · obtain ⟨w, hw, rfl⟩ := List.mem_map.mp hp
    exact List.all_eq_true.mp (h w hw) c h1
theorem joinL_len : ∀ {l : List (List Nat)}, (∀ p ∈ l, p.length ≤ 1) → (joinL [] l).length ≤ l.length
  | [], _ => by simp [joinL]
  | [p], h => by have := h p (by simp); simpa [joinL] using this
  | p :: q :: r, h => by
    have h1 := h p (by simp)
    have h2 := joinL_len (l := q :: r) fun x hx => h x (List.mem_cons_of_mem _ hx)
    simp only [joinL, List.length_append, List.length_nil, List.length_cons] at *
    omega
theorem len_ltrs (f : Nat → Int) (n : Nat) : (Txt.join "" ((List.range n).map fun j => ltr (f j))).length ≤ n := by
  rw [len_tl, join_eq, tl_join, show tl ("" : Str) = [] by decide]
  refine Nat.le_trans (joinL_len fun p hp => ?_) (by simp)
  obtain ⟨w, hw, rfl⟩ := List.mem_map.mp hp
  obtain ⟨j, _, rfl⟩ := List.mem_map.mp hw
  exact Nat.le_refl 1
theorem sum_ltrs (f : Nat → Int) (l : List Nat) : ((l.map fun j => ltr (f j)).map (·.length)).sum = l.length := by
  induction l with
  | nil => rfl
  | cons x l ih => rw [List.map_cons, List.map_cons, List.sum_cons, ih, List.length_cons]; show 1 + _ = _; omega
theorem cutS_hi (w : Str) (i : Int) (h : 0 ≤ i) : (cutS w none (some i)).length ≤ i.toNat := by
  unfold cutS HT.sIx
  simp only [show ¬ (i < 0) by omega, if_false]
  rw [len_tl, tl_mk, List.length_take]
  omega
theorem cutS_mid (w : Str) (i j : Int) (h : 0 ≤ i ∧ i ≤ j) : (cutS w (some i) (some j)).length ≤ (j - i).toNat := by
  unfold cutS HT.sIx
  simp only [show ¬ (i < 0) by omega, show ¬ (j < 0) by omega, if_false]
  rw [len_tl, tl_mk, List.length_take, List.length_drop]
  omega
def fixN (w : Str) : Str := if inA (.str w) (BARS.map A.str) = true then "zz" ++ cutS w none (some 1) ++ "z" else w
theorem noBar {w : Str} (h : (tl w).take 2 = [122, 122]) : inA (.str w) (BARS.map A.str) = false := by
  refine Bool.eq_false_iff.mpr fun z => ?_
  unfold inA at z
  rw [List.any_map] at z
  obtain ⟨y, hy, e⟩ := List.any_eq_true.mp z
  have e2 : y = w := by simpa [eqA] using e
  subst e2
  have k : BARS.all (fun y => (tl y).take 2 != [122, 122]) = true := by decide
  have k2 := List.all_eq_true.mp k y hy
  rw [h] at k2
  simp at k2
theorem fixN_ok {w : Str} (h : NmOk w) : isNm (.str (fixN w)) = true := by
  have h1 := h.lo
  have h2 := h.hi
  unfold fixN
  split
  · have n2 := cutS_hi w 1 (by omega)
    have e2 : ("zz" : Str).length = 2 := by decide
    have e3 : ("z" : Str).length = 1 := by decide
    have hl : ("zz" ++ cutS w none (some 1) ++ "z" : Str).length = 2 + (cutS w none (some 1)).length + 1 := by rw [Str.length_append, Str.length_append, e2, e3]
    simp only [isNm]
    rw [decide_eq_true (by omega), decide_eq_true (by omega), letA_app, letA_app, letA_cut h.lt, noBar]
    · decide
    · rw [tl_append, tl_append, show tl ("zz" : Str) = [122, 122] by decide]; rfl
  · rename_i hb
    simp only [isNm]
    rw [decide_eq_true (by omega), decide_eq_true (by omega), h.lt, Bool.eq_false_iff.mpr hb]; rfl
theorem isNm_wd {w : Str} (h : isNm (.str w) = true) : w.length ≤ 8 := by
  simp only [isNm, Bool.and_eq_true, decide_eq_true_eq] at h
  omega
end D

set_option Elab.async false
set_option linter.all false
set_option maxRecDepth 100000
set_option maxHeartbeats 4000000
/-! PG: programs as plain data. -/
namespace D
open PySem PySem.Spec PyProof.Rows L2
/-- the rows of a class -/
def bodyC : Stmt → List Stmt
  | .ClassDef (body := these) .. => these
  | _ => []
def TAKENL : List (Str × Int) := [("plus", 2), ("less", 2), ("times", 2), ("over", 2), ("power", 2), ("most", 2), ("least", 2), ("size", 1), ("pick", 3), ("copy", 1)]
/-- a name told: last, if it wasn't there -/
def insT (T : List Str) (w : Str) : List Str := if w ∈ T then T else T ++ [w]
theorem mem_insT {T : List Str} {w x : Str} : x ∈ insT T w ↔ x ∈ T ∨ x = w := by
  unfold insT
  split
  · rename_i h
    exact ⟨.inl, fun z => z.elim id fun e => e ▸ h⟩
  · simp
abbrev Tk (T : List Str) : List (Key × A) := T.map fun w => ((.inr w : Key), A.bl true)
abbrev Pk (Pn : List (Str × Int)) : List (Key × A) := Pn.map fun p => ((.inr p.1 : Key), A.int p.2)
theorem valA_Tk (w : Str) : ∀ T : List Str, valA (Tk T) (.inr w) = if w ∈ T then some (.bl true) else none
  | [] => by simp [valA]
  | x :: T => by
    have ih := valA_Tk w T
    simp only [valA, Tk, List.map_cons, List.find?_cons] at ih ⊢
    by_cases e : x = w
    · subst e; simp
    · have e2 : ¬ w = x := fun z => e z.symm
      simp only [Sum.inr.injEq, e, decide_false, List.mem_cons, e2, false_or]
      exact ih
theorem any_Tk (w : Str) (T : List Str) : ((Tk T).any fun kv => decide (kv.1 = (.inr w : Key))) = decide (w ∈ T) := by
  rw [List.any_map]
  by_cases h : w ∈ T
  · rw [decide_eq_true h]
    exact List.any_eq_true.mpr ⟨w, h, by simp⟩
  · rw [decide_eq_false h]
    refine Bool.eq_false_iff.mpr fun z => h ?_
    obtain ⟨x, hx, e⟩ := List.any_eq_true.mp z
    have e2 : x = w := by simpa using e
    exact e2 ▸ hx
theorem putA_Tk (T : List Str) (w : Str) : putA (Tk T) (.inr w) (.bl true) = Tk (insT T w) := by
  unfold putA insT
  rw [any_Tk]
  by_cases h : w ∈ T
  · rw [decide_eq_true h, if_pos rfl, if_pos h]
    unfold Tk
    rw [List.map_map]
    refine List.map_congr_left fun x _ => ?_
    simp only [Function.comp]
    split <;> rfl
  · rw [decide_eq_false h, if_neg (by simp), if_neg h]
    simp [Tk]
theorem valA_Pk (w : Str) : ∀ Pn : List (Str × Int), valA (Pk Pn) (.inr w) = (valI Pn w).map A.int
  | [] => by simp [valA, valI]
  | (x, i) :: Pn => by
    have ih := valA_Pk w Pn
    simp only [valA, valI, Pk, List.map_cons, List.find?_cons] at ih ⊢
    by_cases e : x = w
    · subst e; simp
    · simp only [Sum.inr.injEq, e, decide_false]
      exact ih
theorem putA_Pk {w : Str} {n : Int} : ∀ {Pn : List (Str × Int)}, valI Pn w = none → putA (Pk Pn) (.inr w) (.int n) = Pk (Pn ++ [(w, n)]) := by
  intro Pn h
  unfold putA
  have e : ((Pk Pn).any fun kv => decide (kv.1 = (.inr w : Key))) = false := by
    refine Bool.eq_false_iff.mpr fun z => ?_
    rw [List.any_map] at z
    obtain ⟨p, hp, e⟩ := List.any_eq_true.mp z
    have e2 : p.1 = w := by simpa using e
    unfold valI at h
    rw [Option.map_eq_none_iff, List.find?_eq_none] at h
    exact h p hp (by simp [e2])
  rw [e, if_neg (by simp)]
  simp [Pk]
/-- a told name or a fraction -/
def ThOk (T : List Str) (x : A) : Prop := (∃ w, x = .str w ∧ w ∈ T ∧ letA w = true ∧ w.length ≤ 8) ∨ ∃ n d, x = .tup [.int n, .int d] ∧ Fr n d
theorem ThOk.up {T T' : List Str} {x : A} (h : ThOk T x) (w : ∀ y ∈ T, y ∈ T') : ThOk T' x := by
  rcases h with ⟨a, h1, h2, h3⟩ | h
  · exact .inl ⟨a, h1, w a h2, h3⟩
  · exact .inr h
/-- a word and what it takes -/
def RowOk (Pn : List (Str × Int)) (T : List Str) (w : Str) (ts : List A) : Prop :=
  (w = "call" ∧ ∃ c r, ts = .str c :: r ∧ valI Pn c = some (r.length : Int) ∧ letA c = true ∧ c.length ≤ 8 ∧ ∀ a ∈ r, ThOk T a) ∨
  (w = "power" ∧ ∃ a k, ts = [a, .int k] ∧ ThOk T a ∧ -8 ≤ k ∧ k ≤ 8) ∨
  (w ≠ "call" ∧ w ≠ "power" ∧ valI TAKENL w = some (ts.length : Int) ∧ ∀ a ∈ ts, ThOk T a)
theorem RowOk.up {Pn : List (Str × Int)} {T T' : List Str} {w : Str} {ts : List A} (h : RowOk Pn T w ts) (u : ∀ y ∈ T, y ∈ T') : RowOk Pn T' w ts := by
  rcases h with ⟨h1, c, r, h2, h3, h4, h5, h6⟩ | ⟨h1, a, k, h2, h3, h4⟩ | ⟨h1, h2, h3, h4⟩
  · exact .inl ⟨h1, c, r, h2, h3, h4, h5, fun a ha => (h6 a ha).up u⟩
  · exact .inr (.inl ⟨h1, a, k, h2, h3.up u, h4⟩)
  · exact .inr (.inr ⟨h1, h2, h3, fun a ha => (h4 a ha).up u⟩)
inductive It where
  | row (x w : Str) (ts : List A)
  | rep (n : Int) (b : List It)
mutual
def It.a : It → A
  | .row x w ts => .tup [.str "row", .str x, .str w, .tup ts]
  | .rep n b => .tup [.str "repeat", .int n, .tup (aIts b)]
def aIts : List It → List A
  | [] => []
  | i :: r => i.a :: aIts r
end
mutual
/-- the names told behind it -/
def It.told : It → List Str → List Str
  | .row x _ _, T => insT T x
  | .rep _ b, T => toldIts b T
def toldIts : List It → List Str → List Str
  | [], T => T
  | i :: r, T => toldIts r (i.told T)
end
mutual
def It.ok (Pn : List (Str × Int)) : Nat → List Str → It → Prop
  | d, T, .row x w ts => d ≤ 3 ∧ isNm (.str x) = true ∧ RowOk Pn T w ts
  | d, T, .rep n b => d < 3 ∧ 1 ≤ n ∧ n ≤ 200 ∧ okIts Pn (d + 1) T b
def okIts (Pn : List (Str × Int)) : Nat → List Str → List It → Prop
  | _, _, [] => True
  | d, T, i :: r => i.ok Pn d T ∧ okIts Pn d (i.told T) r
end
mutual
def It.size : It → Nat
  | .row _ _ _ => 1
  | .rep _ b => 1 + sizeIts b
def sizeIts : List It → Nat
  | [] => 0
  | i :: r => i.size + sizeIts r
end
mutual
/-- no row takes too many things -/
def It.tsOk : It → Prop
  | .row _ _ ts => ts.length ≤ 1000
  | .rep _ b => tsIts b
def tsIts : List It → Prop
  | [] => True
  | i :: r => i.tsOk ∧ tsIts r
end
mutual
theorem told_len : ∀ (i : It) (T : List Str), (i.told T).length ≤ T.length + i.size
  | .row x _ _, T => by
    simp only [It.told, It.size, insT]
    split
    · omega
    · simp
  | .rep _ b, T => by
    simp only [It.told, It.size]
    have := tolds_len b T
    omega
theorem tolds_len : ∀ (l : List It) (T : List Str), (toldIts l T).length ≤ T.length + sizeIts l
  | [], _ => by simp [toldIts, sizeIts]
  | i :: r, T => by
    simp only [toldIts, sizeIts]
    have h1 := told_len i T
    have h2 := tolds_len r (i.told T)
    omega
end
theorem aIts_len : ∀ l : List It, (aIts l).length = l.length
  | [] => rfl
  | i :: r => by simp [aIts, aIts_len r]
theorem len_size : ∀ l : List It, l.length ≤ sizeIts l
  | [] => Nat.le_refl _
  | i :: r => by
    have := len_size r
    have : 1 ≤ i.size := by cases i <;> simp [It.size]
    simp only [sizeIts, List.length_cons]; omega
/-- texts of letters are plain data -/
theorem strOk_let {w : Str} (h : letA w = true) : PyData.strOk w = true := by
  unfold PyData.strOk
  rw [← Array.all_toList]
  refine List.all_eq_true.mpr fun c hc => ?_
  have h1 := of_decide_eq_true (List.all_eq_true.mp h c hc)
  have h2 : LETS.cps.toList.all (fun c => decide (c < 1114112)) = true := by decide
  exact List.all_eq_true.mp h2 c h1
theorem ThOk.dat {T : List Str} {x : A} (h : ThOk T x) : isD x = true ∧ deep x ≤ 1 := by
  rcases h with ⟨w, rfl, _, h2, _⟩ | ⟨n, d, rfl, _⟩
  · exact ⟨by simp only [isD]; exact strOk_let h2, by simp [deep]⟩
  · exact ⟨rfl, by simp [deep, deeps]⟩
theorem RowOk.dat {Pn : List (Str × Int)} {T : List Str} {w : Str} {ts : List A} (h : RowOk Pn T w ts) : isDs ts = true ∧ deeps ts ≤ 1 ∧ PyData.strOk w = true ∧ ts ≠ [] := by
  have key : ∀ {l : List A}, (∀ a ∈ l, ThOk T a) → isDs l = true ∧ deeps l ≤ 1 := fun h => ⟨isDs_all fun a ha => (h a ha).dat.1, deeps_le fun a ha => (h a ha).dat.2⟩
  rcases h with ⟨rfl, c, r, rfl, _, h4, _, h6⟩ | ⟨rfl, a, k, rfl, h3, _⟩ | ⟨h1, h2, h3, h4⟩
  · obtain ⟨k1, k2⟩ := key h6
    refine ⟨by simp only [isDs, isD, k1, strOk_let h4, Bool.and_self], ?_, by decide +kernel, by simp⟩
    simp only [deeps, deep]; omega
  · obtain ⟨k1, k2⟩ := h3.dat
    refine ⟨by simp only [isDs, isD, k1, Bool.and_self], ?_, by decide +kernel, by simp⟩
    simp only [deeps, deep]; omega
  · obtain ⟨k1, k2⟩ := key h4
    have hm : ∃ i, (w, i) ∈ TAKENL ∧ 0 < i := by
      unfold valI at h3
      cases e : TAKENL.find? (fun kv => decide (kv.1 = w)) with
      | none => rw [e] at h3; cases h3
      | some p =>
        have h5 := List.mem_of_find?_eq_some e
        have h6 := List.find?_some e
        have h7 : p.1 = w := by simpa using h6
        have h8 : TAKENL.all (fun p => decide (0 < p.2)) = true := by decide
        exact ⟨p.2, h7 ▸ h5, by simpa using List.all_eq_true.mp h8 p h5⟩
    obtain ⟨i, hi, _⟩ := hm
    have h8 : TAKENL.all (fun p => PyData.strOk p.1) = true := by decide +kernel
    refine ⟨k1, k2, List.all_eq_true.mp h8 _ hi, fun z => ?_⟩
    subst z
    unfold valI at h3
    cases e : TAKENL.find? (fun kv => decide (kv.1 = w)) with
    | none => rw [e] at h3; cases h3
    | some p =>
      rw [e] at h3
      have h5 := List.mem_of_find?_eq_some e
      have h8 : TAKENL.all (fun p => decide (0 < p.2)) = true := by decide
      have h9 := List.all_eq_true.mp h8 p h5
      simp at h3 h9
      omega
theorem isNm_let {w : Str} (h : isNm (.str w) = true) : letA w = true ∧ w.length ≤ 8 ∧ 1 ≤ w.length := by
  simp only [isNm, Bool.and_eq_true, decide_eq_true_eq] at h
  exact ⟨h.2, by omega, by omega⟩
mutual
theorem It.dat {Pn : List (Str × Int)} : ∀ {i : It} {d : Nat} {T : List Str}, i.ok Pn d T → isD i.a = true ∧ deep i.a ≤ 11 - 2 * d
  | .row x w ts, d, T, h => by
    simp only [It.ok] at h
    obtain ⟨h0, h1, h2⟩ := h
    obtain ⟨k1, k2, k3, _⟩ := h2.dat
    refine ⟨?_, ?_⟩
    · simp only [It.a, isD, isDs, k1, k3, strOk_let (isNm_let h1).1, Bool.and_true, Bool.true_and]; decide +kernel
    · simp only [It.a, deep, deeps]; omega
  | .rep n b, d, T, h => by
    simp only [It.ok] at h
    obtain ⟨h1, _, _, h4⟩ := h
    obtain ⟨k1, k2⟩ := datIts h4
    refine ⟨?_, ?_⟩
    · simp only [It.a, isD, isDs, k1, Bool.and_true, Bool.true_and]; decide +kernel
    · simp only [It.a, deep, deeps]; omega
theorem datIts {Pn : List (Str × Int)} : ∀ {l : List It} {d : Nat} {T : List Str}, okIts Pn d T l → isDs (aIts l) = true ∧ deeps (aIts l) ≤ 11 - 2 * d
  | [], _, _, _ => ⟨rfl, Nat.zero_le _⟩
  | i :: r, d, T, h => by
    simp only [okIts] at h
    obtain ⟨k1, k2⟩ := It.dat h.1
    obtain ⟨k3, k4⟩ := datIts h.2
    exact ⟨by simp only [aIts, isDs, k1, k3, Bool.and_self], by simp only [aIts, deeps]; omega⟩
end
/-! ### parts, programs -/
structure Pt where
  nm : Str
  ins : List Str
  body : List It
  give : Str
def Pt.a (q : Pt) : A := .tup [.str q.nm, .tup (q.ins.map A.str), .tup (aIts q.body), .str q.give]
def Pt.size (q : Pt) : Nat := 2 + q.ins.length + sizeIts q.body
structure Pt.ok (q : Pt) (Pn : List (Str × Int)) : Prop where
  nm : isNm (.str q.nm) = true
  new : valI Pn q.nm = none
  i1 : 1 ≤ q.ins.length
  i4 : q.ins.length ≤ 4
  ins : ∀ w ∈ q.ins, isNm (.str w) = true
  unl : q.ins.Nodup
  ts : tsIts q.body
  body : okIts Pn 0 q.ins q.body
  give : q.give ∈ toldIts q.body q.ins
def okPts : List (Str × Int) → List Pt → Prop
  | _, [] => True
  | Pn, q :: r => q.ok Pn ∧ okPts (Pn ++ [(q.nm, (q.ins.length : Int))]) r
def sizePts (l : List Pt) : Nat := (l.map Pt.size).sum
abbrev pnPts (l : List Pt) : List (Str × Int) := l.map fun q => (q.nm, (q.ins.length : Int))
structure Pg where
  parts : List Pt
  ins : List Str
  body : List It
  outs : List Str
def Pg.a (g : Pg) : A := .tup [.tup (g.parts.map Pt.a), .tup (g.ins.map A.str), .tup (aIts g.body), .tup (g.outs.map A.str)]
def Pg.size (g : Pg) : Nat := sizePts g.parts + g.ins.length + sizeIts g.body + g.outs.length
structure Pg.ok (g : Pg) : Prop where
  p6 : g.parts.length ≤ 6
  parts : okPts [] g.parts
  i1 : 1 ≤ g.ins.length
  i6 : g.ins.length ≤ 6
  ins : ∀ w ∈ g.ins, isNm (.str w) = true
  unl : g.ins.Nodup
  ts : tsIts g.body
  body : okIts (pnPts g.parts) 0 g.ins g.body
  o1 : 1 ≤ g.outs.length
  o4 : g.outs.length ≤ 4
  outs : ∀ w ∈ g.outs, isNm (.str w) = true ∧ w ∈ toldIts g.body g.ins
  size : g.size ≤ 80
theorem valI_none {Pn : List (Str × Int)} {w : Str} (h : valI Pn w = none) : ∀ p ∈ Pn, p.1 ≠ w := fun p hp e => by
  unfold valI at h
  rw [Option.map_eq_none_iff, List.find?_eq_none] at h
  exact h p hp (by simp [e])
theorem okPts_nodup : ∀ {l : List Pt} {Pn : List (Str × Int)}, okPts Pn l → (l.map (·.nm)).Nodup ∧ ∀ q ∈ l, ∀ p ∈ Pn, p.1 ≠ q.nm
  | [], _, _ => ⟨.nil, fun _ h => nomatch h⟩
  | q :: r, Pn, h => by
    simp only [okPts] at h
    obtain ⟨h1, h2⟩ := okPts_nodup h.2
    refine ⟨?_, fun x hx p hp => ?_⟩
    · rw [List.map_cons, List.nodup_cons]
      refine ⟨fun hm => ?_, h1⟩
      obtain ⟨x, hx, e⟩ := List.mem_map.mp hm
      exact h2 x hx (q.nm, q.ins.length) (by simp) e.symm
    · rcases List.mem_cons.mp hx with rfl | hx
      · exact valI_none h.1.new p hp
      · exact h2 x hx p (List.mem_append_left _ hp)
theorem merge_acc : ∀ (l acc : List (Key × A)), ((acc ++ l).map (·.1)).Nodup → mergeA acc l = acc ++ l
  | [], acc, _ => by simp [mergeA]
  | kv :: l, acc, h => by
    have hn : (acc.any fun x => decide (x.1 = kv.1)) = false := by
      refine Bool.eq_false_iff.mpr fun z => ?_
      obtain ⟨x, hx, e⟩ := List.any_eq_true.mp z
      rw [List.map_append, List.nodup_append] at h
      exact h.2.2 x.1 (List.mem_map.mpr ⟨x, hx, rfl⟩) kv.1 (by simp) (of_decide_eq_true e)
    have e : putA acc kv.1 kv.2 = acc ++ [kv] := by unfold putA; rw [hn, if_neg (by simp)]
    have ih := merge_acc l (acc ++ [kv]) (by simpa using h)
    unfold mergeA at ih ⊢
    rw [List.foldl_cons, e, ih]
    simp
theorem merge_nodup {l : List (Key × A)} (h : (l.map (·.1)).Nodup) : mergeA [] l = l := by simpa using merge_acc l [] (by simpa using h)
theorem merge_Tk {T : List Str} (h : T.Nodup) : mergeA [] (Tk T) = Tk T := by
  refine merge_nodup ?_
  rw [List.map_map]
  exact List.Pairwise.map _ (fun a b hab e => hab (Sum.inr.inj e)) h
/-! ### what a law draws by, with room and names -/
def moreL : Option (List Str) → List (Key × A)
  | none => []
  | some ns => [(.inr "names", .lst (ns.map A.str))]
abbrev dicL (fs : List Int) (l : Addr) (at_ rm : Int) (mo : Option (List Str)) : List (Key × A) := [(.inr "cells", .lst (fs.map A.int)), (.inr "left", .loc l), (.inr "at", .int at_), (.inr "room", .int rm)] ++ moreL mo
theorem dicL_at {fs : List Int} {l : Addr} {at_ rm n : Int} {mo : Option (List Str)} : putA (dicL fs l at_ rm mo) (.inr "at") (.int n) = dicL fs l n rm mo := by cases mo <;> rfl
theorem dicL_room {fs : List Int} {l : Addr} {at_ rm n : Int} {mo : Option (List Str)} : putA (dicL fs l at_ rm mo) (.inr "room") (.int n) = dicL fs l at_ n mo := by cases mo <;> rfl
theorem dicL_names {fs : List Int} {l : Addr} {at_ rm : Int} {mo : Option (List Str)} {ns : List Str} : putA (dicL fs l at_ rm mo) (.inr "names") (.lst (ns.map A.str)) = dicL fs l at_ rm (some ns) := by cases mo <;> rfl
theorem dicL_len {fs : List Int} {l : Addr} {at_ rm : Int} {mo : Option (List Str)} : (dicL fs l at_ rm mo).length ≤ 5 := by cases mo <;> simp [dicL, moreL]
/-- the dict at m, its list at l; at most c draws so far; room, names -/
structure Lx (m l : Addr) (c : Nat) (rm : Int) (mo : Option (List Str)) (μ : Mu) : Prop where
  ex : ∃ (fs left : List Int) (at_ : Int), μ m = some (.dic (dicL fs l at_ rm mo)) ∧ μ l = some (.lst (left.map A.int)) ∧ G64 fs ∧ left.length ≤ 63 ∧ 0 ≤ at_ ∧ at_ ≤ c
  ne : l ≠ m
theorem Lx.up {m l : Addr} {c d : Nat} {rm : Int} {mo : Option (List Str)} {μ : Mu} (h : Lx m l c rm mo μ) (hd : c ≤ d) : Lx m l d rm mo μ := by
  obtain ⟨⟨fs, left, a, h1, h2, h3, h4, h5, h6⟩, h7⟩ := h
  exact ⟨⟨fs, left, a, h1, h2, h3, h4, h5, by omega⟩, h7⟩
theorem Lx.sub {m l : Addr} {c : Nat} {rm : Int} {mo : Option (List Str)} {μ μ' : Mu} (h : Lx m l c rm mo μ) (s : Sub μ μ') : Lx m l c rm mo μ' := by
  obtain ⟨⟨fs, left, a, h1, h2, h3⟩, h7⟩ := h
  exact ⟨⟨fs, left, a, s _ _ h1, s _ _ h2, h3⟩, h7⟩
theorem Lx.off {m l : Addr} {c : Nat} {rm : Int} {mo : Option (List Str)} {μ : Mu} (h : Lx m l c rm mo μ) {p : Addr} (n : μ p = none) : p ≠ m ∧ p ≠ l := by
  obtain ⟨⟨fs, left, a, h1, h2, h3⟩, h7⟩ := h
  exact ⟨fun z => by (rw [z, h1] at n; cases n), fun z => by (rw [z, h2] at n; cases n)⟩
theorem Lx.set {m l : Addr} {c : Nat} {rm rm' : Int} {mo mo' : Option (List Str)} {μ : Mu} {kvs : List (Key × A)} (h : Lx m l c rm mo μ) (e : ∀ fs at_, μ m = some (.dic (dicL fs l at_ rm mo)) → kvs = dicL fs l at_ rm' mo') : Lx m l c rm' mo' (μ.upd m (.dic kvs)) := by
  obtain ⟨⟨fs, left, a, h1, h2, h3⟩, h7⟩ := h
  exact ⟨⟨fs, left, a, by rw [Mu.upd_same, e fs a h1], by rw [Mu.upd_ne h7]; exact h2, h3⟩, h7⟩
end D

set_option Elab.async false
set_option linter.all false
set_option maxRecDepth 100000
set_option maxHeartbeats 4000000
/-! PN: the names that a law makes are unlike. -/
namespace D
open PySem PySem.Spec PyProof.Rows L2 TL
def lt (i : Int) : Nat := LETS.cps.toList.getD i.toNat 97
theorem lt_tab : ((List.range 26).all fun a => (List.range 26).all fun b => (lt a != lt b) || a == b) = true := by decide +kernel
theorem lt_inj {a b : Int} (ha : 0 ≤ a ∧ a < 26) (hb : 0 ≤ b ∧ b < 26) (h : lt a = lt b) : a = b := by
  have h1 := List.all_eq_true.mp (List.all_eq_true.mp lt_tab a.toNat (List.mem_range.mpr (by omega))) b.toNat (List.mem_range.mpr (by omega))
  rw [Int.toNat_of_nonneg ha.1, Int.toNat_of_nonneg hb.1, h] at h1
  simp at h1
  omega
theorem tl_ltr (i : Int) : tl (ltr i) = [lt i] := rfl
def baseW (start : Int) : Str := Txt.join "" ((List.range 8).map fun (j : Nat) => ltr ((start + 5 * (0 + (j : Int))) % 26))
def baseL (start : Int) : List Nat := (List.range 8).map fun (j : Nat) => lt ((start + 5 * (0 + (j : Int))) % 26)
theorem joinL_nil : ∀ l : List (List Nat), joinL [] l = l.flatten
  | [] => rfl
  | [p] => by simp [joinL]
  | p :: q :: r => by simp only [joinL, List.nil_append, joinL_nil (q :: r), List.flatten_cons]
theorem tl_base (start : Int) : tl (baseW start) = baseL start := by
  unfold baseW baseL
  rw [join_eq, tl_join, show tl ("" : Str) = [] by decide, joinL_nil, List.map_map]
  rw [show (tl ∘ fun (j : Nat) => ltr ((start + 5 * (0 + (j : Int))) % 26)) = fun (j : Nat) => [lt ((start + 5 * (0 + (j : Int))) % 26)] from rfl]
  generalize List.range 8 = l
  induction l with
  | nil => rfl
  | cons x l ih => simp only [List.map_cons, List.flatten_cons, ih]; rfl
theorem base_len (start : Int) : (baseL start).length = 8 := by simp [baseL]
theorem base_at {start : Int} {q v : Nat} (h : (baseL start)[q]? = some v) : q < 8 ∧ v = lt ((start + 5 * (q : Int)) % 26) := by
  have hq : q < 8 := by have := (List.getElem?_eq_some_iff.mp h).1; rwa [base_len] at this
  unfold baseL at h
  rw [List.getElem?_map, List.getElem?_range hq] at h
  refine ⟨hq, ?_⟩
  have := Option.some.inj h
  rw [← this]; simp only [Int.zero_add]
theorem base_two {start : Int} {q r v : Nat} (h1 : (baseL start)[q]? = some v) (h2 : (baseL start)[r]? = some v) : q = r := by
  obtain ⟨a1, a2⟩ := base_at h1
  obtain ⟨b1, b2⟩ := base_at h2
  have := lt_inj (by omega) (by omega) (a2.symm.trans b2)
  omega
theorem tl_cut0 (w : Str) {i : Int} (h : 0 ≤ i) : tl (cutS w none (some i)) = (tl w).take i.toNat := by
  unfold cutS HT.sIx
  simp only [show ¬ (i < 0) by omega, if_false]
  rw [tl_mk, show w.cps.toList = tl w from rfl, len_tl, List.drop_zero, Nat.sub_zero]
  by_cases hh : i.toNat ≤ (tl w).length
  · rw [Nat.min_eq_left hh]
  · rw [Nat.min_eq_right (by omega), List.take_length, List.take_of_length_le (by omega)]
theorem tl_cut2 (w : Str) {i j : Int} (h : 0 ≤ i) (hj : i ≤ j) (hl : j.toNat ≤ (tl w).length) : tl (cutS w (some i) (some j)) = ((tl w).drop i.toNat).take (j.toNat - i.toNat) := by
  unfold cutS HT.sIx
  simp only [show ¬ (i < 0) by omega, show ¬ (j < 0) by omega, if_false]
  rw [tl_mk, show w.cps.toList = tl w from rfl, len_tl, Nat.min_eq_left (by omega), Nat.min_eq_left (by omega)]
def nmW (start way size at_ stride : Int) (base : Str) (k : Nat) : Str :=
  if way = 3 then ltr ((start + stride * (0 + (k : Int))) % 26) ++ cutS base none (some ((0 + (k : Int)) * stride % 8))
  else cutS base none (some at_) ++ ltr ((start + stride * (0 + (k : Int))) % 26) ++ cutS base (some (at_ + 1)) (some size)
structure NmP (start size at_ stride : Int) : Prop where
  s0 : 0 ≤ start
  a0 : 0 ≤ at_
  a1 : at_ < size
  z : size ≤ 7
  st : stride = 1 ∨ stride = 3 ∨ stride = 7 ∨ stride = 11 ∨ stride = 17 ∨ stride = 25
section
variable {start way size at_ stride : Int} {i j : Nat}
theorem mark_inj (h : NmP start size at_ stride) (hi : i < 12) (hj : j < 12) (e : lt ((start + stride * (0 + (i : Int))) % 26) = lt ((start + stride * (0 + (j : Int))) % 26)) : i = j := by
  have e2 := lt_inj ⟨Int.emod_nonneg _ (by decide), Int.emod_lt_of_pos _ (by decide)⟩ ⟨Int.emod_nonneg _ (by decide), Int.emod_lt_of_pos _ (by decide)⟩ e
  rcases h.st with rfl | rfl | rfl | rfl | rfl | rfl <;> omega
theorem tl_way3 (h : NmP start size at_ stride) : tl (nmW start 3 size at_ stride (baseW start) i) = lt ((start + stride * (0 + (i : Int))) % 26) :: (baseL start).take ((0 + (i : Int)) * stride % 8).toNat := by
  unfold nmW
  rw [if_pos rfl, tl_append, tl_ltr, tl_cut0 _ (Int.emod_nonneg _ (by decide)), tl_base]
  rfl
theorem tl_else (h : NmP start size at_ stride) (hw : way ≠ 3) : tl (nmW start way size at_ stride (baseW start) i) = (baseL start).take at_.toNat ++ lt ((start + stride * (0 + (i : Int))) % 26) :: ((baseL start).drop (at_.toNat + 1)).take (size.toNat - (at_.toNat + 1)) := by
  have h1 := h.a0
  have h2 := h.a1
  have h3 := h.z
  unfold nmW
  rw [if_neg hw, tl_append, tl_append, tl_ltr, tl_cut0 _ h1, tl_cut2 _ (by omega) (by omega) (by rw [tl_base, base_len]; omega), tl_base, List.append_assoc, show (at_ + 1).toNat = at_.toNat + 1 by omega]
  rfl
theorem else_at (h : NmP start size at_ stride) (hw : way ≠ 3) : (tl (nmW start way size at_ stride (baseW start) i))[at_.toNat]? = some (lt ((start + stride * (0 + (i : Int))) % 26)) := by
  have h1 := h.a0
  have h2 := h.a1
  have h3 := h.z
  rw [tl_else h hw]
  have e : ((baseL start).take at_.toNat).length = at_.toNat := by rw [List.length_take, base_len]; omega
  rw [List.getElem?_append_right (by omega), e, Nat.sub_self]; rfl
theorem else_off (h : NmP start size at_ stride) (hw : way ≠ 3) {q v : Nat} (hq : q ≠ at_.toNat) (e : (tl (nmW start way size at_ stride (baseW start) i))[q]? = some v) : (baseL start)[q]? = some v := by
  have h1 := h.a0
  have h2 := h.a1
  have h3 := h.z
  rw [tl_else h hw] at e
  have el : ((baseL start).take at_.toNat).length = at_.toNat := by rw [List.length_take, base_len]; omega
  by_cases hlt : q < at_.toNat
  · rw [List.getElem?_append_left (by omega), List.getElem?_take, if_pos hlt] at e
    exact e
  · rw [List.getElem?_append_right (by omega), el, show q - at_.toNat = (q - at_.toNat - 1) + 1 by omega, List.getElem?_cons_succ, List.getElem?_take] at e
    split at e
    · rw [List.getElem?_drop, show at_.toNat + 1 + (q - at_.toNat - 1) = q by omega] at e
      exact e
    · cases e
theorem else_same (h : NmP start size at_ stride) (hw : way ≠ 3) {q : Nat} (hq : q ≠ at_.toNat) : (tl (nmW start way size at_ stride (baseW start) i))[q]? = (tl (nmW start way size at_ stride (baseW start) j))[q]? := by
  have h1 := h.a0
  have h2 := h.a1
  have h3 := h.z
  rw [tl_else h hw, tl_else h hw]
  have el : ((baseL start).take at_.toNat).length = at_.toNat := by rw [List.length_take, base_len]; omega
  by_cases hlt : q < at_.toNat
  · rw [List.getElem?_append_left (by omega), List.getElem?_append_left (by omega)]
  · rw [List.getElem?_append_right (by omega), List.getElem?_append_right (by omega), el, show q - at_.toNat = (q - at_.toNat - 1) + 1 by omega, List.getElem?_cons_succ, List.getElem?_cons_succ]
theorem else_len (h : NmP start size at_ stride) (hw : way ≠ 3) : (tl (nmW start way size at_ stride (baseW start) i)).length = (tl (nmW start way size at_ stride (baseW start) j)).length := by
  rw [tl_else h hw, tl_else h hw]; simp
theorem nm_inj (h : NmP start size at_ stride) (hi : i < 12) (hj : j < 12) (e : nmW start way size at_ stride (baseW start) i = nmW start way size at_ stride (baseW start) j) : i = j := by
  by_cases hw : way = 3
  · subst hw
    have e2 := congrArg tl e
    rw [tl_way3 h, tl_way3 h] at e2
    exact mark_inj h hi hj (List.cons.inj e2).1
  · have e2 := congrArg (fun w => (tl w)[at_.toNat]?) e
    rw [else_at h hw, else_at h hw] at e2
    exact mark_inj h hi hj (Option.some.inj e2)
theorem barsFar : (BARS.all fun a => BARS.all fun b => decide (a = b) || (List.range 7).all fun p => !((tl a).length == (tl b).length && ((List.range 8).all fun q => q == p + 1 || (tl a)[q]? == (tl b)[q]?))) = true := by decide +kernel
theorem in_bars {w : Str} (h : inA (.str w) (BARS.map A.str) = true) : w ∈ BARS := by
  unfold inA at h
  rw [List.any_map] at h
  obtain ⟨y, hy, e⟩ := List.any_eq_true.mp h
  have e2 : y = w := by simpa [eqA] using e
  exact e2 ▸ hy
theorem tl_fix {w : Str} : tl ("zz" ++ cutS w none (some 1) ++ "z") = [122, 122] ++ (tl w).take 1 ++ [122] := by
  rw [tl_append, tl_append, tl_cut0 _ (by decide)]
  rw [show tl ("zz" : Str) = [122, 122] by decide, show tl ("z" : Str) = [122] by decide]
  rfl
/-- no name of the law's begins by zz, one letter, z -/
theorem noZ (h : NmP start size at_ stride) {x : Nat} : tl (nmW start way size at_ stride (baseW start) i) ≠ [122, 122, x, 122] := by
  intro e
  by_cases hw : way = 3
  · subst hw
    rw [tl_way3 h] at e
    have e2 := (List.cons.inj e).2
    have f1 : (baseL start)[0]? = some 122 := by
      have := congrArg (fun l => l[0]?) e2
      simp only [List.getElem?_take] at this
      split at this
      · exact this
      · cases this
    have f2 : (baseL start)[2]? = some 122 := by
      have := congrArg (fun l => l[2]?) e2
      simp only [List.getElem?_take] at this
      split at this
      · exact this
      · cases this
    exact absurd (base_two f1 f2) (by decide)
  · have g : ∀ q : Nat, q ≠ at_.toNat → ([122, 122, x, 122] : List Nat)[q]? = some 122 → (baseL start)[q]? = some 122 := fun q hq e2 => else_off (i := i) h hw hq (by rw [e]; exact e2)
    by_cases h0 : at_.toNat = 0
    · exact absurd (base_two (g 1 (by omega) rfl) (g 3 (by omega) rfl)) (by decide)
    · by_cases h1 : at_.toNat = 1
      · exact absurd (base_two (g 0 (by omega) rfl) (g 3 (by omega) rfl)) (by decide)
      · exact absurd (base_two (g 0 (by omega) rfl) (g 1 (by omega) rfl)) (by decide)
theorem take1 {l : List Nat} (h : l ≠ []) : ∃ x, l.take 1 = [x] ∧ l[0]? = some x := by
  cases l with
  | nil => exact absurd rfl h
  | cons x l => exact ⟨x, rfl, rfl⟩
theorem nm_ne (h : NmP start size at_ stride) : tl (nmW start way size at_ stride (baseW start) i) ≠ [] := by
  by_cases hw : way = 3
  · subst hw; rw [tl_way3 h]; simp
  · rw [tl_else h hw]; simp
theorem fix_inj (h : NmP start size at_ stride) (hi : i < 12) (hj : j < 12) (e : fixN (nmW start way size at_ stride (baseW start) i) = fixN (nmW start way size at_ stride (baseW start) j)) : i = j := by
  obtain ⟨x, x1, x2⟩ := take1 (nm_ne (way := way) (i := i) h)
  obtain ⟨y, y1, y2⟩ := take1 (nm_ne (way := way) (i := j) h)
  unfold fixN at e
  split at e
  · rename_i bi
    have e1 := congrArg tl e
    rw [tl_fix, x1] at e1
    split at e
    · rename_i bj
      rw [if_pos bj, tl_fix, y1] at e1
      have exy : x = y := by simpa using e1
      subst exy
      by_cases hw : way = 3
      · subst hw
        rw [tl_way3 h] at x2 y2
        simp only [List.getElem?_cons_zero, Option.some.injEq] at x2 y2
        exact mark_inj h hi hj (x2.trans y2.symm)
      · by_cases h0 : at_.toNat = 0
        · have a1 := else_at (i := i) h hw
          have a2 := else_at (i := j) h hw
          rw [h0] at a1 a2
          exact mark_inj h hi hj (Option.some.inj (a1.symm.trans (x2.trans (y2.symm.trans a2))))
        · have hz := h.z
          have ha1 := h.a1
          have ha0 := h.a0
          have far := List.all_eq_true.mp (List.all_eq_true.mp barsFar _ (in_bars bi)) _ (in_bars bj)
          simp only [Bool.or_eq_true, decide_eq_true_eq] at far
          rcases far with far | far
          · exact nm_inj h hi hj far
          · have f2 := List.all_eq_true.mp far (at_.toNat - 1) (List.mem_range.mpr (by omega))
            rw [else_len (i := i) (j := j) h hw] at f2
            simp only [beq_self_eq_true, Bool.true_and, Bool.not_eq_true'] at f2
            have f3 : ((List.range 8).all fun q => q == at_.toNat - 1 + 1 || (tl (nmW start way size at_ stride (baseW start) i))[q]? == (tl (nmW start way size at_ stride (baseW start) j))[q]?) = true := by
              refine List.all_eq_true.mpr fun q _ => ?_
              by_cases hq : q = at_.toNat
              · have : (q == at_.toNat - 1 + 1) = true := by rw [beq_iff_eq]; omega
                rw [this]; rfl
              · rw [else_same (i := i) (j := j) h hw hq]; simp
            rw [f3] at f2; cases f2
    · rename_i bj
      rw [if_neg bj] at e1
      exact absurd e1.symm (noZ h)
  · rename_i bi
    split at e
    · have e1 := congrArg tl e
      rename_i bj
      rw [tl_fix, y1] at e1
      exact absurd e1 (noZ h)
    · exact nm_inj h hi hj e
theorem names_unlike (h : NmP start size at_ stride) {many : Nat} (hm : many ≤ 12) : (((List.range many).map (nmW start way size at_ stride (baseW start))).map fixN).Nodup := by
  rw [List.map_map]
  exact List.Pairwise.map (R := fun a b => a < many ∧ b < many ∧ a < b) _ (fun a b ⟨ha, hb, hab⟩ e => by
    have := fix_inj (way := way) h (i := a) (j := b) (by omega) (by omega) e
    omega) (List.Pairwise.imp_of_mem (fun ha hb hab => ⟨List.mem_range.mp ha, List.mem_range.mp hb, hab⟩) List.pairwise_lt_range)
end
end D

set_option Elab.async false
set_option linter.all false
set_option maxRecDepth 100000
set_option maxHeartbeats 4000000
/-! PS: programs small enough to be shown; bodies that grow at their end. -/
namespace D
open PySem PySem.Spec PyProof.Rows L2
theorem Lx.del {m l p : Addr} {c : Nat} {rm : Int} {mo : Option (List Str)} {μ : Mu} (h : Lx m l c rm mo μ) (h1 : p ≠ m) (h2 : p ≠ l) {o : MO} : Lx m l c rm mo (μ.upd p o) := by
  obtain ⟨⟨fs, left, a, g1, g2, g3⟩, h7⟩ := h
  exact ⟨⟨fs, left, a, by rw [Mu.upd_ne (Ne.symm h1)]; exact g1, by rw [Mu.upd_ne (Ne.symm h2)]; exact g2, g3⟩, h7⟩
/-- small data to show -/
def ThSm (x : A) : Prop := isShow x = true ∧ shl x ≤ 2000 ∧ ∀ n d : Int, x = .tup [.int n, .int d] → n.natAbs ≤ 10 ^ 20 ∧ d ≤ 9
theorem let_lt {w : Str} (h : letA w = true) : ∀ c ∈ w.cps.toList, c < 16 ^ 8 := fun c hc => by
  have h1 := of_decide_eq_true (List.all_eq_true.mp h c hc)
  have h2 : LETS.cps.toList.all (fun c => decide (c < 16 ^ 8)) = true := by decide
  exact of_decide_eq_true (List.all_eq_true.mp h2 c h1)
theorem shl_let {w : Str} (h : letA w = true) (hl : w.length ≤ 8) : shl (.str w) ≤ 82 := by
  have := StrLaws.reprText_len w (let_lt h)
  simp only [shl]; omega
theorem thSm_str {w : Str} (h : letA w = true) (hl : w.length ≤ 8) : ThSm (.str w) := ⟨rfl, Nat.le_trans (shl_let h hl) (by decide), fun _ _ e => nomatch e⟩
theorem log_small {n : Int} (h : n.natAbs ≤ 10 ^ 20) : n.natAbs.log2 < 1920 := by
  by_cases h0 : n.natAbs = 0
  · rw [h0]; decide
  · have h1 : n.natAbs.log2 < 70 := (Nat.log2_lt h0).mpr (Nat.lt_of_le_of_lt h (by decide))
    omega
theorem shl_int (n : Int) : shl (.int n) ≤ 1922 := by simp only [shl]; split <;> omega
theorem thSm_fr {n d : Int} (h : n.natAbs ≤ 10 ^ 20) (d0 : 1 ≤ d) (hd : d ≤ 9) : ThSm (.tup [.int n, .int d]) := by
  refine ⟨?_, ?_, fun n' d' e => by cases e; exact ⟨h, hd⟩⟩
  · simp only [isShow, isShows, Bool.and_true, Bool.and_eq_true, decide_eq_true_eq]
    exact ⟨log_small h, log_small (Nat.le_trans (show d.natAbs ≤ 9 by omega) (by decide))⟩
  · have h1 := shl_int n
    have h2 : shl (.int d) = 20 := by simp only [shl]; rw [if_pos (Nat.lt_of_le_of_lt (show d.natAbs ≤ 9 by omega) (by decide))]
    simp only [shl, shls] at h1 h2 ⊢
    omega
theorem thSm_int {k : Int} (h : k.natAbs ≤ 9) : ThSm (.int k) := by
  refine ⟨by simp only [isShow, decide_eq_true_eq]; exact log_small (Nat.le_trans h (by decide)), Nat.le_trans (shl_int k) (by decide), fun _ _ e => nomatch e⟩
theorem sm_list : ∀ {l : List A}, (∀ a ∈ l, ThSm a) → isShows l = true ∧ shls l ≤ 2002 * l.length
  | [], _ => ⟨rfl, Nat.le_refl _⟩
  | x :: l, h => by
    obtain ⟨h1, h2⟩ := sm_list fun a ha => h a (List.mem_cons_of_mem _ ha)
    obtain ⟨h3, h4, _⟩ := h x (List.mem_cons_self ..)
    exact ⟨by simp only [isShows, h1, h3, Bool.and_self], by simp only [shls, List.length_cons]; omega⟩
/-- a row's shown length is bounded -/
def RowSm (w : Str) (ts : List A) : Prop := ts.length ≤ 5 ∧ (∀ a ∈ ts, ThSm a) ∧ shl (.str w) ≤ 200
mutual
def It.sm : It → Prop
  | .row x w ts => shl (.str x) ≤ 82 ∧ RowSm w ts
  | .rep n b => 0 ≤ n ∧ n ≤ 5 ∧ smIts b
def smIts : List It → Prop
  | [] => True
  | i :: r => i.sm ∧ smIts r
end
mutual
theorem It.sm_shl : ∀ {i : It}, i.sm → isShow i.a = true ∧ shl i.a + 2 ≤ 12000 * i.size
  | .row x w ts, h => by
    simp only [It.sm] at h
    obtain ⟨h0, h1, h2, h3⟩ := h
    obtain ⟨g1, g2⟩ := sm_list h2
    have e0 : shl (.str "row") ≤ 82 := by decide +kernel
    refine ⟨by simp only [It.a, isShow, isShows, g1, Bool.and_self], ?_⟩
    simp only [It.a, It.size]
    rw [shl, shls, shls, shls, shls, shls, shl.eq_7]
    omega
  | .rep n b, h => by
    simp only [It.sm] at h
    obtain ⟨h0, h1, h2⟩ := h
    obtain ⟨g1, g2⟩ := smIts_shl h2
    have e0 : shl (.str "repeat") ≤ 100 := by decide +kernel
    have e1 := shl_int n
    refine ⟨by simp only [It.a, isShow, isShows, g1, Bool.and_true, Bool.true_and, decide_eq_true_eq]; exact log_small (Nat.le_trans (show n.natAbs ≤ 5 by omega) (by decide)), ?_⟩
    simp only [It.a, It.size]
    rw [shl, shls, shls, shls, shls, shl.eq_7]
    omega
theorem smIts_shl : ∀ {l : List It}, smIts l → isShows (aIts l) = true ∧ shls (aIts l) ≤ 12000 * sizeIts l
  | [], _ => ⟨rfl, Nat.zero_le _⟩
  | i :: r, h => by
    simp only [smIts] at h
    obtain ⟨h1, h2⟩ := It.sm_shl h.1
    obtain ⟨h3, h4⟩ := smIts_shl h.2
    exact ⟨by simp only [aIts, isShows, h1, h3, Bool.and_self], by simp only [aIts, shls, sizeIts]; omega⟩
end
mutual
theorem It.sm_ts : ∀ {i : It}, i.sm → i.tsOk
  | .row x w ts, h => by simp only [It.sm] at h; simp only [It.tsOk]; have := h.2.1; omega
  | .rep n b, h => by simp only [It.sm] at h; simp only [It.tsOk]; exact smIts_ts h.2.2
theorem smIts_ts : ∀ {l : List It}, smIts l → tsIts l
  | [], _ => trivial
  | i :: r, h => by simp only [smIts] at h; simp only [tsIts]; exact ⟨It.sm_ts h.1, smIts_ts h.2⟩
end
/-! ### bodies that grow at their end -/
theorem aIts_snoc (i : It) : ∀ b : List It, aIts (b ++ [i]) = aIts b ++ [i.a]
  | [] => rfl
  | x :: b => by simp only [List.cons_append, aIts, aIts_snoc i b]
theorem told_snoc (i : It) : ∀ (b : List It) (T : List Str), toldIts (b ++ [i]) T = i.told (toldIts b T)
  | [], _ => by simp only [List.nil_append, toldIts]
  | x :: b, T => by simp only [List.cons_append, toldIts, told_snoc i b]
theorem size_snoc (i : It) : ∀ b : List It, sizeIts (b ++ [i]) = sizeIts b + i.size
  | [] => by simp [sizeIts]
  | x :: b => by simp only [List.cons_append, sizeIts, size_snoc i b]; omega
theorem sm_snoc {i : It} (hi : i.sm) : ∀ {b : List It}, smIts b → smIts (b ++ [i])
  | [], _ => by simp only [List.nil_append, smIts]; exact ⟨hi, trivial⟩
  | x :: b, h => by simp only [smIts] at h; simp only [List.cons_append, smIts]; exact ⟨h.1, sm_snoc hi h.2⟩
theorem ok_snoc {Pn : List (Str × Int)} {i : It} : ∀ {b : List It} {d : Nat} {T : List Str}, okIts Pn d T b → i.ok Pn d (toldIts b T) → okIts Pn d T (b ++ [i])
  | [], d, T, _, h => by simp only [List.nil_append, okIts]; exact ⟨by simpa only [toldIts] using h, trivial⟩
  | x :: b, d, T, h, hi => by
    simp only [okIts] at h
    simp only [toldIts] at hi
    simp only [List.cons_append, okIts]
    exact ⟨h.1, ok_snoc h.2 hi⟩
mutual
theorem It.ok_down {Pn : List (Str × Int)} : ∀ {i : It} {d : Nat} {T : List Str}, i.ok Pn (d + 1) T → i.ok Pn d T
  | .row x w ts, d, T, h => by simp only [It.ok] at h ⊢; exact ⟨by omega, h.2⟩
  | .rep n b, d, T, h => by simp only [It.ok] at h ⊢; exact ⟨by omega, h.2.1, h.2.2.1, okIts_down h.2.2.2⟩
theorem okIts_down {Pn : List (Str × Int)} : ∀ {l : List It} {d : Nat} {T : List Str}, okIts Pn (d + 1) T l → okIts Pn d T l
  | [], _, _, _ => trivial
  | i :: r, d, T, h => by simp only [okIts] at h ⊢; exact ⟨It.ok_down h.1, okIts_down h.2⟩
end
/-- the same names, whatever their order -/
def Same (T T0 : List Str) : Prop := ∀ w, w ∈ T ↔ w ∈ T0
theorem Same.refl (T : List Str) : Same T T := fun _ => .rfl
mutual
theorem told_same : ∀ (i : It) {T T0 : List Str}, Same T T0 → Same (i.told T) (i.told T0)
  | .row x w ts, T, T0, h => fun v => by simp only [It.told, mem_insT]; rw [h v]
  | .rep n b, T, T0, h => by simp only [It.told]; exact tolds_same b h
theorem tolds_same : ∀ (l : List It) {T T0 : List Str}, Same T T0 → Same (toldIts l T) (toldIts l T0)
  | [], _, _, h => by simp only [toldIts]; exact h
  | i :: r, _, _, h => by simp only [toldIts]; exact tolds_same r (told_same i h)
end
theorem ThOk.same {T T0 : List Str} {x : A} (h : ThOk T x) (s : Same T T0) : ThOk T0 x := h.up fun y hy => (s y).mp hy
theorem RowOk.same {Pn : List (Str × Int)} {T T0 : List Str} {w : Str} {ts : List A} (h : RowOk Pn T w ts) (s : Same T T0) : RowOk Pn T0 w ts := h.up fun y hy => (s y).mp hy
mutual
theorem It.ok_same {Pn : List (Str × Int)} : ∀ {i : It} {d : Nat} {T T0 : List Str}, i.ok Pn d T → Same T T0 → i.ok Pn d T0
  | .row x w ts, d, T, T0, h, s => by simp only [It.ok] at h ⊢; exact ⟨h.1, h.2.1, h.2.2.same s⟩
  | .rep n b, d, T, T0, h, s => by simp only [It.ok] at h ⊢; exact ⟨h.1, h.2.1, h.2.2.1, okIts_same h.2.2.2 s⟩
theorem okIts_same {Pn : List (Str × Int)} : ∀ {l : List It} {d : Nat} {T T0 : List Str}, okIts Pn d T l → Same T T0 → okIts Pn d T0 l
  | [], _, _, _, _, _ => trivial
  | i :: r, d, T, T0, h, s => by simp only [okIts] at h ⊢; exact ⟨It.ok_same h.1 s, okIts_same h.2 (told_same i s)⟩
end
/-- what a law's row tells -/
def putT (T : List Str) (w : Str) : List Str := T.filter (fun x => decide (x ≠ w)) ++ [w]
theorem putT_same (T : List Str) (w : Str) : Same (putT T w) (insT T w) := fun v => by
  rw [mem_insT]
  simp only [putT, List.mem_append, List.mem_filter, List.mem_singleton, decide_eq_true_eq]
  constructor
  · rintro (⟨h, _⟩ | h)
    · exact .inl h
    · exact .inr h
  · rintro (h | h)
    · by_cases e : v = w
      · exact .inr e
      · exact .inl ⟨h, e⟩
    · exact .inr h
theorem putT_len (T : List Str) (w : Str) : (putT T w).length ≤ T.length + 1 := by
  simp only [putT, List.length_append, List.length_singleton]
  have := List.length_filter_le (fun x => decide (x ≠ w)) T
  omega
theorem putT_ne (T : List Str) (w : Str) : putT T w ≠ [] := by simp [putT]
theorem putT_all {P : Str → Prop} {T : List Str} {w : Str} (h : ∀ x ∈ T, P x) (hw : P w) : ∀ x ∈ putT T w, P x := fun x hx => by
  rcases List.mem_append.mp hx with h1 | h1
  · exact h x (List.mem_filter.mp h1).1
  · rw [List.mem_singleton.mp h1]; exact hw
/-! ### shown -/
theorem shls_nms : ∀ {l : List Str}, (∀ w ∈ l, isNm (.str w) = true) → isShows (l.map A.str) = true ∧ shls (l.map A.str) ≤ 84 * l.length
  | [], _ => ⟨rfl, Nat.le_refl _⟩
  | w :: l, h => by
    obtain ⟨h1, h2⟩ := shls_nms fun a ha => h a (List.mem_cons_of_mem _ ha)
    obtain ⟨g1, g2, _⟩ := isNm_let (h w (List.mem_cons_self ..))
    have g3 := shl_let g1 g2
    exact ⟨by simp only [List.map_cons, isShows, h1]; rfl, by simp only [List.map_cons, shls, List.length_cons]; omega⟩
structure Pt.sm (q : Pt) : Prop where
  nm : isNm (.str q.nm) = true
  ins : ∀ w ∈ q.ins, isNm (.str w) = true
  body : smIts q.body
  give : isNm (.str q.give) = true
theorem Pt.sm_shl {q : Pt} (h : q.sm) : isShow q.a = true ∧ shl q.a + 2 ≤ 12000 * q.size := by
  obtain ⟨a1, a2⟩ := smIts_shl h.body
  obtain ⟨b1, b2⟩ := shls_nms h.ins
  obtain ⟨g1, g2, _⟩ := isNm_let h.nm
  obtain ⟨k1, k2, _⟩ := isNm_let h.give
  have g3 := shl_let g1 g2
  have k3 := shl_let k1 k2
  refine ⟨by simp only [Pt.a, isShow, isShows, a1, b1, Bool.and_self], ?_⟩
  simp only [Pt.a, Pt.size]
  rw [shl, shls, shls, shls, shls, shls, shl.eq_7, shl.eq_7]
  omega
theorem shls_pts : ∀ {l : List Pt}, (∀ q ∈ l, q.sm) → isShows (l.map Pt.a) = true ∧ shls (l.map Pt.a) ≤ 12000 * sizePts l
  | [], _ => ⟨rfl, Nat.zero_le _⟩
  | q :: l, h => by
    obtain ⟨h1, h2⟩ := shls_pts fun a ha => h a (List.mem_cons_of_mem _ ha)
    obtain ⟨g1, g2⟩ := Pt.sm_shl (h q (List.mem_cons_self ..))
    refine ⟨by simp only [List.map_cons, isShows, g1, h1, Bool.and_self], ?_⟩
    simp only [List.map_cons, shls, sizePts, List.map_cons, List.sum_cons] at h2 ⊢
    omega
structure Pg.sm (g : Pg) : Prop where
  parts : ∀ q ∈ g.parts, q.sm
  body : smIts g.body
theorem Pg.show {g : Pg} (ok : g.ok) (h : g.sm) : ShowOk g.a := by
  obtain ⟨a1, a2⟩ := smIts_shl h.body
  obtain ⟨b1, b2⟩ := shls_nms ok.ins
  obtain ⟨c1, c2⟩ := shls_nms (l := g.outs) fun w hw => (ok.outs w hw).1
  obtain ⟨d1, d2⟩ := shls_pts h.parts
  have hz := ok.size
  refine ⟨by simp only [Pg.a, isShow, isShows, a1, b1, c1, d1, Bool.and_self], ?_, ?_⟩
  · have e1 := (datIts ok.body).2
    have e2 : ∀ l : List Str, deeps (l.map A.str) ≤ 0 := fun l => deeps_le fun a ha => by
      obtain ⟨w, _, rfl⟩ := List.mem_map.mp ha
      simp [deep]
    have e3 : ∀ {l : List Pt} {Pn : List (Str × Int)}, okPts Pn l → deeps (l.map Pt.a) ≤ 13 := by
      intro l
      induction l with
      | nil => intro _ _; simp [deeps]
      | cons q l ih =>
        intro Pn h
        simp only [okPts] at h
        have i1 := ih h.2
        have i2 := (datIts h.1.body).2
        have i3 := e2 q.ins
        simp only [List.map_cons, deeps, Pt.a, deep]
        omega
    have f1 := e2 g.ins
    have f2 := e2 g.outs
    have f3 := e3 ok.parts
    simp only [Pg.a, deep, deeps]
    omega
  · simp only [Pg.size] at hz
    simp only [Pg.a]
    rw [shl, shls, shls, shls, shls, shls, shl.eq_7, shl.eq_7, shl.eq_7, shl.eq_7]
    have : sizeLine = 16777216 := rfl
    omega
end D

set_option Elab.async false
set_option linter.all false
set_option maxRecDepth 100000
set_option maxHeartbeats 4000000
/-! PT: programs as lines of words; the words of a line. -/
namespace D
open PySem PySem.Spec PyProof.Rows L2 TL
abbrev ofI (i : Int) : Str := Str.ofString (toString i)
/-- the word of a thing -/
def wordT : A → Str
  | .str w => w
  | .int k => ofI k
  | .tup [.int a, .int b] => if b = 1 then ofI a else ofI a ++ "/" ++ ofI b
  | _ => "0"
mutual
def It.ls : It → List (List Str)
  | .row x w ts => [x :: "=" :: w :: ts.map wordT]
  | .rep n b => [("repeat" : Str), ofI n] :: (lsIts b ++ [[("end" : Str)]])
def lsIts : List It → List (List Str)
  | [] => []
  | i :: r => i.ls ++ lsIts r
end
def Pt.ls (q : Pt) : List (List Str) := (("part" : Str) :: q.nm :: q.ins) :: (lsIts q.body ++ [[("give" : Str), q.give]])
def Pg.ls (g : Pg) : List (List Str) := (g.parts.map Pt.ls).flatten ++ ((("in" : Str) :: g.ins) :: (lsIts g.body ++ [("out" : Str) :: g.outs]))
abbrev lineT (ws : List Str) : Str := Txt.join " " ws
def Pg.text (g : Pg) : Str := Txt.join "\n" (g.ls.map lineT)
/-- a word without blanks, tabs, remarks, ends of lines -/
def clean (w : Str) : Prop := tl w ≠ [] ∧ ∀ c ∈ tl w, c ≠ 9 ∧ c ≠ 10 ∧ c ≠ 32 ∧ c ≠ 35 ∧ c < 200
/-- the words of a line -/
def wordsOf (line : Str) : List Str := (Txt.split (Txt.partition line "#").1 " ").filter fun w : Str => !decide (w = "")
def toks (l : List Nat) : List (List Nat) := (spl [32] 0 [] l).filter fun w => !w.isEmpty
theorem toks_nil : toks [] = [] := by unfold toks; rw [spl_last1 (by simp)]; rfl
theorem toks_sp (l : List Nat) : toks (32 :: l) = toks l := by
  unfold toks
  have : spl [32] 0 [] ([] ++ ([32] ++ l)) = [] :: spl [32] 0 [] l := spl_part1 (by simp)
  rw [show 32 :: l = [] ++ ([32] ++ l) from rfl, this]
  rfl
theorem toks_sps (l : List Nat) : ∀ k : Nat, toks (List.replicate k 32 ++ l) = toks l
  | 0 => rfl
  | k + 1 => by rw [List.replicate_succ, List.cons_append, toks_sp, toks_sps l k]
theorem toks_end {w : List Nat} (h : w ≠ []) (hw : 32 ∉ w) (k : Nat) : toks (w ++ List.replicate k 32) = [w] := by
  cases k with
  | zero =>
    unfold toks
    rw [List.replicate_zero, List.append_nil, spl_last1 hw]
    cases w with
    | nil => exact absurd rfl h
    | cons x w => rfl
  | succ k =>
    have e : toks (w ++ ([32] ++ List.replicate k 32)) = w :: toks (List.replicate k 32) := by
      unfold toks
      rw [spl_part1 hw]
      cases w with
      | nil => exact absurd rfl h
      | cons x w => rfl
    rw [List.replicate_succ]
    refine e.trans ?_
    rw [← List.append_nil (List.replicate k 32), toks_sps, toks_nil]
theorem toks_part {w l : List Nat} (h : w ≠ []) (hw : 32 ∉ w) : toks (w ++ 32 :: l) = w :: toks l := by
  have e : toks (w ++ ([32] ++ l)) = w :: toks l := by
    unfold toks
    rw [spl_part1 hw]
    cases w with
    | nil => exact absurd rfl h
    | cons x w => rfl
  exact e
/-- words with blanks between, ahead and behind -/
theorem toks_join {k : Nat} (j : Nat) : ∀ {ws : List (List Nat)}, ws ≠ [] → (∀ w ∈ ws, w ≠ [] ∧ 32 ∉ w) → toks (joinL (List.replicate (k + 1) 32) ws ++ List.replicate j 32) = ws
  | [], h, _ => absurd rfl h
  | [w], _, h => by
    obtain ⟨h1, h2⟩ := h w (List.mem_singleton.mpr rfl)
    exact toks_end h1 h2 j
  | w :: v :: r, _, h => by
    obtain ⟨h1, h2⟩ := h w (List.mem_cons_self ..)
    have ih := toks_join (k := k) j (ws := v :: r) (by simp) fun x hx => h x (List.mem_cons_of_mem _ hx)
    show toks ((w ++ (List.replicate (k + 1) 32 ++ joinL (List.replicate (k + 1) 32) (v :: r))) ++ List.replicate j 32) = _
    rw [List.append_assoc, List.append_assoc, List.replicate_succ, List.cons_append, toks_part h1 h2, toks_sps, ← List.replicate_succ, ih]
theorem tl_empty {w : Str} : w = "" ↔ tl w = [] := ⟨fun h => by rw [h]; decide, fun h => ext_tl (by rw [h]; decide)⟩
theorem filter_tl : ∀ l : List Str, (l.filter fun w : Str => !decide (w = "")).map tl = (l.map tl).filter fun w => !w.isEmpty
  | [] => rfl
  | x :: l => by
    rw [List.filter_cons, List.map_cons, List.filter_cons, ← filter_tl l]
    by_cases h : x = ""
    · rw [if_neg (by simp [h]), if_neg (by rw [tl_empty.mp h]; simp)]
    · have h2 : tl x ≠ [] := fun z => h (tl_empty.mpr z)
      rw [if_pos (by rw [decide_eq_false h]; rfl), if_pos (by cases e : tl x with | nil => exact absurd e h2 | cons a b => rfl), List.map_cons]
theorem blank : tl (" " : Str) = [32] := by decide
theorem words_toks (l : Str) : ((Txt.split l " ").filter fun w : Str => !decide (w = "")).map tl = toks (tl l) := by
  rw [filter_tl, split_spl l " " (by decide) (kind_ok (by decide +kernel)), blank]
  rfl
/-- the words of what was joined -/
theorem words_join {k a b : Nat} {ws : List Str} {l : Str} (hn : ws ≠ []) (hw : ∀ w ∈ ws, clean w) (hl : tl l = List.replicate a 32 ++ (joinL (List.replicate (k + 1) 32) (ws.map tl) ++ List.replicate b 32)) : ((Txt.split l " ").filter fun w : Str => !decide (w = "")) = ws := by
  refine map_tl_inj ?_
  rw [words_toks, hl, toks_sps]
  refine toks_join b (fun e => hn (List.map_eq_nil_iff.mp e)) fun w h => ?_
  obtain ⟨z, hz, rfl⟩ := List.mem_map.mp h
  obtain ⟨h1, h2⟩ := hw z hz
  exact ⟨h1, fun hc => (h2 32 hc).2.2.1 rfl⟩
theorem mem_join {S : List Nat} {c : Nat} {ws : List Str} (hw : ∀ w ∈ ws, clean w) (hS : ∀ x ∈ S, x = 32) (h : c ∈ joinL S (ws.map tl)) : c ≠ 9 ∧ c ≠ 10 ∧ c ≠ 35 := by
  rcases mem_joinL h with h | ⟨p, hp, h⟩
  · rw [hS c h]; decide
  · obtain ⟨z, hz, rfl⟩ := List.mem_map.mp hp
    obtain ⟨_, h2⟩ := hw z hz
    obtain ⟨a1, a2, _, a4⟩ := h2 c h
    exact ⟨a1, a2, a4.1⟩
/-- a line's words: blanks between, ahead and behind, then a remark or none -/
theorem words_line {k a b : Nat} {ws : List Str} {l : Str} {r : List Nat} (hn : ws ≠ []) (hw : ∀ w ∈ ws, clean w) (hr : r = [] ∨ ∃ r2, r = 35 :: r2)
    (hl : tl l = (List.replicate a 32 ++ (joinL (List.replicate (k + 1) 32) (ws.map tl) ++ List.replicate b 32)) ++ r) : wordsOf l = ws := by
  have no : 35 ∉ List.replicate a 32 ++ (joinL (List.replicate (k + 1) 32) (ws.map tl) ++ List.replicate b 32) := fun h => by
    rcases List.mem_append.mp h with h | h
    · exact absurd (List.eq_of_mem_replicate h) (by decide)
    · rcases List.mem_append.mp h with h | h
      · exact (mem_join hw (fun x hx => List.eq_of_mem_replicate hx) h).2.2 rfl
      · exact absurd (List.eq_of_mem_replicate h) (by decide)
  have e35 : tl ("#" : Str) = 35 :: [] := by decide
  unfold wordsOf
  rw [partition_par l "#" (by decide), e35, hl]
  rcases hr with rfl | ⟨r2, rfl⟩
  · rw [List.append_nil, par_none1 no]
    exact words_join hn hw (by rw [hl, List.append_nil])
  · have e : par (35 :: []) [] ((List.replicate a 32 ++ (joinL (List.replicate (k + 1) 32) (ws.map tl) ++ List.replicate b 32)) ++ (35 :: [] ++ r2)) = _ := par_part1 no
    rw [show ∀ x : List Nat, x ++ 35 :: r2 = x ++ (35 :: [] ++ r2) from fun _ => rfl, e]
    exact words_join (k := k) (a := a) (b := b) hn hw (by rw [List.nil_append])
/-- the plain line -/
theorem words_lineT {ws : List Str} (hn : ws ≠ []) (hw : ∀ w ∈ ws, clean w) : wordsOf (lineT ws) = ws :=
  words_line (k := 0) (a := 0) (b := 0) (r := []) hn hw (.inl rfl) (by unfold lineT; rw [join_eq, tl_join, blank]; simp)
/-- a line of blanks, with a remark or none, says nothing -/
theorem words_void {a : Nat} {l : Str} {r : List Nat} (hr : r = [] ∨ ∃ r2, r = 35 :: r2) (hl : tl l = List.replicate a 32 ++ r) : wordsOf l = [] := by
  have no : 35 ∉ List.replicate a 32 := fun h => absurd (List.eq_of_mem_replicate h) (by decide)
  have e35 : tl ("#" : Str) = 35 :: [] := by decide
  have key : ∀ x : Str, tl x = List.replicate a 32 → ((Txt.split x " ").filter fun w : Str => !decide (w = "")) = [] := fun x hx => by
    have := words_toks x
    rw [hx, ← List.append_nil (List.replicate a 32), toks_sps, toks_nil] at this
    exact List.map_eq_nil_iff.mp this
  unfold wordsOf
  rw [partition_par l "#" (by decide), e35, hl]
  rcases hr with rfl | ⟨r2, rfl⟩
  · rw [List.append_nil, par_none1 no]
    exact key _ (by rw [hl, List.append_nil])
  · have e : par (35 :: []) [] (List.replicate a 32 ++ (35 :: [] ++ r2)) = _ := par_part1 no
    rw [show ∀ x : List Nat, x ++ 35 :: r2 = x ++ (35 :: [] ++ r2) from fun _ => rfl, e]
    exact key _ (by rw [List.nil_append])
end D

set_option Elab.async false
set_option linter.all false
set_option maxRecDepth 100000
set_option maxHeartbeats 4000000
/-! PU: the words of a program are clean; its text, cut into lines. -/
namespace D
open PySem PySem.Spec PyProof.Rows L2 TL
theorem clean_let {w : Str} (h : letA w = true) (h1 : 1 ≤ w.length) : clean w := by
  refine ⟨fun z => by rw [len_tl, z] at h1; simp at h1, fun c hc => ?_⟩
  have h2 := of_decide_eq_true (List.all_eq_true.mp h c hc)
  have h3 : LETS.cps.toList.all (fun c => c != 9 && c != 10 && c != 32 && c != 35 && decide (c < 200)) = true := by decide +kernel
  have h4 := List.all_eq_true.mp h3 c h2
  simp only [Bool.and_eq_true, bne_iff_ne, ne_eq, decide_eq_true_eq] at h4
  exact ⟨h4.1.1.1.1, h4.1.1.1.2, h4.1.1.2, h4.1.2, h4.2⟩
theorem clean_nm {w : Str} (h : isNm (.str w) = true) : clean w := clean_let (isNm_let h).1 (isNm_let h).2.2
theorem clean_app {a b : Str} (ha : clean a) (hb : clean b) : clean (a ++ b) := by
  refine ⟨by rw [tl_append]; exact fun z => ha.1 (List.append_eq_nil_iff.mp z).1, fun c hc => ?_⟩
  rw [tl_append] at hc
  rcases List.mem_append.mp hc with hc | hc
  · exact ha.2 c hc
  · exact hb.2 c hc
theorem clean_numL {n : Nat} : numL n ≠ [] ∧ ∀ c ∈ numL n, c ≠ 9 ∧ c ≠ 10 ∧ c ≠ 32 ∧ c ≠ 35 ∧ c < 200 := by
  refine ⟨fun z => ?_, fun c hc => ⟨fun e => numL_free (Or.inl (by decide)) (e ▸ hc), fun e => numL_free (Or.inl (by decide)) (e ▸ hc), fun e => numL_free (Or.inl (by decide)) (e ▸ hc), fun e => numL_free (Or.inl (by decide)) (e ▸ hc), by have := numL_digits n c hc; omega⟩⟩
  unfold numL at z
  exact Nat.toDigits_ne_nil (List.map_eq_nil_iff.mp z)
theorem clean_int (i : Int) : clean (ofI i) := by
  cases i with
  | ofNat n =>
    have e : tl (ofI (Int.ofNat n)) = numL n := tl_num n
    unfold clean; rw [e]; exact clean_numL
  | negSucc n =>
    have e : tl (ofI (Int.negSucc n)) = 45 :: numL (n + 1) := tl_neg n
    unfold clean; rw [e]
    exact ⟨by simp, fun c hc => by
      rcases List.mem_cons.mp hc with rfl | hc
      · decide
      · exact (clean_numL (n := n + 1)).2 c hc⟩
theorem clean_stroke : clean "/" := by unfold clean; decide
theorem clean_frac (a b : Int) : clean (wordT (.tup [.int a, .int b])) := by
  simp only [wordT]
  split
  · exact clean_int a
  · exact clean_app (clean_app (clean_int a) clean_stroke) (clean_int b)
theorem clean_thing {T : List Str} {x : A} (hT : ∀ w ∈ T, isNm (.str w) = true) (h : ThOk T x) : clean (wordT x) := by
  rcases h with ⟨w, rfl, h1, _⟩ | ⟨n, d, rfl, _⟩
  · exact clean_nm (hT w h1)
  · exact clean_frac n d
abbrev AllNm (T : List Str) : Prop := ∀ w ∈ T, isNm (.str w) = true
theorem insT_nm {T : List Str} {x : Str} (hT : AllNm T) (hx : isNm (.str x) = true) : AllNm (insT T x) := fun w hw => by
  rcases mem_insT.mp hw with h | rfl
  · exact hT w h
  · exact hx
mutual
theorem told_nm {Pn : List (Str × Int)} : ∀ {i : It} {d : Nat} {T : List Str}, i.ok Pn d T → AllNm T → AllNm (i.told T)
  | .row x w ts, d, T, h, hT => by simp only [It.ok] at h; simp only [It.told]; exact insT_nm hT h.2.1
  | .rep n b, d, T, h, hT => by simp only [It.ok] at h; simp only [It.told]; exact tolds_nm h.2.2.2 hT
theorem tolds_nm {Pn : List (Str × Int)} : ∀ {l : List It} {d : Nat} {T : List Str}, okIts Pn d T l → AllNm T → AllNm (toldIts l T)
  | [], _, _, _, hT => by simp only [toldIts]; exact hT
  | i :: r, d, T, h, hT => by simp only [okIts] at h; simp only [toldIts]; exact tolds_nm h.2 (told_nm h.1 hT)
end
theorem clean_taken {w : Str} {i : Int} (h : valI TAKENL w = some i) : clean w := by
  unfold valI at h
  cases e : TAKENL.find? (fun kv => decide (kv.1 = w)) with
  | none => rw [e] at h; cases h
  | some p =>
    have h5 := List.mem_of_find?_eq_some e
    have h7 : p.1 = w := by simpa using List.find?_some e
    have h8 : TAKENL.all (fun p => letA p.1 && decide (1 ≤ p.1.length)) = true := by decide +kernel
    have h9 := List.all_eq_true.mp h8 p h5
    simp only [Bool.and_eq_true, decide_eq_true_eq] at h9
    exact h7 ▸ clean_let h9.1 h9.2
/-- a line of clean words -/
def CleanL (l : List (List Str)) : Prop := ∀ ws ∈ l, ws ≠ [] ∧ ∀ w ∈ ws, clean w
theorem CleanL.app {a b : List (List Str)} (ha : CleanL a) (hb : CleanL b) : CleanL (a ++ b) := fun ws h => by
  rcases List.mem_append.mp h with h | h
  · exact ha ws h
  · exact hb ws h
theorem CleanL.cons {a : List Str} {b : List (List Str)} (h1 : a ≠ []) (h2 : ∀ w ∈ a, clean w) (hb : CleanL b) : CleanL (a :: b) := fun ws h => by
  rcases List.mem_cons.mp h with rfl | h
  · exact ⟨h1, h2⟩
  · exact hb ws h
theorem CleanL.nil : CleanL [] := fun _ h => nomatch h
theorem row_clean {Pn : List (Str × Int)} {T : List Str} {w : Str} {ts : List A} (hT : AllNm T) (hP : ∀ p ∈ Pn, isNm (.str p.1) = true) (h : RowOk Pn T w ts) : clean w ∧ ∀ v ∈ ts.map wordT, clean v := by
  have key : ∀ {l : List A}, (∀ a ∈ l, ThOk T a) → ∀ v ∈ l.map wordT, clean v := fun h v hv => by
    obtain ⟨a, ha, rfl⟩ := List.mem_map.mp hv
    exact clean_thing hT (h a ha)
  rcases h with ⟨rfl, c, r, rfl, h3, h4, h5, h6⟩ | ⟨rfl, a, k, rfl, h3, _⟩ | ⟨h1, h2, h3, h4⟩
  · refine ⟨clean_let (by decide +kernel) (by decide), fun v hv => ?_⟩
    rw [List.map_cons] at hv
    rcases List.mem_cons.mp hv with ev | hv
    · rw [ev]
      show clean c
      unfold valI at h3
      cases e : Pn.find? (fun kv => decide (kv.1 = c)) with
      | none => rw [e] at h3; cases h3
      | some p =>
        have h7 : p.1 = c := by simpa using List.find?_some e
        exact clean_nm (h7 ▸ hP p (List.mem_of_find?_eq_some e))
    · exact key h6 v hv
  · refine ⟨clean_let (by decide +kernel) (by decide), fun v hv => ?_⟩
    simp only [List.map_cons, List.map_nil, List.mem_cons, List.not_mem_nil, or_false] at hv
    rcases hv with rfl | rfl
    · exact clean_thing hT h3
    · exact clean_int k
  · exact ⟨clean_taken h3, key h4⟩
theorem clean_eq : clean "=" := by unfold clean; decide
mutual
theorem It.clean {Pn : List (Str × Int)} (hP : ∀ p ∈ Pn, isNm (.str p.1) = true) : ∀ {i : It} {d : Nat} {T : List Str}, i.ok Pn d T → AllNm T → CleanL i.ls
  | .row x w ts, d, T, h, hT => by
    simp only [It.ok] at h
    simp only [It.ls]
    obtain ⟨h1, h2⟩ := row_clean hT hP h.2.2
    refine .cons (by simp) (fun v hv => ?_) .nil
    rcases List.mem_cons.mp hv with rfl | hv
    · exact clean_nm h.2.1
    · rcases List.mem_cons.mp hv with rfl | hv
      · exact clean_eq
      · rcases List.mem_cons.mp hv with rfl | hv
        · exact h1
        · exact h2 v hv
  | .rep n b, d, T, h, hT => by
    simp only [It.ok] at h
    simp only [It.ls]
    refine .cons (by simp) (fun v hv => ?_) (.app (cleanIts hP h.2.2.2 hT) (.cons (by simp) (fun v hv => ?_) .nil))
    · simp only [List.mem_cons, List.not_mem_nil, or_false] at hv
      rcases hv with rfl | rfl
      · exact clean_let (by decide +kernel) (by decide)
      · exact clean_int n
    · rw [List.mem_singleton.mp hv]; exact clean_let (by decide +kernel) (by decide)
theorem cleanIts {Pn : List (Str × Int)} (hP : ∀ p ∈ Pn, isNm (.str p.1) = true) : ∀ {l : List It} {d : Nat} {T : List Str}, okIts Pn d T l → AllNm T → CleanL (lsIts l)
  | [], _, _, _, _ => by simp only [lsIts]; exact .nil
  | i :: r, d, T, h, hT => by
    simp only [okIts] at h
    simp only [lsIts]
    exact .app (It.clean hP h.1 hT) (cleanIts hP h.2 (told_nm h.1 hT))
end
theorem clean_head {h : Str} {r : List Str} (hh : clean h) (hr : AllNm r) : ∀ w ∈ h :: r, clean w := fun w hw => by
  rcases List.mem_cons.mp hw with rfl | hw
  · exact hh
  · exact clean_nm (hr w hw)
theorem cleanPts : ∀ {l : List Pt} {Pn : List (Str × Int)}, okPts Pn l → (∀ p ∈ Pn, isNm (.str p.1) = true) → CleanL (l.map Pt.ls).flatten ∧ ∀ p ∈ Pn ++ pnPts l, isNm (.str p.1) = true
  | [], Pn, _, hP => ⟨.nil, by simpa using hP⟩
  | q :: l, Pn, h, hP => by
    simp only [okPts] at h
    obtain ⟨h1, h2⟩ := cleanPts h.2 (fun p hp => by
      rcases List.mem_append.mp hp with hp | hp
      · exact hP p hp
      · rw [List.mem_singleton.mp hp]; exact h.1.nm)
    refine ⟨?_, by simpa using h2⟩
    rw [List.map_cons, List.flatten_cons]
    refine .app ?_ h1
    have hg : isNm (.str q.give) = true := tolds_nm h.1.body h.1.ins _ h.1.give
    exact .cons (by simp) (clean_head (clean_let (by decide +kernel) (by decide)) fun w hw => by
      rcases List.mem_cons.mp hw with rfl | hw
      · exact h.1.nm
      · exact h.1.ins w hw) (.app (cleanIts hP h.1.body h.1.ins) (.cons (by simp) (clean_head (clean_let (by decide +kernel) (by decide)) fun w hw => by rw [List.mem_singleton.mp hw]; exact hg) .nil))
/-- every word of a program's lines is clean -/
theorem Pg.clean {g : Pg} (ok : g.ok) : CleanL g.ls := by
  obtain ⟨h1, h2⟩ := cleanPts ok.parts (fun _ h => nomatch h)
  rw [List.nil_append] at h2
  exact .app h1 (.cons (by simp) (clean_head (clean_let (by decide +kernel) (by decide)) ok.ins) (.app (cleanIts h2 ok.body ok.ins) (.cons (by simp) (clean_head (clean_let (by decide +kernel) (by decide)) fun w hw => (ok.outs w hw).1) .nil)))
theorem no10 {ws : List Str} (hw : ∀ w ∈ ws, D.clean w) : 10 ∉ tl (lineT ws) := fun h => by
  unfold lineT at h
  rw [join_eq, tl_join, blank] at h
  exact (mem_join hw (fun x hx => by simpa using hx) h).2.1 rfl
/-- the text of a program, cut into its lines -/
theorem Pg.lines {g : Pg} (ok : g.ok) : Txt.split g.text "\n" = g.ls.map lineT := by
  unfold Pg.text
  refine split_join (s := 10) (S := []) (by decide) (by decide +kernel) (by unfold Pg.ls; simp) fun p hp => ?_
  obtain ⟨ws, hws, rfl⟩ := List.mem_map.mp hp
  exact no10 ((Pg.clean ok) ws hws).2
end D

set_option Elab.async false
set_option linter.all false
set_option maxRecDepth 100000
set_option maxHeartbeats 640000
/-! PV: how long the lines of a program are; str of a text. -/
namespace D
open PySem PySem.Spec PyProof.Rows L2 TL
theorem wC_strS {X : Cx} {μ : Mu} {Q : A → Mu → Prop} {x : Str} (q : Q (.str x) μ) : wC X (.type "str") [.str x] μ Q := wC_of SkE.call_str_str fun M F H vs rl r => by
  obtain ⟨v, rfl, h⟩ := r.one; rw [rep_str] at h; subst h
  exact ⟨x, rfl, .pure rl (rep_str.mpr rfl) q⟩
/-- a thing of a row, small -/
def TSm (x : A) : Prop := (∃ w, x = .str w ∧ letA w = true ∧ w.length ≤ 8) ∨ (∃ n d, x = .tup [.int n, .int d] ∧ Fr n d ∧ n.natAbs ≤ 10 ^ 20 ∧ d ≤ 9) ∨ ∃ k : Int, x = .int k ∧ k.natAbs ≤ 9
theorem tsm_of {T : List Str} {x : A} (h : ThOk T x) (s : ThSm x) : TSm x := by
  rcases h with ⟨w, rfl, _, h2, h3⟩ | ⟨n, d, rfl, h⟩
  · exact .inl ⟨w, rfl, h2, h3⟩
  · obtain ⟨h1, h2⟩ := s.2.2 n d rfl
    exact .inr (.inl ⟨n, d, rfl, h, h1, h2⟩)
theorem row_tsm {Pn : List (Str × Int)} {T : List Str} {w : Str} {ts : List A} (h : RowOk Pn T w ts) (s : RowSm w ts) : (∀ a ∈ ts, TSm a) ∧ ts.length ≤ 5 ∧ w.length ≤ 8 := by
  obtain ⟨s1, s2, s3⟩ := s
  refine ⟨fun a ha => ?_, s1, ?_⟩
  · rcases h with ⟨rfl, c, r, rfl, h3, h4, h5, h6⟩ | ⟨rfl, b, k, rfl, h3, k0, k1⟩ | ⟨h1, h2, h3, h4⟩
    · rcases List.mem_cons.mp ha with rfl | ha2
      · exact .inl ⟨c, rfl, h4, h5⟩
      · exact tsm_of (h6 a ha2) (s2 a ha)
    · simp only [List.mem_cons, List.not_mem_nil, or_false] at ha
      rcases ha with rfl | rfl
      · exact tsm_of h3 (s2 _ (List.mem_cons_self ..))
      · exact .inr (.inr ⟨k, rfl, by omega⟩)
    · exact tsm_of (h4 a ha) (s2 a ha)
  · rcases h with ⟨rfl, _⟩ | ⟨rfl, _⟩ | ⟨h1, h2, h3, h4⟩
    · decide
    · decide
    · unfold valI at h3
      cases e : TAKENL.find? (fun kv => decide (kv.1 = w)) with
      | none => rw [e] at h3; cases h3
      | some p =>
        have h5 := List.mem_of_find?_eq_some e
        have h7 : p.1 = w := by simpa using List.find?_some e
        have h8 : TAKENL.all (fun p => decide (p.1.length ≤ 8)) = true := by decide +kernel
        exact h7 ▸ of_decide_eq_true (List.all_eq_true.mp h8 p h5)
theorem len_ofI {i : Int} (h : i.natAbs ≤ 10 ^ 20) : (ofI i).length ≤ 30 := by
  show (Str.ofString (toString i)).length ≤ 30
  rw [PySem.ofString_length]
  have e := int_text_length_le10 (a := i) (k := 22) (by decide) (Nat.lt_of_le_of_lt h (by decide))
  omega
theorem len_wordT {x : A} (h : TSm x) : (wordT x).length ≤ 640 := by
  rcases h with ⟨w, rfl, _, h⟩ | ⟨n, d, rfl, hf, h1, h2⟩ | ⟨k, rfl, h⟩
  · show w.length ≤ 640; omega
  · have l1 := len_ofI h1
    have l2 := len_ofI (i := d) (Nat.le_trans (show d.natAbs ≤ 9 by have := hf.pos; omega) (by decide))
    simp only [wordT]
    split
    · omega
    · rw [Str.length_append, Str.length_append, show ("/" : Str).length = 1 by decide]; omega
  · have := len_ofI (i := k) (Nat.le_trans h (by decide))
    show (ofI k).length ≤ 640; omega
/-- lines of at most eight words, none too long -/
def LenL (l : List (List Str)) : Prop := ∀ ws ∈ l, ws.length ≤ 8 ∧ ∀ w ∈ ws, w.length ≤ 640
theorem LenL.app {a b : List (List Str)} (ha : LenL a) (hb : LenL b) : LenL (a ++ b) := fun ws h => by
  rcases List.mem_append.mp h with h | h
  · exact ha ws h
  · exact hb ws h
theorem LenL.cons {a : List Str} {b : List (List Str)} (h1 : a.length ≤ 8) (h2 : ∀ w ∈ a, w.length ≤ 640) (hb : LenL b) : LenL (a :: b) := fun ws h => by
  rcases List.mem_cons.mp h with rfl | h
  · exact ⟨h1, h2⟩
  · exact hb ws h
theorem LenL.nil : LenL [] := fun _ h => nomatch h
theorem len_nms {h : Str} {r : List Str} (hh : h.length ≤ 8) (hr : AllNm r) : ∀ w ∈ h :: r, w.length ≤ 640 := fun w hw => by
  rcases List.mem_cons.mp hw with rfl | hw
  · omega
  · have := (isNm_let (hr w hw)).2.1; omega
mutual
theorem It.lens {Pn : List (Str × Int)} : ∀ {i : It} {d : Nat} {T : List Str}, i.ok Pn d T → i.sm → LenL i.ls ∧ i.ls.length ≤ 2 * i.size
  | .row x w ts, d, T, h, s => by
    simp only [It.ok] at h
    simp only [It.sm] at s
    obtain ⟨h1, h2, h3⟩ := row_tsm h.2.2 s.2
    simp only [It.ls, It.size]
    refine ⟨.cons (by simp only [List.length_cons, List.length_map]; omega) (fun v hv => ?_) .nil, by simp⟩
    rcases List.mem_cons.mp hv with rfl | hv
    · have := (isNm_let h.2.1).2.1; omega
    · rcases List.mem_cons.mp hv with rfl | hv
      · decide
      · rcases List.mem_cons.mp hv with rfl | hv
        · omega
        · obtain ⟨a, ha, rfl⟩ := List.mem_map.mp hv
          exact len_wordT (h1 a ha)
  | .rep n b, d, T, h, s => by
    simp only [It.ok] at h
    simp only [It.sm] at s
    obtain ⟨h1, h2⟩ := lensIts h.2.2.2 s.2.2
    simp only [It.ls, It.size]
    refine ⟨.cons (by simp) (fun v hv => ?_) (.app h1 (.cons (by simp) (fun v hv => ?_) .nil)), by simp; omega⟩
    · simp only [List.mem_cons, List.not_mem_nil, or_false] at hv
      rcases hv with rfl | rfl
      · decide
      · have := len_ofI (i := n) (Nat.le_trans (show n.natAbs ≤ 5 by omega) (by decide)); omega
    · rw [List.mem_singleton.mp hv]; decide
theorem lensIts {Pn : List (Str × Int)} : ∀ {l : List It} {d : Nat} {T : List Str}, okIts Pn d T l → smIts l → LenL (lsIts l) ∧ (lsIts l).length ≤ 2 * sizeIts l
  | [], _, _, _, _ => by simp only [lsIts]; exact ⟨.nil, by simp⟩
  | i :: r, d, T, h, s => by
    simp only [okIts] at h
    simp only [smIts] at s
    obtain ⟨h1, h2⟩ := It.lens h.1 s.1
    obtain ⟨h3, h4⟩ := lensIts h.2 s.2
    simp only [lsIts, sizeIts]
    exact ⟨h1.app h3, by rw [List.length_append]; omega⟩
end
theorem lensPts : ∀ {l : List Pt} {Pn : List (Str × Int)}, okPts Pn l → (∀ q ∈ l, q.sm) → LenL (l.map Pt.ls).flatten ∧ (l.map Pt.ls).flatten.length ≤ 2 * sizePts l
  | [], Pn, _, _ => ⟨.nil, Nat.le_refl _⟩
  | q :: l, Pn, h, s => by
    simp only [okPts] at h
    obtain ⟨h1, h2⟩ := lensPts h.2 fun x hx => s x (List.mem_cons_of_mem _ hx)
    obtain ⟨h3, h4⟩ := lensIts h.1.body (s q (List.mem_cons_self ..)).body
    have i4 := h.1.i4
    have es : sizePts (q :: l) = q.size + sizePts l := by simp [sizePts]
    rw [List.map_cons, List.flatten_cons, List.length_append]
    refine ⟨.app (.cons (by simp only [List.length_cons]; omega) (len_nms (by decide) fun w hw => ?_) (.app h3 (.cons (by simp) (len_nms (by decide) fun w hw => ?_) .nil))) h1, ?_⟩
    · rcases List.mem_cons.mp hw with rfl | hw
      · exact h.1.nm
      · exact h.1.ins w hw
    · rw [List.mem_singleton.mp hw]; exact tolds_nm h.1.body h.1.ins _ h.1.give
    · simp only [Pt.ls, List.length_cons, List.length_append, List.length_nil]
      simp only [Pt.size] at es
      omega
theorem Pg.lens {g : Pg} (ok : g.ok) (s : g.sm) : LenL g.ls ∧ g.ls.length ≤ 200 := by
  obtain ⟨h1, h2⟩ := lensPts ok.parts s.parts
  obtain ⟨h3, h4⟩ := lensIts ok.body s.body
  have i6 := ok.i6
  have o4 := ok.o4
  have hz := ok.size
  simp only [Pg.size] at hz
  refine ⟨.app h1 (.cons (by simp only [List.length_cons]; omega) (len_nms (by decide) ok.ins) (.app h3 (.cons (by simp only [List.length_cons]; omega) (len_nms (by decide) fun w hw => (ok.outs w hw).1) .nil))), ?_⟩
  simp only [Pg.ls, List.length_append, List.length_cons, List.length_nil]
  omega
theorem sum_le {l : List Str} {n : Nat} (h : ∀ w ∈ l, w.length ≤ n) : (l.map (·.length)).sum ≤ n * l.length := by
  induction l with
  | nil => simp
  | cons x l ih =>
    have h1 := h x (List.mem_cons_self ..)
    have h2 := ih fun w hw => h w (List.mem_cons_of_mem _ hw)
    simp only [List.map_cons, List.sum_cons, List.length_cons]
    rw [Nat.mul_succ]; omega
/-- enough for a join of words -/
theorem sum_words {ws : List Str} (h1 : ws.length ≤ 8) (h2 : ∀ w ∈ ws, w.length ≤ 640) : (ws.map (·.length)).sum + ws.length * (" " : Str).length ≤ 32008 := by
  have h3 := sum_le h2
  have h4 : 640 * ws.length ≤ 640 * 8 := Nat.mul_le_mul_left _ h1
  rw [show (" " : Str).length = 1 by decide]
  omega
theorem len_line {ws : List Str} (h1 : ws.length ≤ 8) (h2 : ∀ w ∈ ws, w.length ≤ 640) : (lineT ws).length ≤ 32008 := by
  have h3 := sum_words h1 h2
  have e : (lineT ws).length ≤ (ws.map (·.length)).sum + ws.length * (" " : Str).length := by
    unfold lineT
    rw [join_eq, len_tl, tl_join, blank, show (" " : Str).length = 1 by decide]
    clear h1 h2 h3
    induction ws with
    | nil => simp [joinL]
    | cons x r ih =>
      cases r with
      | nil => simp [joinL, len_tl]
      | cons y r =>
        simp only [List.map_cons, joinL, List.length_append, List.length_cons, List.length_nil, List.sum_cons] at ih ⊢
        rw [len_tl x]
        omega
  omega
end D

set_option Elab.async false
set_option linter.all false
set_option maxRecDepth 100000
set_option maxHeartbeats 4000000
/-! PW: what is written of a fraction is read back. -/
namespace D
open PySem PySem.Spec PyProof.Rows L2 TL
theorem lowOne {a b : Int} (h : Fr a b) : low a b = .tup [.int a, .int b] := by
  have := low_of (k := 1) h (by decide)
  simpa using this
/-- a sign of it is no letter -/
theorem not_nm {w : Str} {c : Nat} (hc : c ∈ tl w) (h : c < 97) : isNm (.str w) = false := by
  have e : letA w = false := by
    refine Bool.eq_false_iff.mpr fun z => ?_
    have h2 := of_decide_eq_true (List.all_eq_true.mp z c hc)
    have h3 : LETS.cps.toList.all (fun c => decide (97 ≤ c)) = true := by decide +kernel
    have h4 := of_decide_eq_true (List.all_eq_true.mp h3 c h2)
    omega
  simp only [isNm, e, Bool.and_false]
theorem numL_small {n c : Nat} (h : c ∈ numL n) : c < 97 := by
  rcases Nat.lt_or_ge c 97 with h1 | h1
  · exact h1
  · exact absurd h (numL_free (Or.inr (by omega)))
theorem ofI_low (i : Int) : ∃ c ∈ tl (ofI i), c < 97 := by
  cases i with
  | ofNat n =>
    have e : tl (ofI (Int.ofNat n)) = numL n := tl_num n
    rw [e]
    obtain ⟨c, r, hc⟩ := List.exists_cons_of_ne_nil (clean_numL (n := n)).1
    exact ⟨c, by rw [hc]; exact List.mem_cons_self .., numL_small (by rw [hc]; exact List.mem_cons_self ..)⟩
  | negSucc n =>
    have e : tl (ofI (Int.negSucc n)) = 45 :: numL (n + 1) := tl_neg n
    rw [e]
    exact ⟨45, List.mem_cons_self .., by decide⟩
theorem frac_not_nm (a b : Int) : isNm (.str (wordT (.tup [.int a, .int b]))) = false := by
  obtain ⟨c, h1, h2⟩ := ofI_low a
  simp only [wordT]
  split
  · exact not_nm h1 h2
  · exact not_nm (c := c) (by rw [tl_append, tl_append]; exact List.mem_append_left _ (List.mem_append_left _ h1)) h2
theorem small_lt {n : Int} (h : n.natAbs ≤ 10 ^ 20) : n.natAbs < 2 ^ 1900 := Nat.lt_of_le_of_lt h (by decide +kernel)
theorem numIn_frac {a b : Int} (h : Fr a b) (h1 : a.natAbs ≤ 10 ^ 20) (h2 : b ≤ 9) : numIn (wordT (.tup [.int a, .int b])) = .tup [.int a, .int b] := by
  have hp := h.pos
  simp only [wordT]
  split
  · rename_i e
    subst e
    exact (numIn_one (small_lt h1)).trans (lowOne h)
  · have e : (b.toNat : Int) = b := Int.toNat_of_nonneg (by omega)
    have e2 : ofI b = txtN b.toNat := by unfold txtN ofI; rw [e]
    have h3 : b.toNat < 2 ^ 1900 := Nat.lt_of_le_of_lt (show b.toNat ≤ 9 by omega) (by decide +kernel)
    have h4 := numIn_two (i := a) (d := b.toNat) (small_lt h1) h3 (by omega)
    rw [e] at h4
    rw [e2]
    exact h4.trans (lowOne h)
/-- in other terms -/
theorem numIn_wide {a b k : Int} (h : Fr a b) (h1 : a.natAbs ≤ 10 ^ 20) (h2 : b ≤ 9) (k0 : 1 ≤ k) (k1 : k ≤ 4) : numIn (ofI (a * k) ++ "/" ++ ofI (b * k)) = .tup [.int a, .int b] := by
  have hp := h.pos
  have hbk : 0 < b * k := Int.mul_pos hp (by omega)
  have e : ((b * k).toNat : Int) = b * k := Int.toNat_of_nonneg (by omega)
  have e2 : ofI (b * k) = txtN (b * k).toNat := by unfold txtN ofI; rw [e]
  have h5 : b * k ≤ 9 * 4 := Int.mul_le_mul h2 k1 (by omega) (by decide)
  have h3 : (b * k).toNat < 2 ^ 1900 := Nat.lt_of_le_of_lt (show (b * k).toNat ≤ 36 by omega) (by decide +kernel)
  have h6 : (a * k).natAbs < 2 ^ 1900 := by
    rw [Int.natAbs_mul]
    exact Nat.lt_of_le_of_lt (Nat.mul_le_mul h1 (show k.natAbs ≤ 4 by omega)) (by decide +kernel)
  have h4 := numIn_two (i := a * k) (d := (b * k).toNat) h6 h3 (by omega)
  rw [e] at h4
  rw [e2]
  exact h4.trans (low_of h (by omega))
end D

set_option Elab.async false
set_option linter.all false
set_option maxRecDepth 100000
set_option maxHeartbeats 4000000
/-! PR: a reader's states, line by line. -/
namespace D
open PySem PySem.Spec PyProof.Rows L2 TL
/-- what a word is read as -/
def thIn (w : Str) : A := if isNm (.str w) = true then .str w else numIn w
/-- what is read behind the sign = -/
def Does (w : Str) (r : List Str) (ts : List A) : Prop :=
  (w = "call" ∧ ∃ c r', r = c :: r' ∧ ts = .str c :: r'.map thIn) ∨ (w = "power" ∧ ∃ a b k, r = [a, b] ∧ wholeIn b = some k ∧ ts = [thIn a, .int k]) ∨ (w ≠ "call" ∧ w ≠ "power" ∧ ts = r.map thIn)
/-- lines that tell items -/
inductive Tells : List It → List (List Str) → Prop
  | nil : Tells [] []
  | row {x w r ts b ls} : Does w r ts → Tells b ls → Tells (.row x w ts :: b) ((x :: "=" :: w :: r) :: ls)
  | rep {n s b b2 ls ls2} : wholeIn s = some n → Tells b2 ls2 → Tells b ls → Tells (.rep n b2 :: b) ([("repeat" : Str), s] :: (ls2 ++ [("end" : Str)] :: ls))
/-- a reader's state; the bodies under way, the innermost first -/
structure Src where
  many : Nat
  parts : List Pt
  name : Str
  own : Option (List Str)
  known : List Str
  bodies : List (Int × List It)
  whole : Option Pg
/-- a line leads on -/
inductive Step : Src → List Str → Src → Prop
  | part {S : Src} {nm : Str} {ins : List Str} : S.own = none → S.whole = none → S.parts.length < 6 → isNm (.str nm) = true → valI (pnPts S.parts) nm = none → 1 ≤ ins.length → ins.length ≤ 4 → AllNm ins → ins.Nodup → S.many + 1 + ins.length ≤ 80 →
      Step S ("part" :: nm :: ins) { S with many := S.many + 1 + ins.length, name := nm, own := some ins, known := ins, bodies := [(1, [])] }
  | ins {S : Src} {ins : List Str} : S.own = none → S.whole = none → 1 ≤ ins.length → ins.length ≤ 6 → AllNm ins → ins.Nodup → S.many + ins.length ≤ 80 →
      Step S ("in" :: ins) { S with many := S.many + ins.length, name := "", own := some ins, known := ins, bodies := [(1, [])] }
  | rep {S : Src} {s : Str} {n : Int} : S.own ≠ none → S.whole = none → S.bodies.length ≤ 3 → wholeIn s = some n → 1 ≤ n → n ≤ 200 → S.many + 1 ≤ 80 →
      Step S ["repeat", s] { S with many := S.many + 1, bodies := (n, []) :: S.bodies }
  | fin {S : Src} {n m : Int} {a b : List It} {r : List (Int × List It)} : S.whole = none → S.bodies = (n, a) :: (m, b) :: r →
      Step S ["end"] { S with bodies := (m, b ++ [.rep n a]) :: r }
  | row {S : Src} {x w : Str} {rs : List Str} {ts : List A} {m : Int} {b : List It} {r : List (Int × List It)} : S.own ≠ none → S.whole = none → isNm (.str x) = true → Does w rs ts → RowOk (pnPts S.parts) S.known w ts → S.many + 1 ≤ 80 → S.bodies = (m, b) :: r →
      Step S (x :: "=" :: w :: rs) { S with many := S.many + 1, bodies := (m, b ++ [.row x w ts]) :: r, known := insT S.known x }
  | give {S : Src} {nm g : Str} {ins : List Str} {b : List It} : S.own = some ins → S.whole = none → S.name = nm → nm ≠ "" → S.bodies = [(1, b)] → g ∈ S.known → S.many + 1 ≤ 80 →
      Step S ["give", g] { S with many := S.many + 1, parts := S.parts ++ [⟨nm, ins, b, g⟩], own := none, bodies := [] }
  | out {S : Src} {ins outs : List Str} {b : List It} : S.own = some ins → S.whole = none → S.name = "" → S.bodies = [(1, b)] → 1 ≤ outs.length → outs.length ≤ 4 → (∀ w ∈ outs, isNm (.str w) = true ∧ w ∈ S.known) → S.many + outs.length ≤ 80 →
      Step S ("out" :: outs) { S with many := S.many + outs.length, whole := some ⟨S.parts, ins, b, outs⟩ }
inductive Steps : Src → List (List Str) → Src → Prop
  | nil {S} : Steps S [] S
  | cons {S S1 S2 ws l} : Step S ws S1 → Steps S1 l S2 → Steps S (ws :: l) S2
theorem Steps.app {S S1 S2 : Src} {a b : List (List Str)} (h : Steps S a S1) (k : Steps S1 b S2) : Steps S (a ++ b) S2 := by
  induction h with
  | nil => exact k
  | cons s _ ih => exact .cons s (ih k)
/-- the lines of a body, read -/
theorem steps_its {b : List It} {ls : List (List Str)} (t : Tells b ls) : ∀ {S : Src} {d : Nat} {m : Int} {acc : List It} {r : List (Int × List It)}, S.own ≠ none → S.whole = none → S.bodies = (m, acc) :: r → r.length = d → okIts (pnPts S.parts) d S.known b → S.many + sizeIts b ≤ 80 →
    Steps S ls { S with many := S.many + sizeIts b, bodies := (m, acc ++ b) :: r, known := toldIts b S.known } := by
  induction t with
  | nil =>
    intro S d m acc r ho hw hb hd ok hz
    have e : S = { S with many := S.many + sizeIts [], bodies := (m, acc ++ []) :: r, known := toldIts [] S.known } := by
      obtain ⟨a1, a2, a3, a4, a5, a6, a7⟩ := S
      simp only at hb
      subst hb
      simp [sizeIts, toldIts]
    rw [← e]
    exact .nil
  | @row x w rs ts b ls hdo _ ih =>
    intro S d m acc r ho hw hb hd ok hz
    simp only [okIts, It.ok] at ok
    simp only [sizeIts, It.size] at hz
    have s1 := Step.row (S := S) (x := x) (w := w) (rs := rs) (ts := ts) ho hw ok.1.2.1 hdo ok.1.2.2 (by omega) hb
    have s2 := ih (S := { S with many := S.many + 1, bodies := (m, acc ++ [.row x w ts]) :: r, known := insT S.known x }) (d := d) ho hw rfl hd (by simpa only [It.told] using ok.2) (by show S.many + 1 + _ ≤ 80; omega)
    refine .cons s1 ?_
    simp only [sizeIts, It.size, toldIts, It.told]
    have e1 : S.many + (1 + sizeIts b) = S.many + 1 + sizeIts b := by omega
    rw [e1]
    simpa only [List.append_assoc, List.cons_append, List.nil_append] using s2
  | @rep n s b b2 ls ls2 hs _ _ ih2 ih =>
    intro S d m acc r ho hw hb hd ok hz
    simp only [okIts, It.ok] at ok
    simp only [sizeIts, It.size] at hz
    obtain ⟨⟨o1, o2, o3, o4⟩, o5⟩ := ok
    have s1 := Step.rep (S := S) (s := s) (n := n) ho hw (by rw [hb]; simp only [List.length_cons]; omega) hs o2 o3 (by omega)
    have s2 := ih2 (S := { S with many := S.many + 1, bodies := (n, []) :: S.bodies }) (d := d + 1) (m := n) (acc := []) (r := S.bodies) ho hw rfl (by rw [hb]; simp [hd]) o4 (by show S.many + 1 + _ ≤ 80; omega)
    have s3 := Step.fin (S := { S with many := S.many + 1 + sizeIts b2, bodies := (n, b2) :: S.bodies, known := toldIts b2 S.known }) (n := n) (m := m) (a := b2) (b := acc) (r := r) hw (by rw [hb])
    have s4 := ih (S := { S with many := S.many + 1 + sizeIts b2, bodies := (m, acc ++ [.rep n b2]) :: r, known := toldIts b2 S.known }) (d := d) ho hw rfl hd (by simpa only [It.told] using o5) (by show S.many + 1 + sizeIts b2 + _ ≤ 80; omega)
    refine .cons s1 (.app s2 (.cons (by simpa only [List.nil_append] using s3) ?_))
    simp only [sizeIts, It.size, toldIts, It.told]
    have e1 : S.many + (1 + sizeIts b2 + sizeIts b) = S.many + 1 + sizeIts b2 + sizeIts b := by omega
    rw [e1]
    simpa only [List.append_assoc, List.cons_append, List.nil_append] using s4
theorem thIn_thing {T : List Str} {x : A} (hT : AllNm T) (h : ThOk T x) (hs : ThSm x) : thIn (wordT x) = x := by
  rcases h with ⟨w, rfl, h1, _⟩ | ⟨n, d, rfl, hf⟩
  · unfold thIn
    rw [show wordT (.str w) = w from rfl, if_pos (hT w h1)]
  · obtain ⟨h1, h2⟩ := hs.2.2 n d rfl
    unfold thIn
    rw [frac_not_nm, if_neg (by decide), numIn_frac hf h1 h2]
theorem does_row {Pn : List (Str × Int)} {T : List Str} {w : Str} {ts : List A} (hT : AllNm T) (h : RowOk Pn T w ts) (s : RowSm w ts) : Does w (ts.map wordT) ts := by
  obtain ⟨_, s2, _⟩ := s
  have key : ∀ {l : List A}, (∀ a ∈ l, ThOk T a) → (∀ a ∈ l, ThSm a) → (l.map wordT).map thIn = l := fun h1 h2 => by
    rw [List.map_map]
    exact (List.map_congr_left fun a ha => thIn_thing hT (h1 a ha) (h2 a ha)).trans (List.map_id _)
  rcases h with ⟨rfl, c, r, rfl, h3, h4, h5, h6⟩ | ⟨rfl, a, k, rfl, h3, k0, k1⟩ | ⟨h1, h2, h3, h4⟩
  · refine .inl ⟨rfl, c, r.map wordT, rfl, ?_⟩
    rw [key h6 fun a ha => s2 a (List.mem_cons_of_mem _ ha)]
  · refine .inr (.inl ⟨rfl, wordT a, ofI k, k, rfl, wholeIn_txt (Nat.lt_of_le_of_lt (show k.natAbs ≤ 8 by omega) (by decide +kernel)), ?_⟩)
    rw [thIn_thing hT h3 (s2 a (List.mem_cons_self ..))]
  · exact .inr (.inr ⟨h1, h2, (key h4 s2).symm⟩)
theorem Tells.app {a b : List It} {la lb : List (List Str)} (h : Tells a la) (k : Tells b lb) : Tells (a ++ b) (la ++ lb) := by
  induction h with
  | nil => exact k
  | row hd _ ih => exact .row hd ih
  | @rep n s b1 b2 ls ls2 hs h2 _ _ ih =>
    have := Tells.rep hs h2 ih
    simpa only [List.cons_append, List.append_assoc, List.nil_append] using this
mutual
theorem It.tells {Pn : List (Str × Int)} : ∀ {i : It} {d : Nat} {T : List Str}, i.ok Pn d T → AllNm T → i.sm → Tells [i] i.ls
  | .row x w ts, d, T, h, hT, s => by
    simp only [It.ok] at h
    simp only [It.sm] at s
    simp only [It.ls]
    exact .row (does_row hT h.2.2 s.2) .nil
  | .rep n b, d, T, h, hT, s => by
    simp only [It.ok] at h
    simp only [It.sm] at s
    simp only [It.ls]
    exact .rep (wholeIn_txt (Nat.lt_of_le_of_lt (show n.natAbs ≤ 5 by omega) (by decide +kernel))) (tellsIts h.2.2.2 hT s.2.2) .nil
theorem tellsIts {Pn : List (Str × Int)} : ∀ {l : List It} {d : Nat} {T : List Str}, okIts Pn d T l → AllNm T → smIts l → Tells l (lsIts l)
  | [], _, _, _, _, _ => by simp only [lsIts]; exact .nil
  | i :: r, d, T, h, hT, s => by
    simp only [okIts] at h
    simp only [smIts] at s
    simp only [lsIts]
    exact Tells.app (a := [i]) (It.tells h.1 hT s.1) (tellsIts h.2 (told_nm h.1 hT) s.2)
end
/-- lines that tell parts -/
inductive TellsP : List Pt → List (List Str) → Prop
  | nil : TellsP [] []
  | cons {q lb l ls} : Tells q.body lb → TellsP l ls → TellsP (q :: l) ((("part" : Str) :: q.nm :: q.ins) :: (lb ++ [("give" : Str), q.give] :: ls))
theorem steps_pts {l : List Pt} {ls : List (List Str)} (t : TellsP l ls) : ∀ {S : Src}, S.own = none → S.whole = none → okPts (pnPts S.parts) l → S.parts.length + l.length ≤ 6 → S.many + sizePts l ≤ 80 →
    ∃ S', Steps S ls S' ∧ S'.own = none ∧ S'.whole = none ∧ S'.parts = S.parts ++ l ∧ S'.many = S.many + sizePts l := by
  induction t with
  | nil => exact fun ho hw _ _ _ => ⟨_, .nil, ho, hw, by simp, by simp [sizePts]⟩
  | @cons q lb l ls tb _ ih =>
    intro S ho hw ok hl hz
    simp only [okPts] at ok
    obtain ⟨oq, ol⟩ := ok
    have es : sizePts (q :: l) = q.size + sizePts l := by simp [sizePts]
    have eq : q.size = 2 + q.ins.length + sizeIts q.body := rfl
    simp only [List.length_cons] at hl
    have s1 := Step.part (S := S) (nm := q.nm) (ins := q.ins) ho hw (by omega) oq.nm oq.new oq.i1 oq.i4 oq.ins oq.unl (by omega)
    have s2 := steps_its tb (S := { S with many := S.many + 1 + q.ins.length, name := q.nm, own := some q.ins, known := q.ins, bodies := [(1, [])] }) (d := 0) (m := 1) (acc := []) (r := []) (fun z => nomatch z) hw rfl rfl oq.body (by show S.many + 1 + q.ins.length + _ ≤ 80; omega)
    have ne : q.nm ≠ "" := fun z => by
      have := (isNm_let oq.nm).2.2
      rw [z] at this
      exact absurd this (by decide)
    have s3 := Step.give (S := { S with many := S.many + 1 + q.ins.length + sizeIts q.body, name := q.nm, own := some q.ins, known := toldIts q.body q.ins, bodies := [(1, q.body)] }) (nm := q.nm) (g := q.give) (ins := q.ins) (b := q.body) rfl hw rfl ne rfl oq.give (by show S.many + 1 + q.ins.length + sizeIts q.body + 1 ≤ 80; omega)
    obtain ⟨S', h1, h2, h3, h4, h5⟩ := ih (S := { S with many := S.many + 1 + q.ins.length + sizeIts q.body + 1, parts := S.parts ++ [⟨q.nm, q.ins, q.body, q.give⟩], name := q.nm, own := none, known := toldIts q.body q.ins, bodies := [] }) rfl hw (by simpa using ol) (by show (S.parts ++ [_]).length + _ ≤ 6; rw [List.length_append]; simp only [List.length_cons, List.length_nil]; omega) (by show S.many + 1 + q.ins.length + sizeIts q.body + 1 + _ ≤ 80; omega)
    refine ⟨S', .cons s1 (.app (by simpa only [List.nil_append] using s2) (.cons s3 h1)), h2, h3, ?_, ?_⟩
    · rw [h4]; simp
    · rw [h5]; show S.many + 1 + q.ins.length + sizeIts q.body + 1 + _ = _; omega
/-- before the first line -/
def S0 : Src := ⟨0, [], "", none, [], [], none⟩
/-- the lines of a program, read -/
theorem steps_prog {g : Pg} {lp lb : List (List Str)} (ok : g.ok) (tp : TellsP g.parts lp) (tb : Tells g.body lb) : ∃ S', Steps S0 (lp ++ (("in" : Str) :: g.ins) :: (lb ++ [("out" : Str) :: g.outs])) S' ∧ S'.whole = some g := by
  have hz := ok.size
  simp only [Pg.size] at hz
  obtain ⟨S, h1, h2, h3, h4, h5⟩ := steps_pts tp (S := S0) rfl rfl ok.parts (by have := ok.p6; show 0 + _ ≤ 6; omega) (by show 0 + _ ≤ 80; omega)
  have h4 : S.parts = g.parts := h4
  have h5 : S.many = sizePts g.parts := by rw [h5]; show 0 + _ = _; omega
  have s1 := Step.ins (S := S) (ins := g.ins) h2 h3 ok.i1 ok.i6 ok.ins ok.unl (by omega)
  have s2 := steps_its tb (S := { S with many := S.many + g.ins.length, name := "", own := some g.ins, known := g.ins, bodies := [(1, [])] }) (d := 0) (m := 1) (acc := []) (r := []) (fun z => nomatch z) h3 rfl rfl (by show okIts (pnPts S.parts) 0 g.ins g.body; rw [h4]; exact ok.body) (by show S.many + g.ins.length + _ ≤ 80; omega)
  have s3 := Step.out (S := { S with many := S.many + g.ins.length + sizeIts g.body, name := "", own := some g.ins, known := toldIts g.body g.ins, bodies := [(1, g.body)] }) (ins := g.ins) (outs := g.outs) (b := g.body) rfl h3 rfl rfl ok.o1 ok.o4 ok.outs (by show S.many + g.ins.length + sizeIts g.body + _ ≤ 80; omega)
  refine ⟨_, .app h1 (.cons s1 (.app (by simpa only [List.nil_append] using s2) (.cons s3 .nil))), ?_⟩
  show some (⟨S.parts, g.ins, g.body, g.outs⟩ : Pg) = some g
  rw [h4]
/-- a program's own lines tell it -/
theorem tellsPts : ∀ {l : List Pt} {Pn : List (Str × Int)}, okPts Pn l → (∀ q ∈ l, q.sm) → TellsP l (l.map Pt.ls).flatten
  | [], _, _, _ => .nil
  | q :: l, Pn, h, s => by
    simp only [okPts] at h
    have t := TellsP.cons (tellsIts h.1.body h.1.ins (s q (List.mem_cons_self ..)).body) (tellsPts h.2 fun x hx => s x (List.mem_cons_of_mem _ hx))
    rw [List.map_cons, List.flatten_cons]
    simpa only [Pt.ls, List.cons_append, List.append_assoc, List.nil_append] using t
end D

set_option Elab.async false
set_option linter.all false
set_option maxRecDepth 100000
set_option maxHeartbeats 4000000
/-! DN: None in a list of data. -/
namespace D
open PySem PySem.Spec PyProof.Rows L2
def isNoneV : Value → Bool
  | .none => true
  | _ => false
/-- None, a number, a text, a truth or a tuple -/
def okN (K : PySem.W.Frag) (H : Hp) : V → Prop
  | .non => True
  | .int _ => True
  | .str _ => True
  | .bl _ => True
  | .ref a => ∃ items, SqT K H a items
  | _ => False
def isNonV : V → Bool
  | .non => true
  | _ => false
theorem any_none : ∀ {xs : List V} {us : List Value} {K : PySem.W.Frag} {H : Hp}, Vals xs us → (∀ v ∈ xs, okN K H v) → us.any isNoneV = xs.any isNonV
  | _, _, _, _, .nil, _ => rfl
  | x :: xs, u :: us, K, H, .cons r t, h => by
    rw [List.any_cons, List.any_cons, any_none t fun v hv => h v (List.mem_cons_of_mem _ hv)]
    have h0 := h x (List.mem_cons_self ..)
    congr 1
    cases x with
    | non => cases r; rfl
    | int i => obtain ⟨t, rfl⟩ := r; rfl
    | str i => obtain ⟨t, rfl⟩ := r; rfl
    | bl b => cases r; rfl
    | ref a => cases r; rfl
    | _ => exact h0.elim
theorem mem_none {X : Cx} {pins : List (Addr × Obj)} {σ : L2.St} {H : Hp} {s : Shared} (I : Inv X pins σ H s) {A : Around} (hu : A.units < cLine) : ∀ {xs : List V} {us : List Value}, Vals xs us → (∀ v ∈ xs, okN X.K H v) → ∀ u ∈ us, SeqAt.EqAt A s u .none (isNoneV u)
  | _, _, .nil, _ => fun u hu => by cases hu
  | x :: xs, u :: us, .cons r t, h => fun u' hu' => by
    rcases List.mem_cons.mp hu' with rfl | hu'
    · have h0 := h x (List.mem_cons_self ..)
      cases x with
      | non => cases r; exact SeqAt.EqAt.same _
      | int i => obtain ⟨t, rfl⟩ := r; exact SeqAt.EqAt.int_none _ _
      | str i => obtain ⟨t, rfl⟩ := r; exact SeqAt.EqAt.str_none _ _
      | bl b => cases r; exact SeqAt.EqAt.bool_none _
      | ref a =>
        cases r
        obtain ⟨items, hq⟩ := h0
        obtain ⟨its, _, pl, _⟩ := I.tuple hq
        exact SeqAt.EqAt.tuple_none pl hu
      | _ => exact h0.elim
    · exact mem_none I hu t (fun v hv => h v (List.mem_cons_of_mem _ hv)) u' hu'
theorem op_noneIn {X : Cx} (hu : X.A.in1.units < cLine) : OpR X (compareOp .In) (fun x y H Q => ∃ p xs, x = .non ∧ y = .ref p ∧ SqL X.K H p xs ∧ (∀ v ∈ xs, okN X.K H v) ∧ Q (.bl (xs.any isNonV)) H) := by
  intro pins s σ H x y v u Q I rx ry h
  obtain ⟨p, xs, rfl, rfl, hq, fs, q⟩ := h
  cases rx
  cases ry
  obtain ⟨its, r, pl, hz⟩ := I.list hq
  refine SeqAt.in_listAt isNoneV pl.isList (fun w hw => mem_none I hu r fs w (by simpa using hw)) ⟨.bl _, H, I, rfl, ?_⟩
  rw [show its.toArray.any isNoneV = its.any isNoneV by simp, any_none r fs]
  exact q
/-- plain data that a reader gives: None, a number, a text, a tuple -/
def okA : A → Bool
  | .non => true
  | .int _ => true
  | .str _ => true
  | .bl _ => true
  | .tup _ => true
  | _ => false
theorem okA_rep {K : PySem.W.Frag} {M F H : Hp} {μ : Mu} (rl : Rel K μ M F H) : ∀ {xs : List A} {vs : List V}, RepL K F xs vs → xs.all okA = true → (∀ v ∈ vs, okN K H v) ∧ vs.any isNonV = xs.any isNon
  | [], _, h, _ => by simp only [RepL] at h; subst h; exact ⟨(fun _ z => nomatch z), rfl⟩
  | x :: xs, _, h, f => by
    simp only [RepL] at h
    obtain ⟨v, r, rfl, h1, h2⟩ := h
    rw [List.all_cons, Bool.and_eq_true] at f
    obtain ⟨g1, g2⟩ := okA_rep rl h2 f.2
    have key : okN K H v ∧ isNonV v = isNon x := by
      cases x with
      | non => rw [rep_non] at h1; subst h1; exact ⟨trivial, rfl⟩
      | int i => rw [rep_int] at h1; subst h1; exact ⟨trivial, rfl⟩
      | str i => rw [rep_str] at h1; subst h1; exact ⟨trivial, rfl⟩
      | bl i => rw [rep_bl] at h1; subst h1; exact ⟨trivial, rfl⟩
      | tup ys => rw [rep_tup] at h1; obtain ⟨a, ws, rfl, k1, k2⟩ := h1; exact ⟨⟨ws, rl.sub.t k1⟩, rfl⟩
      | ty _ => simp [okA] at f
      | loc _ => simp [okA] at f
      | lst _ => simp [okA] at f
      | fls _ => simp [okA] at f
    refine ⟨fun w hw => ?_, by rw [List.any_cons, List.any_cons, key.2, g2]⟩
    rcases List.mem_cons.mp hw with rfl | hw
    · exact key.1
    · exact g1 w hw
theorem wO_noneIn {X : Cx} {μ : Mu} {Q : A → Mu → Prop} {y : A} {xs : List A} (hu : X.A.in1.units < cLine) (hy : IsL μ y xs) (hs : xs.all okA = true) (q : Q (.bl (xs.any isNon)) μ) : wO X (compareOp .In) .non y μ Q :=
  wO_of (op_noneIn hu) fun M F H v w rl r1 r2 => by
    obtain ⟨p, vs, e, h1, h2⟩ := hy.rep rl r2
    obtain ⟨g1, g2⟩ := okA_rep rl h2 hs
    exact ⟨p, vs, rep_non.mp r1, e, .inl (.inl h1), g1, .pure rl (rep_bl.mpr (by rw [g2])) q⟩
theorem in1_lt {X : Cx} {k : Nat} (ar : Ar X k) : X.A.in1.units < cLine := by
  have h := ar.u64
  have e : X.A.in1.units = X.A.units + 1 := rfl
  omega
/-- D[k] of a dict of the module -/
theorem wI_kd {X : Cx} {μ : Mu} {Q : A → Mu → Prop} {p : Addr} {kvs : List (Str × Int)} {z : Str} {i : Int} (Dk : KDi X.K X.w p kvs) (h : valI kvs z = some i) (q : Q (.int i) μ) : wI X (.loc p) (.str z) μ Q := fun M F H v w rl r1 r2 => rd_ixr ix_kdict (by
  rw [rep_loc] at r1; rw [rep_str] at r2
  subst r1 r2
  obtain ⟨es, n, k1, k2, k3, k4⟩ := Dk.ex
  rcases ent_find z k4 with ⟨h1, h2⟩ | ⟨d, j, t, h1, h2, h3⟩
  · rw [h1] at h; cases h
  · rw [h1] at h; cases h
    refine ⟨p, z, .int i, rfl, rfl, ⟨es, n, d.val, k1, k2, ?_, ?_⟩, .pure rl (rep_int.mpr rfl) q⟩
    · unfold PySem.W.nsIn
      rw [k1]
      simp only [PySem.W.isStr_of]
      rw [h2]
    · rw [h3]; exact ⟨_, rfl⟩)
end D

set_option Elab.async false
set_option linter.all false
set_option maxRecDepth 100000
set_option maxHeartbeats 4000000
/-! DO: how many unlike texts a list holds. -/
namespace D
open PySem PySem.Spec PyProof.Rows L2
section
variable {P : Program} {w : World} {B : Around} {E : Value → Shared → Prop} {s : Shared}
set_option maxHeartbeats 8000000 in
theorem set_of_list {l : Addr} {its : Array Value} {xs : List Str} {Q : Value → Shared → Prop} (hh : B.handled = none) (hl : s.heap.IsList l its) (hx : PyProof.Rows.StrsAre its.toList xs) (hb : xs.length + 1 < scanBound)
    (q : ∀ (h' : Heap) (tk : Nat), HasT P w h' s.heap.objs.size xs → (∀ b o, b < s.heap.objs.size → s.heap.get? b = some o → h'.get? b = some o) → Q (.ref s.heap.objs.size) { s with heap := h', toks := tk }) : wpAny (model P w) B (call (.type "set") [.ref l]) Q E s := by
  obtain ⟨mc, mt, hmro⟩ := PySem.F.called_set.mro
  have g1 := PySem.F.called_set.made; have g2 := PySem.F.called_set.sub; have g3 := PySem.F.called_set.notType; have g4 := PySem.F.called_set.canCreate; have g5 := PySem.F.typeCall_set_1 (.ref l)
  refine (wpAny_call (codeAny_of_tree (show wpAny _ _ (callAny (.type "set") _) _ _ _ from wpAny_pure ⟨Code.quiet_builtin _ (by decide +kernel), codeAny_builtin PySem.F.entry_type_call ?_⟩)))
  rw [Around.under_plain (weight_type_call_type "set" [.ref l] []) rfl]
  repeat (any_goals (first | wp_step | assumption))
  refine codeAny_mono (code_set_new_1 (.ref l) (E := E) (Q₁ := fun ob s1 => ∃ led : Bool, ob = .ref s.heap.objs.size ∧ s1 = { s with heap := s.heap.push (fresh0 led) }) fun led => ⟨led, rfl, rfl⟩) fun r s1 hr => ?_
  match r, hr with
  | .error e, hr => exact hr
  | .ok .next, hr => exact hr.elim
  | .ok .brk, hr => exact hr.elim
  | .ok .cont, hr => exact hr.elim
  | .ok (.ret ob), hr =>
    obtain ⟨led, rfl, rfl⟩ := hr
    have hS : (s.heap.push (fresh0 led)).get? s.heap.objs.size = some (fresh0 led) := Heap.get?_push_size _ rfl
    have hT : Shared.TypeIs { s with heap := s.heap.push (fresh0 led) } (.ref s.heap.objs.size) "set" := ⟨_, hS, rfl⟩
    have k1 := PySem.F.called_set.init.lookup; have k2 := PySem.F.called_set.init.bind (.ref s.heap.objs.size)
    repeat (any_goals (first | wp_step | assumption))
    refine codeAny_mono (codeAny_call_builtin (R := wants (fun r s2 => r = .none ∧ ∃ h' tk, s2 = { s with heap := h', toks := tk } ∧ HasT P w h' s.heap.objs.size xs ∧ (∀ b o, b < s.heap.objs.size → s.heap.get? b = some o → h'.get? b = some o)) E) PySem.F.called_set.init.plain PySem.F.entry_set_init (check_set_init_1 hT ?_)) fun r2 s2 hr2 => ?_
    · obtain ⟨⟨_, od, _, osl⟩, hol, rfl, nl, rfl⟩ := hl
      have hol2 : (s.heap.push (fresh0 led)).get? l = some { cls := .type "list", dict := od, data := .seq its nl, slots := osl } := Heap.get?_push_of_some _ hol
      have n1 := PySem.F.sub_list_set; have n2 := PySem.F.sub_list_frozenset; have n3 : (Value.type "list" == Value.type "dict") = false := by decide
      have isT : (s.heap.push (fresh0 led)).IsList l its := ⟨_, hol2, rfl, nl, rfl⟩
      unfold Builtin.«set.__init__» noKeywords Builtin.Frozenset.updateFrom
      generalize hpi : pyIter = PI
      wp_walk
      subst hpi
      refine wpAny_pyIter_list isT (wpAny_bind (wpAny_runValue ?_))
      have lS : l < s.heap.objs.size := Heap.lt_size hol
      have hsz : its.size = xs.length := by rw [← StrsAre.len_eq hx, Array.length_toList]
      have neI : l ≠ (s.heap.push (fresh0 led)).objs.size := by rw [Heap.size_push]; exact Nat.ne_of_lt (Nat.lt_succ_of_lt lS)
      have off : s.heap.objs.size ∉ [(s.heap.push (fresh0 led)).objs.size, l] := by rw [Heap.size_push]; simp only [List.mem_cons, List.not_mem_nil, or_false, not_or]; exact ⟨Nat.ne_of_lt (Nat.lt_succ_self _), Nat.ne_of_gt lS⟩
      refine set_turns ((Walks.list (by simp [hh]) _ l neI its).toS) s.heap.objs.size off xs hsz.symm (by omega) (fun i v hv => SS.strs_at hx i v (by rw [Array.getElem?_toList]; exact hv)) its.size 0 _ (by omega) ⟨⟨_, Heap.get?_push_size _ rfl, rfl, rfl⟩, isT.push _⟩ ?_ fun s3 mv hS3 => ?_
      · have hg : ((s.heap.push (fresh0 led)).push { cls := .type "list_iterator", data := .fields #[.ref l, .int 0 0] }).get? s.heap.objs.size = some (fresh0 led) := Heap.get?_push_of_some _ hS
        exact PyProof.Rows.SetOf_congr ((PyProof.Rows.setObjOf_fresh (knd := PySem.strKind P w) led).setOf hg (by unfold scanBound; omega)) (fun _ => by simp) rfl
      · obtain ⟨h3, gn3, dr3, tk3, os3⟩ := s3
        obtain rfl : gn3 = s.gens := mv.gens
        obtain rfl : dr3 = s.drawn := mv.drawn
        obtain rfl : os3 = s.os := mv.os
        refine (show wpAny _ _ _ _ _ _ from wpAny_pure (show wpAny _ _ (ret Value.none) _ _ _ from wpAny_pure ⟨rfl, h3, tk3, rfl, hS3, fun b o lb e => ?_⟩))
        refine mv.heap b o ?_ (Heap.get?_push_of_some _ (Heap.get?_push_of_some _ e))
        rw [Heap.size_push]; simp only [List.mem_cons, List.not_mem_nil, or_false, not_or]; exact ⟨Nat.ne_of_lt lb, Nat.ne_of_lt (Nat.lt_succ_of_lt lb)⟩
    · match r2, hr2 with
      | .error e, hr2 => exact hr2
      | .ok .next, hr2 => exact hr2.elim
      | .ok .brk, hr2 => exact hr2.elim
      | .ok .cont, hr2 => exact hr2.elim
      | .ok (.ret _), hr2 =>
        obtain ⟨rfl, h', tk, rfl, hS', hk⟩ := hr2
        repeat (any_goals (first | wp_step | assumption))
        exact q _ _ hS' hk
end
section
variable {B : Bs} {X : Cx} {Γ : G} {μ : Mu} {Q : A → Mu → Prop} {e : Expr} {p p2 q0 pos : Pos}
/-- len(set(names)), a list of texts -/
theorem wE_lenSetL (hm : X.mg "len" = none) (hm2 : X.mg "set" = none) (h : wE B X e Γ μ fun x μ1 => ∃ xs : List Str, x = .lst (xs.map A.str) ∧ xs.length ≤ 1000 ∧ Q (.int (unl xs).length) μ1) (hg : Gl X "len" := by rfl) (hg2 : Gl X "set" := by rfl) (hc : X.calm = true := by rfl)
    (na : starEach [e] X.env = (false, eval e X.env) :: starEach [] X.env := by rfl) : wE B X (.Call (.Name "len" p) [.Call (.Name "set" p2) [e] [] q0] [] pos) Γ μ Q := by
  intro σ M F H bo rs rl
  refine ⟨fun pins s I => ?_⟩
  refine Call_ (ld_blt I hg hm boot_len (PyProof.Rows.callWith_builtin1 (PyProof.Rows.args_cons ?_ rfl) rfl rfl))
  refine Call_ (ld_blt I hg2 hm2 boot_set (PyProof.Rows.callWith_type1 (PyProof.Rows.args_cons (thn ((h σ M F H bo rs rl).o pins s I) fun v s1 got => PyProof.Rows.args_nil ?_) na) na rfl))
  obtain ⟨u, H1, I1, ru, x, F1, μ1, ex, r1, p1, xs, rfl, hx, q1⟩ := got
  rw [rep_lst] at p1
  obtain ⟨a, vs, rfl, h1, h2⟩ := p1
  rw [repL_strs h2] at h1
  cases ru
  obtain ⟨its, rv, pl, hz⟩ := I1.list (.inl (.inl (r1.sub _ _ h1)))
  refine set_of_list (I1.ok.hd hc) pl.isList (by simpa using L2.strsAre_of rv) (by unfold scanBound; omega) fun h' tk hS hk => PyProof.Rows.args_nil ?_
  obtain ⟨o, es, ep, t, ho, hex, hd, _, _, _, hf, hn⟩ := hS
  have I2 : Inv X pins σ H1 { s1 with heap := h', toks := tk } := I1.kept fun b o e => hk b o (Heap.lt_size e) e
  have hu := unl_le _ xs rfl
  exact call_len_set ho hex hd hf (by rw [hn]; omega) ⟨.int (unl xs).length, H1, I2.tok _, ⟨_, by rw [hn]⟩, _, F1, μ1, ex, r1, rep_int.mpr rfl, q1⟩
end
end D

set_option Elab.async false
set_option linter.all false
set_option maxRecDepth 100000
set_option maxHeartbeats 4000000
/-! DP: a text so many times. -/
namespace D
open PySem PySem.Spec PyProof.Rows L2
theorem op_mulS {X : Cx} : OpR X (binaryOp .Mult) (fun x y H Q => ∃ i n, x = .str i ∧ y = .int n ∧ PySem.MulOk i n ∧ Q (.str (Txt.mul i n)) H) := by
  intro pins s σ H x y v u Q I rx ry h
  obtain ⟨i, n, rfl, rfl, hz, q⟩ := h
  obtain ⟨t, rfl⟩ := rx
  obtain ⟨t', rfl⟩ := ry
  exact PySem.SB.mul hz (fun t' tk => ⟨.str (Txt.mul i n), H, I.tok _, ⟨_, rfl⟩, q⟩)
theorem wO_mulS {X : Cx} {μ : Mu} {Q : A → Mu → Prop} {x : Str} {n : Int} (hz : PySem.MulOk x n) (q : Q (.str (Txt.mul x n)) μ) : wO X (binaryOp .Mult) (.str x) (.int n) μ Q :=
  wO_of op_mulS fun M F H v w rl r1 r2 => ⟨x, n, rep_str.mp r1, rep_int.mp r2, hz, .pure rl (rep_str.mpr rfl) q⟩
end D

set_option Elab.async false
set_option linter.all false
set_option maxRecDepth 100000
set_option maxHeartbeats 4000000
/-! PX: a reader (class Source) as cells. -/
namespace D
open PySem PySem.Spec PyProof.Rows L2 TL
/-- the cells of a reader: its dict, parts, counts, known names, bodies, and each body's list, the innermost first -/
structure SC where
  dx : Addr
  pp : Addr
  pc : Addr
  pk : Addr
  pb : Addr
  bs : List Addr
def ownA : Option (List Str) → A
  | none => .non
  | some ws => .tup (ws.map A.str)
def whlA : Option Pg → A
  | none => .non
  | some g => g.a
abbrev SF (L : Int) (S : Src) (c : SC) : List (Str × A) := [("line", .int L), ("many", .int S.many), ("parts", .loc c.pp), ("counts", .loc c.pc), ("name", .str S.name), ("own_ins", ownA S.own), ("known", .loc c.pk), ("bodies", .loc c.pb), ("whole", whlA S.whole)]
/-- the bodies' list, the outermost first -/
def bodA : List (Int × List It) → List Addr → List A
  | (n, _) :: r, b :: bs => bodA r bs ++ [.tup [.int n, .loc b]]
  | _, _ => []
/-- each body's own list -/
def BdAt (μ : Mu) : List (Int × List It) → List Addr → Prop
  | (_, l) :: r, b :: bs => μ b = some (.lst (aIts l)) ∧ BdAt μ r bs
  | [], [] => True
  | _, _ => False
theorem bodA_len {μ : Mu} : ∀ {B : List (Int × List It)} {bs : List Addr}, BdAt μ B bs → (bodA B bs).length = B.length ∧ bs.length = B.length
  | (n, l) :: r, b :: bs, h => by obtain ⟨h1, h2⟩ := bodA_len h.2; exact ⟨by simp [bodA, h1], by simp [h2]⟩
  | [], [], _ => ⟨rfl, rfl⟩
  | [], _ :: _, h => h.elim
  | _ :: _, [], h => by exact h.elim
theorem BdAt.at_ {μ : Mu} : ∀ {B : List (Int × List It)} {bs : List Addr}, BdAt μ B bs → ∀ b ∈ bs, ∃ l, μ b = some (.lst (aIts l))
  | (n, l) :: r, b :: bs, h, x, hx => by
    rcases List.mem_cons.mp hx with rfl | hx
    · exact ⟨l, h.1⟩
    · exact h.2.at_ x hx
  | [], [], _, x, hx => by cases hx
  | [], _ :: _, h, _, _ => h.elim
  | _ :: _, [], h, _, _ => by exact h.elim
theorem BdAt.mono {μ μ' : Mu} : ∀ {B : List (Int × List It)} {bs : List Addr}, BdAt μ B bs → (∀ b ∈ bs, μ' b = μ b) → BdAt μ' B bs
  | (n, l) :: r, b :: bs, h, e => ⟨by rw [e b (List.mem_cons_self ..)]; exact h.1, h.2.mono fun x hx => e x (List.mem_cons_of_mem _ hx)⟩
  | [], [], _, _ => trivial
  | [], _ :: _, h, _ => h
  | _ :: _, [], h, _ => h
/-- a reader that stands in state S at line L; all its cells are newer than μ0 -/
structure SrcAt (CS : Addr) (μ0 : Mu) (p : Addr) (L : Int) (S : Src) (c : SC) (μ : Mu) : Prop where
  sub : Sub μ0 μ
  new : ∀ a ∈ p :: c.pp :: c.pc :: c.pk :: c.pb :: c.bs, μ0 a = none
  ob : μ p = some (.ins CS c.dx (SF L S c))
  pa : μ c.pp = some (.lst (S.parts.map Pt.a))
  co : μ c.pc = some (.dic (Pk (pnPts S.parts)))
  kn : μ c.pk = some (.dic (Tk S.known))
  bo : μ c.pb = some (.lst (bodA S.bodies c.bs))
  it : BdAt μ S.bodies c.bs
  un : (c.pp :: c.pb :: c.bs).Nodup
  ck : c.pc ≠ c.pk
theorem Sub.put {μ0 μ : Mu} {a : Addr} {m : MO} (h : Sub μ0 μ) (n : μ0 a = Option.none) : Sub μ0 (μ.upd a m) := fun q o e => by
  rw [Mu.upd_ne (fun z => by rw [z, n] at e; cases e)]; exact h q o e
section
variable {CS p : Addr} {μ0 μ : Mu} {L : Int} {S : Src} {c : SC}
/-- a field -/
theorem SrcAt.f {f : Str} {y : A} {Q : A → Prop} (h : SrcAt CS μ0 p L S c μ) (e : (SF L S c).lookup f = some y) (q : Q y) : ∃ p' dx fs y', A.loc p = .loc p' ∧ μ p' = some (.ins CS dx fs) ∧ fs.lookup f = some y' ∧ Q y' := ⟨p, c.dx, _, y, rfl, h.ob, e, q⟩
/-- a method's owner -/
theorem SrcAt.o {m : Str} {R : Addr → Prop} (h : SrcAt CS μ0 p L S c μ) (e : (SF L S c).lookup m = none) (q : R p) : ∃ p' dx fs, A.loc p = .loc p' ∧ μ p' = some (.ins CS dx fs) ∧ fs.lookup m = none ∧ R p' := ⟨p, c.dx, _, rfl, h.ob, e, q⟩
/-- a field stored -/
theorem SrcAt.s {f : Str} {y : A} {R : Mu → Prop} (h : SrcAt CS μ0 p L S c μ) (q : R (μ.upd p (.ins CS c.dx (putL f y (SF L S c))))) : ∃ p' dx fs, A.loc p = .loc p' ∧ μ p' = some (.ins CS dx fs) ∧ fs.length < 1000 ∧ R (μ.upd p' (.ins CS dx (putL f y fs))) := ⟨p, c.dx, _, rfl, h.ob, by show 9 < 1000; decide, q⟩
theorem SrcAt.ne (h : SrcAt CS μ0 p L S c μ) : p ≠ c.pp ∧ p ≠ c.pc ∧ p ≠ c.pk ∧ p ≠ c.pb ∧ p ∉ c.bs := by
  have h1 := h.ob
  refine ⟨fun e => ?_, fun e => ?_, fun e => ?_, fun e => ?_, fun e => ?_⟩
  · rw [e, h.pa] at h1; cases h1
  · rw [e, h.co] at h1; cases h1
  · rw [e, h.kn] at h1; cases h1
  · rw [e, h.bo] at h1; cases h1
  · obtain ⟨l, h2⟩ := h.it.at_ p e
    rw [h2] at h1; cases h1
/-- the object alone is put otherwise -/
theorem SrcAt.put {L' : Int} {S' : Src} (h : SrcAt CS μ0 p L S c μ) (e1 : S'.parts = S.parts) (e2 : S'.known = S.known) (e3 : S'.bodies = S.bodies) : SrcAt CS μ0 p L' S' c (μ.upd p (.ins CS c.dx (SF L' S' c))) := by
  obtain ⟨n1, n2, n3, n4, n5⟩ := h.ne
  refine ⟨h.sub.put (h.new p (List.mem_cons_self ..)), h.new, Mu.upd_same, ?_, ?_, ?_, ?_, ?_, h.un, h.ck⟩
  · rw [Mu.upd_ne (Ne.symm n1), e1]; exact h.pa
  · rw [Mu.upd_ne (Ne.symm n2), e1]; exact h.co
  · rw [Mu.upd_ne (Ne.symm n3), e2]; exact h.kn
  · rw [Mu.upd_ne (Ne.symm n4), e3]; exact h.bo
  · rw [e3]; exact h.it.mono fun b hb => Mu.upd_ne fun z => n5 (z ▸ hb)
theorem SrcAt.old (h : SrcAt CS μ0 p L S c μ) {a : Addr} (n : μ a = none) : μ0 a = none ∧ a ≠ p ∧ a ≠ c.pp ∧ a ≠ c.pc ∧ a ≠ c.pk ∧ a ≠ c.pb ∧ a ∉ c.bs := by
  refine ⟨h.sub.none n, fun e => ?_, fun e => ?_, fun e => ?_, fun e => ?_, fun e => ?_, fun e => ?_⟩
  · rw [e, h.ob] at n; cases n
  · rw [e, h.pa] at n; cases n
  · rw [e, h.co] at n; cases n
  · rw [e, h.kn] at n; cases n
  · rw [e, h.bo] at n; cases n
  · obtain ⟨l, h2⟩ := h.it.at_ a e
    rw [h2] at n; cases n
/-- something new beside it -/
theorem SrcAt.grow {a : Addr} {m : MO} (h : SrcAt CS μ0 p L S c μ) (n : μ a = none) : SrcAt CS μ0 p L S c (μ.upd a m) := by
  obtain ⟨n0, n1, n2, n3, n4, n5, n6⟩ := h.old n
  refine ⟨h.sub.put n0, h.new, ?_, ?_, ?_, ?_, ?_, ?_, h.un, h.ck⟩
  · rw [Mu.upd_ne (Ne.symm n1)]; exact h.ob
  · rw [Mu.upd_ne (Ne.symm n2)]; exact h.pa
  · rw [Mu.upd_ne (Ne.symm n3)]; exact h.co
  · rw [Mu.upd_ne (Ne.symm n4)]; exact h.kn
  · rw [Mu.upd_ne (Ne.symm n5)]; exact h.bo
  · exact h.it.mono fun b hb => Mu.upd_ne fun z => n6 (z ▸ hb)
/-- a new dict of known names -/
theorem SrcAt.known {k : Addr} {T : List Str} (h : SrcAt CS μ0 p L S c μ) (n : μ k = none) : SrcAt CS μ0 p L { S with known := T } { c with pk := k } ((μ.upd k (.dic (Tk T))).upd p (.ins CS c.dx (SF L { S with known := T } { c with pk := k }))) := by
  obtain ⟨n0, n1, n2, n3, n4, n5, n6⟩ := h.old n
  obtain ⟨m1, m2, m3, m4, m5⟩ := h.ne
  refine ⟨(h.sub.put n0).put (h.new p (List.mem_cons_self ..)), fun a ha => ?_, Mu.upd_same, ?_, ?_, ?_, ?_, ?_, h.un, Ne.symm n3⟩
  · simp only [List.mem_cons] at ha
    rcases ha with rfl | rfl | rfl | rfl | rfl | ha
    · exact h.new _ (by simp)
    · exact h.new _ (by simp)
    · exact h.new _ (by simp)
    · exact n0
    · exact h.new _ (by simp)
    · exact h.new _ (by simp [ha])
  · rw [Mu.upd_ne (Ne.symm m1), Mu.upd_ne (Ne.symm n2)]; exact h.pa
  · rw [Mu.upd_ne (Ne.symm m2), Mu.upd_ne (Ne.symm n3)]; exact h.co
  · rw [Mu.upd_ne n1, Mu.upd_same]
  · rw [Mu.upd_ne (Ne.symm m4), Mu.upd_ne (Ne.symm n5)]; exact h.bo
  · exact h.it.mono fun b hb => (Mu.upd_ne (fun z : b = _ => by rw [z] at hb; exact m5 hb)).trans (Mu.upd_ne fun z : b = _ => by rw [z] at hb; exact n6 hb)
/-- new bodies: one, empty -/
theorem SrcAt.first {b l : Addr} (h : SrcAt CS μ0 p L S c μ) (n : μ b = none) (n2 : (μ.upd b (.lst [])) l = none) :
    SrcAt CS μ0 p L { S with bodies := [(1, [])] } { c with pb := l, bs := [b] } (((μ.upd b (.lst [])).upd l (.lst [.tup [.int 1, .loc b]])).upd p (.ins CS c.dx (SF L { S with bodies := [(1, [])] } { c with pb := l, bs := [b] }))) := by
  have hlb : l ≠ b := fun e => by rw [e, Mu.upd_same] at n2; cases n2
  have nl : μ l = none := by rw [Mu.upd_ne hlb] at n2; exact n2
  obtain ⟨b0, b1, b2, b3, b4, b5, b6⟩ := h.old n
  obtain ⟨l0, l1, l2, l3, l4, l5, l6⟩ := h.old nl
  obtain ⟨m1, m2, m3, m4, m5⟩ := h.ne
  refine ⟨((h.sub.put b0).put l0).put (h.new p (List.mem_cons_self ..)), fun a ha => ?_, Mu.upd_same, ?_, ?_, ?_, ?_, ⟨?_, trivial⟩, ?_, h.ck⟩
  · simp only [List.mem_cons, List.not_mem_nil, or_false] at ha
    rcases ha with rfl | rfl | rfl | rfl | rfl | rfl
    · exact h.new _ (by simp)
    · exact h.new _ (by simp)
    · exact h.new _ (by simp)
    · exact h.new _ (by simp)
    · exact l0
    · exact b0
  · rw [Mu.upd_ne (Ne.symm m1), Mu.upd_ne (Ne.symm l2), Mu.upd_ne (Ne.symm b2)]; exact h.pa
  · rw [Mu.upd_ne (Ne.symm m2), Mu.upd_ne (Ne.symm l3), Mu.upd_ne (Ne.symm b3)]; exact h.co
  · rw [Mu.upd_ne (Ne.symm m3), Mu.upd_ne (Ne.symm l4), Mu.upd_ne (Ne.symm b4)]; exact h.kn
  · rw [Mu.upd_ne l1, Mu.upd_same]; rfl
  · rw [Mu.upd_ne b1, Mu.upd_ne (Ne.symm hlb), Mu.upd_same]; rfl
  · simp only [List.nodup_cons, List.mem_cons, List.not_mem_nil, or_false, not_or, not_false_eq_true, List.nodup_nil, and_true]
    exact ⟨⟨Ne.symm l2, Ne.symm b2⟩, hlb⟩
/-- a body within -/
theorem SrcAt.inner {b : Addr} {k : Int} (h : SrcAt CS μ0 p L S c μ) (n : μ b = none) :
    SrcAt CS μ0 p L { S with bodies := (k, []) :: S.bodies } { c with bs := b :: c.bs } ((μ.upd b (.lst [])).upd c.pb (.lst (bodA S.bodies c.bs ++ [.tup [.int k, .loc b]]))) := by
  obtain ⟨b0, b1, b2, b3, b4, b5, b6⟩ := h.old n
  obtain ⟨m1, m2, m3, m4, m5⟩ := h.ne
  have hu := h.un
  simp only [List.nodup_cons, List.mem_cons, not_or] at hu
  obtain ⟨⟨u1, u2⟩, u3, u4⟩ := hu
  have kb : c.pb ≠ c.pc := fun e => by have := h.bo; rw [e, h.co] at this; cases this
  have kk : c.pb ≠ c.pk := fun e => by have := h.bo; rw [e, h.kn] at this; cases this
  refine ⟨(h.sub.put b0).put (h.new c.pb (by simp)), fun a ha => ?_, ?_, ?_, ?_, ?_, ?_, ⟨?_, ?_⟩, ?_, h.ck⟩
  · simp only [List.mem_cons] at ha
    rcases ha with rfl | rfl | rfl | rfl | rfl | rfl | ha
    · exact h.new _ (by simp)
    · exact h.new _ (by simp)
    · exact h.new _ (by simp)
    · exact h.new _ (by simp)
    · exact h.new _ (by simp)
    · exact b0
    · exact h.new _ (by simp [ha])
  · rw [Mu.upd_ne m4, Mu.upd_ne (Ne.symm b1)]; exact h.ob
  · rw [Mu.upd_ne u1, Mu.upd_ne (Ne.symm b2)]; exact h.pa
  · rw [Mu.upd_ne (Ne.symm kb), Mu.upd_ne (Ne.symm b3)]; exact h.co
  · rw [Mu.upd_ne (Ne.symm kk), Mu.upd_ne (Ne.symm b4)]; exact h.kn
  · rw [Mu.upd_same]; rfl
  · rw [Mu.upd_ne b5, Mu.upd_same]; rfl
  · exact h.it.mono fun x hx => (Mu.upd_ne (fun z : x = _ => by rw [z] at hx; exact u3 hx)).trans (Mu.upd_ne fun z : x = _ => by rw [z] at hx; exact b6 hx)
  · simp only [List.nodup_cons, List.mem_cons, not_or]
    exact ⟨⟨u1, Ne.symm b2, u2⟩, ⟨Ne.symm b5, u3⟩, b6, u4⟩
/-- an item more in the innermost body -/
theorem SrcAt.push {b : Addr} {bs : List Addr} {m : Int} {l : List It} {r : List (Int × List It)} {i : It} (h : SrcAt CS μ0 p L S c μ) (eb : c.bs = b :: bs) (eS : S.bodies = (m, l) :: r) :
    SrcAt CS μ0 p L { S with bodies := (m, l ++ [i]) :: r } c (μ.upd b (.lst (aIts l ++ [i.a]))) := by
  obtain ⟨m1, m2, m3, m4, m5⟩ := h.ne
  have hu := h.un
  have hit := h.it
  have hbo := h.bo
  rw [eb] at hu m5
  rw [eb, eS] at hit hbo
  simp only [List.nodup_cons, List.mem_cons, not_or] at hu m5
  obtain ⟨⟨u1, u2, u5⟩, ⟨u3, u6⟩, u4, u7⟩ := hu
  have kb : b ≠ c.pc := fun e => by have := hit.1; rw [e, h.co] at this; cases this
  have kk : b ≠ c.pk := fun e => by have := hit.1; rw [e, h.kn] at this; cases this
  have ea : ∀ l : List It, aIts (l ++ [i]) = aIts l ++ [i.a] := fun l => by
    induction l with
    | nil => rfl
    | cons x l ih => simp only [List.cons_append, aIts, ih]
  refine ⟨h.sub.put (h.new b (by rw [eb]; simp)), h.new, ?_, ?_, ?_, ?_, ?_, ?_, h.un, h.ck⟩
  · rw [Mu.upd_ne m5.1]; exact h.ob
  · rw [Mu.upd_ne u2]; exact h.pa
  · rw [Mu.upd_ne (Ne.symm kb)]; exact h.co
  · rw [Mu.upd_ne (Ne.symm kk)]; exact h.kn
  · rw [Mu.upd_ne u3, eb]; exact hbo
  · rw [eb]
    exact ⟨by rw [Mu.upd_same, ea], hit.2.mono fun x hx => Mu.upd_ne fun z => u4 (z ▸ hx)⟩
/-- the innermost body is taken away -/
theorem SrcAt.popB {b : Addr} {bs : List Addr} {m : Int} {l : List It} {r : List (Int × List It)} (h : SrcAt CS μ0 p L S c μ) (eb : c.bs = b :: bs) (eS : S.bodies = (m, l) :: r) :
    SrcAt CS μ0 p L { S with bodies := r } { c with bs := bs } (μ.upd c.pb (.lst (bodA r bs))) := by
  obtain ⟨m1, m2, m3, m4, m5⟩ := h.ne
  have hu := h.un
  have hit := h.it
  have hnew := h.new
  rw [eb] at hu m5 hnew
  rw [eb, eS] at hit
  simp only [List.nodup_cons, List.mem_cons, not_or] at hu m5
  obtain ⟨⟨u1, u2, u5⟩, ⟨u3, u6⟩, u4, u7⟩ := hu
  have kb : c.pb ≠ c.pc := fun e => by have := h.bo; rw [e, h.co] at this; cases this
  have kk : c.pb ≠ c.pk := fun e => by have := h.bo; rw [e, h.kn] at this; cases this
  refine ⟨h.sub.put (h.new c.pb (by simp)), fun a ha => hnew a ?_, ?_, ?_, ?_, ?_, ?_, ?_, ?_, h.ck⟩
  · simp only [List.mem_cons] at ha ⊢
    rcases ha with h | h | h | h | h | h <;> simp [h]
  · rw [Mu.upd_ne m4]; exact h.ob
  · rw [Mu.upd_ne u1]; exact h.pa
  · rw [Mu.upd_ne (Ne.symm kb)]; exact h.co
  · rw [Mu.upd_ne (Ne.symm kk)]; exact h.kn
  · rw [Mu.upd_same]
  · exact hit.2.mono fun x hx => Mu.upd_ne fun z => u6 (z ▸ hx)
  · simp only [List.nodup_cons, List.mem_cons, not_or]
    exact ⟨⟨u1, u5⟩, u6, u7⟩
/-- a name told -/
theorem SrcAt.tell {w : Str} (h : SrcAt CS μ0 p L S c μ) : SrcAt CS μ0 p L { S with known := insT S.known w } c (μ.upd c.pk (.dic (Tk (insT S.known w)))) := by
  obtain ⟨m1, m2, m3, m4, m5⟩ := h.ne
  have kp : c.pk ≠ c.pp := fun e => by have := h.kn; rw [e, h.pa] at this; cases this
  have kb : c.pk ≠ c.pb := fun e => by have := h.kn; rw [e, h.bo] at this; cases this
  have kbs : c.pk ∉ c.bs := fun e => by
    obtain ⟨l, h2⟩ := h.it.at_ _ e
    have := h.kn; rw [h2] at this; cases this
  refine ⟨h.sub.put (h.new c.pk (by simp)), h.new, ?_, ?_, ?_, ?_, ?_, ?_, h.un, h.ck⟩
  · rw [Mu.upd_ne m3]; exact h.ob
  · rw [Mu.upd_ne (Ne.symm kp)]; exact h.pa
  · rw [Mu.upd_ne h.ck]; exact h.co
  · rw [Mu.upd_same]
  · rw [Mu.upd_ne (Ne.symm kb)]; exact h.bo
  · exact h.it.mono fun b hb => Mu.upd_ne fun z => kbs (z ▸ hb)
/-- a part more: its tuple, then how many ins it has -/
theorem SrcAt.part {q : Pt} (h : SrcAt CS μ0 p L S c μ) : SrcAt CS μ0 p L { S with parts := S.parts ++ [q] } c ((μ.upd c.pp (.lst (S.parts.map Pt.a ++ [q.a]))).upd c.pc (.dic (Pk (pnPts S.parts ++ [(q.nm, (q.ins.length : Int))])))) := by
  obtain ⟨m1, m2, m3, m4, m5⟩ := h.ne
  have hu := h.un
  simp only [List.nodup_cons, List.mem_cons, not_or] at hu
  obtain ⟨⟨u1, u2⟩, u3, u4⟩ := hu
  have k1 : c.pp ≠ c.pc := fun e => by have := h.pa; rw [e, h.co] at this; cases this
  have k2 : c.pp ≠ c.pk := fun e => by have := h.pa; rw [e, h.kn] at this; cases this
  have k3 : c.pc ≠ c.pb := fun e => by have := h.co; rw [e, h.bo] at this; cases this
  have k4 : c.pc ∉ c.bs := fun e => by
    obtain ⟨l, h2⟩ := h.it.at_ _ e
    have := h.co; rw [h2] at this; cases this
  refine ⟨(h.sub.put (h.new c.pp (by simp))).put (h.new c.pc (by simp)), h.new, ?_, ?_, ?_, ?_, ?_, ?_, h.un, h.ck⟩
  · rw [Mu.upd_ne m2, Mu.upd_ne m1]; exact h.ob
  · rw [Mu.upd_ne k1, Mu.upd_same]; simp
  · rw [Mu.upd_same]; simp [pnPts]
  · rw [Mu.upd_ne (Ne.symm h.ck), Mu.upd_ne (Ne.symm k2)]; exact h.kn
  · rw [Mu.upd_ne (Ne.symm k3), Mu.upd_ne (Ne.symm u1)]; exact h.bo
  · exact h.it.mono fun b hb => (Mu.upd_ne (fun z : b = _ => by rw [z] at hb; exact k4 hb)).trans (Mu.upd_ne fun z : b = _ => by rw [z] at hb; exact u2 hb)
/-- no bodies any more -/
theorem SrcAt.empty {l : Addr} (h : SrcAt CS μ0 p L S c μ) (n : μ l = none) : SrcAt CS μ0 p L { S with bodies := [] } { c with pb := l, bs := [] } ((μ.upd l (.lst [])).upd p (.ins CS c.dx (SF L { S with bodies := [] } { c with pb := l, bs := [] }))) := by
  obtain ⟨l0, l1, l2, l3, l4, l5, l6⟩ := h.old n
  obtain ⟨m1, m2, m3, m4, m5⟩ := h.ne
  refine ⟨(h.sub.put l0).put (h.new p (List.mem_cons_self ..)), fun a ha => ?_, Mu.upd_same, ?_, ?_, ?_, ?_, trivial, ?_, h.ck⟩
  · simp only [List.mem_cons, List.not_mem_nil, or_false] at ha
    rcases ha with rfl | rfl | rfl | rfl | rfl
    · exact h.new _ (by simp)
    · exact h.new _ (by simp)
    · exact h.new _ (by simp)
    · exact h.new _ (by simp)
    · exact l0
  · rw [Mu.upd_ne (Ne.symm m1), Mu.upd_ne (Ne.symm l2)]; exact h.pa
  · rw [Mu.upd_ne (Ne.symm m2), Mu.upd_ne (Ne.symm l3)]; exact h.co
  · rw [Mu.upd_ne (Ne.symm m3), Mu.upd_ne (Ne.symm l4)]; exact h.kn
  · rw [Mu.upd_ne l1, Mu.upd_same]; rfl
  · simp only [List.nodup_cons, List.mem_cons, List.not_mem_nil, or_false, not_false_eq_true, List.nodup_nil, and_true]
    exact Ne.symm l2
end
/-- words of a good row are data that a reader gives -/
theorem okA_row {Pn : List (Str × Int)} {T : List Str} {w : Str} {ts : List A} (h : RowOk Pn T w ts) : ts.all okA = true ∧ ts.any isNon = false := by
  have key : ∀ a, ThOk T a → okA a = true ∧ isNon a = false := fun a ha => by
    rcases ha with ⟨x, rfl, _⟩ | ⟨n, d, rfl, _⟩ <;> exact ⟨rfl, rfl⟩
  have all : ∀ {l : List A}, (∀ a ∈ l, okA a = true ∧ isNon a = false) → l.all okA = true ∧ l.any isNon = false := fun {l} h => by
    refine ⟨List.all_eq_true.mpr fun a ha => (h a ha).1, Bool.eq_false_iff.mpr fun z => ?_⟩
    obtain ⟨a, ha, e⟩ := List.any_eq_true.mp z
    rw [(h a ha).2] at e; cases e
  rcases h with ⟨_, c, r, rfl, _, _, _, h6⟩ | ⟨_, a, k, rfl, h3, _⟩ | ⟨_, _, _, h4⟩
  · refine all fun a ha => ?_
    rcases List.mem_cons.mp ha with rfl | ha
    · exact ⟨rfl, rfl⟩
    · exact key a (h6 a ha)
  · refine all fun b hb => ?_
    simp only [List.mem_cons, List.not_mem_nil, or_false] at hb
    rcases hb with rfl | rfl
    · exact key _ h3
    · exact ⟨rfl, rfl⟩
  · exact all fun a ha => key a (h4 a ha)
theorem does_len {w : Str} {r : List Str} {ts : List A} (h : Does w r ts) : ts.length = r.length := by
  rcases h with ⟨_, c, r', rfl, rfl⟩ | ⟨_, a, b, k, rfl, _, rfl⟩ | ⟨_, _, rfl⟩ <;> simp
/-- a reader's state is small, and knows its name -/
structure Src.Sm (S : Src) : Prop where
  k : S.known.length ≤ S.many
  b : (S.bodies.map fun x => x.2.length).sum + S.bodies.length ≤ S.many + 1
  m : S.many ≤ 80
  p : S.parts.length ≤ 6
  n : S.own ≠ none → S.name ≠ "" → S.parts.length < 6 ∧ valI (pnPts S.parts) S.name = none
theorem insT_len (T : List Str) (w : Str) : (insT T w).length ≤ T.length + 1 := by
  unfold insT; split <;> simp
theorem Step.sm {S S' : Src} {ws : List Str} (h : Step S ws S') (s : S.Sm) : S'.Sm := by
  obtain ⟨s1, s2, s3, s4, s5⟩ := s
  cases h with
  | @part nm ins a1 a2 a3 a4 a5 a6 a7 a8 a9 a10 => exact ⟨by show ins.length ≤ S.many + 1 + ins.length; omega, by simp, a10, s4, fun _ _ => ⟨a3, a5⟩⟩
  | @ins ins a1 a2 a3 a4 a5 a6 a7 => exact ⟨by show ins.length ≤ S.many + ins.length; omega, by simp, a7, s4, fun _ z => absurd rfl z⟩
  | rep a1 a2 a3 a4 a5 a6 a7 => exact ⟨by show S.known.length ≤ S.many + 1; omega, by simp only [List.map_cons, List.sum_cons, List.length_cons, List.length_nil]; omega, a7, s4, s5⟩
  | fin a1 a2 =>
    rw [a2] at s2
    simp only [List.map_cons, List.sum_cons, List.length_cons] at s2
    exact ⟨s1, by simp only [List.map_cons, List.sum_cons, List.length_cons, List.length_append, List.length_nil]; omega, s3, s4, s5⟩
  | @row x w rs ts m b r a1 a2 a3 a4 a5 a6 a7 =>
    rw [a7] at s2
    simp only [List.map_cons, List.sum_cons, List.length_cons] at s2
    have := insT_len S.known x
    exact ⟨by show (insT S.known _).length ≤ S.many + 1; omega, by simp only [List.map_cons, List.sum_cons, List.length_cons, List.length_append, List.length_nil]; omega, a6, s4, s5⟩
  | @give nm g ins b a1 a2 a3 a4 a5 a6 a7 => exact ⟨by show S.known.length ≤ S.many + 1; omega, by simp, a7, by have := (s5 (by rw [a1]; exact fun z => nomatch z) (by rw [a3]; exact a4)).1; rw [List.length_append]; simp only [List.length_cons, List.length_nil]; omega, fun z => absurd rfl z⟩
  | @out ins outs b a1 a2 a3 a4 a5 a6 a7 a8 => exact ⟨by show S.known.length ≤ S.many + outs.length; omega, by show (S.bodies.map fun x => x.2.length).sum + S.bodies.length ≤ S.many + outs.length + 1; omega, a8, s4, s5⟩
end D

set_option Elab.async false
set_option linter.all false
set_option maxRecDepth 100000
set_option maxHeartbeats 4000000
/-! PY: texts with gaps, remarks, empty lines and fractions in other terms are read alike. -/
namespace D
open PySem PySem.Spec PyProof.Rows L2 TL
/-- two lists, pair by pair -/
inductive W2 {α β : Type} (R : α → β → Prop) : List α → List β → Prop
  | nil : W2 R [] []
  | cons {a b l m} : R a b → W2 R l m → W2 R (a :: l) (b :: m)
section
variable {α β : Type} {R : α → β → Prop}
theorem W2.len {l : List α} {m : List β} (h : W2 R l m) : m.length = l.length := by
  induction h with
  | nil => rfl
  | cons _ _ ih => simp [ih]
theorem W2.app {a c : List α} {b d : List β} (h : W2 R a b) (k : W2 R c d) : W2 R (a ++ c) (b ++ d) := by
  induction h with
  | nil => exact k
  | cons r _ ih => exact .cons r ih
theorem W2.inv {a l : List α} : ∀ {c : List β}, W2 R (a ++ l) c → ∃ c1 c2, c = c1 ++ c2 ∧ W2 R a c1 ∧ W2 R l c2 := by
  induction a with
  | nil => exact fun {c} h => ⟨[], c, rfl, .nil, h⟩
  | cons x a ih =>
    intro c h
    cases h with
    | cons r t =>
      obtain ⟨c1, c2, rfl, h1, h2⟩ := ih t
      exact ⟨_ :: c1, c2, rfl, .cons r h1, h2⟩
theorem W2.inv1 {x : α} {l : List α} {c : List β} (h : W2 R (x :: l) c) : ∃ y m, c = y :: m ∧ R x y ∧ W2 R l m := by
  cases h with
  | cons r t => exact ⟨_, _, rfl, r, t⟩
theorem W2.inv0 {c : List β} (h : W2 R [] c) : c = [] := by cases h; rfl
theorem W2.refl {R : α → α → Prop} (h : ∀ a, R a a) : ∀ l : List α, W2 R l l
  | [] => .nil
  | a :: l => .cons (h a) (W2.refl h l)
theorem W2.mem {l : List α} {m : List β} (h : W2 R l m) : ∀ b ∈ m, ∃ a ∈ l, R a b := by
  induction h with
  | nil => intro b hb; cases hb
  | cons r _ ih =>
    intro b hb
    rcases List.mem_cons.mp hb with rfl | hb
    · exact ⟨_, List.mem_cons_self .., r⟩
    · obtain ⟨a, h1, h2⟩ := ih b hb
      exact ⟨a, List.mem_cons_of_mem _ h1, h2⟩
end
/-- a word, a fraction's perhaps in other terms -/
def WideW (w w' : Str) : Prop := w' = w ∨ ∃ a b k : Int, Fr a b ∧ a.natAbs ≤ 10 ^ 20 ∧ b ≤ 9 ∧ b ≠ 1 ∧ 1 ≤ k ∧ k ≤ 4 ∧ w = ofI a ++ "/" ++ ofI b ∧ w' = ofI (a * k) ++ "/" ++ ofI (b * k)
theorem WideW.rfl' (w : Str) : WideW w w := .inl rfl
theorem stroke_in (a b : Str) : 47 ∈ tl (a ++ "/" ++ b) := by
  rw [tl_append, tl_append, strokeL]; simp
theorem WideW.plain {w w' : Str} (h : WideW w w') (n : 47 ∉ tl w) : w' = w := by
  rcases h with h | ⟨a, b, k, _, _, _, _, _, _, rfl, _⟩
  · exact h
  · exact absurd (stroke_in _ _) n
theorem noStroke_let {w : Str} (h : letA w = true) : 47 ∉ tl w := fun hc => by
  have h2 := of_decide_eq_true (List.all_eq_true.mp h 47 hc)
  exact absurd h2 (by decide +kernel)
theorem noStroke_nm {w : Str} (h : isNm (.str w) = true) : 47 ∉ tl w := noStroke_let (isNm_let h).1
theorem wide_nms {l l' : List Str} (h : W2 WideW l l') (n : ∀ w ∈ l, 47 ∉ tl w) : l' = l := by
  induction h with
  | nil => rfl
  | cons r _ ih => rw [r.plain (n _ (List.mem_cons_self ..)), ih fun w hw => n w (List.mem_cons_of_mem _ hw)]
theorem wide_thing {T : List Str} {x : A} {w' : Str} (hT : AllNm T) (h : ThOk T x) (s : ThSm x) (hw : WideW (wordT x) w') : thIn w' = x := by
  have h0 := thIn_thing hT h s
  rcases hw with rfl | ⟨a, b, k, hf, a1, b9, b1, k1, k4, e, rfl⟩
  · exact h0
  · have e2 : wordT (.tup [.int a, .int b]) = ofI a ++ "/" ++ ofI b := by simp only [wordT]; rw [if_neg b1]
    have e3 : thIn (wordT (.tup [.int a, .int b])) = .tup [.int a, .int b] := by
      unfold thIn
      rw [frac_not_nm, if_neg (by decide), numIn_frac hf a1 b9]
    rw [e2, ← e, h0] at e3
    rw [e3]
    unfold thIn
    rw [not_nm (stroke_in _ _) (by decide), if_neg (by decide)]
    exact numIn_wide hf a1 b9 k1 k4
theorem wide_things {T : List Str} (hT : AllNm T) : ∀ {l : List A} {r' : List Str}, (∀ a ∈ l, ThOk T a) → (∀ a ∈ l, ThSm a) → W2 WideW (l.map wordT) r' → r'.map thIn = l
  | [], _, _, _, h => by rw [show _ = [] from h.inv0]; rfl
  | x :: l, _, h1, h2, h => by
    rw [List.map_cons] at h
    obtain ⟨y, m, rfl, r, t⟩ := h.inv1
    rw [List.map_cons, wide_thing hT (h1 x (List.mem_cons_self ..)) (h2 x (List.mem_cons_self ..)) r, wide_things hT (fun a ha => h1 a (List.mem_cons_of_mem _ ha)) (fun a ha => h2 a (List.mem_cons_of_mem _ ha)) t]
theorem taken_let {w : Str} {i : Int} (h : valI TAKENL w = some i) : letA w = true := by
  unfold valI at h
  cases e : TAKENL.find? (fun kv => decide (kv.1 = w)) with
  | none => rw [e] at h; cases h
  | some p =>
    have h5 := List.mem_of_find?_eq_some e
    have h7 : p.1 = w := by simpa using List.find?_some e
    have h8 : TAKENL.all (fun p => letA p.1) = true := by decide +kernel
    exact h7 ▸ List.all_eq_true.mp h8 p h5
theorem row_let {Pn : List (Str × Int)} {T : List Str} {w : Str} {ts : List A} (h : RowOk Pn T w ts) : letA w = true := by
  rcases h with ⟨rfl, _⟩ | ⟨rfl, _⟩ | ⟨_, _, h3, _⟩
  · decide +kernel
  · decide +kernel
  · exact taken_let h3
theorem does_wide {Pn : List (Str × Int)} {T : List Str} {w : Str} {ts : List A} {r' : List Str} (hT : AllNm T) (h : RowOk Pn T w ts) (s : RowSm w ts) (hr : W2 WideW (ts.map wordT) r') : Does w r' ts := by
  obtain ⟨_, s2, _⟩ := s
  rcases h with ⟨rfl, c, r, rfl, h3, h4, h5, h6⟩ | ⟨rfl, a, k, rfl, h3, k0, k1⟩ | ⟨h1, h2, h3, h4⟩
  · rw [List.map_cons] at hr
    obtain ⟨y, m, rfl, hy, t⟩ := hr.inv1
    have : y = c := hy.plain (noStroke_let h4)
    subst this
    refine .inl ⟨rfl, y, m, rfl, ?_⟩
    rw [wide_things hT h6 (fun a ha => s2 a (List.mem_cons_of_mem _ ha)) t]
  · rw [List.map_cons, List.map_cons, List.map_nil] at hr
    obtain ⟨y, m, rfl, hy, t⟩ := hr.inv1
    obtain ⟨z, m2, rfl, hz, t2⟩ := t.inv1
    rw [show m2 = [] from t2.inv0]
    have : z = ofI k := hz.plain (noStroke k)
    subst this
    refine .inr (.inl ⟨rfl, y, ofI k, k, rfl, wholeIn_txt (Nat.lt_of_le_of_lt (show k.natAbs ≤ 8 by omega) (by decide +kernel)), ?_⟩)
    rw [wide_thing hT h3 (s2 a (List.mem_cons_self ..)) hy]
  · exact .inr (.inr ⟨h1, h2, (wide_things hT h4 s2 hr).symm⟩)
abbrev WideL : List (List Str) → List (List Str) → Prop := W2 (W2 WideW)
mutual
theorem It.tellsW {Pn : List (Str × Int)} : ∀ {i : It} {d : Nat} {T : List Str} {ls' : List (List Str)}, i.ok Pn d T → AllNm T → i.sm → WideL i.ls ls' → Tells [i] ls'
  | .row x w ts, d, T, ls', h, hT, s, hw => by
    simp only [It.ok] at h
    simp only [It.sm] at s
    simp only [It.ls] at hw
    obtain ⟨l1, m, rfl, h1, t⟩ := hw.inv1
    rw [show m = [] from t.inv0]
    obtain ⟨x', m, rfl, hx, t⟩ := h1.inv1
    obtain ⟨q', m, rfl, hq, t⟩ := t.inv1
    obtain ⟨w', m, rfl, hw, t⟩ := t.inv1
    rw [hx.plain (noStroke_nm h.2.1), hq.plain (by decide), hw.plain (noStroke_let (row_let h.2.2))]
    exact .row (does_wide hT h.2.2 s.2 t) .nil
  | .rep n b, d, T, ls', h, hT, s, hw => by
    simp only [It.ok] at h
    simp only [It.sm] at s
    simp only [It.ls] at hw
    obtain ⟨l1, m, rfl, h1, t⟩ := hw.inv1
    obtain ⟨c1, c2, rfl, h2, h3⟩ := t.inv
    obtain ⟨l2, m, rfl, h4, t⟩ := h3.inv1
    rw [show m = [] from t.inv0]
    rw [wide_nms h1 (fun w hw => by
      simp only [List.mem_cons, List.not_mem_nil, or_false] at hw
      rcases hw with rfl | rfl
      · decide
      · exact noStroke n), wide_nms h4 (fun w hw => by rw [List.mem_singleton.mp hw]; decide)]
    exact .rep (wholeIn_txt (Nat.lt_of_le_of_lt (show n.natAbs ≤ 5 by omega) (by decide +kernel))) (tellsItsW h.2.2.2 hT s.2.2 h2) .nil
theorem tellsItsW {Pn : List (Str × Int)} : ∀ {l : List It} {d : Nat} {T : List Str} {ls' : List (List Str)}, okIts Pn d T l → AllNm T → smIts l → WideL (lsIts l) ls' → Tells l ls'
  | [], _, _, _, _, _, _, hw => by simp only [lsIts] at hw; rw [hw.inv0]; exact .nil
  | i :: r, d, T, ls', h, hT, s, hw => by
    simp only [okIts] at h
    simp only [smIts] at s
    simp only [lsIts] at hw
    obtain ⟨c1, c2, rfl, h1, h2⟩ := hw.inv
    exact Tells.app (a := [i]) (It.tellsW h.1 hT s.1 h1) (tellsItsW h.2 (told_nm h.1 hT) s.2 h2)
end
theorem tellsPtsW : ∀ {l : List Pt} {Pn : List (Str × Int)} {ls' : List (List Str)}, okPts Pn l → (∀ q ∈ l, q.sm) → WideL (l.map Pt.ls).flatten ls' → TellsP l ls'
  | [], Pn, _, _, _, hw => by rw [show _ = [] from hw.inv0]; exact .nil
  | q :: l, Pn, ls', h, s, hw => by
    simp only [okPts] at h
    rw [List.map_cons, List.flatten_cons] at hw
    obtain ⟨c1, c2, rfl, h1, h2⟩ := hw.inv
    simp only [Pt.ls] at h1
    obtain ⟨l1, m, rfl, h3, t⟩ := h1.inv1
    obtain ⟨b1, b2, rfl, h4, h5⟩ := t.inv
    obtain ⟨l2, m, rfl, h6, t⟩ := h5.inv1
    rw [show m = [] from t.inv0]
    have hg : isNm (.str q.give) = true := tolds_nm h.1.body h.1.ins _ h.1.give
    rw [wide_nms h3 (fun w hw => by
      rcases List.mem_cons.mp hw with rfl | hw
      · decide
      · rcases List.mem_cons.mp hw with rfl | hw
        · exact noStroke_nm h.1.nm
        · exact noStroke_nm (h.1.ins w hw)), wide_nms h6 (fun w hw => by
      simp only [List.mem_cons, List.not_mem_nil, or_false] at hw
      rcases hw with rfl | rfl
      · decide
      · exact noStroke_nm hg)]
    have t := TellsP.cons (tellsItsW h.1.body h.1.ins (s q (List.mem_cons_self ..)).body h4) (tellsPtsW h.2 (fun x hx => s x (List.mem_cons_of_mem _ hx)) h2)
    simpa only [List.cons_append, List.append_assoc, List.nil_append] using t
/-- a program's lines, wide or not, are read as it -/
theorem reads_wide {g : Pg} {ls' : List (List Str)} (ok : g.ok) (s : g.sm) (hw : WideL g.ls ls') : ∃ S', Steps S0 ls' S' ∧ S'.whole = some g := by
  unfold Pg.ls at hw
  obtain ⟨c1, c2, rfl, h1, h2⟩ := hw.inv
  obtain ⟨l1, m, rfl, h3, t⟩ := h2.inv1
  obtain ⟨b1, b2, rfl, h4, h5⟩ := t.inv
  obtain ⟨l2, m, rfl, h6, t⟩ := h5.inv1
  rw [show m = [] from t.inv0]
  rw [wide_nms h3 (fun w hw => by
    rcases List.mem_cons.mp hw with rfl | hw
    · decide
    · exact noStroke_nm (ok.ins w hw)), wide_nms h6 (fun w hw => by
    rcases List.mem_cons.mp hw with rfl | hw
    · decide
    · exact noStroke_nm (ok.outs w hw).1)]
  exact steps_prog ok (tellsPtsW ok.parts s.parts h1) (tellsItsW ok.body ok.ins s.body h4)
/-- what any word of a program's lines is -/
structure WAll (P : Str → Prop) : Prop where
  le : ∀ w, letA w = true → P w
  eq : P "="
  int : ∀ i : Int, i.natAbs ≤ 10 ^ 20 → P (ofI i)
  fr : ∀ a b : Int, Fr a b → a.natAbs ≤ 10 ^ 20 → b ≤ 9 → b ≠ 1 → P (ofI a ++ "/" ++ ofI b)
section
variable {P : Str → Prop}
theorem WAll.thing (W : WAll P) {x : A} (h : TSm x) : P (wordT x) := by
  rcases h with ⟨w, rfl, h, _⟩ | ⟨n, d, rfl, hf, h1, h2⟩ | ⟨k, rfl, h⟩
  · exact W.le w h
  · simp only [wordT]
    split
    · exact W.int n h1
    · exact W.fr n d hf h1 h2 (by assumption)
  · exact W.int k (Nat.le_trans h (by decide))
theorem WAll.nms (W : WAll P) {h : Str} {r : List Str} (hh : letA h = true) (hr : AllNm r) : ∀ w ∈ h :: r, P w := fun w hw => by
  rcases List.mem_cons.mp hw with rfl | hw
  · exact W.le _ hh
  · exact W.le _ (isNm_let (hr w hw)).1
abbrev AllW (P : Str → Prop) (l : List (List Str)) : Prop := ∀ ws ∈ l, ∀ w ∈ ws, P w
theorem AllW.app {a b : List (List Str)} (ha : AllW P a) (hb : AllW P b) : AllW P (a ++ b) := fun ws h => by
  rcases List.mem_append.mp h with h | h
  · exact ha ws h
  · exact hb ws h
theorem AllW.cons {a : List Str} {b : List (List Str)} (ha : ∀ w ∈ a, P w) (hb : AllW P b) : AllW P (a :: b) := fun ws h => by
  rcases List.mem_cons.mp h with rfl | h
  · exact ha
  · exact hb ws h
theorem AllW.nil : AllW P [] := fun _ h => nomatch h
mutual
theorem It.allw (W : WAll P) {Pn : List (Str × Int)} : ∀ {i : It} {d : Nat} {T : List Str}, i.ok Pn d T → i.sm → AllW P i.ls
  | .row x w ts, d, T, h, s => by
    simp only [It.ok] at h
    simp only [It.sm] at s
    obtain ⟨h1, _, _⟩ := row_tsm h.2.2 s.2
    simp only [It.ls]
    refine .cons (fun v hv => ?_) .nil
    rcases List.mem_cons.mp hv with rfl | hv
    · exact W.le _ (isNm_let h.2.1).1
    · rcases List.mem_cons.mp hv with rfl | hv
      · exact W.eq
      · rcases List.mem_cons.mp hv with rfl | hv
        · exact W.le _ (row_let h.2.2)
        · obtain ⟨a, ha, rfl⟩ := List.mem_map.mp hv
          exact W.thing (h1 a ha)
  | .rep n b, d, T, h, s => by
    simp only [It.ok] at h
    simp only [It.sm] at s
    simp only [It.ls]
    refine .cons (fun v hv => ?_) (.app (allwIts W h.2.2.2 s.2.2) (.cons (fun v hv => ?_) .nil))
    · simp only [List.mem_cons, List.not_mem_nil, or_false] at hv
      rcases hv with rfl | rfl
      · exact W.le _ (by decide +kernel)
      · exact W.int n (Nat.le_trans (show n.natAbs ≤ 5 by omega) (by decide))
    · rw [List.mem_singleton.mp hv]; exact W.le _ (by decide +kernel)
theorem allwIts (W : WAll P) {Pn : List (Str × Int)} : ∀ {l : List It} {d : Nat} {T : List Str}, okIts Pn d T l → smIts l → AllW P (lsIts l)
  | [], _, _, _, _ => by simp only [lsIts]; exact .nil
  | i :: r, d, T, h, s => by
    simp only [okIts] at h
    simp only [smIts] at s
    simp only [lsIts]
    exact .app (It.allw W h.1 s.1) (allwIts W h.2 s.2)
end
theorem allwPts (W : WAll P) : ∀ {l : List Pt} {Pn : List (Str × Int)}, okPts Pn l → (∀ q ∈ l, q.sm) → AllW P (l.map Pt.ls).flatten
  | [], _, _, _ => .nil
  | q :: l, Pn, h, s => by
    simp only [okPts] at h
    rw [List.map_cons, List.flatten_cons]
    have hg : isNm (.str q.give) = true := tolds_nm h.1.body h.1.ins _ h.1.give
    refine .app ?_ (allwPts W h.2 fun x hx => s x (List.mem_cons_of_mem _ hx))
    exact .cons (W.nms (by decide +kernel) fun w hw => by
      rcases List.mem_cons.mp hw with rfl | hw
      · exact h.1.nm
      · exact h.1.ins w hw) (.app (allwIts W h.1.body (s q (List.mem_cons_self ..)).body) (.cons (W.nms (by decide +kernel) fun w hw => by rw [List.mem_singleton.mp hw]; exact hg) .nil))
theorem Pg.allw (W : WAll P) {g : Pg} (ok : g.ok) (s : g.sm) : AllW P g.ls :=
  .app (allwPts W ok.parts s.parts) (.cons (W.nms (by decide +kernel) ok.ins) (.app (allwIts W ok.body s.body) (.cons (W.nms (by decide +kernel) fun w hw => (ok.outs w hw).1) .nil)))
end
/-- a word that may be told in other terms -/
def WordK (w : Str) : Prop := 47 ∉ tl w ∨ ∃ a b : Int, Fr a b ∧ a.natAbs ≤ 10 ^ 20 ∧ b ≤ 9 ∧ b ≠ 1 ∧ w = ofI a ++ "/" ++ ofI b
theorem wordK : WAll WordK := ⟨fun _ h => .inl (noStroke_let h), .inl (by decide), fun i _ => .inl (noStroke i), fun a b hf h1 h2 h3 => .inr ⟨a, b, hf, h1, h2, h3, rfl⟩⟩
/-- short and clean -/
def WordC (w : Str) : Prop := clean w ∧ w.length ≤ 640
theorem len_i22 {i : Int} (h : i.natAbs < 10 ^ 22) : (ofI i).length ≤ 30 := by
  show (Str.ofString (toString i)).length ≤ 30
  rw [PySem.ofString_length]
  have e := int_text_length_le10 (a := i) (k := 22) (by decide) h
  omega
theorem len_frac {a b : Int} (ha : a.natAbs < 10 ^ 22) (hb : b.natAbs < 10 ^ 22) : (ofI a ++ "/" ++ ofI b).length ≤ 61 := by
  have h1 := len_i22 ha
  have h2 := len_i22 hb
  rw [Str.length_append, Str.length_append, show ("/" : Str).length = 1 by decide]; omega
theorem wide_bd {a b k : Int} (hf : Fr a b) (h1 : a.natAbs ≤ 10 ^ 20) (h2 : b ≤ 9) (k1 : 1 ≤ k) (k4 : k ≤ 4) : (a * k).natAbs < 10 ^ 22 ∧ (b * k).natAbs < 10 ^ 22 := by
  have hp := hf.pos
  have e : k.natAbs ≤ 4 := by omega
  have e2 : b.natAbs ≤ 9 := by omega
  rw [Int.natAbs_mul, Int.natAbs_mul]
  exact ⟨Nat.lt_of_le_of_lt (Nat.mul_le_mul h1 e) (by decide), Nat.lt_of_le_of_lt (Nat.mul_le_mul e2 e) (by decide)⟩
theorem WordC.wide {w w' : Str} (h : WordC w) (hw : WideW w w') : WordC w' := by
  rcases hw with rfl | ⟨a, b, k, hf, h1, h2, h3, k1, k4, _, rfl⟩
  · exact h
  · obtain ⟨e1, e2⟩ := wide_bd hf h1 h2 k1 k4
    exact ⟨clean_app (clean_app (clean_int _) clean_stroke) (clean_int _), Nat.le_trans (len_frac e1 e2) (by decide)⟩
theorem Pg.wordC {g : Pg} (ok : g.ok) (s : g.sm) : AllW WordC g.ls := fun ws hws w hw => ⟨((Pg.clean ok) ws hws).2 w hw, ((Pg.lens ok s).1 ws hws).2 w hw⟩
/-- a text that reads as a program -/
structure Rds (w : Str) (g : Pg) : Prop where
  ln : w.length ≤ 9000000
  ls : ∀ l ∈ Txt.split w "\n", 9 ∉ tl l ∧ l.length ≤ 20000
  rd : WideL g.ls (((Txt.split w "\n").map wordsOf).filter fun ws => !ws.isEmpty)
theorem Rds.words {w : Str} {g : Pg} (h : Rds w g) (ok : g.ok) (s : g.sm) : ∀ l ∈ Txt.split w "\n", (wordsOf l).length ≤ 8 ∧ ∀ x ∈ wordsOf l, WordC x := fun l hl => by
  by_cases e : wordsOf l = []
  · rw [e]; exact ⟨by simp, fun _ z => nomatch z⟩
  · have hm : wordsOf l ∈ ((Txt.split w "\n").map wordsOf).filter fun ws => !ws.isEmpty := by
      refine List.mem_filter.mpr ⟨List.mem_map.mpr ⟨l, hl, rfl⟩, ?_⟩
      cases h : wordsOf l with
      | nil => exact absurd h e
      | cons a b => rfl
    obtain ⟨ws, hws, hw⟩ := h.rd.mem _ hm
    refine ⟨by rw [hw.len]; exact ((Pg.lens ok s).1 ws hws).1, fun x hx => ?_⟩
    obtain ⟨y, hy, hyx⟩ := hw.mem x hx
    exact (Pg.wordC ok s ws hws y hy).wide hyx
theorem clean_asc {w : Str} (h : clean w) : PyData.strOk w = true := by
  unfold PyData.strOk
  rw [← Array.all_toList]
  exact List.all_eq_true.mpr fun c hc => decide_eq_true (by have := (h.2 c hc).2.2.2.2; omega)
theorem not9 {ws : List Str} (hw : ∀ w ∈ ws, D.clean w) : 9 ∉ tl (lineT ws) := fun h => by
  unfold lineT at h
  rw [join_eq, tl_join, blank] at h
  exact (mem_join hw (fun x hx => by simpa using hx) h).1 rfl
theorem filter_all {α : Type} {p : α → Bool} {l : List α} (h : ∀ a ∈ l, p a = true) : l.filter p = l := List.filter_eq_self.mpr h
theorem ne_empty {ws : List Str} (h : ws ≠ []) : (!ws.isEmpty) = true := by
  cases ws with
  | nil => exact absurd rfl h
  | cons a b => rfl
theorem join_len {c : Str} {l : List Str} {n : Nat} (hc : c.length = 1) (h : ∀ w ∈ l, w.length ≤ n) : (Txt.join c l).length ≤ (n + 1) * l.length := by
  rw [join_eq, len_tl, tl_join]
  have h1 : (tl c).length = 1 := by rw [← len_tl]; exact hc
  induction l with
  | nil => simp [joinL]
  | cons x r ih =>
    have hx := h x (List.mem_cons_self ..)
    have ih := ih fun w hw => h w (List.mem_cons_of_mem _ hw)
    rw [len_tl] at hx
    cases r with
    | nil => simp only [List.map_cons, List.map_nil, joinL, List.length_cons, List.length_nil]; omega
    | cons y r =>
      simp only [List.map_cons, joinL, List.length_append, List.length_cons] at ih ⊢
      have e : (n + 1) * (r.length + 1 + 1) = (n + 1) * (r.length + 1) + (n + 1) := by rw [Nat.mul_succ]
      omega
/-- a program's own text -/
theorem Pg.rds {g : Pg} (ok : g.ok) (s : g.sm) : Rds g.text g := by
  obtain ⟨hL, hN⟩ := Pg.lens ok s
  have hC := Pg.clean ok
  have hl : ∀ l ∈ g.ls.map lineT, l.length ≤ 32008 := fun l h => by
    obtain ⟨ws, hws, rfl⟩ := List.mem_map.mp h
    exact len_line (hL ws hws).1 (hL ws hws).2
  refine ⟨?_, ?_, ?_⟩
  · have h1 := join_len (c := "\n") (by decide) hl
    rw [List.length_map] at h1
    have h2 : (32008 + 1) * g.ls.length ≤ (32008 + 1) * 200 := Nat.mul_le_mul_left _ hN
    show (Txt.join "\n" (g.ls.map lineT)).length ≤ _
    omega
  · rw [Pg.lines ok]
    intro l h
    obtain ⟨ws, hws, rfl⟩ := List.mem_map.mp h
    refine ⟨not9 (hC ws hws).2, ?_⟩
    have h3 := join_len (c := " ") (l := ws) (n := 640) (by decide) (hL ws hws).2
    have h4 := (hL ws hws).1
    have h5 : (640 + 1) * ws.length ≤ (640 + 1) * 8 := Nat.mul_le_mul_left _ h4
    show (Txt.join " " ws).length ≤ _
    omega
  · rw [Pg.lines ok, List.map_map]
    have e : g.ls.map (wordsOf ∘ lineT) = g.ls := (List.map_congr_left fun ws hws => words_lineT (hC ws hws).1 (hC ws hws).2).trans (List.map_id _)
    rw [e, filter_all fun ws hws => ne_empty (hC ws hws).1]
    exact W2.refl (fun ws => W2.refl WideW.rfl' ws) _
/-- lines of a wide text, so far -/
structure WLs (W : List (List Str)) (F : List Str) : Prop where
  ok : ∀ l ∈ F, 9 ∉ tl l ∧ 10 ∉ tl l ∧ l.length ≤ 20000
  rd : WideL W ((F.map wordsOf).filter fun ws => !ws.isEmpty)
theorem WLs.nil : WLs [] [] := ⟨(fun _ h => nomatch h), W2.nil⟩
theorem WLs.void {W : List (List Str)} {F F2 : List Str} (h : WLs W F) (k : ∀ l ∈ F2, wordsOf l = [] ∧ 9 ∉ tl l ∧ 10 ∉ tl l ∧ l.length ≤ 20000) : WLs W (F ++ F2) := by
  refine ⟨fun l hl => ?_, ?_⟩
  · rcases List.mem_append.mp hl with hl | hl
    · exact h.ok l hl
    · exact (k l hl).2
  · have e : ((F2.map wordsOf).filter fun ws => !ws.isEmpty) = [] := by
      refine List.filter_eq_nil_iff.mpr fun ws hws => ?_
      obtain ⟨l, hl, rfl⟩ := List.mem_map.mp hws
      rw [(k l hl).1]; decide
    rw [List.map_append, List.filter_append, e, List.append_nil]
    exact h.rd
theorem WLs.line {W : List (List Str)} {F : List Str} {ws ws' : List Str} {l : Str} (h : WLs W F) (hw : W2 WideW ws ws') (hn : ws' ≠ []) (e : wordsOf l = ws') (k : 9 ∉ tl l ∧ 10 ∉ tl l ∧ l.length ≤ 20000) : WLs (W ++ [ws]) (F ++ [l]) := by
  refine ⟨fun x hx => ?_, ?_⟩
  · rcases List.mem_append.mp hx with hx | hx
    · exact h.ok x hx
    · rw [List.mem_singleton.mp hx]; exact k
  · rw [List.map_append, List.filter_append, List.map_cons, List.map_nil, e, List.filter_cons, if_pos (ne_empty hn), List.filter_nil]
    exact h.rd.app (.cons hw .nil)
/-- the wide text -/
theorem WLs.rds {g : Pg} {F : List Str} (h : WLs g.ls F) (hF : F ≠ []) (hl : F.length ≤ 402) : Rds (Txt.join "\n" F) g := by
  have e : Txt.split (Txt.join "\n" F) "\n" = F := split_join (s := 10) (S := []) (by decide) (by decide +kernel) hF fun p hp => (h.ok p hp).2.1
  refine ⟨?_, ?_, ?_⟩
  · have h1 := join_len (c := "\n") (l := F) (n := 20000) (by decide) fun w hw => (h.ok w hw).2.2
    have h2 : (20000 + 1) * F.length ≤ (20000 + 1) * 402 := Nat.mul_le_mul_left _ hl
    omega
  · rw [e]; exact fun l hl => ⟨(h.ok l hl).1, (h.ok l hl).2.2⟩
  · rw [e]; exact h.rd
theorem int_ofI {i : Int} (h : i.natAbs < 10 ^ 22) : PySem.intText? (ofI i) = some i := by
  cases i with
  | ofNat n =>
    refine int_num (n := n) ?_
    exact Nat.le_trans (numL_len (k := 22) (by decide) (by simpa using h)) (by decide)
  | negSucc n =>
    have e : tl (ofI (Int.negSucc n)) = 45 :: numL (n + 1) := tl_neg n
    have hl : (numL (n + 1)).length ≤ 22 := numL_len (k := 22) (by decide) (by simpa using h)
    have h2 := intText_neg (x := ofI (Int.negSucc n)) (cs := numL (n + 1)) e (numL_digits (n + 1)) (numL_ne _) (by rw [len_tl, e]; simp only [List.length_cons]; omega)
    rw [numL_val] at h2
    exact h2
theorem mul_sp {n : Int} (h0 : 0 ≤ n) (h3 : n ≤ 3) : PySem.MulOk " " n ∧ tl (Txt.mul " " n) = List.replicate n.toNat 32 ∧ (Txt.mul " " n).length ≤ 3 := by
  have h : n = 0 ∨ n = 1 ∨ n = 2 ∨ n = 3 := by omega
  rcases h with rfl | rfl | rfl | rfl <;> exact ⟨⟨by decide, by decide, by decide⟩, by decide, by decide⟩
theorem PgAtLs_ne {g : Pg} {fs : List Int} {l : Addr} {a rm : Int} {mo : Option (List Str)} : (g.parts.map fun q => ((.inr q.nm : Key), q.a)) ≠ dicL fs l a rm mo := fun h => by
  cases hp : g.parts with
  | nil => rw [hp] at h; cases mo <;> cases h
  | cons q r =>
    rw [hp] at h
    simp only [List.map_cons, dicL, List.cons_append, List.cons.injEq, Prod.mk.injEq, Pt.a] at h
    exact nomatch h.1.2
theorem repl_map {v : Str} : ∀ n : Nat, (List.replicate n [A.str v]).flatten = (List.replicate n v).map A.str
  | 0 => rfl
  | n + 1 => by simp [List.replicate_succ, List.flatten_cons, repl_map n]
theorem Src0.sm : S0.Sm := ⟨Nat.le_refl _, by decide, by decide, by decide, fun z => absurd rfl z⟩
/-- a line of the wide text -/
theorem wide_line {ws' : List Str} {a k : Int} {tail : Str} (hn : ws' ≠ []) (hw : ∀ w ∈ ws', WordC w) (hl : ws'.length ≤ 8) (a0 : 0 ≤ a) (a3 : a ≤ 3) (k0 : 1 ≤ k) (k3 : k ≤ 3) (ht : tail ∈ ([("" : Str), " ", "#", " # out a", "  # = {}"] : List Str)) :
    wordsOf (Txt.mul " " a ++ Txt.join (Txt.mul " " k) ws' ++ tail) = ws' ∧ 9 ∉ tl (Txt.mul " " a ++ Txt.join (Txt.mul " " k) ws' ++ tail) ∧ 10 ∉ tl (Txt.mul " " a ++ Txt.join (Txt.mul " " k) ws' ++ tail) ∧ (Txt.mul " " a ++ Txt.join (Txt.mul " " k) ws' ++ tail).length ≤ 20000 := by
  obtain ⟨_, ea, la⟩ := mul_sp a0 a3
  obtain ⟨_, ek, lk⟩ := mul_sp (by omega : (0 : Int) ≤ k) k3
  obtain ⟨j, hj⟩ : ∃ j : Nat, k.toNat = j + 1 := ⟨k.toNat - 1, by omega⟩
  rw [hj] at ek
  have hc : ∀ w ∈ ws', D.clean w := fun w h => (hw w h).1
  have et : tl (Txt.mul " " a ++ Txt.join (Txt.mul " " k) ws' ++ tail) = (List.replicate a.toNat 32 ++ joinL (List.replicate (j + 1) 32) (ws'.map tl)) ++ tl tail := by
    rw [tl_append, tl_append, ea, join_eq, tl_join, ek]
  have hb : ∃ (b : Nat) (r : List Nat), tl tail = List.replicate b 32 ++ r ∧ (r = [] ∨ ∃ r2, r = 35 :: r2) ∧ 9 ∉ tl tail ∧ 10 ∉ tl tail ∧ tail.length ≤ 20 := by
    simp only [List.mem_cons, List.not_mem_nil, or_false] at ht
    rcases ht with rfl | rfl | rfl | rfl | rfl
    · exact ⟨0, [], by decide, .inl rfl, by decide, by decide, by decide⟩
    · exact ⟨1, [], by decide, .inl rfl, by decide, by decide, by decide⟩
    · exact ⟨0, [35], by decide, .inr ⟨_, rfl⟩, by decide, by decide, by decide⟩
    · exact ⟨1, [35, 32, 111, 117, 116, 32, 97], by decide, .inr ⟨_, rfl⟩, by decide, by decide, by decide⟩
    · exact ⟨2, [35, 32, 61, 32, 123, 125], by decide, .inr ⟨_, rfl⟩, by decide, by decide, by decide⟩
  obtain ⟨b, r, e1, hr, n9, n10, lt⟩ := hb
  have mj : ∀ c, c ∈ joinL (List.replicate (j + 1) 32) (ws'.map tl) → c ≠ 9 ∧ c ≠ 10 ∧ c ≠ 35 := fun c h => mem_join hc (fun x hx => List.eq_of_mem_replicate hx) h
  refine ⟨words_line (k := j) (a := a.toNat) (b := b) (r := r) hn hc hr (by rw [et, e1]; simp [List.append_assoc]), ?_, ?_, ?_⟩
  · rw [et]
    intro h
    rcases List.mem_append.mp h with h | h
    · rcases List.mem_append.mp h with h | h
      · exact absurd (List.eq_of_mem_replicate h) (by decide)
      · exact (mj 9 h).1 rfl
    · exact n9 h
  · rw [et]
    intro h
    rcases List.mem_append.mp h with h | h
    · rcases List.mem_append.mp h with h | h
      · exact absurd (List.eq_of_mem_replicate h) (by decide)
      · exact (mj 10 h).2.1 rfl
    · exact n10 h
  · have lj : (Txt.join (Txt.mul " " k) ws').length ≤ (640 + 3) * ws'.length := by
      rw [join_eq, len_tl, tl_join, ek]
      have hj3 : j + 1 ≤ 3 := by omega
      clear hn hl et mj
      induction ws' with
      | nil => simp [joinL]
      | cons x r ih =>
        have hx := (hw x (List.mem_cons_self ..)).2
        have ih := ih (fun w h => hw w (List.mem_cons_of_mem _ h)) fun w h => hc w (List.mem_cons_of_mem _ h)
        rw [len_tl] at hx
        cases r with
        | nil => simp only [List.map_cons, List.map_nil, joinL, List.length_cons, List.length_nil]; omega
        | cons y r =>
          simp only [List.map_cons, joinL, List.length_append, List.length_cons, List.length_replicate] at ih ⊢
          have e : (640 + 3) * (r.length + 1 + 1) = (640 + 3) * (r.length + 1) + (640 + 3) := by rw [Nat.mul_succ]
          omega
    have h8 : (640 + 3) * ws'.length ≤ (640 + 3) * 8 := Nat.mul_le_mul_left _ hl
    rw [Str.length_append, Str.length_append]
    omega
theorem void_line {v : Str} (h : v ∈ ([("" : Str), "   ", "# in a", " #5", "  ", " #"] : List Str)) : wordsOf v = [] ∧ 9 ∉ tl v ∧ 10 ∉ tl v ∧ v.length ≤ 20000 := by
  simp only [List.mem_cons, List.not_mem_nil, or_false] at h
  rcases h with rfl | rfl | rfl | rfl | rfl | rfl
  · exact ⟨words_void (a := 0) (r := []) (.inl rfl) (by decide), by decide, by decide, by decide⟩
  · exact ⟨words_void (a := 3) (r := []) (.inl rfl) (by decide), by decide, by decide, by decide⟩
  · exact ⟨words_void (a := 0) (r := [35, 32, 105, 110, 32, 97]) (.inr ⟨_, rfl⟩) (by decide), by decide, by decide, by decide⟩
  · exact ⟨words_void (a := 1) (r := [35, 53]) (.inr ⟨_, rfl⟩) (by decide), by decide, by decide, by decide⟩
  · exact ⟨words_void (a := 2) (r := []) (.inl rfl) (by decide), by decide, by decide, by decide⟩
  · exact ⟨words_void (a := 1) (r := [35]) (.inr ⟨_, rfl⟩) (by decide), by decide, by decide, by decide⟩
theorem split_line {ws : List Str} (hn : ws ≠ []) (hw : ∀ w ∈ ws, D.clean w) : Txt.split (lineT ws) " " = ws :=
  split_join (s := 32) (S := []) (by decide) (by decide +kernel) hn fun p hp h => (((hw p hp).2 32 h).2.2.1 rfl)
end D

set_option Elab.async false
set_option linter.all false
set_option maxRecDepth 100000
set_option maxHeartbeats 4000000
namespace D
open PySem PySem.Spec PyProof.Rows L2
def topS (i : Nat) : Stmt := PySem.Challenge.pw_slopehouse_k04_shown_and_read.main.body.getD i (.Pass ⟨0, 0, 0, 0⟩)
/-- the names that nobody has taken, the constants, the classes -/
structure Txt (K : PySem.W.Frag) (mg : Str → Option Value) (w : World) (CL CP CS pT : Addr) : Prop where
  b_range : mg "range" = none
  b_len : mg "len" = none
  b_isinstance : mg "isinstance" = none
  b_int : mg "int" = none
  b_bool : mg "bool" = none
  b_str : mg "str" = none
  b_tuple : mg "tuple" = none
  b_list : mg "list" = none
  b_dict : mg "dict" = none
  b_set : mg "set" = none
  b_all : mg "all" = none
  b_abs : mg "abs" = none
  b_sum : mg "sum" = none
  b_repr : mg "repr" = none
  b_enumerate : mg "enumerate" = none
  b_min : mg "min" = none
  k_FIGURES : Kn K mg "FIGURES" (.str "0123456789")
  k_MOST_FIGURES : Kn K mg "MOST_FIGURES" (.int 4000)
  k_LETTERS : Kn K mg "LETTERS" (.str "abcdefghijklmnopqrstuvwxyz")
  k_BARRED : Kn K mg "BARRED" (.tup (BARS.map A.str))
  k_MOST_LETTERS : Kn K mg "MOST_LETTERS" (.int 8)
  k_MOST_POWER : Kn K mg "MOST_POWER" (.int 8)
  k_MOST_TURNS : Kn K mg "MOST_TURNS" (.int 200)
  k_MOST_DEEP : Kn K mg "MOST_DEEP" (.int 3)
  k_MOST_SIZE : Kn K mg "MOST_SIZE" (.int 80)
  k_MOST_INS : Kn K mg "MOST_INS" (.int 6)
  k_MOST_OUTS : Kn K mg "MOST_OUTS" (.int 4)
  k_MOST_PARTS : Kn K mg "MOST_PARTS" (.int 6)
  k_MOST_PART_INS : Kn K mg "MOST_PART_INS" (.int 4)
  k_TAKEN : Kn K mg "TAKEN" (.loc pT)
  d_TAKEN : KDi K w pT TAKENL
  cls_Looked : Cls K CL
  na_Looked_parts : NoAttr K CL "parts"
  na_Looked_many : NoAttr K CL "many"
  cls_Program : Cls K CP
  na_Program_told : NoAttr K CP "told"
  na_Program_many : NoAttr K CP "many"
  na_Program_rows_of_parts : NoAttr K CP "rows_of_parts"
  cls_Source : Cls K CS
  na_Source_line : NoAttr K CS "line"
  na_Source_many : NoAttr K CS "many"
  na_Source_parts : NoAttr K CS "parts"
  na_Source_counts : NoAttr K CS "counts"
  na_Source_name : NoAttr K CS "name"
  na_Source_own_ins : NoAttr K CS "own_ins"
  na_Source_known : NoAttr K CS "known"
  na_Source_bodies : NoAttr K CS "bodies"
  na_Source_whole : NoAttr K CS "whole"
end D

set_option Elab.async false
set_option linter.all false
set_option maxRecDepth 100000
set_option maxHeartbeats 4000000
namespace D
open PySem PySem.Spec PyProof.Rows L2
local macro_rules | `(tactic| walk_at "mul") => `(tactic| first | refine wO_mul (mulR (by first | decide | omega) (by first | decide | omega)) ?_ | refine wO_mul (mulL (by first | decide | omega) (by first | decide | omega)) ?_)
local macro_rules | `(tactic| walk_at "mod") => `(tactic| refine wO_mod (by first | decide | omega) ?_)
local macro_rules | `(tactic| walk_at "fdiv") => `(tactic| refine wO_fdiv (by first | decide | omega) (divS (by first | decide | omega)) ?_)
local macro_rules | `(tactic| walk_at "ix") => `(tactic| first | refine wI_tup (by rfl) ?_ | refine wI_lst (by rfl) ?_)
local macro_rules | `(tactic| walk_at "sl") => `(tactic| first | refine wSl_tup ?_ | refine wSl_lstF ?_)
local macro_rules | `(tactic| walk_at "obj") => `(tactic| refine ⟨_, _, _, rfl, by assumption, rfl, ?_⟩)
local macro_rules | `(tactic| walk_at "len") => `(tactic| first | refine wC_len (.tup _) ?_ | refine wC_len (.lst _) ?_ | refine wC_len (.loc (by assumption)) ?_)
section
variable {P : Program} {w : World} {K : PySem.W.Frag} {mg : Str → Option Value} {base : Heap} {CL CP CS pT : Addr}
abbrev s__law_mixed : Stmt := topS 48
abbrev N__law_mixed : List Str := ["_law_cell", "_law_k", "_law_number"]
theorem sc__law_mixed : FnScope N__law_mixed ["_law_cell", "_law_k"] (defScope s__law_mixed) := ⟨rfl, rfl, rfl, by decide +kernel, rfl, by decide +kernel, by decide +kernel⟩
def c__law_mixed : AC := fun xs μ Q _ => ∃ i k : Int, xs = [.int i, .int k] ∧ -(2 ^ 60) < i ∧ i < 2 ^ 60 ∧ 0 ≤ k ∧ k < 2 ^ 50 ∧ ∀ r : Int, 0 ≤ r → r < 2 ^ 30 → Q (.int r) μ
theorem ok__law_mixed {n : Nat}  {f : Addr} {fd : FuncData} (TX : Txt K mg w CL CP CS pT)  (F : Fun K "_law_mixed" "_law_mixed" s__law_mixed f fd) : FnD P w K mg base CX0 (n + 1) f fd ["_law_cell", "_law_k"] c__law_mixed := by
  refine fnD F sc__law_mixed (fun xs μ Q E hc => by obtain ⟨i, k, rfl, i1, i2, k0, k1, q⟩ := hc; rfl) (fun cdv Ao outer s H E xs μ Q E0 ar hc => ?_)
  obtain ⟨i, k, rfl, i1, i2, k0, k1, q⟩ := hc
  have nd := sc__law_mixed.nd
  refine wSs_cons (wS_set 2 (wE_bin (wE_bin (wE_bin (wE_bin (wE_bin (wE_name 0 rfl (wE_bin (wE_int (wE_bin (wE_int (wE_name 1 rfl ?_))))))))))) nd)
  walk_at "mul"
  refine wO_add ?_
  walk_at "mul"
  refine wE_int ?_
  walk_at "mul"
  refine wE_int ?_
  walk_at "mod"
  refine wE_bin (wE_bin (wE_int (wE_name 1 rfl ?_)))
  walk_at "mul"
  refine wE_name 1 rfl ?_
  walk_at "mul"
  refine wO_add ?_
  refine wE_bin (wE_int (wE_name 1 rfl ?_))
  walk_at "mul"
  refine wO_add ?_
  refine wSs_cons (wS_ret (wE_bin (wE_bin (wE_bin (wE_name 2 rfl (wE_int ?_))))))
  walk_at "mul"
  refine wE_int ?_
  walk_at "mod"
  refine wE_int ?_
  walk_at "fdiv"
  exact q _ (by omega) (by omega)

abbrev s__law_folded : Stmt := topS 49
abbrev N__law_folded : List Str := ["_law_script", "_law_found", "_law_k", "_law_cell"]
theorem sc__law_folded : FnScope N__law_folded ["_law_script"] (defScope s__law_folded) := ⟨rfl, rfl, rfl, by decide +kernel, rfl, by decide +kernel, by decide +kernel⟩
def c__law_folded : AC := fun xs μ Q _ => ∃ ns : List Int, xs = [.fls (ns.map A.int)] ∧ ns.length ≤ 63 ∧ ∀ fs : List Int, G64 fs → Q (.lst (fs.map A.int)) μ
theorem ok__law_folded {n : Nat}  {f : Addr} {fd : FuncData} (TX : Txt K mg w CL CP CS pT)  (F : Fun K "_law_folded" "_law_folded" s__law_folded f fd) : FnD P w K mg base CX0 (n + 1) f fd ["_law_script"] c__law_folded := by
  refine fnD F sc__law_folded (fun xs μ Q E hc => by obtain ⟨ns, rfl, hn, q⟩ := hc; rfl) (fun cdv Ao outer s H E xs μ Q E0 ar hc => ?_)
  obtain ⟨ns, rfl, hn, q⟩ := hc
  have nd := sc__law_folded.nd
  refine wSs_cons (wS_setLc [("_law_k", 2)] 1 (lcMap (wIt_range1 TX.b_range (wA_cons (wE_int (wA_nil ⟨_, rfl, by omega, by omega, ?_⟩))))) nd (blkOk_by (N := N__law_folded) (sc := defScope s__law_folded) (by decide +kernel)) (sw_true rfl rfl rfl (by decide +kernel)))
  refine ⟨by rw [rgA_len]; decide, (List.range 64).map (fun (i : Nat) => A.int (17 + (i : Int))), by simp [rgA_len], fun i y z hy hz s0 H0 C cl fp => ?_, fun p np => ?_⟩
  obtain ⟨hi, rfl⟩ := rgA_at hy
  refine wGw_name 2 (⟨rfl, fun s0 H0 C cl fp => (wE_bin (wE_int (wE_name 2 rfl ?_)))⟩) nd
  refine wO_add ?_
  refine ⟨?_, .refl _⟩
  obtain ⟨_, rfl⟩ := mapR_at hz
  rw [Int.zero_add]
  refine wSs_cons (wS_for (wIt_enum TX.b_enumerate (wA_cons (wE_name 0 rfl (wA_nil ⟨_, .inr rfl, ?_⟩)))))
  refine ⟨fun i Γ' μ' => ∃ (fs : List Int) (a b : Option D.A), Γ' = [some (.fls (ns.map A.int)), some (.loc p), a, b] ∧ μ' = μ.upd p (.lst (fs.map A.int)) ∧ G64 fs, ⟨(List.range 64).map (fun (i : Nat) => 17 + (i : Int)), _, _, rfl, by rw [List.map_map]; rfl, by simp, ?_⟩, fun i y Γ' μ' hy hI => ?_, fun Γ' μ' hI => ?_⟩
  · intro v hv
    simp only [List.mem_map, List.mem_range] at hv
    obtain ⟨j, hj, rfl⟩ := hv
    omega
  obtain ⟨fs, a, b, rfl, rfl, hg⟩ := hI
  obtain ⟨x, hx, rfl⟩ := enumA_at hy
  obtain ⟨cell, hc, rfl⟩ := map_at hx
  have hi : i < 63 := by have := (List.getElem?_eq_some_iff.mp hc).1; omega
  refine wG_tup (wGs_cons (wG_name 2 (wGs_cons (wG_name 3 (wGs_nil ?_) nd)) nd))
  refine wSs_cons (wS_asg (wE_bin (wE_bin (wE_bin (wE_ix (wE_name 1 rfl (wE_bin (wE_name 2 rfl (wE_int ?_)))))))))
  walk_at "mod"
  obtain ⟨v, hv, v0, v1⟩ := hg.at (i := (i : Int) % 64) (by omega) (by omega)
  refine wI_loc Mu.upd_same hv ?_
  refine wE_int ?_
  walk_at "mul"
  refine wE_name 3 rfl ?_
  refine wO_add ?_
  refine wE_int ?_
  walk_at "mod"
  refine wG_sub (wE_name 1 rfl (wE_bin (wE_name 2 rfl (wE_int ?_))))
  walk_at "mod"
  refine ⟨_, _, _, _, rfl, rfl, Mu.upd_same, ixN_pos (by omega) (by rw [List.length_map, hg.1]; omega), ?_⟩
  refine wSs_nil ?_
  exact ⟨_, _, _, rfl, by rw [Mu.upd_upd, set_map], hg.set _ (by omega) (by omega)⟩
  obtain ⟨fs, a, b, rfl, rfl, hg⟩ := hI
  refine wSs_cons (wS_for (wIt_range2 TX.b_range (wA_cons (wE_int (wA_cons (wE_int (wA_nil ⟨_, _, rfl, by omega, ?_⟩)))))))
  refine ⟨fun i Γ' μ' => ∃ (fs : List Int) (a b : Option D.A), Γ' = [some (.fls (ns.map A.int)), some (.loc p), a, b] ∧ μ' = μ.upd p (.lst (fs.map A.int)) ∧ G64 fs, ⟨fs, _, _, rfl, rfl, hg⟩, fun i y Γ' μ' hy hI => ?_, fun Γ' μ' hI => ?_⟩
  obtain ⟨fs, a, b, rfl, rfl, hg⟩ := hI
  obtain ⟨hi, rfl⟩ := rgA_at hy
  refine wG_name 2 ?_ nd
  refine wSs_cons (wS_asg (wE_bin (wE_bin (wE_ix (wE_name 1 rfl (wE_name 2 rfl ?_))))))
  obtain ⟨v, hv, v0, v1⟩ := hg.at (i := 1 + (i : Int)) (by omega) (by omega)
  refine wI_loc Mu.upd_same hv ?_
  refine wE_bin (wE_ix (wE_name 1 rfl (wE_bin (wE_name 2 rfl (wE_int ?_)))))
  refine wO_sub ?_
  obtain ⟨v2, hv2, v20, v21⟩ := hg.at (i := 1 + (i : Int) - 1) (by omega) (by omega)
  refine wI_loc Mu.upd_same hv2 ?_
  refine wE_int ?_
  walk_at "mul"
  refine wO_add ?_
  refine wE_int ?_
  walk_at "mod"
  refine wG_sub (wE_name 1 rfl (wE_name 2 rfl ?_))
  refine ⟨_, _, _, _, rfl, rfl, Mu.upd_same, ixN_pos (by omega) (by rw [List.length_map, hg.1]; omega), ?_⟩
  refine wSs_nil ?_
  exact ⟨_, _, _, rfl, by rw [Mu.upd_upd, set_map], hg.set _ (by omega) (by omega)⟩
  obtain ⟨fs, a, b, rfl, rfl, hg⟩ := hI
  refine wSs_frz 1 Mu.upd_same rfl ?_
  rw [Mu.del_upd np]
  refine wSs_cons (wS_ret (wE_name 1 rfl ?_))
  exact q fs hg

abbrev s__law_draw : Stmt := topS 50
abbrev N__law_draw : List Str := ["_law_m", "_law_many", "_law_k", "_law_at", "_law_cell"]
theorem sc__law_draw : FnScope N__law_draw ["_law_m", "_law_many"] (defScope s__law_draw) := ⟨rfl, rfl, rfl, by decide +kernel, rfl, by decide +kernel, by decide +kernel⟩
def c__law_draw : AC := fun xs μ Q _ => ∃ (m l : Addr) (many : Int) (c : Nat) (rm : Int) (mo : Option (List Str)), xs = [.loc m, .int many] ∧ 0 < many ∧ many < 2 ^ 100 ∧ Lx m l c rm mo μ ∧ c < 2 ^ 40 ∧ ∀ (r : Int) (μ' : Mu), 0 ≤ r → r < many → Lx m l (c + 1) rm mo μ' → Ls m l μ μ' → Q (.int r) μ'
theorem ok__law_draw {n : Nat}  {f : Addr} {fd : FuncData} (TX : Txt K mg w CL CP CS pT) (C__law_mixed : Cal P w K mg base n "_law_mixed" c__law_mixed) (F : Fun K "_law_draw" "_law_draw" s__law_draw f fd) : FnD P w K mg base CX0 (n + 1) f fd ["_law_m", "_law_many"] c__law_draw := by
  refine fnD F sc__law_draw (fun xs μ Q E hc => by obtain ⟨m, l, many, c, room, mo, rfl, m0, m1, lw, hc, q⟩ := hc; rfl) (fun cdv Ao outer s H E xs μ Q E0 ar hc => ?_)
  obtain ⟨m, l, many, c, room, mo, rfl, m0, m1, lw, hc, q⟩ := hc
  obtain ⟨⟨fs, left, at_, g1, g2, hg, hl, a0, a1⟩, ne⟩ := lw
  have nd := sc__law_draw.nd
  refine wSs_cons (wS_set 2 (wE_dget ar (wE_name 0 rfl (wE_str ?_))) nd)
  refine ⟨_, _, .inr "at", _, rfl, g1, rfl, rfl, ?_⟩
  refine wSs_cons (wS_dput ar (wE_bin (wE_name 2 rfl (wE_int ?_))))
  refine wO_add ?_
  refine wE_name 0 rfl (wE_str ?_)
  refine ⟨_, _, .inr "at", rfl, g1, rfl, szLt (by have := @dicL_len fs l at_ room mo; omega), ?_⟩
  rw [dicL_at]
  generalize hμ : μ.upd m _ = μ1
  have k1 : μ1 m = some (.dic (dicL fs l (at_ + 1) room mo)) := by rw [← hμ]; exact Mu.upd_same
  have k2 : μ1 l = some (.lst (left.map A.int)) := by rw [← hμ, Mu.upd_ne ne]; exact g2
  have kl : Ls m l μ μ1 := by rw [← hμ]; exact Ls.m
  refine wSs_cut (fun Γ' μ' => (∃ a b, Γ' = [some (.loc m), some (.int many), some (.int at_), a, b]) ∧ μ' = μ1) ?_ (fun Γ' μ' hP => ?_)
  refine wS_if (wT_cmp (wE_dget ar (wE_name 0 rfl (wE_str ?_))))
  refine ⟨_, _, .inr "left", _, rfl, k1, rfl, rfl, ?_⟩
  refine wE_lstF (wA_nil ⟨by show 0 ≤ sizeLine; decide, ?_⟩)
  refine wO_neL ar.u64 (.loc k2) (.lst []) (datInts left) datNil ?_
  rw [eqvNil]
  refine ⟨_, rfl, ?_⟩
  refine ⟨fun hk => ?_, fun hk => ?_⟩
  have hne : left ≠ [] := fun z => by subst z; simp at hk
  have hll : 0 < left.length := List.length_pos_iff.mpr hne
  refine wSs_cons (wS_set 3 (wE_bin (wE_name 2 rfl (wE_callB (id := "len") TX.b_len (by decide +kernel) (wA_cons (wE_dget ar (wE_name 0 rfl (wE_str ?_))))))) nd)
  refine ⟨_, _, .inr "left", _, rfl, k1, rfl, rfl, ?_⟩
  refine wA_nil ?_
  refine wC_len (.loc k2) ?_
  rw [List.length_map]
  walk_at "mod"
  refine wSs_cons (wS_set 4 (wE_ix (wE_dget ar (wE_name 0 rfl (wE_str ?_)))) nd)
  refine ⟨_, _, .inr "left", _, rfl, k1, rfl, rfl, ?_⟩
  refine wE_name 3 rfl ?_
  have hi : at_ % (left.length : Int) < left.length := Int.emod_lt_of_pos _ (by omega)
  have h0 : 0 ≤ at_ % (left.length : Int) := Int.emod_nonneg _ (by omega)
  have hn : (at_ % (left.length : Int)).toNat < left.length := by omega
  refine wI_loc k2 (y := .int left[(at_ % (left.length : Int)).toNat]) (atI_pos (by rw [List.getElem?_map, List.getElem?_eq_getElem hn]; rfl) h0) ?_
  refine wSs_cons (wS_if (wT_cmp (wE_name 4 rfl (wE_int ?_))))
  refine wO_gt ?_
  refine ⟨_, rfl, ?_⟩
  refine ⟨fun hk => ?_, fun hk => ?_⟩
  have hp : 0 < left[(at_ % (left.length : Int)).toNat] := of_decide_eq_true hk
  refine wSs_cons (wS_asg (wE_bin (wE_name 4 rfl (wE_name 1 rfl ?_))))
  refine wO_fdiv m0 (PyProof.noPylong_of_log2 (log2_100 m0 m1)) ?_
  refine wG_sub (wE_dget ar (wE_name 0 rfl (wE_str ?_)))
  refine ⟨_, _, .inr "left", _, rfl, k1, rfl, rfl, ?_⟩
  refine wE_name 3 rfl ?_
  refine ⟨_, _, _, _, rfl, rfl, k2, ixN_pos h0 (by rw [List.length_map]; omega), ?_⟩
  refine wSs_cons (wS_ret (wE_bin (wE_name 4 rfl (wE_name 1 rfl ?_))))
  refine wO_mod m0 ?_
  refine q _ _ (Int.emod_nonneg _ (by omega)) (Int.emod_lt_of_pos _ m0) ⟨⟨fs, left.set (at_ % (left.length : Int)).toNat (left[(at_ % (left.length : Int)).toNat] / many), at_ + 1, by rw [Mu.upd_ne (Ne.symm ne)]; exact k1, by rw [Mu.upd_same, ← set_map], hg, by rw [List.length_set]; exact hl, by omega, by omega⟩, ne⟩ (kl.trans Ls.l)
  refine wSs_nil ?_
  refine wSs_nil ?_
  exact ⟨⟨_, _, rfl⟩, rfl⟩
  skip
  refine wSs_nil ?_
  exact ⟨⟨_, _, rfl⟩, rfl⟩
  obtain ⟨⟨a, b, rfl⟩, rfl⟩ := hP
  refine wSs_cons (wS_ret (wE_bin (wE_cal C__law_mixed ar (by omega) (wA_cons (wE_cal C__law_mixed ar (by omega) (wA_cons (wE_bin (wE_ix (wE_dget ar (wE_name 0 rfl (wE_str ?_)))))))))))
  refine ⟨_, _, .inr "cells", _, rfl, k1, rfl, rfl, ?_⟩
  refine wE_bin (wE_name 2 rfl (wE_int ?_))
  walk_at "mod"
  obtain ⟨v, hv, v0, v1⟩ := hg.at (i := at_ % 64) (by omega) (by omega)
  refine wI_lst hv ?_
  refine wE_bin (wE_int (wE_bin (wE_name 2 rfl (wE_int ?_))))
  walk_at "fdiv"
  walk_at "mul"
  refine wO_add ?_
  refine wA_cons (wE_name 2 rfl (wA_nil ?_))
  refine ⟨_, _, rfl, by omega, by omega, by omega, by omega, fun r r0 r1 => ?_⟩
  refine wA_cons (wE_bin (wE_name 2 rfl (wE_int ?_)))
  refine wO_add ?_
  refine wA_nil ?_
  refine ⟨_, _, rfl, by omega, by omega, by omega, by omega, fun r2 r20 r21 => ?_⟩
  refine wE_name 1 rfl ?_
  walk_at "mod"
  exact q _ _ (Int.emod_nonneg _ (by omega)) (Int.emod_lt_of_pos _ m0) ⟨⟨fs, left, at_ + 1, k1, k2, hg, hl, by omega, by omega⟩, ne⟩ kl

abbrev s__law_begun : Stmt := topS 51
abbrev N__law_begun : List Str := ["_law_script", "_law_m", "_law_cell"]
theorem sc__law_begun : FnScope N__law_begun ["_law_script"] (defScope s__law_begun) := ⟨rfl, rfl, rfl, by decide +kernel, rfl, by decide +kernel, by decide +kernel⟩
def c__law_begun : AC := fun xs μ Q _ => ∃ ns : List Int, xs = [.fls (ns.map A.int)] ∧ ns.length ≤ 63 ∧ ∀ (m l : Addr) (μ' : Mu), μ m = none → Lx m l 0 58 none μ' → Sub μ μ' → Q (.loc m) μ'
theorem ok__law_begun {n : Nat}  {f : Addr} {fd : FuncData} (TX : Txt K mg w CL CP CS pT) (C__law_folded : Cal P w K mg base n "_law_folded" c__law_folded) (F : Fun K "_law_begun" "_law_begun" s__law_begun f fd) : FnD P w K mg base CX0 (n + 1) f fd ["_law_script"] c__law_begun := by
  refine fnD F sc__law_begun (fun xs μ Q E hc => by obtain ⟨ns, rfl, hn, q⟩ := hc; rfl) (fun cdv Ao outer s H E xs μ Q E0 ar hc => ?_)
  obtain ⟨ns, rfl, hn, q⟩ := hc
  have nd := sc__law_begun.nd
  refine wSs_cons (wS_set 1 (wE_disp (wE_str (wE_cal C__law_folded ar (by omega) (wA_cons (wE_name 0 rfl (wA_nil ?_)))))) nd)
  refine ⟨ns, rfl, hn, fun fs hg => ?_⟩
  refine wE_str (wE_lstF (wA_nil ⟨by show 0 ≤ sizeLine; decide, (wE_str (wE_int (wE_str (wE_int ?_))))⟩))
  refine ⟨[(.inr "cells", .lst (fs.map A.int)), (.inr "left", .lst []), (.inr "at", .int 0), (.inr "room", .int 58)], rfl, by show 4 ≤ 15; decide, fun m nm => ?_⟩
  have e1 : mergeA [] [((.inr "cells" : Key), A.lst (fs.map A.int)), (.inr "left", .lst []), (.inr "at", .int 0), (.inr "room", .int 58)] = [(.inr "cells", .lst (fs.map A.int)), (.inr "left", .lst []), (.inr "at", .int 0), (.inr "room", .int 58)] := rfl
  rw [e1]
  refine wSs_cons (wS_dput ar (wE_lc [("_law_cell", 2)] (lcMap (wIt_fls (wE_name 0 rfl ⟨_, rfl, ?_⟩))) nd (blkOk_by (N := N__law_begun) (sc := defScope s__law_begun) (by decide +kernel))))
  refine ⟨by rw [List.length_map]; exact Nat.le_trans hn (by decide), ns.map (fun i => A.int (if 10 ^ 18 ≤ i then i else 0)), by rw [List.length_map, List.length_map], fun i y z hy hz s0 H0 C cl fp => ?_, fun l nl => ?_⟩
  obtain ⟨v, hv, rfl⟩ := map_at hy
  obtain ⟨v2, hv2, rfl⟩ := map_at hz
  obtain rfl : v = v2 := Option.some.inj (hv.symm.trans hv2)
  refine wGw_name 2 (⟨rfl, fun s0 H0 C cl fp => ?_⟩) nd
  refine wE_if (wT_cmp (wE_name 2 rfl (wE_bin (wE_int (wE_int ?_)))))
  refine wO_pow (by decide) ?_
  refine wO_ge ?_
  refine ⟨_, rfl, ?_⟩
  refine ⟨fun hk => ?_, fun hk => ?_⟩
  refine wE_name 2 rfl ?_
  have hk2 : (10 : Int) ^ 18 ≤ v := of_decide_eq_true hk
  exact ⟨by rw [if_pos hk2], .refl _⟩
  refine wE_int ?_
  refine ⟨?_, .refl _⟩
  have hk2 : ¬ (10 : Int) ^ 18 ≤ v := of_decide_eq_false hk
  rw [if_neg hk2]
  refine wE_name 1 rfl (wE_str ?_)
  have nlm : l ≠ m := fun z => by rw [z, Mu.upd_same] at nl; cases nl
  have nl0 : μ l = none := by rw [Mu.upd_ne nlm] at nl; exact nl
  refine ⟨_, _, .inr "left", rfl, by rw [Mu.upd_ne (Ne.symm nlm)]; exact Mu.upd_same, rfl, by show 4 < sizeLine; decide, ?_⟩
  have e2 : putA [(.inr "cells", .lst (fs.map A.int)), (.inr "left", .lst []), (.inr "at", .int 0), (.inr "room", .int 58)] (.inr "left" : Key) (.loc l) = [(.inr "cells", .lst (fs.map A.int)), (.inr "left", .loc l), (.inr "at", .int 0), (.inr "room", .int 58)] := rfl
  rw [e2]
  refine wSs_cons (wS_ret (wE_name 1 rfl ?_))
  refine q m l _ nm ⟨⟨fs, ns.map (fun i => if 10 ^ 18 ≤ i then i else 0), 0, Mu.upd_same, ?_, hg, by rw [List.length_map]; exact hn, Int.le_refl _, Int.le_refl _⟩, nlm⟩ ?_
  · rw [Mu.upd_ne nlm, Mu.upd_same, List.map_map]; rfl
  · intro p o h
    have h1 : p ≠ m := fun z => by rw [z, nm] at h; cases h
    have h2 : p ≠ l := fun z => by rw [z, nl0] at h; cases h
    rw [Mu.upd_ne h1, Mu.upd_ne h2, Mu.upd_ne h1]
    exact h

end
end D

set_option Elab.async false
set_option linter.all false
set_option maxRecDepth 100000
set_option maxHeartbeats 4000000
namespace D
open PySem PySem.Spec PyProof.Rows L2
local macro_rules | `(tactic| walk_at "mul") => `(tactic| first | refine wO_mul (mulR (by first | decide | omega) (by first | decide | omega)) ?_ | refine wO_mul (mulL (by first | decide | omega) (by first | decide | omega)) ?_)
local macro_rules | `(tactic| walk_at "mod") => `(tactic| refine wO_mod (by first | decide | omega) ?_)
local macro_rules | `(tactic| walk_at "fdiv") => `(tactic| refine wO_fdiv (by first | decide | omega) (divS (by first | decide | omega)) ?_)
local macro_rules | `(tactic| walk_at "ix") => `(tactic| first | refine wI_tup (by rfl) ?_ | refine wI_lst (by rfl) ?_)
local macro_rules | `(tactic| walk_at "sl") => `(tactic| first | refine wSl_tup ?_ | refine wSl_lstF ?_)
local macro_rules | `(tactic| walk_at "obj") => `(tactic| refine ⟨_, _, _, rfl, by assumption, rfl, ?_⟩)
local macro_rules | `(tactic| walk_at "len") => `(tactic| first | refine wC_len (.tup _) ?_ | refine wC_len (.lst _) ?_ | refine wC_len (.loc (by assumption)) ?_)
section
variable {P : Program} {w : World} {K : PySem.W.Frag} {mg : Str → Option Value} {base : Heap} {CL CP CS pT : Addr}
abbrev s_is_whole : Stmt := topS 3
abbrev N_is_whole : List Str := ["thing"]
theorem sc_is_whole : FnScope N_is_whole ["thing"] (defScope s_is_whole) := ⟨rfl, rfl, rfl, by decide +kernel, rfl, by decide +kernel, by decide +kernel⟩
def wholeA : D.A → Bool
  | .int _ => true
  | _ => false
/-- things whose built-in class is known -/
def Kd (μ : Mu) (x : D.A) : Prop := ∃ nm k, tyN μ x = some nm ∧ kitB nm "int" = some k ∧ (k = false → wholeA x = false) ∧ ∃ k2, kitB nm "bool" = some k2 ∧ (k = true → wholeA x = !k2)
def c_is_whole : AC := fun xs μ Q _ => ∃ x : D.A, xs = [x] ∧ Kd μ x ∧ Q (.bl (wholeA x)) μ
theorem ok_is_whole {n : Nat}  {f : Addr} {fd : FuncData} (TX : Txt K mg w CL CP CS pT)  (F : Fun K "is_whole" "is_whole" s_is_whole f fd) : FnD P w K mg base CX0 (n + 1) f fd ["thing"] c_is_whole := by
  refine fnD F sc_is_whole (fun xs μ Q E hc => by obtain ⟨x, rfl, hx, q⟩ := hc; rfl) (fun cdv Ao outer s H E xs μ Q E0 ar hc => ?_)
  obtain ⟨x, rfl, hx, q⟩ := hc
  obtain ⟨nm, k, t1, t2, t3, k2, t4, t5⟩ := hx
  have nd := sc_is_whole.nd
  refine wSs_cons (wS_ret ?_)
  refine wE_and (wE_callB (id := "isinstance") TX.b_isinstance (by decide +kernel) (wA_cons (wE_name 0 rfl (wA_cons (wE_type (n := "int") TX.b_int (by decide +kernel) (wA_nil ?_))))))
  refine wC_isi t1 t2 ?_
  refine ⟨_, rfl, and_flip (fun hk => ?_) (fun hk => ?_)⟩
  · rw [t3 hk] at q; exact q
  rw [t5 hk] at q
  refine wE_one (wE_not (wE_callB (id := "isinstance") TX.b_isinstance (by decide +kernel) (wA_cons (wE_name 0 rfl (wA_cons (wE_type (n := "bool") TX.b_bool (by decide +kernel) (wA_nil ?_)))))))
  refine wC_isi t1 t4 ?_
  refine ⟨_, rfl, ?_⟩
  exact q

abbrev s_common : Stmt := topS 4
abbrev N_common : List Str := ["one", "other"]
theorem sc_common : FnScope N_common ["one", "other"] (defScope s_common) := ⟨rfl, rfl, rfl, by decide +kernel, rfl, by decide +kernel, by decide +kernel⟩
def c_common : AC := fun xs μ Q _ => ∃ a b : Int, xs = [.int a, .int b] ∧ Q (.int (Int.gcd a b : Nat)) μ
theorem ok_common {n : Nat}  {f : Addr} {fd : FuncData} (TX : Txt K mg w CL CP CS pT)  (F : Fun K "common" "common" s_common f fd) : FnD P w K mg base CX0 (n + 1) f fd ["one", "other"] c_common := by
  refine fnD F sc_common (fun xs μ Q E hc => by obtain ⟨a, b, rfl, q⟩ := hc; rfl) (fun cdv Ao outer s H E xs μ Q E0 ar hc => ?_)
  obtain ⟨a, b, rfl, q⟩ := hc
  have nd := sc_common.nd
  refine wSs_cons (wS_par 0 1 (wA_cons (wE_callB (id := "abs") TX.b_abs (by decide +kernel) (wA_cons (wE_name 0 rfl (wA_nil ?_))))) nd)
  refine wC_abs ?_
  refine wA_cons (wE_callB (id := "abs") TX.b_abs (by decide +kernel) (wA_cons (wE_name 1 rfl (wA_nil ?_))))
  refine wC_abs ?_
  refine wA_nil ⟨_, _, rfl, (wSs_cons ?_)⟩
  refine wS_while (fun m Γ' μ' => ∃ x y : Nat, Γ' = [some (.int x), some (.int y)] ∧ μ = μ' ∧ Nat.gcd x y = Int.gcd a b ∧ y ≤ m) b.natAbs ⟨a.natAbs, b.natAbs, ?_, rfl, rfl, Nat.le_refl _⟩ (fun m Γ' μ' hW => ?_)
  · have e1 : (if a < 0 then -a else a) = (a.natAbs : Int) := by split <;> omega
    have e2 : (if b < 0 then -b else b) = (b.natAbs : Int) := by split <;> omega
    rw [e1, e2]; rfl
  obtain ⟨x, y, rfl, rfl, hg, hy⟩ := hW
  refine wT_cmp (wE_name 1 rfl (wE_int ?_))
  refine wO_gt ?_
  refine ⟨_, rfl, ?_⟩
  refine ⟨fun hk => ?_, fun hk => ?_⟩
  have hk2 : (0 : Int) < y := of_decide_eq_true hk
  refine wSs_cons (wS_par 0 1 (wA_cons (wE_name 1 rfl (wA_cons (wE_bin (wE_name 0 rfl (wE_name 1 rfl ?_)))))) nd)
  walk_at "mod"
  refine wA_nil ⟨_, _, rfl, (wSs_nil ?_)⟩
  refine ⟨x % y, Nat.lt_of_lt_of_le (Nat.mod_lt _ (by omega)) hy, y, x % y, rfl, rfl, ?_, Nat.le_refl _⟩
  rw [← hg, Nat.gcd_comm x y, Nat.gcd_rec y x, Nat.gcd_comm]
  have hk2 : ¬ (0 : Int) < y := of_decide_eq_false hk
  obtain rfl : y = 0 := by omega
  rw [Nat.gcd_zero_right] at hg
  refine wSs_cons (wS_ret (wE_name 0 rfl ?_))
  rw [hg]; exact q

abbrev s_is_fraction : Stmt := topS 5
abbrev N_is_fraction : List Str := ["thing"]
theorem sc_is_fraction : FnScope N_is_fraction ["thing"] (defScope s_is_fraction) := ⟨rfl, rfl, rfl, by decide +kernel, rfl, by decide +kernel, by decide +kernel⟩
/-- two numbers in lowest terms, the lower one above nought -/
def isFr : D.A → Bool
  | .tup [.int n, .int d] => decide (0 < d) && decide (Int.gcd n d = 1)
  | _ => false
theorem isFr_not {x : D.A} (h : ∀ n d : Int, x ≠ .tup [.int n, .int d]) : isFr x = false := by
  unfold isFr
  split
  · exact absurd rfl (h _ _)
  · rfl
/-- what may be asked: no tuple, or a tuple of things whose class is known -/
def FrK (μ : Mu) (x : D.A) : Prop := (∃ nm, tyN μ x = some nm ∧ kitB nm "tuple" = some false ∧ isFr x = false) ∨ ∃ ys, x = .tup ys ∧ ∀ y ∈ ys, Kd μ y
def c_is_fraction : AC := fun xs μ Q _ => ∃ x : D.A, xs = [x] ∧ FrK μ x ∧ Q (.bl (isFr x)) μ
theorem ok_is_fraction {n : Nat}  {f : Addr} {fd : FuncData} (TX : Txt K mg w CL CP CS pT) (C_is_whole : Cal P w K mg base n "is_whole" c_is_whole) (C_common : Cal P w K mg base n "common" c_common) (F : Fun K "is_fraction" "is_fraction" s_is_fraction f fd) : FnD P w K mg base CX0 (n + 1) f fd ["thing"] c_is_fraction := by
  refine fnD F sc_is_fraction (fun xs μ Q E hc => by obtain ⟨x, rfl, hx, q⟩ := hc; rfl) (fun cdv Ao outer s H E xs μ Q E0 ar hc => ?_)
  obtain ⟨x, rfl, hx, q⟩ := hc
  have nd := sc_is_fraction.nd
  refine wSs_cons (wS_if ?_)
  refine wT.imp (QB := fun k μ' => μ = μ' ∧ (k = true → isFr x = false) ∧ (k = false → ∃ n d : Int, x = .tup [.int n, .int d])) ?_ (fun k μ' hq => ?_)
  refine wT_chain (wW_or (wT_not (wT_val (wE_callB (id := "isinstance") TX.b_isinstance (by decide +kernel) (wA_cons (wE_name 0 rfl (wA_cons (wE_type (n := "tuple") TX.b_tuple (by decide +kernel) (wA_nil ?_)))))))))
  have e1 : ∃ nm k, tyN μ x = some nm ∧ kitB nm "tuple" = some k ∧ (k = false → isFr x = false) ∧ (k = true → ∃ ys, x = .tup ys ∧ ∀ y ∈ ys, Kd μ y) := by
    rcases hx with ⟨nm, t1, t2, t3⟩ | ⟨ys, rfl, h⟩
    · exact ⟨nm, false, t1, t2, (fun _ => t3), fun z => nomatch z⟩
    · exact ⟨_, true, rfl, rfl, (fun z => nomatch z), fun _ => ⟨ys, rfl, h⟩⟩
  obtain ⟨nm, k, t1, t2, t3, t4⟩ := e1
  refine wC_isi t1 t2 ?_
  refine ⟨_, rfl, ?_⟩
  refine ⟨fun hk => ?_, fun hk => ?_⟩
  · exact ⟨rfl, fun _ => t3 (by simpa using hk), fun z => nomatch z⟩
  obtain ⟨ys, rfl, hy⟩ := t4 (by simpa using hk)
  refine wW_or (wT_cmp (wE_callB (id := "len") TX.b_len (by decide +kernel) (wA_cons (wE_name 0 rfl (wA_nil ?_)))))
  refine wC_len (.tup _) ?_
  refine wE_int ?_
  refine wO_neI ?_
  refine ⟨_, rfl, ?_⟩
  refine ⟨fun hk => ?_, fun hk => ?_⟩
  · refine ⟨rfl, fun _ => ?_, fun z => nomatch z⟩
    have hk2 : ¬ ((ys.length : Int) = 2) := by simpa using hk
    refine isFr_not fun n d z => ?_
    have z2 := (D.A.tup.injEq _ _).mp z
    rw [z2] at hk2
    exact hk2 rfl
  obtain ⟨u, v, rfl⟩ : ∃ u v, ys = [u, v] := by
    have hk2 : (ys.length : Int) = 2 := by simpa using hk
    have h2 : ys.length = 2 := by omega
    rcases ys with _ | ⟨u, _ | ⟨v, _ | ⟨_, _⟩⟩⟩ <;> simp at h2
    exact ⟨u, v, rfl⟩
  refine wW_or (wT_not (wT_val (wE_cal C_is_whole ar (by omega) (wA_cons (wE_ix (wE_name 0 rfl (wE_int ?_)))))))
  walk_at "ix"
  refine wA_nil ?_
  refine ⟨u, rfl, hy u (by simp), ?_⟩
  refine ⟨_, rfl, ?_⟩
  refine ⟨fun hk => ?_, fun hk => ?_⟩
  · refine ⟨rfl, fun _ => ?_, fun z => nomatch z⟩
    have hk2 : wholeA u = false := by simpa using hk
    refine isFr_not fun n d z => ?_
    simp only [D.A.tup.injEq, List.cons.injEq] at z
    rw [z.1] at hk2
    simp [wholeA] at hk2
  obtain ⟨n, rfl⟩ : ∃ n, u = .int n := by
    have hk2 : wholeA u = true := by simpa using hk
    cases u with
    | int n => exact ⟨n, rfl⟩
    | _ => simp [wholeA] at hk2
  refine wW_or1 (wT_not (wT_val (wE_cal C_is_whole ar (by omega) (wA_cons (wE_ix (wE_name 0 rfl (wE_int ?_)))))))
  walk_at "ix"
  refine wA_nil ?_
  refine ⟨v, rfl, hy v (by simp), ?_⟩
  refine ⟨_, rfl, ?_⟩
  refine ⟨rfl, fun z => ?_, fun z => ?_⟩
  · have hk2 : wholeA v = false := by simpa using z
    refine isFr_not fun n d z => ?_
    simp only [D.A.tup.injEq, List.cons.injEq] at z
    rw [z.2.1] at hk2
    simp [wholeA] at hk2
  · have hk2 : wholeA v = true := by simpa using z
    cases v with
    | int d => exact ⟨n, d, rfl⟩
    | _ => simp [wholeA] at hk2
  obtain ⟨rfl, g1, g2⟩ := hq
  refine ⟨fun hk => ?_, fun hk => ?_⟩
  refine wSs_cons (wS_ret (wE_bl ?_))
  rw [g1 hk] at q; exact q
  obtain ⟨n, d, rfl⟩ := g2 hk
  refine wSs_nil ?_
  refine wSs_cons (wS_ret ?_)
  refine wE_and (wE_cmp (wE_ix (wE_name 0 rfl (wE_int ?_))))
  walk_at "ix"
  refine wE_int ?_
  refine wO_gt ?_
  refine ⟨_, rfl, and_flip (fun hk => ?_) (fun hk => ?_)⟩
  · have e : isFr (.tup [.int n, .int d]) = false := by simp only [isFr, hk, Bool.false_and]
    rw [e] at q; exact q
  have e : isFr (.tup [.int n, .int d]) = decide ((Int.gcd n d : Int) = 1) := by
    simp only [isFr, hk, Bool.true_and]
    exact decide_eq_decide.mpr (by omega)
  rw [e] at q
  refine wE_one (wE_cmp (wE_cal C_common ar (by omega) (wA_cons (wE_ix (wE_name 0 rfl (wE_int ?_))))))
  walk_at "ix"
  refine wA_cons (wE_ix (wE_name 0 rfl (wE_int ?_)))
  walk_at "ix"
  refine wA_nil ?_
  refine ⟨n, d, rfl, ?_⟩
  refine wE_int ?_
  refine wO_eqI ?_
  exact q

abbrev s_is_name : Stmt := topS 32
abbrev N_is_name : List Str := ["thing", "sign"]
theorem sc_is_name : FnScope N_is_name ["thing"] (defScope s_is_name) := ⟨rfl, rfl, rfl, by decide +kernel, rfl, by decide +kernel, by decide +kernel⟩
theorem split_bars : Txt.split "in out part give call repeat end plus less times over power most least size pick copy" " " = BARS := by decide +kernel
def c_is_name : AC := fun xs μ Q _ => ∃ (x : D.A) (nm : String) (k : Bool), xs = [x] ∧ tyN μ x = some nm ∧ kitB nm "str" = some k ∧ (k = true → ∃ w, x = .str w ∧ w.length ≤ 1000) ∧ (k = false → isNm x = false) ∧ Q (.bl (isNm x)) μ
theorem ok_is_name {n : Nat}  {f : Addr} {fd : FuncData} (TX : Txt K mg w CL CP CS pT)  (F : Fun K "is_name" "is_name" s_is_name f fd) : FnD P w K mg base CX0 (n + 1) f fd ["thing"] c_is_name := by
  refine fnD F sc_is_name (fun xs μ Q E hc => by obtain ⟨x, nm, k, rfl, t1, t2, t3, t4, q⟩ := hc; rfl) (fun cdv Ao outer s H E xs μ Q E0 ar hc => ?_)
  obtain ⟨x, nm, k, rfl, t1, t2, t3, t4, q⟩ := hc
  have nd := sc_is_name.nd
  refine wSs_cons (wS_if ?_)
  refine wT.imp (QB := fun k' μ' => μ = μ' ∧ (k' = true → isNm x = false) ∧ (k' = false → ∃ w, x = .str w ∧ w.length ≤ 1000 ∧ isNm x = letA w)) ?_ (fun k μ' hq => ?_)
  refine wT_chain (wW_or (wT_not (wT_val (wE_callB (id := "isinstance") TX.b_isinstance (by decide +kernel) (wA_cons (wE_name 0 rfl (wA_cons (wE_type (n := "str") TX.b_str (by decide +kernel) (wA_nil ?_)))))))))
  refine wC_isi t1 t2 ?_
  refine ⟨_, rfl, ?_⟩
  refine ⟨fun hk => ?_, fun hk => ?_⟩
  · exact ⟨rfl, fun _ => t4 (by simpa using hk), fun z => nomatch z⟩
  obtain ⟨w, rfl, hw⟩ := t3 (by simpa using hk)
  refine wW_or (wT_not (wT_chain2 (wE_int (wE_callB (id := "len") TX.b_len (by decide +kernel) (wA_cons (wE_name 0 rfl (wA_nil ?_)))))))
  refine wC_lenS (szOk (by omega)) ?_
  refine wO_le ?_
  refine ⟨_, rfl, and_flip (fun hk => ?_) (fun hk => ?_)⟩
  · exact ⟨fun _ => ⟨rfl, fun _ => by simp only [isNm]; rw [hk]; rfl, fun z => nomatch z⟩, fun z => nomatch z⟩
  have h1 := hk
  refine wE_glob TX.k_MOST_LETTERS ?_
  refine wO_le ?_
  refine ⟨_, rfl, ?_⟩
  refine ⟨fun hk => ?_, fun hk => ?_⟩
  · have h2 : decide ((w.length : Int) ≤ 8) = false := by simpa using hk
    exact ⟨rfl, fun _ => by simp only [isNm]; rw [h1, h2]; rfl, fun z => nomatch z⟩
  have h2 : decide ((w.length : Int) ≤ 8) = true := by simpa using hk
  refine wW_or1 (wT_cmp (wE_name 0 rfl (wE_glob TX.k_BARRED ?_)))
  refine wO_in (.tup _) rfl (by rfl) ?_
  refine ⟨_, rfl, ?_⟩
  refine ⟨rfl, fun z => ?_, fun z => ⟨w, rfl, hw, ?_⟩⟩
  · simp only [isNm]; rw [h1, h2, z]; rfl
  · simp only [isNm]; rw [h1, h2, z]; rfl
  obtain ⟨rfl, g1, g2⟩ := hq
  refine ⟨fun hk => ?_, fun hk => ?_⟩
  refine wSs_cons (wS_ret (wE_bl ?_))
  rw [g1 hk] at q; exact q
  obtain ⟨w, rfl, hw, e⟩ := g2 hk
  rw [e] at q
  refine wSs_nil ?_
  refine wSs_cons (wS_ret (wE_callB (id := "all") TX.b_all (by decide +kernel) (wA_cons (wE_lcF (own := [("sign", 1)]) (wIt_str (wE_name 0 rfl ⟨_, rfl, ?_⟩)) nd (blkOk_by (N := N_is_name) (sc := defScope s_is_name) (by decide +kernel))))))
  refine ⟨szOk (by simp only [signsA, List.length_map]; show w.cps.toList.length ≤ _; rw [Array.length_toList]; exact Nat.le_trans hw (by decide)), (w.cps.toList.map fun ch => decide (ch ∈ LETS.cps.toList)).map D.A.bl, by simp [signsA], fun j y z hy hz s0 H0 C cl fp => ?_, ?_⟩
  obtain ⟨ch, h3, rfl⟩ := map_at hy
  obtain ⟨bz, h4, rfl⟩ := map_at hz
  obtain ⟨ch2, h5, rfl⟩ := map_at h4
  obtain rfl : ch = ch2 := Option.some.inj (h3.symm.trans h5)
  refine wGw_name 1 (⟨rfl, fun s0 H0 C cl fp => (wE_cmp (wE_name 1 rfl (wE_glob TX.k_LETTERS ?_)))⟩) nd
  refine wO_inSign ?_
  refine ⟨?_, .refl _⟩
  rfl
  refine wA_nil ?_
  refine wC_all rfl (.lst _) ?_
  rw [show ((w.cps.toList.map fun ch => decide (ch ∈ LETS.cps.toList)).all id) = letA w by unfold letA; rw [List.all_map]; rfl]
  exact q

abbrev s_are_names : Stmt := topS 33
abbrev N_are_names : List Str := ["thing", "most", "name"]
theorem sc_are_names : FnScope N_are_names ["thing", "most"] (defScope s_are_names) := ⟨rfl, rfl, rfl, by decide +kernel, rfl, by decide +kernel, by decide +kernel⟩
def c_are_names : AC := fun xs μ Q _ => ∃ (ws : List Str) (most : Int), xs = [.tup (ws.map D.A.str), .int most] ∧ 1 ≤ ws.length ∧ (ws.length : Int) ≤ most ∧ ws.length ≤ 1000 ∧ (∀ w ∈ ws, isNm (.str w) = true) ∧ Q (.bl true) μ
theorem ok_are_names {n : Nat}  {f : Addr} {fd : FuncData} (TX : Txt K mg w CL CP CS pT) (C_is_name : Cal P w K mg base n "is_name" c_is_name) (F : Fun K "are_names" "are_names" s_are_names f fd) : FnD P w K mg base CX0 (n + 1) f fd ["thing", "most"] c_are_names := by
  refine fnD F sc_are_names (fun xs μ Q E hc => by obtain ⟨ws, most, rfl, h1, h2, h3, h4, q⟩ := hc; rfl) (fun cdv Ao outer s H E xs μ Q E0 ar hc => ?_)
  obtain ⟨ws, most, rfl, h1, h2, h3, h4, q⟩ := hc
  have nd := sc_are_names.nd
  refine wSs_cons (wS_ret ?_)
  refine wE_and (wE_callB (id := "isinstance") TX.b_isinstance (by decide +kernel) (wA_cons (wE_name 0 rfl (wA_cons (wE_type (n := "tuple") TX.b_tuple (by decide +kernel) (wA_nil ?_))))))
  refine wC_isi (n := "tuple") (k := true) rfl rfl ?_
  refine ⟨_, rfl, and_flip (fun hk => ?_) (fun hk => ?_)⟩
  · exact nomatch hk
  refine wE_and (wE_chain2 (wE_int (wE_callB (id := "len") TX.b_len (by decide +kernel) (wA_cons (wE_name 0 rfl (wA_nil ?_))))))
  refine wC_len (.tup _) ?_
  rw [List.length_map]
  refine wO_le ?_
  refine ⟨_, rfl, and_flip (fun hk => ?_) (fun hk => ?_)⟩
  · exact absurd (of_decide_eq_false hk) (by omega)
  refine wE_name 1 rfl ?_
  refine wO_le ?_
  refine ⟨_, rfl, and_flip (fun hk => ?_) (fun hk => ?_)⟩
  · exact absurd (of_decide_eq_false hk) (by omega)
  refine wE_one (wE_callB (id := "all") TX.b_all (by decide +kernel) (wA_cons (wE_lcF (own := [("name", 2)]) (wIt_tup (wE_name 0 rfl ⟨_, rfl, ?_⟩)) nd (blkOk_by (N := N_are_names) (sc := defScope s_are_names) (by decide +kernel)))))
  refine ⟨szOk (by rw [List.length_map]; omega), (ws.map fun _ => true).map D.A.bl, by simp, fun i y z hy hz s0 H0 C cl fp => ?_, ?_⟩
  obtain ⟨w, g1, rfl⟩ := map_at hy
  obtain ⟨bz, g2, rfl⟩ := map_at hz
  obtain ⟨w2, g3, rfl⟩ := map_at g2
  have hw1 := h4 w (List.mem_of_getElem? g1)
  refine wGw_name 2 (⟨rfl, fun s0 H0 C cl fp => (wE_cal C_is_name ar.bk (by omega) (wA_cons (wE_name 2 rfl (wA_nil ?_))))⟩) nd
  refine ⟨.str w, "str", true, rfl, rfl, rfl, (fun _ => ⟨w, rfl, by have := isNm_wd hw1; omega⟩), (fun z => nomatch z), ?_⟩
  rw [hw1]
  refine ⟨?_, .refl _⟩
  rfl
  refine wA_nil ?_
  refine wC_all rfl (.lst _) ?_
  rw [show ((ws.map fun _ => true).all id) = true by simp]
  exact q

abbrev s_are_unlike : Stmt := topS 34
abbrev N_are_unlike : List Str := ["names"]
theorem sc_are_unlike : FnScope N_are_unlike ["names"] (defScope s_are_unlike) := ⟨rfl, rfl, rfl, by decide +kernel, rfl, by decide +kernel, by decide +kernel⟩
def c_are_unlike : AC := fun xs μ Q _ => ∃ ws : List Str, xs = [.tup (ws.map D.A.str)] ∧ ws.length ≤ 1000 ∧ ws.Nodup ∧ Q (.bl true) μ
theorem ok_are_unlike {n : Nat}  {f : Addr} {fd : FuncData} (TX : Txt K mg w CL CP CS pT)  (F : Fun K "are_unlike" "are_unlike" s_are_unlike f fd) : FnD P w K mg base CX0 (n + 1) f fd ["names"] c_are_unlike := by
  refine fnD F sc_are_unlike (fun xs μ Q E hc => by obtain ⟨ws, rfl, h1, h2, q⟩ := hc; rfl) (fun cdv Ao outer s H E xs μ Q E0 ar hc => ?_)
  obtain ⟨ws, rfl, h1, h2, q⟩ := hc
  have nd := sc_are_unlike.nd
  refine wSs_cons (wS_ret (wE_cmp (wE_lenSet TX.b_len TX.b_set (wE_name 0 rfl ?_))))
  refine ⟨ws, rfl, h1, ?_⟩
  rw [unl_nodup _ ws rfl h2]
  refine wE_callB (id := "len") TX.b_len (by decide +kernel) (wA_cons (wE_name 0 rfl (wA_nil ?_)))
  refine wC_len (.tup _) ?_
  rw [List.length_map]
  refine wO_eqI ?_
  rw [decide_eq_true rfl]; exact q

abbrev s_is_among : Stmt := topS 35
abbrev N_is_among : List Str := ["thing", "least", "most"]
theorem sc_is_among : FnScope N_is_among ["thing", "least", "most"] (defScope s_is_among) := ⟨rfl, rfl, rfl, by decide +kernel, rfl, by decide +kernel, by decide +kernel⟩
def c_is_among : AC := fun xs μ Q _ => ∃ i j k : Int, xs = [.int i, .int j, .int k] ∧ j ≤ i ∧ i ≤ k ∧ Q (.bl true) μ
theorem ok_is_among {n : Nat}  {f : Addr} {fd : FuncData} (TX : Txt K mg w CL CP CS pT) (C_is_whole : Cal P w K mg base n "is_whole" c_is_whole) (F : Fun K "is_among" "is_among" s_is_among f fd) : FnD P w K mg base CX0 (n + 1) f fd ["thing", "least", "most"] c_is_among := by
  refine fnD F sc_is_among (fun xs μ Q E hc => by obtain ⟨i, j, k, rfl, h1, h2, q⟩ := hc; rfl) (fun cdv Ao outer s H E xs μ Q E0 ar hc => ?_)
  obtain ⟨i, j, k, rfl, h1, h2, q⟩ := hc
  have nd := sc_is_among.nd
  refine wSs_cons (wS_ret ?_)
  refine wE_and (wE_cal C_is_whole ar (by omega) (wA_cons (wE_name 0 rfl (wA_nil ?_))))
  refine ⟨_, rfl, ⟨"int", true, rfl, rfl, (fun z => nomatch z), false, rfl, fun _ => rfl⟩, ?_⟩
  refine ⟨_, rfl, and_flip (fun hk => ?_) (fun hk => ?_)⟩
  · exact nomatch hk
  refine wE_one (wE_chain2 (wE_name 1 rfl (wE_name 0 rfl ?_)))
  refine wO_le ?_
  refine ⟨_, rfl, and_flip (fun hk => ?_) (fun hk => ?_)⟩
  · exact absurd (of_decide_eq_false hk) (by omega)
  refine wE_name 2 rfl ?_
  refine wO_le ?_
  rw [decide_eq_true h2]; exact q

abbrev s_is_thing : Stmt := topS 36
abbrev N_is_thing : List Str := ["thing", "told"]
theorem sc_is_thing : FnScope N_is_thing ["thing", "told"] (defScope s_is_thing) := ⟨rfl, rfl, rfl, by decide +kernel, rfl, by decide +kernel, by decide +kernel⟩
theorem isFr_fr {n d : Int} (h : Fr n d) : isFr (.tup [.int n, .int d]) = true := by simp only [isFr, Bool.and_eq_true, decide_eq_true_eq]; exact ⟨h.pos, h.low⟩
theorem Kd_int {μ : Mu} (i : Int) : Kd μ (.int i) := ⟨"int", true, rfl, rfl, (fun z => nomatch z), false, rfl, fun _ => rfl⟩
def c_is_thing : AC := fun xs μ Q _ => ∃ (x : D.A) (t : Addr) (T : List Str), xs = [x, .loc t] ∧ μ t = some (.dic (Tk T)) ∧ ThOk T x ∧ Q (.bl true) μ
theorem ok_is_thing {n : Nat}  {f : Addr} {fd : FuncData} (TX : Txt K mg w CL CP CS pT) (C_is_fraction : Cal P w K mg base n "is_fraction" c_is_fraction) (F : Fun K "is_thing" "is_thing" s_is_thing f fd) : FnD P w K mg base CX0 (n + 1) f fd ["thing", "told"] c_is_thing := by
  refine fnD F sc_is_thing (fun xs μ Q E hc => by obtain ⟨x, t, T, rfl, ht, hx, q⟩ := hc; rfl) (fun cdv Ao outer s H E xs μ Q E0 ar hc => ?_)
  obtain ⟨x, t, T, rfl, ht, hx, q⟩ := hc
  obtain ⟨nm, k, t1, t2, t3, t4⟩ : ∃ nm k, tyN μ x = some nm ∧ kitB nm "str" = some k ∧ (k = true → ∃ w, x = .str w ∧ w ∈ T) ∧ (k = false → ∃ n d, x = .tup [.int n, .int d] ∧ Fr n d) := by
    rcases hx with ⟨w, rfl, h1, _⟩ | ⟨n, d, rfl, h⟩
    · exact ⟨_, true, rfl, rfl, (fun _ => ⟨w, rfl, h1⟩), fun z => nomatch z⟩
    · exact ⟨_, false, rfl, rfl, (fun z => nomatch z), fun _ => ⟨n, d, rfl, h⟩⟩
  have nd := sc_is_thing.nd
  refine wSs_cons (wS_ret ?_)
  refine wE_or ?_
  refine wE.imp (Q := fun z μ' => μ = μ' ∧ z = .bl k) ?_ (fun z μ' hz => ?_)
  refine wE_and (wE_callB (id := "isinstance") TX.b_isinstance (by decide +kernel) (wA_cons (wE_name 0 rfl (wA_cons (wE_type (n := "str") TX.b_str (by decide +kernel) (wA_nil ?_))))))
  refine wC_isi t1 t2 ?_
  refine ⟨_, rfl, and_flip (fun hk => ?_) (fun hk => ?_)⟩
  · exact ⟨rfl, by rw [hk]⟩
  obtain ⟨w, rfl, hw⟩ := t3 hk
  refine wE_one (wE_inD ar (wE_name 0 rfl (wE_name 1 rfl ?_)))
  refine ⟨t, _, .inr w, rfl, ht, rfl, rfl, ?_⟩
  rw [valA_Tk, if_pos hw, hk]; rfl
  obtain ⟨rfl, rfl⟩ := hz
  refine ⟨_, rfl, fun hk => ?_, fun hk => ?_⟩
  · exact q
  obtain ⟨n, d, rfl, hfr⟩ := t4 hk
  refine wE_one (wE_cal C_is_fraction ar (by omega) (wA_cons (wE_name 0 rfl (wA_nil ?_))))
  refine ⟨_, rfl, .inr ⟨_, rfl, fun y hy => ?_⟩, ?_⟩
  · simp only [List.mem_cons, List.not_mem_nil, or_false] at hy
    rcases hy with rfl | rfl <;> exact Kd_int _
  rw [isFr_fr hfr]
  exact q

abbrev s_is_call : Stmt := topS 37
abbrev N_is_call : List Str := ["things", "told", "parts", "thing"]
theorem sc_is_call : FnScope N_is_call ["things", "told", "parts"] (defScope s_is_call) := ⟨rfl, rfl, rfl, by decide +kernel, rfl, by decide +kernel, by decide +kernel⟩
theorem eqvU (xs : List D.A) : PyData.eqv (toD (.tup xs)) (toD (.tup [])) = xs.isEmpty := by
  cases xs with
  | nil => simp [toD, toDs, PyData.eqv, PyData.eqvAll]
  | cons x xs => simp [toD, toDs, PyData.eqv, PyData.eqvAll]
theorem datU : DatOk (.tup []) := ⟨rfl, by simp [deep, deeps]⟩
/-- == () -/
theorem wO_eqU {X : Cx} {μ : Mu} {Q : D.A → Mu → Prop} {xs : List D.A} (hu : X.A.units + 64 < cLine) (hx : DatOk (.tup xs)) (q : Q (.bl xs.isEmpty) μ) : wO X (compareOp .Eq) (.tup xs) (.tup []) μ Q := wO_eqD hu hx datU (by rw [eqvU]; exact q)
theorem atI0 (x : D.A) (r : List D.A) : atI (x :: r) 0 = some x := atI_pos rfl (Int.le_refl _)
theorem cutA1 (x : D.A) (r : List D.A) : cutA (x :: r) (some 1) none = r := by rw [cut1]; rfl
def c_is_call : AC := fun xs μ Q _ => ∃ (c : Str) (r : List D.A) (t pp : Addr) (T : List Str) (Pn : List (Str × Int)), xs = [.tup (.str c :: r), .loc t, .loc pp] ∧ μ t = some (.dic (Tk T)) ∧ μ pp = some (.dic (Pk Pn)) ∧ valI Pn c = some (r.length : Int) ∧ r.length ≤ 1000 ∧ letA c = true ∧ (∀ a ∈ r, ThOk T a) ∧ Q (.bl true) μ
theorem ok_is_call {n : Nat}  {f : Addr} {fd : FuncData} (TX : Txt K mg w CL CP CS pT) (C_is_thing : Cal P w K mg base n "is_thing" c_is_thing) (F : Fun K "is_call" "is_call" s_is_call f fd) : FnD P w K mg base CX0 (n + 1) f fd ["things", "told", "parts"] c_is_call := by
  refine fnD F sc_is_call (fun xs μ Q E hc => by obtain ⟨c, r, t, pp, T, Pn, rfl, ht, hp, hv, hr, hc, ha, q⟩ := hc; rfl) (fun cdv Ao outer s H E xs μ Q E0 ar hc => ?_)
  obtain ⟨c, r, t, pp, T, Pn, rfl, ht, hp, hv, hr, hc, ha, q⟩ := hc
  have dat : DatOk (.tup (.str c :: r)) := ⟨by simp only [isD, isDs, strOk_let hc, isDs_all fun a h => (ha a h).dat.1, Bool.and_self], by
    have := deeps_le (n := 1) fun a h => (ha a h).dat.2
    simp only [deep, deeps]; omega⟩
  have nd := sc_is_call.nd
  refine wSs_cons (wS_if ?_)
  refine wT.imp (QB := fun k μ' => μ = μ' ∧ k = false) ?_ (fun k μ' hq => ?_)
  refine wT_chain (wW_or (wT_cmp (wE_name 0 rfl (wE_tup (wA_nil ⟨by show 0 ≤ sizeLine; decide, ?_⟩)))))
  refine wO_eqU ar.u64 dat ?_
  refine ⟨_, rfl, ?_⟩
  refine ⟨fun hk => ?_, fun hk => ?_⟩
  · exact nomatch hk
  refine wW_or (wT_not (wT_val (wE_callB (id := "isinstance") TX.b_isinstance (by decide +kernel) (wA_cons (wE_ix (wE_name 0 rfl (wE_int ?_)))))))
  refine wI_tup (atI0 _ _) ?_
  refine wA_cons (wE_type (n := "str") TX.b_str (by decide +kernel) (wA_nil ?_))
  refine wC_isi (n := "str") (k := true) rfl rfl ?_
  refine ⟨_, rfl, ?_⟩
  refine ⟨fun hk => ?_, fun hk => ?_⟩
  · exact nomatch hk
  refine wW_or1 (wT_cmp (wE_dget2 ar (wE_name 2 rfl ?_)))
  refine ⟨pp, _, rfl, hp, ?_⟩
  refine wE_ix (wE_name 0 rfl (wE_int ?_))
  refine wI_tup (atI0 _ _) ?_
  refine wE_neg (wE_int ⟨_, rfl, ?_⟩)
  refine ⟨_, .inr c, hp, rfl, ?_⟩
  rw [valA_Pk, hv]
  refine wE_bin (wE_callB (id := "len") TX.b_len (by decide +kernel) (wA_cons (wE_name 0 rfl (wA_nil ?_))))
  refine wC_len (.tup _) ?_
  refine wE_int ?_
  refine wO_sub ?_
  refine wO_neI ?_
  refine ⟨_, rfl, ?_⟩
  refine ⟨rfl, ?_⟩
  have e : (r.length : Int) = ((D.A.str c :: r).length : Int) - 1 := by rw [List.length_cons]; omega
  rw [decide_eq_true e]; rfl
  obtain ⟨rfl, rfl⟩ := hq
  refine ⟨fun hk => ?_, fun hk => ?_⟩
  refine wSs_cons (wS_ret (wE_bl ?_))
  exact nomatch hk
  refine wSs_nil ?_
  refine wSs_cons (wS_ret (wE_callB (id := "all") TX.b_all (by decide +kernel) (wA_cons (wE_lcF (own := [("thing", 3)]) (wIt_tup (wE_slice (wE_name 0 rfl (wE_int ⟨_, rfl, ?_⟩)))) nd (blkOk_by (N := N_is_call) (sc := defScope s_is_call) (by decide +kernel))))))
  refine wSl_tup ?_
  rw [cutA1]
  refine ⟨_, rfl, ?_⟩
  refine ⟨szOk (by omega), (r.map fun _ => true).map D.A.bl, by simp, fun i y z hy hz s0 H0 C cl fp => ?_, ?_⟩
  obtain ⟨bz, g2, rfl⟩ := map_at hz
  obtain ⟨w2, g3, rfl⟩ := map_at g2
  refine wGw_name 3 (⟨rfl, fun s0 H0 C cl fp => (wE_cal C_is_thing ar.bk (by omega) (wA_cons (wE_name 3 rfl (wA_cons (wE_name 1 rfl (wA_nil ?_))))))⟩) nd
  refine ⟨_, t, T, rfl, ht, ha y (List.mem_of_getElem? hy), ?_⟩
  refine ⟨?_, .refl _⟩
  rfl
  refine wA_nil ?_
  refine wC_all rfl (.lst _) ?_
  rw [show ((r.map fun _ => true).all id) = true by simp]
  exact q

abbrev s_is_doing : Stmt := topS 38
abbrev N_is_doing : List Str := ["word", "things", "told", "parts", "thing"]
theorem sc_is_doing : FnScope N_is_doing ["word", "things", "told", "parts"] (defScope s_is_doing) := ⟨rfl, rfl, rfl, by decide +kernel, rfl, by decide +kernel, by decide +kernel⟩
def c_is_doing : AC := fun xs μ Q _ => ∃ (w : Str) (ts : List D.A) (t pp : Addr) (T : List Str) (Pn : List (Str × Int)), xs = [.str w, .tup ts, .loc t, .loc pp] ∧ μ t = some (.dic (Tk T)) ∧ μ pp = some (.dic (Pk Pn)) ∧ RowOk Pn T w ts ∧ ts.length ≤ 1000 ∧ Q (.bl true) μ
theorem ok_is_doing {n : Nat}  {f : Addr} {fd : FuncData} (TX : Txt K mg w CL CP CS pT) (C_is_call : Cal P w K mg base n "is_call" c_is_call) (C_is_thing : Cal P w K mg base n "is_thing" c_is_thing) (C_is_among : Cal P w K mg base n "is_among" c_is_among) (F : Fun K "is_doing" "is_doing" s_is_doing f fd) : FnD P w K mg base CX0 (n + 1) f fd ["word", "things", "told", "parts"] c_is_doing := by
  refine fnD F sc_is_doing (fun xs μ Q E hc => by obtain ⟨w, ts, t, pp, T, Pn, rfl, ht, hp, ho, hl, q⟩ := hc; rfl) (fun cdv Ao outer s H E xs μ Q E0 ar hc => ?_)
  obtain ⟨w, ts, t, pp, T, Pn, rfl, ht, hp, ho, hl, q⟩ := hc
  have nd := sc_is_doing.nd
  refine wSs_cons (wS_if ?_)
  refine wT.imp (QB := fun k μ' => μ = μ' ∧ k = false) ?_ (fun k μ' hq => ?_)
  refine wT_chain (wW_or (wT_not (wT_val (wE_callB (id := "isinstance") TX.b_isinstance (by decide +kernel) (wA_cons (wE_name 0 rfl (wA_cons (wE_type (n := "str") TX.b_str (by decide +kernel) (wA_nil ?_)))))))))
  refine wC_isi (n := "str") (k := true) rfl rfl ?_
  refine ⟨_, rfl, ?_⟩
  refine ⟨fun hk => ?_, fun hk => ?_⟩
  · exact nomatch hk
  refine wW_or1 (wT_not (wT_val (wE_callB (id := "isinstance") TX.b_isinstance (by decide +kernel) (wA_cons (wE_name 1 rfl (wA_cons (wE_type (n := "tuple") TX.b_tuple (by decide +kernel) (wA_nil ?_))))))))
  refine wC_isi (n := "tuple") (k := true) rfl rfl ?_
  refine ⟨_, rfl, ?_⟩
  exact ⟨rfl, rfl⟩
  obtain ⟨rfl, rfl⟩ := hq
  refine ⟨fun hk => ?_, fun hk => ?_⟩
  refine wSs_cons (wS_ret (wE_bl ?_))
  exact nomatch hk
  refine wSs_nil ?_
  refine wSs_cons (wS_if (wT_cmp (wE_name 0 rfl (wE_str ?_))))
  refine wO_eqS ?_
  refine ⟨_, rfl, ?_⟩
  refine ⟨fun hk => ?_, fun hk => ?_⟩
  have e : w = "call" := of_decide_eq_true hk
  obtain ⟨c, r, rfl, h3, h4, h5, h6⟩ : ∃ c r, ts = .str c :: r ∧ valI Pn c = some (r.length : Int) ∧ letA c = true ∧ c.length ≤ 8 ∧ ∀ a ∈ r, ThOk T a := by
    rcases ho with ⟨_, h⟩ | ⟨h, _⟩ | ⟨h, _⟩
    · exact h
    · rw [e] at h; exact absurd h (by decide)
    · exact absurd e h
  refine wSs_cons (wS_ret (wE_cal C_is_call ar (by omega) (wA_cons (wE_name 1 rfl (wA_cons (wE_name 2 rfl (wA_cons (wE_name 3 rfl (wA_nil ?_)))))))))
  refine ⟨c, r, t, pp, T, Pn, rfl, ht, hp, h3, by simp at hl; omega, h4, h6, ?_⟩
  exact q
  have e : w ≠ "call" := of_decide_eq_false hk
  have ho2 : (w = "power" ∧ ∃ a k, ts = [a, .int k] ∧ ThOk T a ∧ -8 ≤ k ∧ k ≤ 8) ∨ (w ≠ "power" ∧ valI TAKENL w = some (ts.length : Int) ∧ ∀ a ∈ ts, ThOk T a) := by
    rcases ho with ⟨h, _⟩ | ⟨h, h2⟩ | ⟨_, h⟩
    · exact absurd h e
    · exact .inl ⟨h, h2⟩
    · exact .inr h
  have hv : valI TAKENL w = some (ts.length : Int) := by
    rcases ho2 with ⟨h, a, k, rfl, _⟩ | ⟨_, h, _⟩
    · subst h; exact (by decide : valI TAKENL "power" = some 2)
    · exact h
  refine wSs_nil ?_
  refine wSs_cons (wS_if (wT_cmp (wE_kget TX.d_TAKEN (wE_glob TX.k_TAKEN ⟨rfl, (wE_name 0 rfl (wE_neg (wE_int ⟨_, rfl, ?_⟩)))⟩))))
  refine ⟨w, _, rfl, rfl, ?_⟩
  rw [hv]
  refine wE_callB (id := "len") TX.b_len (by decide +kernel) (wA_cons (wE_name 1 rfl (wA_nil ?_)))
  refine wC_len (.tup _) ?_
  refine wO_neI ?_
  refine ⟨_, rfl, ?_⟩
  refine ⟨fun hk => ?_, fun hk => ?_⟩
  refine wSs_cons (wS_ret (wE_bl ?_))
  exact absurd hk (by simp)
  refine wSs_nil ?_
  refine wSs_cons (wS_if (wT_cmp (wE_name 0 rfl (wE_str ?_))))
  refine wO_eqS ?_
  refine ⟨_, rfl, ?_⟩
  refine ⟨fun hk => ?_, fun hk => ?_⟩
  have e2 : w = "power" := of_decide_eq_true hk
  obtain ⟨a, k, rfl, h3, h4, h5⟩ : ∃ a k, ts = [a, .int k] ∧ ThOk T a ∧ -8 ≤ k ∧ k ≤ 8 := by
    rcases ho2 with ⟨_, h⟩ | ⟨h, _⟩
    · exact h
    · exact absurd e2 h
  refine wSs_cons (wS_ret ?_)
  refine wE_and (wE_cal C_is_thing ar (by omega) (wA_cons (wE_ix (wE_name 1 rfl (wE_int ?_)))))
  walk_at "ix"
  refine wA_cons (wE_name 2 rfl (wA_nil ?_))
  refine ⟨a, t, T, rfl, ht, h3, ?_⟩
  refine ⟨_, rfl, and_flip (fun hk => ?_) (fun hk => ?_)⟩
  · exact nomatch hk
  refine wE_one (wE_cal C_is_among ar (by omega) (wA_cons (wE_ix (wE_name 1 rfl (wE_int ?_)))))
  walk_at "ix"
  refine wA_cons (wE_bin (wE_int (wE_glob TX.k_MOST_POWER ?_)))
  refine wO_sub ?_
  refine wA_cons (wE_glob TX.k_MOST_POWER (wA_nil ?_))
  refine ⟨k, _, 8, rfl, by omega, by omega, ?_⟩
  exact q
  have e2 : w ≠ "power" := of_decide_eq_false hk
  have ha : ∀ a ∈ ts, ThOk T a := by
    rcases ho2 with ⟨h, _⟩ | ⟨_, _, h⟩
    · exact absurd h e2
    · exact h
  refine wSs_nil ?_
  refine wSs_cons (wS_ret (wE_callB (id := "all") TX.b_all (by decide +kernel) (wA_cons (wE_lcF (own := [("thing", 4)]) (wIt_tup (wE_name 1 rfl ⟨_, rfl, ?_⟩)) nd (blkOk_by (N := N_is_doing) (sc := defScope s_is_doing) (by decide +kernel))))))
  refine ⟨szOk (by omega), (ts.map fun _ => true).map D.A.bl, by simp, fun i y z hy hz s0 H0 C cl fp => ?_, ?_⟩
  obtain ⟨bz, g2, rfl⟩ := map_at hz
  obtain ⟨w2, g3, rfl⟩ := map_at g2
  refine wGw_name 4 (⟨rfl, fun s0 H0 C cl fp => (wE_cal C_is_thing ar.bk (by omega) (wA_cons (wE_name 4 rfl (wA_cons (wE_name 2 rfl (wA_nil ?_))))))⟩) nd
  refine ⟨_, t, T, rfl, ht, ha y (List.mem_of_getElem? hy), ?_⟩
  refine ⟨?_, .refl _⟩
  rfl
  refine wA_nil ?_
  refine wC_all rfl (.lst _) ?_
  rw [show ((ts.map fun _ => true).all id) = true by simp]
  exact q

end
end D

set_option Elab.async false
set_option linter.all false
set_option maxRecDepth 100000
set_option maxHeartbeats 4000000
namespace D
open PySem PySem.Spec PyProof.Rows L2
local macro_rules | `(tactic| walk_at "mul") => `(tactic| first | refine wO_mul (mulR (by first | decide | omega) (by first | decide | omega)) ?_ | refine wO_mul (mulL (by first | decide | omega) (by first | decide | omega)) ?_)
local macro_rules | `(tactic| walk_at "mod") => `(tactic| refine wO_mod (by first | decide | omega) ?_)
local macro_rules | `(tactic| walk_at "fdiv") => `(tactic| refine wO_fdiv (by first | decide | omega) (divS (by first | decide | omega)) ?_)
local macro_rules | `(tactic| walk_at "ix") => `(tactic| first | refine wI_tup (by rfl) ?_ | refine wI_lst (by rfl) ?_)
local macro_rules | `(tactic| walk_at "sl") => `(tactic| first | refine wSl_tup ?_ | refine wSl_lstF ?_)
local macro_rules | `(tactic| walk_at "obj") => `(tactic| refine ⟨_, _, _, rfl, by assumption, rfl, ?_⟩)
local macro_rules | `(tactic| walk_at "len") => `(tactic| first | refine wC_len (.tup _) ?_ | refine wC_len (.lst _) ?_ | refine wC_len (.loc (by assumption)) ?_)
section
variable {P : Program} {w : World} {K : PySem.W.Frag} {mg : Str → Option Value} {base : Heap} {CL CP CS pT : Addr}
abbrev s__law_names : Stmt := topS 52
abbrev N__law_names : List Str := ["_law_m", "_law_many", "_law_letters", "_law_start", "_law_way", "_law_size", "_law_at", "_law_stride", "_law_base", "_law_j", "_law_found", "_law_k", "_law_mark", "_law_bars", "_law_name"]
theorem sc__law_names : FnScope N__law_names ["_law_m", "_law_many"] (defScope s__law_names) := ⟨rfl, rfl, rfl, by decide +kernel, rfl, by decide +kernel, by decide +kernel⟩
theorem atI_ex {xs : List D.A} {i : Int} (h0 : 0 ≤ i) (h1 : i < xs.length) : ∃ y ∈ xs, atI xs i = some y := by
  have h : i.toNat < xs.length := by omega
  exact ⟨xs[i.toNat], List.getElem_mem h, atI_pos (List.getElem?_eq_getElem h) h0⟩
def c__law_names : AC := fun xs μ Q _ => ∃ (m l : Addr) (c many : Nat) (rm : Int) (mo : Option (List Str)), xs = [.loc m, .int many] ∧ many ≤ 12 ∧ Lx m l c rm mo μ ∧ c < 2 ^ 39 ∧ ∀ (ws : List Str) (μ' : Mu), ws.length = many → (∀ w ∈ ws, isNm (.str w) = true) → ws.Nodup → Lx m l (c + 5) rm mo μ' → Ls m l μ μ' → Q (.lst (ws.map D.A.str)) μ'
theorem ok__law_names {n : Nat}  {f : Addr} {fd : FuncData} (TX : Txt K mg w CL CP CS pT) (C__law_draw : Cal P w K mg base n "_law_draw" c__law_draw) (F : Fun K "_law_names" "_law_names" s__law_names f fd) : FnD P w K mg base CX0 (n + 1) f fd ["_law_m", "_law_many"] c__law_names := by
  refine fnD F sc__law_names (fun xs μ Q E hc => by obtain ⟨m, l, c, many, rm, mo, rfl, hmany, lw, hc, q⟩ := hc; rfl) (fun cdv Ao outer s H E xs μ Q E0 ar hc => ?_)
  obtain ⟨m, l, c, many, rm, mo, rfl, hmany, lw, hc, q⟩ := hc
  have nd := sc__law_names.nd
  refine wSs_cons (wS_set 2 (wE_str (wSs_cons (wS_asg (wE_tup (wA_cons (wE_cal C__law_draw ar (by omega) (wA_cons (wE_name 0 rfl (wA_cons (wE_int (wA_nil ?_))))))))))) nd)
  refine ⟨m, l, 26, c, _, _, rfl, by decide, by decide, lw, by omega, fun start μ1 a0 a1 lw1 ls1 => ?_⟩
  refine wA_cons (wE_cal C__law_draw ar (by omega) (wA_cons (wE_name 0 rfl (wA_cons (wE_int (wA_nil ?_))))))
  refine ⟨m, l, 4, _, _, _, rfl, by decide, by decide, lw1, by omega, fun way μ2 b0 b1 lw2 ls2 => ?_⟩
  refine wA_nil ⟨by show 2 ≤ sizeLine; decide, (wG_tup (wGs_cons (wG_name 3 (wGs_cons (wG_name 4 (wGs_nil (wSs_cons (wS_set 5 (wE_bin (wE_int (wE_cal C__law_draw ar (by omega) (wA_cons (wE_name 0 rfl (wA_cons (wE_int (wA_nil ?_)))))))) nd))) nd)) nd)))⟩
  refine ⟨m, l, 7, _, _, _, rfl, by decide, by decide, lw2, by omega, fun r3 μ3 c0 c1 lw3 ls3 => ?_⟩
  refine wO_add ?_
  refine wSs_cons (wS_set 6 (wE_cal C__law_draw ar (by omega) (wA_cons (wE_name 0 rfl (wA_cons (wE_name 5 rfl (wA_nil ?_)))))) nd)
  refine ⟨m, l, _, _, _, _, rfl, by omega, by omega, lw3, by omega, fun at_ μ4 d0 d1 lw4 ls4 => ?_⟩
  refine wSs_cons (wS_set 7 (wE_ix (wE_lstF (wA_cons (wE_int (wA_cons (wE_int (wA_cons (wE_int (wA_cons (wE_int (wA_cons (wE_int (wA_cons (wE_int (wA_nil ⟨by show 6 ≤ sizeLine; decide, (wE_cal C__law_draw ar (by omega) (wA_cons (wE_name 0 rfl (wA_cons (wE_int (wA_nil ?_))))))⟩))))))))))))))) nd)
  refine ⟨m, l, 6, _, _, _, rfl, by decide, by decide, lw4, by omega, fun r5 μ5 e0 e1 lw5 ls5 => ?_⟩
  obtain ⟨y1, hy1, ey1⟩ := atI_ex (xs := [D.A.int 1, .int 3, .int 7, .int 11, .int 17, .int 25]) e0 (by simpa using e1)
  obtain ⟨stride, rfl, z0, z1, zs⟩ : ∃ z : Int, y1 = .int z ∧ 1 ≤ z ∧ z ≤ 25 ∧ (z = 1 ∨ z = 3 ∨ z = 7 ∨ z = 11 ∨ z = 17 ∨ z = 25) := by
    simp only [List.mem_cons, List.not_mem_nil, or_false] at hy1
    rcases hy1 with rfl | rfl | rfl | rfl | rfl | rfl <;> exact ⟨_, rfl, by decide, by decide, by decide⟩
  have hP : NmP start (1 + r3) at_ stride := ⟨a0, d0, d1, by omega, zs⟩
  refine wI_lst ey1 ?_
  refine wSs_cons (wS_set 8 (wE_m1 PySem.F.slot_str_join PySem.F.type_str_join (wE_str ⟨_, rfl, (wE_lcF (own := [("_law_j", 9)]) (wIt_range1 TX.b_range (wA_cons (wE_int (wA_nil ⟨_, rfl, by omega, by omega, ?_⟩)))) nd (blkOk_by (N := N__law_names) (sc := defScope s__law_names) (by decide +kernel)))⟩)) nd)
  refine ⟨by rw [rgA_len]; decide, ((List.range 8).map (fun (j : Nat) => ltr ((start + 5 * (0 + (j : Int))) % 26))).map D.A.str, by simp [rgA_len], fun i y z hy hz s0 H0 C cl fp => ?_, ?_⟩
  obtain ⟨hi, rfl⟩ := rgA_at hy
  refine wGw_name 9 (⟨rfl, fun s0 H0 C cl fp => (wE_ix (wE_name 2 rfl (wE_bin (wE_bin (wE_name 3 rfl (wE_bin (wE_int (wE_name 9 rfl ?_))))))))⟩) nd
  walk_at "mul"
  refine wO_add ?_
  refine wE_int ?_
  walk_at "mod"
  refine wI_str (by decide) (ltr_at (by omega) (by omega)) ?_
  refine ⟨?_, .refl _⟩
  obtain ⟨w1, hw1, rfl⟩ := map_at hz
  obtain ⟨_, rfl⟩ := mapR_at hw1
  rfl
  refine wM_join (.inl (.lst _)) (by rw [sum_ltrs, List.length_map, List.length_range]; decide) ?_
  rw [show Txt.join "" ((List.range 8).map (fun (j : Nat) => ltr ((start + 5 * (0 + (j : Int))) % 26))) = baseW start from rfl]
  generalize hB : baseW start = base
  have lb : letA base = true := by rw [← hB]; unfold baseW; exact letA_join (fun w hw => by obtain ⟨j, _, rfl⟩ := List.mem_map.mp hw; exact letA_ltr _)
  have nb : base.length ≤ 8 := by rw [← hB]; unfold baseW; exact len_ltrs _ 8
  refine wSs_cons (wS_set 10 (wE_lst (wA_nil ⟨by show 0 ≤ sizeLine; decide, fun p__law_found np__law_found => (wSs_cons (wS_for (wIt_range1 TX.b_range (wA_cons (wE_name 1 rfl (wA_nil ⟨_, rfl, by omega, by omega, ?_⟩))))))⟩)) nd)
  refine ⟨fun i Γ' μ' => ∃ (ws : List Str) (a b : Option D.A), Γ' = [some (.loc m), some (.int many), some (.str LETS), some (.int start), some (.int way), some (.int (1 + r3)), some (.int at_), some (.int stride), some (.str base), none, some (.loc p__law_found), a, b, none, none] ∧ μ' = μ5.upd p__law_found (.lst (ws.map D.A.str)) ∧ ws = (List.range i).map (nmW start way (1 + r3) at_ stride base) ∧ ∀ w ∈ ws, NmOk w, ⟨[], _, _, rfl, rfl, rfl, fun _ h => nomatch h⟩, fun i y Γ' μ' hy hI => ?_, fun Γ' μ' hI => ?_⟩
  obtain ⟨ws, a, b, rfl, rfl, hws, hok⟩ := hI
  obtain ⟨hi, rfl⟩ := rgA_at hy
  have hwl : ws.length = i := by rw [hws]; simp
  have hi2 : i < 100 := by omega
  refine wG_name 11 ?_ nd
  refine wSs_cons (wS_set 12 (wE_ix (wE_name 2 rfl (wE_bin (wE_bin (wE_name 3 rfl (wE_bin (wE_name 7 rfl (wE_name 11 rfl ?_)))))))) nd)
  walk_at "mul"
  refine wO_add ?_
  refine wE_int ?_
  walk_at "mod"
  refine wI_str (by decide) (ltr_at (Int.emod_nonneg _ (by decide)) (Int.emod_lt_of_pos _ (by decide))) ?_
  refine wSs_cut (fun Γ' μ' => ∃ (w : Str) (a b : Option D.A), NmOk w ∧ w = nmW start way (1 + r3) at_ stride base i ∧ Γ' = [some (.loc m), some (.int many), some (.str LETS), some (.int start), some (.int way), some (.int (1 + r3)), some (.int at_), some (.int stride), some (.str base), none, some (.loc p__law_found), a, b, none, none] ∧ μ' = μ5.upd p__law_found (.lst ((ws ++ [w]).map D.A.str))) ?_ (fun Γ' μ' hP => ?_)
  generalize hg : ({ cps := #[LETS.cps.toList.getD ((start + stride * (0 + (i : Int))) % 26).toNat 97] } : Str) = mark
  have lm : letA mark = true := by rw [← hg]; exact letA_ltr ((start + stride * (0 + (i : Int))) % 26)
  have nm1 : mark.length = 1 := by rw [← hg]; rfl
  refine wS_if (wT_cmp (wE_name 4 rfl (wE_int ?_)))
  refine wO_eqI ?_
  refine ⟨_, rfl, ?_⟩
  refine ⟨fun hk => ?_, fun hk => ?_⟩
  refine wSs_cons (wS_expr (wE_append (wE_name 10 rfl ?_)))
  refine ⟨_, _, rfl, Mu.upd_same, ?_⟩
  refine wE_bin (wE_name 12 rfl (wE_slice (wE_name 8 rfl (wE_bin (wE_bin (wE_name 11 rfl (wE_name 7 rfl ?_)))))))
  walk_at "mul"
  refine wE_int ?_
  walk_at "mod"
  refine ⟨_, rfl, ?_⟩
  refine wSl_str (szOk (by omega)) ?_
  refine wO_addS (szOk (by have := cutS_hi base ((0 + (i : Int)) * stride % 8) (by omega); omega)) ?_
  refine ⟨_, Mu.upd_same, szLt (by rw [List.length_map]; omega), ?_⟩
  refine wSs_nil ?_
  have hw3 : way = 3 := of_decide_eq_true hk
  have n2 := cutS_hi base ((0 + (i : Int)) * stride % 8) (by omega)
  refine ⟨mark ++ cutS base none (some ((0 + (i : Int)) * stride % 8)), _, _, ⟨?_, ?_, ?_⟩, by unfold nmW; rw [if_pos hw3, ← hg]; rfl, rfl, by rw [Mu.upd_upd, List.map_append]; rfl⟩
  · rw [letA_app, lm, letA_cut lb]; rfl
  · rw [Str.length_append]; omega
  · rw [Str.length_append]; omega
  refine wSs_cons (wS_expr (wE_append (wE_name 10 rfl ?_)))
  refine ⟨_, _, rfl, Mu.upd_same, ?_⟩
  refine wE_bin (wE_bin (wE_slice (wE_name 8 rfl (wE_name 6 rfl ⟨_, rfl, ?_⟩))))
  refine wSl_str (szOk (by omega)) ?_
  refine wE_name 12 rfl ?_
  refine wO_addS (szOk (by have := cutS_hi base at_ (by omega); omega)) ?_
  refine wE_slice (wE_name 8 rfl (wE_bin (wE_name 6 rfl (wE_int ?_))))
  refine wO_add ?_
  refine ⟨_, rfl, (wE_name 5 rfl ⟨_, rfl, ?_⟩)⟩
  refine wSl_str (szOk (by omega)) ?_
  refine wO_addS (szOk (by have := cutS_hi base at_ (by omega); have := cutS_mid base (at_ + 1) (1 + r3) (by omega); rw [Str.length_append]; omega)) ?_
  refine ⟨_, Mu.upd_same, szLt (by rw [List.length_map]; omega), ?_⟩
  refine wSs_nil ?_
  have hw3 : ¬ way = 3 := of_decide_eq_false hk
  have n2 := cutS_hi base at_ (by omega)
  have n3 := cutS_mid base (at_ + 1) (1 + r3) (by omega)
  refine ⟨cutS base none (some at_) ++ mark ++ cutS base (some (at_ + 1)) (some (1 + r3)), _, _, ⟨?_, ?_, ?_⟩, by unfold nmW; rw [if_neg hw3, ← hg]; rfl, rfl, by rw [Mu.upd_upd, List.map_append]; rfl⟩
  · rw [letA_app, letA_app, lm, letA_cut lb, letA_cut lb]; rfl
  · rw [Str.length_append, Str.length_append]; omega
  · rw [Str.length_append, Str.length_append]; omega
  obtain ⟨w, a, b, hw, ew, rfl, rfl⟩ := hP
  refine wSs_nil ?_
  refine ⟨ws ++ [w], _, _, rfl, rfl, by rw [hws, ew, List.range_succ, List.map_append]; rfl, fun x hx => ?_⟩
  rcases List.mem_append.mp hx with hx | hx
  · exact hok x hx
  · rw [List.mem_singleton.mp hx]; exact hw
  obtain ⟨ws, a, b, rfl, rfl, hws, hok⟩ := hI
  rw [rgA_len, Int.toNat_natCast] at hws
  have hwl : ws.length = many := by rw [hws]; simp
  refine wSs_cons (wS_set 13 (wE_m1 PySem.F.slot_str_split PySem.F.type_str_split (wE_str ⟨_, rfl, (wE_str ?_)⟩)) nd)
  refine wM_split (by decide) (by decide) ?_
  rw [split_bars]
  refine wSs_frz 10 Mu.upd_same rfl ?_
  rw [Mu.del_upd np__law_found]
  refine wSs_cons (wS_ret (wE_lcF (own := [("_law_name", 14)]) (wIt_list (wE_name 10 rfl ⟨_, rfl, ?_⟩)) nd (blkOk_by (N := N__law_names) (sc := defScope s__law_names) (by decide +kernel))))
  refine ⟨szOk (by rw [List.length_map]; omega), (ws.map fixN).map D.A.str, by simp, fun i y z hy hz s0 H0 C cl fp => ?_, ?_⟩
  obtain ⟨w, h1, rfl⟩ := map_at hy
  obtain ⟨w2, h2, rfl⟩ := map_at hz
  obtain ⟨w3, h3, rfl⟩ := map_at h2
  obtain rfl : w = w3 := Option.some.inj (h1.symm.trans h3)
  have hn := hok w (List.mem_of_getElem? h1)
  refine wGw_name 14 (⟨rfl, fun s0 H0 C cl fp => ?_⟩) nd
  refine wE_if (wT_cmp (wE_name 14 rfl (wE_name 13 rfl ?_)))
  refine wO_notIn (.lst _) rfl (by rfl) ?_
  refine ⟨_, rfl, ?_⟩
  refine ⟨fun hk => ?_, fun hk => ?_⟩
  refine wE_name 14 rfl ?_
  exact ⟨by unfold fixN; rw [if_neg (by simpa using hk)], .refl _⟩
  refine wE_bin (wE_bin (wE_str (wE_slice (wE_name 14 rfl (wE_int ⟨_, rfl, ?_⟩)))))
  refine wSl_str (szOk (by have := hn.hi; omega)) ?_
  refine wO_addS (szOk (by have := cutS_hi w 1 (by omega); have e2 : ("zz" : Str).length = 2 := (by decide); omega)) ?_
  refine wE_str ?_
  refine wO_addS (szOk (by have := cutS_hi w 1 (by omega); have e2 : ("zz" : Str).length = 2 := (by decide); have e3 : ("z" : Str).length = 1 := (by decide); rw [Str.length_append]; omega)) ?_
  refine ⟨?_, .refl _⟩
  unfold fixN; rw [if_pos (by simpa using hk)]
  refine q _ _ (by simp [hwl]) (fun w hw => ?_) (by rw [hws, ← hB]; exact names_unlike hP hmany) lw5 ((((ls1.trans ls2).trans ls3).trans ls4).trans ls5)
  obtain ⟨w0, hw0, rfl⟩ := List.mem_map.mp hw
  exact fixN_ok (hok w0 hw0)

abbrev s__law_common : Stmt := topS 53
abbrev N__law_common : List Str := ["_law_one", "_law_other"]
theorem sc__law_common : FnScope N__law_common ["_law_one", "_law_other"] (defScope s__law_common) := ⟨rfl, rfl, rfl, by decide +kernel, rfl, by decide +kernel, by decide +kernel⟩
def c__law_common : AC := fun xs μ Q _ => ∃ a b : Int, xs = [.int a, .int b] ∧ Q (.int (Int.gcd a b : Nat)) μ
theorem ok__law_common {n : Nat}  {f : Addr} {fd : FuncData} (TX : Txt K mg w CL CP CS pT)  (F : Fun K "_law_common" "_law_common" s__law_common f fd) : FnD P w K mg base CX0 (n + 1) f fd ["_law_one", "_law_other"] c__law_common := by
  refine fnD F sc__law_common (fun xs μ Q E hc => by obtain ⟨a, b, rfl, q⟩ := hc; rfl) (fun cdv Ao outer s H E xs μ Q E0 ar hc => ?_)
  obtain ⟨a, b, rfl, q⟩ := hc
  have nd := sc__law_common.nd
  refine wSs_cons (wS_par 0 1 (wA_cons (wE_callB (id := "abs") TX.b_abs (by decide +kernel) (wA_cons (wE_name 0 rfl (wA_nil ?_))))) nd)
  refine wC_abs ?_
  refine wA_cons (wE_callB (id := "abs") TX.b_abs (by decide +kernel) (wA_cons (wE_name 1 rfl (wA_nil ?_))))
  refine wC_abs ?_
  refine wA_nil ⟨_, _, rfl, (wSs_cons ?_)⟩
  refine wS_while (fun m Γ' μ' => ∃ x y : Nat, Γ' = [some (.int x), some (.int y)] ∧ μ = μ' ∧ Nat.gcd x y = Int.gcd a b ∧ y ≤ m) b.natAbs ⟨a.natAbs, b.natAbs, ?_, rfl, rfl, Nat.le_refl _⟩ (fun m Γ' μ' hW => ?_)
  · have e1 : (if a < 0 then -a else a) = (a.natAbs : Int) := by split <;> omega
    have e2 : (if b < 0 then -b else b) = (b.natAbs : Int) := by split <;> omega
    rw [e1, e2]; rfl
  obtain ⟨x, y, rfl, rfl, hg, hy⟩ := hW
  refine wT_cmp (wE_name 1 rfl (wE_int ?_))
  refine wO_gt ?_
  refine ⟨_, rfl, ?_⟩
  refine ⟨fun hk => ?_, fun hk => ?_⟩
  have hk2 : (0 : Int) < y := of_decide_eq_true hk
  refine wSs_cons (wS_par 0 1 (wA_cons (wE_name 1 rfl (wA_cons (wE_bin (wE_name 0 rfl (wE_name 1 rfl ?_)))))) nd)
  walk_at "mod"
  refine wA_nil ⟨_, _, rfl, (wSs_nil ?_)⟩
  refine ⟨x % y, Nat.lt_of_lt_of_le (Nat.mod_lt _ (by omega)) hy, y, x % y, rfl, rfl, ?_, Nat.le_refl _⟩
  rw [← hg, Nat.gcd_comm x y, Nat.gcd_rec y x, Nat.gcd_comm]
  have hk2 : ¬ (0 : Int) < y := of_decide_eq_false hk
  obtain rfl : y = 0 := by omega
  rw [Nat.gcd_zero_right] at hg
  refine wSs_cons (wS_ret (wE_name 0 rfl ?_))
  rw [hg]; exact q

abbrev s__law_lowest : Stmt := topS 54
abbrev N__law_lowest : List Str := ["_law_n", "_law_d", "_law_part"]
theorem sc__law_lowest : FnScope N__law_lowest ["_law_n", "_law_d"] (defScope s__law_lowest) := ⟨rfl, rfl, rfl, by decide +kernel, rfl, by decide +kernel, by decide +kernel⟩
def c__law_lowest : AC := fun xs μ Q _ => ∃ n d : Int, xs = [.int n, .int d] ∧ d ≠ 0 ∧ Bd 8000 d ∧ Q (low n d) μ
theorem ok__law_lowest {n : Nat}  {f : Addr} {fd : FuncData} (TX : Txt K mg w CL CP CS pT) (C__law_common : Cal P w K mg base n "_law_common" c__law_common) (F : Fun K "_law_lowest" "_law_lowest" s__law_lowest f fd) : FnD P w K mg base CX0 (n + 1) f fd ["_law_n", "_law_d"] c__law_lowest := by
  refine fnD F sc__law_lowest (fun xs μ Q E hc => by obtain ⟨n, d, rfl, d0, hd, q⟩ := hc; rfl) (fun cdv Ao outer s H E xs μ Q E0 ar hc => ?_)
  obtain ⟨n, d, rfl, d0, hd, q⟩ := hc
  have nd := sc__law_lowest.nd
  refine wSs_cons (wS_set 2 (wE_cal C__law_common ar (by omega) (wA_cons (wE_name 0 rfl (wA_cons (wE_name 1 rfl (wA_nil ?_)))))) nd)
  refine ⟨n, d, rfl, ?_⟩
  refine wSs_cons (wS_set 2 ?_ nd)
  refine wE.imp (Q := fun z μ' => μ = μ' ∧ z = .int (part n d)) ?_ (fun z μ' hz => ?_)
  refine wE_if (wT_cmp (wE_name 1 rfl (wE_int ?_)))
  refine wO_gt ?_
  refine ⟨_, rfl, ?_⟩
  refine ⟨fun hk => ?_, fun hk => ?_⟩
  refine wE_name 2 rfl ?_
  exact ⟨rfl, by unfold part; rw [if_pos (of_decide_eq_true hk)]⟩
  refine wE_bin (wE_int (wE_name 2 rfl ?_))
  refine wO_sub ?_
  exact ⟨rfl, by unfold part; rw [if_neg (of_decide_eq_false hk)]⟩
  obtain ⟨rfl, rfl⟩ := hz
  refine wSs_cons (wS_ret (wE_tup (wA_cons (wE_bin (wE_name 0 rfl (wE_name 2 rfl ?_))))))
  refine wO_fdivN (part_ne d0) ((part_bd d0 hd).noPy (by decide) (by decide)) ?_
  refine wA_cons (wE_bin (wE_name 1 rfl (wE_name 2 rfl ?_)))
  refine wO_fdivN (part_ne d0) ((part_bd d0 hd).noPy (by decide) (by decide)) ?_
  refine wA_nil ⟨by show 2 ≤ sizeLine; decide, ?_⟩
  exact q

abbrev s__law_fraction : Stmt := topS 55
abbrev N__law_fraction : List Str := ["_law_m", "_law_size", "_law_below"]
theorem sc__law_fraction : FnScope N__law_fraction ["_law_m"] (defScope s__law_fraction) := ⟨rfl, rfl, rfl, by decide +kernel, rfl, by decide +kernel, by decide +kernel⟩
def c__law_fraction : AC := fun xs μ Q _ => ∃ (m l : Addr) (c : Nat) (rm : Int) (mo : Option (List Str)), xs = [.loc m] ∧ Lx m l c rm mo μ ∧ c < 2 ^ 39 ∧ ∀ (n d : Int) (μ' : Mu), Fr n d → n.natAbs ≤ 10 ^ 20 → d ≤ 9 → Lx m l (c + 4) rm mo μ' → Ls m l μ μ' → Q (.tup [.int n, .int d]) μ'
theorem ok__law_fraction {n : Nat}  {f : Addr} {fd : FuncData} (TX : Txt K mg w CL CP CS pT) (C__law_draw : Cal P w K mg base n "_law_draw" c__law_draw) (C__law_lowest : Cal P w K mg base n "_law_lowest" c__law_lowest) (F : Fun K "_law_fraction" "_law_fraction" s__law_fraction f fd) : FnD P w K mg base CX0 (n + 1) f fd ["_law_m"] c__law_fraction := by
  refine fnD F sc__law_fraction (fun xs μ Q E hc => by obtain ⟨m, l, c, rm, mo, rfl, lw, hc, q⟩ := hc; rfl) (fun cdv Ao outer s H E xs μ Q E0 ar hc => ?_)
  obtain ⟨m, l, c, rm, mo, rfl, lw, hc, q⟩ := hc
  have nd := sc__law_fraction.nd
  refine wSs_cons (wS_set 1 (wE_ix (wE_lstF (wA_cons (wE_int (wA_cons (wE_int (wA_cons (wE_int (wA_cons (wE_int (wA_cons (wE_int (wA_cons (wE_bin (wE_int (wE_int ?_)))))))))))))))) nd)
  refine wO_pow (by decide) ?_
  refine wA_nil ⟨by show 6 ≤ sizeLine; decide, (wE_cal C__law_draw ar (by omega) (wA_cons (wE_name 0 rfl (wA_cons (wE_int (wA_nil ?_))))))⟩
  refine ⟨m, l, 6, c, _, _, rfl, by decide, by decide, lw, by omega, fun r1 μ1 a0 a1 lw1 ls1 => ?_⟩
  obtain ⟨y1, hy1, e1⟩ := atI_ex (xs := [D.A.int 1, .int 4, .int 9, .int 30, .int 30, .int (10 ^ (20 : Int).toNat)]) a0 (by simpa using a1)
  obtain ⟨z, rfl, z0, z1⟩ : ∃ z : Int, y1 = .int z ∧ 1 ≤ z ∧ z ≤ 10 ^ 20 := by
    simp only [List.mem_cons, List.not_mem_nil, or_false] at hy1
    rcases hy1 with rfl | rfl | rfl | rfl | rfl | rfl <;> exact ⟨_, rfl, by decide, by decide⟩
  refine wI_lst e1 ?_
  refine wSs_cons (wS_set 2 (wE_ix (wE_lstF (wA_cons (wE_int (wA_cons (wE_int (wA_cons (wE_int (wA_cons (wE_int (wA_cons (wE_bin (wE_int (wE_cal C__law_draw ar (by omega) (wA_cons (wE_name 0 rfl (wA_cons (wE_int (wA_nil ?_))))))))))))))))))) nd)
  refine ⟨m, l, 9, _, _, _, rfl, by decide, by decide, lw1, by omega, fun r2 μ2 b0 b1 lw2 ls2 => ?_⟩
  refine wO_add ?_
  refine wA_nil ⟨by show 5 ≤ sizeLine; decide, (wE_cal C__law_draw ar (by omega) (wA_cons (wE_name 0 rfl (wA_cons (wE_int (wA_nil ?_))))))⟩
  refine ⟨m, l, 5, _, _, _, rfl, by decide, by decide, lw2, by omega, fun r3 μ3 d0 d1 lw3 ls3 => ?_⟩
  obtain ⟨y2, hy2, e2⟩ := atI_ex (xs := [D.A.int 1, .int 1, .int 2, .int 3, .int (1 + r2)]) d0 (by simpa using d1)
  obtain ⟨u, rfl, u0, u1⟩ : ∃ u : Int, y2 = .int u ∧ 1 ≤ u ∧ u ≤ 9 := by
    simp only [List.mem_cons, List.not_mem_nil, or_false] at hy2
    rcases hy2 with rfl | rfl | rfl | rfl | rfl <;> exact ⟨_, rfl, by omega, by omega⟩
  refine wI_lst e2 ?_
  refine wSs_cons (wS_ret (wE_cal C__law_lowest ar (by omega) (wA_cons (wE_bin (wE_cal C__law_draw ar (by omega) (wA_cons (wE_name 0 rfl (wA_cons (wE_bin (wE_bin (wE_int (wE_name 1 rfl ?_))))))))))))
  walk_at "mul"
  refine wE_int ?_
  refine wO_add ?_
  refine wA_nil ?_
  refine ⟨m, l, _, _, _, _, rfl, by omega, by omega, lw3, by omega, fun r4 μ4 f0 f1 lw4 ls4 => ?_⟩
  refine wE_name 1 rfl ?_
  refine wO_sub ?_
  refine wA_cons (wE_name 2 rfl (wA_nil ?_))
  refine ⟨_, _, rfl, by omega, (Bd.of (n := 8) (by omega) (by omega)).mono (by decide), ?_⟩
  have hfr := low_fr (n := r4 - z) (d := u) (by omega)
  have h1 := lowN_le (n := r4 - z) (d := u) (by omega)
  have h2 := lowD_le (n := r4 - z) (d := u) (by omega)
  have h3 := hfr.pos
  exact q _ _ _ hfr (by omega) (by omega) lw4 (((ls1.trans ls2).trans ls3).trans ls4)

end
end D

set_option Elab.async false
set_option linter.all false
set_option maxRecDepth 100000
set_option maxHeartbeats 4000000
namespace D
open PySem PySem.Spec PyProof.Rows L2
local macro_rules | `(tactic| walk_at "mul") => `(tactic| first | refine wO_mul (mulR (by first | decide | omega) (by first | decide | omega)) ?_ | refine wO_mul (mulL (by first | decide | omega) (by first | decide | omega)) ?_)
local macro_rules | `(tactic| walk_at "mod") => `(tactic| refine wO_mod (by first | decide | omega) ?_)
local macro_rules | `(tactic| walk_at "fdiv") => `(tactic| refine wO_fdiv (by first | decide | omega) (divS (by first | decide | omega)) ?_)
local macro_rules | `(tactic| walk_at "ix") => `(tactic| first | refine wI_tup (by rfl) ?_ | refine wI_lst (by rfl) ?_)
local macro_rules | `(tactic| walk_at "sl") => `(tactic| first | refine wSl_tup ?_ | refine wSl_lstF ?_)
local macro_rules | `(tactic| walk_at "obj") => `(tactic| refine ⟨_, _, _, rfl, by assumption, rfl, ?_⟩)
local macro_rules | `(tactic| walk_at "len") => `(tactic| first | refine wC_len (.tup _) ?_ | refine wC_len (.lst _) ?_ | refine wC_len (.loc (by assumption)) ?_)
section
variable {P : Program} {w : World} {K : PySem.W.Frag} {mg : Str → Option Value} {base : Heap} {CL CP CS pT : Addr}
abbrev s__law_thing : Stmt := topS 56
abbrev N__law_thing : List Str := ["_law_m", "_law_told"]
theorem sc__law_thing : FnScope N__law_thing ["_law_m", "_law_told"] (defScope s__law_thing) := ⟨rfl, rfl, rfl, by decide +kernel, rfl, by decide +kernel, by decide +kernel⟩
theorem datStrs {T : List Str} (h : ∀ w ∈ T, isNm (.str w) = true) : DatOk (.lst (T.map D.A.str)) := by
  refine ⟨?_, ?_⟩
  · simp only [isD]
    refine isDs_all fun a ha => ?_
    obtain ⟨w, hw, rfl⟩ := List.mem_map.mp ha
    simp only [isD]
    exact strOk_let (isNm_let (h w hw)).1
  · have : deeps (T.map D.A.str) ≤ 0 := deeps_le fun a ha => by
      obtain ⟨w, _, rfl⟩ := List.mem_map.mp ha
      simp [deep]
    simp only [deep]; omega
theorem thOk_at {T : List Str} {x : D.A} (hT : ∀ w ∈ T, isNm (.str w) = true) (hx : x ∈ T.map D.A.str) : ThOk T x ∧ ThSm x := by
  obtain ⟨w, hw, rfl⟩ := List.mem_map.mp hx
  obtain ⟨h1, h2, _⟩ := isNm_let (hT w hw)
  exact ⟨.inl ⟨w, rfl, hw, h1, h2⟩, thSm_str h1 h2⟩
theorem atI_back {xs : List D.A} {i : Int} (h0 : i < 0) (h1 : -(xs.length : Int) ≤ i) : ∃ y ∈ xs, atI xs i = some y := by
  have h : (i + xs.length).toNat < xs.length := by omega
  exact ⟨xs[(i + xs.length).toNat], List.getElem_mem h, atI_neg (List.getElem?_eq_getElem h) h0 h1⟩
def c__law_thing : AC := fun xs μ Q _ => ∃ (m l : Addr) (c : Nat) (rm : Int) (mo : Option (List Str)) (T : List Str), xs = [.loc m, .lst (T.map D.A.str)] ∧ Lx m l c rm mo μ ∧ c < 2 ^ 38 ∧ T.length ≤ 1000 ∧ (∀ w ∈ T, isNm (.str w) = true) ∧ ∀ (x : D.A) (μ' : Mu), ThOk T x → ThSm x → Lx m l (c + 5) rm mo μ' → Ls m l μ μ' → Q x μ'
theorem ok__law_thing {n : Nat}  {f : Addr} {fd : FuncData} (TX : Txt K mg w CL CP CS pT) (C__law_draw : Cal P w K mg base n "_law_draw" c__law_draw) (C__law_fraction : Cal P w K mg base n "_law_fraction" c__law_fraction) (F : Fun K "_law_thing" "_law_thing" s__law_thing f fd) : FnD P w K mg base CX0 (n + 1) f fd ["_law_m", "_law_told"] c__law_thing := by
  refine fnD F sc__law_thing (fun xs μ Q E hc => by obtain ⟨m, l, c, rm, mo, T, rfl, lw, hc, hTl, hT, q⟩ := hc; rfl) (fun cdv Ao outer s H E xs μ Q E0 ar hc => ?_)
  obtain ⟨m, l, c, rm, mo, T, rfl, lw, hc, hTl, hT, q⟩ := hc
  have nd := sc__law_thing.nd
  refine wSs_cons (wS_if ?_)
  refine wT.imp (QB := fun k μ' => Lx m l (c + 1) rm mo μ' ∧ Ls m l μ μ' ∧ (k = false → T ≠ [])) ?_ (fun k μ' hq => ?_)
  refine wT_chain (wW_or (wT_cmp (wE_name 1 rfl (wE_lstF (wA_nil ⟨by show 0 ≤ sizeLine; decide, ?_⟩)))))
  refine wO_eqL ar.u64 (.lst _) (.lst []) (datStrs hT) datNil ?_
  rw [eqvNil]
  refine ⟨_, rfl, ?_⟩
  refine ⟨fun hk => ?_, fun hk => ?_⟩
  · exact ⟨lw.up (by omega), Ls.refl _, fun z => nomatch z⟩
  have hne : T ≠ [] := fun z => by subst z; simp at hk
  refine wW_or1 (wT_cmp (wE_cal C__law_draw ar (by omega) (wA_cons (wE_name 0 rfl (wA_cons (wE_int (wA_nil ?_)))))))
  refine ⟨m, l, 4, c, _, _, rfl, by decide, by decide, lw, by omega, fun r1 μ1 a0 a1 lw1 ls1 => ?_⟩
  refine wE_int ?_
  refine wO_eqI ?_
  refine ⟨_, rfl, ?_⟩
  exact ⟨lw1, ls1, fun _ => hne⟩
  obtain ⟨lw1, ls1, hne⟩ := hq
  refine ⟨fun hk => ?_, fun hk => ?_⟩
  refine wSs_cons (wS_ret (wE_cal C__law_fraction ar (by omega) (wA_cons (wE_name 0 rfl (wA_nil ?_)))))
  refine ⟨m, l, c + 1, _, _, rfl, lw1, by omega, fun n d μ2 hf b1 b2 lw2 ls2 => ?_⟩
  exact q _ _ (.inr ⟨n, d, rfl, hf⟩) (thSm_fr b1 hf.pos b2) lw2 (ls1.trans ls2)
  have hn := hne hk
  have hpos : 0 < T.length := List.length_pos_iff.mpr hn
  refine wSs_nil ?_
  refine wSs_cons (wS_if (wT_cmp (wE_cal C__law_draw ar (by omega) (wA_cons (wE_name 0 rfl (wA_cons (wE_int (wA_nil ?_))))))))
  refine ⟨m, l, 2, _, _, _, rfl, by decide, by decide, lw1, by omega, fun r2 μ2 b0 b1 lw2 ls2 => ?_⟩
  refine wE_int ?_
  refine wO_eqI ?_
  refine ⟨_, rfl, ?_⟩
  refine ⟨fun hk => ?_, fun hk => ?_⟩
  refine wSs_cons (wS_ret (wE_ix (wE_name 1 rfl (wE_bin (wE_bin (wE_int (wE_int ?_)))))))
  refine wO_sub ?_
  refine wE_cal C__law_draw ar (by omega) (wA_cons (wE_name 0 rfl (wA_cons (wE_callB (id := "min") TX.b_min (by decide +kernel) (wA_cons (wE_int (wA_cons (wE_callB (id := "len") TX.b_len (by decide +kernel) (wA_cons (wE_name 1 rfl (wA_nil ?_)))))))))))
  refine wC_len (.lst _) ?_
  rw [List.length_map]
  refine wA_nil ?_
  refine wC_min2 (by rfl) ?_
  generalize hmn : (if (T.length : Int) < 3 then (T.length : Int) else 3) = mn
  have m0 : 0 < mn := by rw [← hmn]; split <;> omega
  have m1 : mn ≤ T.length := by rw [← hmn]; split <;> omega
  refine wA_nil ?_
  refine ⟨m, l, mn, _, _, _, rfl, m0, by omega, lw2, by omega, fun r3 μ3 d0 d1 lw3 ls3 => ?_⟩
  refine wO_sub ?_
  obtain ⟨y, hy, ey⟩ := atI_back (xs := T.map D.A.str) (i := 0 - 1 - r3) (by omega) (by rw [List.length_map]; omega)
  obtain ⟨t1, t2⟩ := thOk_at hT hy
  refine wI_lst ey ?_
  exact q _ _ t1 t2 (lw3.up (by omega)) ((ls1.trans ls2).trans ls3)
  refine wSs_nil ?_
  refine wSs_cons (wS_ret (wE_ix (wE_name 1 rfl (wE_cal C__law_draw ar (by omega) (wA_cons (wE_name 0 rfl (wA_cons (wE_callB (id := "len") TX.b_len (by decide +kernel) (wA_cons (wE_name 1 rfl (wA_nil ?_)))))))))))
  refine wC_len (.lst _) ?_
  rw [List.length_map]
  refine wA_nil ?_
  refine ⟨m, l, _, _, _, _, rfl, by omega, by omega, lw2, by omega, fun r4 μ3 d0 d1 lw3 ls3 => ?_⟩
  obtain ⟨y, hy, ey⟩ := atI_ex (xs := T.map D.A.str) d0 (by rw [List.length_map]; omega)
  obtain ⟨t1, t2⟩ := thOk_at hT hy
  refine wI_lst ey ?_
  exact q _ _ t1 t2 (lw3.up (by omega)) ((ls1.trans ls2).trans ls3)

abbrev s__law_row : Stmt := topS 57
abbrev N__law_row : List Str := ["_law_m", "_law_told", "_law_parts", "_law_some", "_law_word_here", "_law_name", "_law_ins", "_law_one", "_law_many", "_law_k"]
theorem sc__law_row : FnScope N__law_row ["_law_m", "_law_told", "_law_parts"] (defScope s__law_row) := ⟨rfl, rfl, rfl, by decide +kernel, rfl, by decide +kernel, by decide +kernel⟩
def WORDS : List Str := ["plus", "less", "times", "over", "power", "most", "least", "size", "pick", "copy"]
def WKV : List (Key × D.A) := [(.inr "size", .int 1), (.inr "copy", .int 1), (.inr "pick", .int 3)]
theorem words_take {w : Str} (h : w ∈ WORDS) (hp : w ≠ "power") : ∃ k : Nat, (valA WKV (.inr w)).getD (.int 2) = .int k ∧ valI TAKENL w = some (k : Int) ∧ k ≤ 3 ∧ w ≠ "call" := by
  simp only [WORDS, List.mem_cons, List.not_mem_nil, or_false] at h
  rcases h with rfl | rfl | rfl | rfl | rfl | rfl | rfl | rfl | rfl | rfl
  · exact ⟨2, rfl, rfl, by decide, by decide⟩
  · exact ⟨2, rfl, rfl, by decide, by decide⟩
  · exact ⟨2, rfl, rfl, by decide, by decide⟩
  · exact ⟨2, rfl, rfl, by decide, by decide⟩
  · exact absurd rfl hp
  · exact ⟨2, rfl, rfl, by decide, by decide⟩
  · exact ⟨2, rfl, rfl, by decide, by decide⟩
  · exact ⟨1, rfl, rfl, by decide, by decide⟩
  · exact ⟨3, rfl, rfl, by decide, by decide⟩
  · exact ⟨1, rfl, rfl, by decide, by decide⟩
theorem words_shl {w : Str} (h : w ∈ WORDS) : shl (.str w) ≤ 200 := by
  have e : WORDS.all (fun w => decide (shl (.str w) ≤ 200)) = true := by decide +kernel
  exact of_decide_eq_true (List.all_eq_true.mp e w h)
theorem Ls.new {m l p : Addr} {μ μ' : Mu} {o : MO} (a : Ls m l μ μ') (np : μ' p = none) : Ls m l μ (μ'.upd p o) := fun q o2 h1 h2 h => by
  have h3 := a q o2 h1 h2 h
  rw [Mu.upd_ne (fun z => by rw [z, np] at h3; cases h3)]
  exact h3
theorem Lx.new {m l p : Addr} {c : Nat} {rm : Int} {mo : Option (List Str)} {μ : Mu} {o : MO} (h : Lx m l c rm mo μ) (np : μ p = none) : Lx m l c rm mo (μ.upd p o) := h.del (h.off np).1 (h.off np).2
/-- the parts that a row may call -/
structure PsOk (Pn : List (Str × Int)) (ps : List Pt) : Prop where
  dat : DatOk (.lst (ps.map Pt.a))
  all : ∀ q ∈ ps, isNm (.str q.nm) = true ∧ valI Pn q.nm = some (q.ins.length : Int) ∧ q.ins.length ≤ 4
  len : ps.length ≤ 6
def c__law_row : AC := fun xs μ Q _ => ∃ (m l pp : Addr) (c : Nat) (rm : Int) (mo : Option (List Str)) (T : List Str) (Pn : List (Str × Int)) (ps : List Pt), xs = [.loc m, .lst (T.map D.A.str), .loc pp] ∧ Lx m l c rm mo μ ∧ c < 2 ^ 37 ∧ T.length ≤ 1000 ∧ (∀ w ∈ T, isNm (.str w) = true) ∧ μ pp = some (.lst (ps.map Pt.a)) ∧ pp ≠ m ∧ pp ≠ l ∧ PsOk Pn ps ∧ ∀ (w : Str) (ts : List D.A) (μ' : Mu), RowOk Pn T w ts → RowSm w ts → Lx m l (c + 30) rm mo μ' → Ls m l μ μ' → Q (.tup [.str w, .tup ts]) μ'
theorem ok__law_row {n : Nat}  {f : Addr} {fd : FuncData} (TX : Txt K mg w CL CP CS pT) (C__law_draw : Cal P w K mg base n "_law_draw" c__law_draw) (C__law_thing : Cal P w K mg base n "_law_thing" c__law_thing) (F : Fun K "_law_row" "_law_row" s__law_row f fd) : FnD P w K mg base CX0 (n + 1) f fd ["_law_m", "_law_told", "_law_parts"] c__law_row := by
  refine fnD F sc__law_row (fun xs μ Q E hc => by obtain ⟨m, l, pp, c, rm, mo, T, Pn, ps, rfl, lw, hc, hTl, hT, hpp, p1, p2, hps, q⟩ := hc; rfl) (fun cdv Ao outer s H E xs μ Q E0 ar hc => ?_)
  obtain ⟨m, l, pp, c, rm, mo, T, Pn, ps, rfl, lw, hc, hTl, hT, hpp, p1, p2, hps, q⟩ := hc
  have nd := sc__law_row.nd
  refine wSs_cons (wS_set 3 (wE_lstF (wA_cons (wE_str (wA_cons (wE_str (wA_cons (wE_str (wA_cons (wE_str (wA_cons (wE_str (wA_cons (wE_str (wA_cons (wE_str (wA_cons (wE_str (wA_cons (wE_str (wA_cons (wE_str (wA_cons (wE_str (wA_cons (wE_str (wA_nil ⟨by show 12 ≤ sizeLine; decide, (wSs_cons (wS_set 4 (wE_ix (wE_bin (wE_name 3 rfl (wE_lstF (wA_cons (wE_str (wA_nil ⟨by show 1 ≤ sizeLine; decide, ?_⟩))))))) nd))⟩)))))))))))))))))))))))))) nd)
  refine wO_catF (.lst _) (.lst _) (by decide) ?_
  refine wE_cal C__law_draw ar (by omega) (wA_cons (wE_name 0 rfl (wA_cons (wE_int (wA_nil ?_)))))
  refine ⟨m, l, 13, c, _, _, rfl, by decide, by decide, lw, by omega, fun r1 μ1 a0 a1 lw1 ls1 => ?_⟩
  obtain ⟨y1, hy1, ey1⟩ := atI_ex (xs := [D.A.str "plus", .str "less", .str "times", .str "plus", .str "less", .str "times", .str "over", .str "power", .str "most", .str "least", .str "size", .str "pick"] ++ [.str "copy"]) a0 (by simpa using a1)
  obtain ⟨wd, rfl, hwd⟩ : ∃ z : Str, y1 = .str z ∧ z ∈ WORDS := by
    simp only [List.cons_append, List.nil_append, List.mem_cons, List.not_mem_nil, or_false] at hy1
    rcases hy1 with rfl | rfl | rfl | rfl | rfl | rfl | rfl | rfl | rfl | rfl | rfl | rfl | rfl <;> exact ⟨_, rfl, by decide⟩
  have hpp1 := ls1 pp _ p1 p2 hpp
  refine wI_lst ey1 ?_
  refine wSs_cons (wS_if ?_)
  refine wT.imp (QB := fun k μ' => Lx m l (c + 2) rm mo μ' ∧ Ls m l μ μ' ∧ (k = true → ps ≠ [])) ?_ (fun k μ' hq => ?_)
  refine wT_chain (wW_and (wT_cmp (wE_name 2 rfl (wE_lstF (wA_nil ⟨by show 0 ≤ sizeLine; decide, ?_⟩)))))
  refine wO_neL ar.u64 (.loc hpp1) (.lst []) hps.dat datNil ?_
  rw [eqvNil]
  refine ⟨_, rfl, ?_⟩
  refine and_flip (fun hk => ?_) (fun hk => ?_)
  · exact ⟨lw1.up (by omega), ls1, fun z => nomatch z⟩
  have hne : ps ≠ [] := fun z => by subst z; simp at hk
  refine wW_and1 (wT_cmp (wE_cal C__law_draw ar (by omega) (wA_cons (wE_name 0 rfl (wA_cons (wE_int (wA_nil ?_)))))))
  refine ⟨m, l, 4, _, _, _, rfl, by decide, by decide, lw1, by omega, fun r2 μ2 b0 b1 lw2 ls2 => ?_⟩
  refine wE_int ?_
  refine wO_eqI ?_
  refine ⟨_, rfl, ?_⟩
  exact ⟨lw2, ls1.trans ls2, fun _ => hne⟩
  obtain ⟨lw2, ls2, hne⟩ := hq
  have hpp2 := ls2 pp _ p1 p2 hpp
  refine ⟨fun hk => ?_, fun hk => ?_⟩
  have hpos : 0 < ps.length := List.length_pos_iff.mpr (hne hk)
  have hl6 := hps.len
  refine wSs_cons (wS_asg (wE_slice (wE_ix (wE_name 2 rfl (wE_cal C__law_draw ar (by omega) (wA_cons (wE_name 0 rfl (wA_cons (wE_callB (id := "len") TX.b_len (by decide +kernel) (wA_cons (wE_name 2 rfl (wA_nil ?_))))))))))))
  refine wC_len (.loc hpp2) ?_
  rw [List.length_map]
  refine wA_nil ?_
  refine ⟨m, l, _, _, _, _, rfl, by omega, by omega, lw2, by omega, fun r3 μ3 d0 d1 lw3 ls3 => ?_⟩
  obtain ⟨y, hy, ey⟩ := atI_ex (xs := ps.map Pt.a) d0 (by rw [List.length_map]; omega)
  obtain ⟨pt, hpt, rfl⟩ := List.mem_map.mp hy
  obtain ⟨n1, n2, n3⟩ := hps.all pt hpt
  refine wI_loc (ls3 pp _ p1 p2 hpp2) ey ?_
  simp only [Pt.a]
  refine wE_int ⟨_, rfl, ?_⟩
  refine wSl_tup ?_
  rw [show cutA [D.A.str pt.nm, .tup (pt.ins.map D.A.str), .tup (aIts pt.body), .str pt.give] none (some 2) = [D.A.str pt.nm, .tup (pt.ins.map D.A.str)] from rfl]
  refine wG_tup (wGs_cons (wG_name 5 (wGs_cons (wG_name 6 (wGs_nil ?_) nd)) nd))
  refine wSs_cons (wS_ret (wE_tup (wA_cons (wE_str (wA_cons (wE_bin (wE_tup (wA_cons (wE_name 5 rfl (wA_nil ⟨by show 1 ≤ sizeLine; decide, (wE_callTy (T := "tuple") TX.b_tuple (by decide +kernel) (wA_cons (wE_lc [("_law_one", 7)] (wIt_tup (wE_name 6 rfl ⟨_, rfl, ?_⟩)) nd (blkOk_by (N := N__law_row) (sc := defScope s__law_row) (by decide +kernel)))))⟩))))))))))
  refine ⟨szOk (by rw [List.length_map]; omega), fun i acc μ' => acc.length = i ∧ (∀ a ∈ acc, ThOk T a ∧ ThSm a) ∧ Lx m l (c + 3 + 5 * i) rm mo μ' ∧ Ls m l μ μ', ⟨rfl, (fun _ h => nomatch h), lw3, ls2.trans ls3⟩, fun i y acc μ' hy hJ s0 H0 C cl fp => ?_, fun acc μ' hJ pl npl => ?_⟩
  obtain ⟨ha, hall, lwi, lsi⟩ := hJ
  have hi := (List.getElem?_eq_some_iff.mp hy).1
  rw [List.length_map] at hi
  refine wGw_name 7 (fun s0 H0 C cl fp => (wE_cal C__law_thing ar.bk (by omega) (wA_cons (wE_name 0 rfl (wA_cons (wE_name 1 rfl (wA_nil ?_))))))) nd
  refine ⟨m, l, _, _, _, T, rfl, lwi, by omega, hTl, hT, fun x μ4 x1 x2 lw4 ls4 => ?_⟩
  exact ⟨by rw [List.length_append, ha]; rfl, fun a h => by
    rcases List.mem_append.mp h with h | h
    · exact hall a h
    · rw [List.mem_singleton.mp h]; exact ⟨x1, x2⟩, lw4.up (by omega), lsi.trans ls4⟩
  obtain ⟨ha, hall, lwi, lsi⟩ := hJ
  rw [List.length_map] at ha lwi
  refine wA_nil ?_
  refine wC_tuple (.loc Mu.upd_same) ?_
  refine wO_catT (szOk (by simp only [List.length_singleton]; omega)) ?_
  refine wA_nil ⟨by show 2 ≤ sizeLine; decide, ?_⟩
  obtain ⟨m1, m2, _⟩ := isNm_let n1
  refine q "call" (.str pt.nm :: acc) _ (.inl ⟨rfl, pt.nm, acc, rfl, by rw [n2, ha], m1, m2, fun a h => (hall a h).1⟩) ⟨by rw [List.length_cons]; omega, fun a h => ?_, by decide +kernel⟩ ((lwi.up (by omega)).new npl) (lsi.new npl)
  rcases List.mem_cons.mp h with rfl | h
  · exact thSm_str m1 m2
  · exact (hall a h).2
  refine wSs_nil ?_
  refine wSs_cons (wS_if (wT_cmp (wE_name 4 rfl (wE_str ?_))))
  refine wO_eqS ?_
  refine ⟨_, rfl, ?_⟩
  refine ⟨fun hk => ?_, fun hk => ?_⟩
  refine wSs_cons (wS_ret (wE_tup (wA_cons (wE_name 4 rfl (wA_cons (wE_tup (wA_cons (wE_cal C__law_thing ar (by omega) (wA_cons (wE_name 0 rfl (wA_cons (wE_name 1 rfl (wA_nil ?_)))))))))))))
  refine ⟨m, l, _, _, _, T, rfl, lw2, by omega, hTl, hT, fun x μ4 x1 x2 lw4 ls4 => ?_⟩
  refine wA_cons (wE_ix (wE_lstF (wA_cons (wE_int (wA_cons (wE_int (wA_cons (wE_int (wA_cons (wE_int (wA_cons (wE_int (wA_cons (wE_neg (wE_int ⟨_, rfl, (wA_cons (wE_neg (wE_int ⟨_, rfl, (wA_cons (wE_int (wA_cons (wE_neg (wE_int ⟨_, rfl, (wA_nil ⟨by show 9 ≤ sizeLine; decide, (wE_cal C__law_draw ar (by omega) (wA_cons (wE_name 0 rfl (wA_cons (wE_int (wA_nil ?_))))))⟩)⟩)))))⟩)))⟩)))))))))))))))
  refine ⟨m, l, 9, _, _, _, rfl, by decide, by decide, lw4, by omega, fun r4 μ5 e0 e1 lw5 ls5 => ?_⟩
  obtain ⟨y3, hy3, ey3⟩ := atI_ex (xs := [D.A.int 2, .int 2, .int 3, .int 1, .int 0, .int (-1), .int (-2), .int 8, .int (-8)]) e0 (by simpa using e1)
  obtain ⟨k, rfl, k0, k1⟩ : ∃ z : Int, y3 = .int z ∧ -8 ≤ z ∧ z ≤ 8 := by
    simp only [List.mem_cons, List.not_mem_nil, or_false] at hy3
    rcases hy3 with rfl | rfl | rfl | rfl | rfl | rfl | rfl | rfl | rfl <;> exact ⟨_, rfl, by decide, by decide⟩
  refine wI_lst ey3 ?_
  refine wA_nil ⟨by show 2 ≤ sizeLine; decide, (wA_nil ⟨by show 2 ≤ sizeLine; decide, ?_⟩)⟩
  obtain rfl : wd = "power" := of_decide_eq_true hk
  refine q "power" [x, .int k] _ (.inr (.inl ⟨rfl, x, k, rfl, x1, k0, k1⟩)) ⟨by simp, fun a h => ?_, by decide +kernel⟩ (lw5.up (by omega)) ((ls2.trans ls4).trans ls5)
  simp only [List.mem_cons, List.not_mem_nil, or_false] at h
  rcases h with rfl | rfl
  · exact x2
  · exact thSm_int (by omega)
  have hpw : wd ≠ "power" := of_decide_eq_false hk
  obtain ⟨many, w1, w2, w3, w4⟩ := words_take hwd hpw
  refine wSs_nil ?_
  refine wSs_cons (wS_set 8 (wE_dget2 ar (wE_disp (wE_str (wE_int (wE_str (wE_int (wE_str (wE_int ?_)))))))) nd)
  refine ⟨WKV, rfl, by show 3 ≤ 15; decide, fun d ndl => ?_⟩
  rw [show mergeA [] WKV = WKV from rfl]
  refine ⟨d, _, rfl, Mu.upd_same, ?_⟩
  refine wE_name 4 rfl (wE_int ?_)
  refine ⟨_, .inr wd, Mu.upd_same, rfl, ?_⟩
  rw [w1]
  refine wSs_cons (wS_ret (wE_tup (wA_cons (wE_name 4 rfl (wA_cons (wE_callTy (T := "tuple") TX.b_tuple (by decide +kernel) (wA_cons (wE_lc [("_law_k", 9)] (wIt_range1 TX.b_range (wA_cons (wE_name 8 rfl (wA_nil ⟨_, rfl, by omega, by omega, ?_⟩)))) nd (blkOk_by (N := N__law_row) (sc := defScope s__law_row) (by decide +kernel))))))))))
  refine ⟨by rw [rgA_len]; exact szOk (by omega), fun i acc μ' => acc.length = i ∧ (∀ a ∈ acc, ThOk T a ∧ ThSm a) ∧ Lx m l (c + 2 + 5 * i) rm mo μ' ∧ Ls m l μ μ', ⟨rfl, (fun _ h => nomatch h), lw2.new ndl, ls2.new ndl⟩, fun i y acc μ' hy hJ s0 H0 C cl fp => ?_, fun acc μ' hJ pl npl => ?_⟩
  obtain ⟨ha, hall, lwi, lsi⟩ := hJ
  obtain ⟨hi, rfl⟩ := rgA_at hy
  refine wGw_name 9 (fun s0 H0 C cl fp => (wE_cal C__law_thing ar.bk (by omega) (wA_cons (wE_name 0 rfl (wA_cons (wE_name 1 rfl (wA_nil ?_))))))) nd
  refine ⟨m, l, _, _, _, T, rfl, lwi, by omega, hTl, hT, fun x μ4 x1 x2 lw4 ls4 => ?_⟩
  exact ⟨by rw [List.length_append, ha]; rfl, fun a h => by
    rcases List.mem_append.mp h with h | h
    · exact hall a h
    · rw [List.mem_singleton.mp h]; exact ⟨x1, x2⟩, lw4.up (by omega), lsi.trans ls4⟩
  obtain ⟨ha, hall, lwi, lsi⟩ := hJ
  rw [rgA_len] at ha lwi
  have ha2 : acc.length = many := by omega
  refine wA_nil ?_
  refine wC_tuple (.loc Mu.upd_same) ?_
  refine wA_nil ⟨by show 2 ≤ sizeLine; decide, ?_⟩
  exact q wd acc _ (.inr (.inr ⟨w4, hpw, by rw [w2, ha2], fun a h => (hall a h).1⟩)) ⟨by omega, fun a h => (hall a h).2, words_shl hwd⟩ ((lwi.up (by omega)).new npl) (lsi.new npl)

end
end D

set_option Elab.async false
set_option linter.all false
set_option maxRecDepth 100000
set_option maxHeartbeats 4000000
namespace D
open PySem PySem.Spec PyProof.Rows L2
local macro_rules | `(tactic| walk_at "mul") => `(tactic| first | refine wO_mul (mulR (by first | decide | omega) (by first | decide | omega)) ?_ | refine wO_mul (mulL (by first | decide | omega) (by first | decide | omega)) ?_)
local macro_rules | `(tactic| walk_at "mod") => `(tactic| refine wO_mod (by first | decide | omega) ?_)
local macro_rules | `(tactic| walk_at "fdiv") => `(tactic| refine wO_fdiv (by first | decide | omega) (divS (by first | decide | omega)) ?_)
local macro_rules | `(tactic| walk_at "ix") => `(tactic| first | refine wI_tup (by rfl) ?_ | refine wI_lst (by rfl) ?_)
local macro_rules | `(tactic| walk_at "sl") => `(tactic| first | refine wSl_tup ?_ | refine wSl_lstF ?_)
local macro_rules | `(tactic| walk_at "obj") => `(tactic| refine ⟨_, _, _, rfl, by assumption, rfl, ?_⟩)
local macro_rules | `(tactic| walk_at "len") => `(tactic| first | refine wC_len (.tup _) ?_ | refine wC_len (.lst _) ?_ | refine wC_len (.loc (by assumption)) ?_)
section
variable {P : Program} {w : World} {K : PySem.W.Frag} {mg : Str → Option Value} {base : Heap} {CL CP CS pT : Addr}
abbrev s__law_body : Stmt := topS 58
abbrev N__law_body : List Str := ["_law_m", "_law_told", "_law_many", "_law_deep", "_law_parts", "_law_found", "_law_k", "_law_inner", "_law_word_here", "_law_things", "_law_name", "_law_one"]
theorem sc__law_body : FnScope N__law_body ["_law_m", "_law_told", "_law_many", "_law_deep", "_law_parts"] (defScope s__law_body) := ⟨rfl, rfl, rfl, by decide +kernel, rfl, by decide +kernel, by decide +kernel⟩
def KB (d : Nat) : Nat := 40 * 4 ^ (3 - d)
theorem KB_lo {d : Nat} : 40 ≤ KB d ∧ KB d ≤ 2560 := by
  have h : 4 ^ (3 - d) ≤ 4 ^ 3 := Nat.pow_le_pow_right (by decide) (by omega)
  have h2 : 1 ≤ 4 ^ (3 - d) := Nat.one_le_pow _ _ (by decide)
  unfold KB
  omega
theorem KB_up {d : Nat} (h : d < 3) : 3 + 3 * KB (d + 1) ≤ KB d := by
  have : d = 0 ∨ d = 1 ∨ d = 2 := by omega
  rcases this with rfl | rfl | rfl <;> decide
theorem Lx.room {m l : Addr} {c : Nat} {rm : Int} {mo : Option (List Str)} {μ : Mu} (h : Lx m l c rm mo μ) : ∃ fs at_, μ m = some (.dic (dicL fs l at_ rm mo)) ∧ ∀ rm2 mo2, Lx m l c rm2 mo2 (μ.upd m (.dic (dicL fs l at_ rm2 mo2))) := by
  obtain ⟨⟨fs, left, a, h1, h2, h3⟩, h7⟩ := h
  exact ⟨fs, a, h1, fun rm2 mo2 => ⟨⟨fs, left, a, Mu.upd_same, by rw [Mu.upd_ne h7]; exact h2, h3⟩, h7⟩⟩
theorem Same.trans {T T1 T2 : List Str} (a : Same T T1) (b : Same T1 T2) : Same T T2 := fun w => (a w).trans (b w)
/-- where a body stands -/
structure BdS (m l p : Addr) (c : Nat) (ns : List Str) (Pn : List (Str × Int)) (d : Nat) (T : List Str) (rm : Int) (μ : Mu) (b : List It) (T' : List Str) (rm' : Int) (μ' : Mu) : Prop where
  cell : μ' p = some (.lst (aIts b))
  ok : okIts Pn d T b
  sm : smIts b
  size : sizeIts b + rm'.toNat ≤ rm.toNat
  same : Same T' (toldIts b T)
  nm : ∀ w ∈ T', isNm (.str w) = true
  ne : T' ≠ []
  len : T'.length + rm'.toNat ≤ T.length + rm.toNat
  lx : Lx m l c rm' (some ns) μ'
  ls : Ls m l μ μ'
def c__law_body (lo : Nat) : AC := fun xs μ Q _ => ∃ (m l pp : Addr) (c : Nat) (rm : Int) (ns T : List Str) (Pn : List (Str × Int)) (ps : List Pt) (many d : Nat), xs = [.loc m, .lst (T.map D.A.str), .int many, .int d, .loc pp] ∧ Lx m l c rm (some ns) μ ∧ c + many * KB d < 2 ^ 30 ∧ T.length + rm.toNat ≤ 200 ∧ (∀ w ∈ T, isNm (.str w) = true) ∧ T ≠ [] ∧ (∀ w ∈ ns, isNm (.str w) = true) ∧ 1 ≤ ns.length ∧ ns.length ≤ 12 ∧ μ pp = some (.lst (ps.map Pt.a)) ∧ pp ≠ m ∧ pp ≠ l ∧ PsOk Pn ps ∧ many ≤ 12 ∧ lo ≤ d ∧ d ≤ 3 ∧
  ∀ (b : List It) (T' : List Str) (rm' : Int) (μ' : Mu), okIts Pn d T b → smIts b → sizeIts b + rm'.toNat ≤ rm.toNat → Same T' (toldIts b T) → (∀ w ∈ T', isNm (.str w) = true) → T' ≠ [] → T'.length + rm'.toNat ≤ T.length + rm.toNat → Lx m l (c + 1 + many * KB d) rm' (some ns) μ' → Ls m l μ μ' → Q (.tup [.tup (aIts b), .lst (T'.map D.A.str)]) μ'
theorem ok__law_body {n : Nat} {lo : Nat} {f : Addr} {fd : FuncData} (TX : Txt K mg w CL CP CS pT) (C__law_draw : Cal P w K mg base n "_law_draw" c__law_draw) (C__law_body : Cal P w K mg base n "_law_body" (c__law_body (lo+1))) (C__law_row : Cal P w K mg base n "_law_row" c__law_row) (F : Fun K "_law_body" "_law_body" s__law_body f fd) : FnD P w K mg base CX0 (n + 1) f fd ["_law_m", "_law_told", "_law_many", "_law_deep", "_law_parts"] (c__law_body lo) := by
  refine fnD F sc__law_body (fun xs μ Q E hc => by obtain ⟨m, l, pp, c, rm, ns, T, Pn, ps, many, d, rfl, lw, hc, hTl, hT, hTn, hns, hn1, hn12, hpp, p1, p2, hps, hmany, hlo, hd, q⟩ := hc; rfl) (fun cdv Ao outer s H E xs μ Q E0 ar hc => ?_)
  obtain ⟨m, l, pp, c, rm, ns, T, Pn, ps, many, d, rfl, lw, hc, hTl, hT, hTn, hns, hn1, hn12, hpp, p1, p2, hps, hmany, hlo, hd, q⟩ := hc
  obtain ⟨kb1, kb2⟩ := KB_lo (d := d)
  have kbm : many * KB d ≤ 12 * 2560 := Nat.mul_le_mul hmany kb2
  have nd := sc__law_body.nd
  refine wSs_cons (wS_set 5 (wE_lst (wA_nil ⟨by show 0 ≤ sizeLine; decide, fun p__law_found np__law_found => (wSs_cons (wS_for (wIt_range1 TX.b_range (wA_cons (wE_cal C__law_draw ar (by omega) (wA_cons (wE_name 0 rfl (wA_cons (wE_bin (wE_name 2 rfl (wE_int ?_)))))))))))⟩)) nd)
  refine wO_add ?_
  refine wA_nil ?_
  have pm := (lw.off np__law_found).1
  have pl := (lw.off np__law_found).2
  refine ⟨m, l, _, c, _, _, rfl, by omega, by omega, lw.new np__law_found, by omega, fun r1 μ1 a0 a1 lw1 ls1 => ?_⟩
  have fd1 : μ1 p__law_found = some (.lst (aIts [])) := ls1 _ _ pm pl Mu.upd_same
  have ls01 : Ls m l μ μ1 := ((Ls.refl μ).new np__law_found).trans ls1
  refine wA_nil ⟨_, rfl, by omega, by omega, ?_⟩
  refine ⟨fun i Γ' μ' => ∃ (b : List It) (T' : List Str) (rm' : Int) (x6 x7 x8 x9 x10 x11 : Option D.A), Γ' = [some (.loc m), some (.lst (T'.map D.A.str)), some (.int many), some (.int d), some (.loc pp), some (.loc p__law_found), x6, x7, x8, x9, x10, x11] ∧ BdS m l p__law_found (c + 1 + i * KB d) ns Pn d T rm μ b T' rm' μ', ⟨[], T, rm, _, _, _, _, _, _, rfl, fd1, trivial, trivial, by simp [sizeIts], Same.refl _, hT, hTn, Nat.le_refl _, lw1.up (by omega), ls01⟩, fun i y Γ' μ' hy hI => ?_, fun Γ' μ' hI => ?_⟩
  obtain ⟨b, T', rm', x6, x7, x8, x9, x10, x11, rfl, S⟩ := hI
  obtain ⟨hi, rfl⟩ := rgA_at hy
  have hbl := len_size b
  have hsz := S.size
  have hlen := S.len
  have kbi : (i + 1) * KB d ≤ many * KB d := Nat.mul_le_mul_right _ (by omega)
  have kbs : (i + 1) * KB d = i * KB d + KB d := Nat.succ_mul ..
  obtain ⟨fs, at_, g1, g2⟩ := S.lx.room
  refine wG_name 6 ?_ nd
  refine wSs_cons (wS_dput ar (wE_bin (wE_dget ar (wE_name 0 rfl (wE_str ?_)))))
  refine ⟨_, _, .inr "room", _, rfl, g1, rfl, rfl, ?_⟩
  refine wE_int ?_
  refine wO_sub ?_
  refine wE_name 0 rfl (wE_str ?_)
  refine ⟨_, _, .inr "room", rfl, g1, rfl, szLt (by have := @dicL_len fs l at_ rm' (some ns); omega), ?_⟩
  rw [dicL_room]
  have lx1 := g2 (rm' - 1) (some ns)
  have ls2 : Ls m l μ' (μ'.upd m (.dic (dicL fs l at_ (rm' - 1) (some ns)))) := Ls.m
  generalize μ'.upd m (.dic (dicL fs l at_ (rm' - 1) (some ns))) = μ2 at lx1 ls2 ⊢
  have fd2 := ls2 _ _ pm pl S.cell
  have ls02 := S.ls.trans ls2
  have hpp2 := ls02 pp _ p1 p2 hpp
  obtain ⟨fs2, at2, k1, _⟩ := lx1.room
  refine wSs_cons (wS_if (wT_cmp (wE_dget ar (wE_name 0 rfl (wE_str ?_)))))
  refine ⟨_, _, .inr "room", _, rfl, k1, rfl, rfl, ?_⟩
  refine wE_int ?_
  refine wO_lt ?_
  refine ⟨_, rfl, ?_⟩
  refine ⟨fun hk => ?_, fun hk => ?_⟩
  refine wSs_cons (wS_ret (wE_tup (wA_cons (wE_callTy (T := "tuple") TX.b_tuple (by decide +kernel) (wA_cons (wE_name 5 rfl (wA_nil ?_)))))))
  refine wC_tuple (.loc fd2) ?_
  refine wA_cons (wE_name 1 rfl (wA_nil ⟨by show 2 ≤ sizeLine; decide, ?_⟩))
  exact q b T' (rm' - 1) _ S.ok S.sm (by omega) S.same S.nm S.ne (by omega) (lx1.up (by omega)) ls02
  refine wSs_nil ?_
  have hr0 : ¬ rm' - 1 < 0 := of_decide_eq_false hk
  refine wSs_cut (fun Γ' μ' => ∃ (b : List It) (T' : List Str) (rm' : Int) (x6 x7 x8 x9 x10 x11 : Option D.A), Γ' = [some (.loc m), some (.lst (T'.map D.A.str)), some (.int many), some (.int d), some (.loc pp), some (.loc p__law_found), x6, x7, x8, x9, x10, x11] ∧ BdS m l p__law_found (c + 1 + (i + 1) * KB d) ns Pn d T rm μ b T' rm' μ') ?_ (fun Γ' μ' hP => ?_)
  refine wS_if ?_
  refine wT.imp (QB := fun k μ' => Lx m l (c + 1 + i * KB d + 1) (rm' - 1) (some ns) μ' ∧ Ls m l μ2 μ' ∧ (k = true → d < 3)) ?_ (fun k μ' hq => ?_)
  refine wT_chain (wW_and (wT_cmp (wE_name 3 rfl (wE_int ?_))))
  refine wO_lt ?_
  refine ⟨_, rfl, ?_⟩
  refine and_flip (fun hk => ?_) (fun hk => ?_)
  · exact ⟨lx1.up (by omega), Ls.refl _, fun z => nomatch z⟩
  have hd3 : d < 3 := by have h3 : (d : Int) < 3 := of_decide_eq_true hk
                         omega
  refine wW_and1 (wT_cmp (wE_cal C__law_draw ar (by omega) (wA_cons (wE_name 0 rfl (wA_cons (wE_int (wA_nil ?_)))))))
  refine ⟨m, l, 7, _, _, _, rfl, by decide, by decide, lx1, by omega, fun r2 μ3 b0 b1 lw2 ls3 => ?_⟩
  refine wE_int ?_
  refine wO_eqI ?_
  refine ⟨_, rfl, ?_⟩
  exact ⟨lw2, ls3, fun _ => hd3⟩
  obtain ⟨lx3, ls3, hd3⟩ := hq
  have hpp3 := ls3 pp _ p1 p2 hpp2
  have fd3 := ls3 _ _ pm pl fd2
  have ls03 := ls02.trans ls3
  refine ⟨fun hk => ?_, fun hk => ?_⟩
  have hd4 := hd3 hk
  have kbu := KB_up hd4
  refine wSs_cons (wS_asg (wE_cal C__law_body ar (by omega) (wA_cons (wE_name 0 rfl (wA_cons (wE_name 1 rfl (wA_cons (wE_int (wA_cons (wE_bin (wE_name 3 rfl (wE_int ?_))))))))))))
  refine wO_add ?_
  refine wA_cons (wE_name 4 rfl (wA_nil ?_))
  refine ⟨m, l, pp, _, rm' - 1, ns, T', Pn, ps, 3, d + 1, rfl, lx3, by omega, by omega, S.nm, S.ne, hns, hn1, hn12, hpp3, p1, p2, hps, by decide, by omega, by omega, fun b2 T2 rm3 μ4 ok2 sm2 sz2 same2 nm2 ne2 len2 lx4 ls4 => ?_⟩
  have fd4 := ls4 _ _ pm pl fd3
  refine wG_tup (wGs_cons (wG_name 7 (wGs_cons (wG_name 1 (wGs_nil ?_) nd)) nd))
  refine wSs_cons (wS_expr (wE_append (wE_name 5 rfl ?_)))
  refine ⟨_, _, rfl, fd4, ?_⟩
  refine wE_tup (wA_cons (wE_str (wA_cons (wE_ix (wE_lstF (wA_cons (wE_int (wA_cons (wE_int (wA_cons (wE_int (wA_cons (wE_int (wA_nil ⟨by show 4 ≤ sizeLine; decide, (wE_cal C__law_draw ar (by omega) (wA_cons (wE_name 0 rfl (wA_cons (wE_int (wA_nil ?_))))))⟩))))))))))))))
  refine ⟨m, l, 4, _, _, _, rfl, by decide, by decide, lx4, by omega, fun r3 μ5 d0 d1 lx5 ls5 => ?_⟩
  have fd5 := ls5 _ _ pm pl fd4
  obtain ⟨y1, hy1, ey1⟩ := atI_ex (xs := [D.A.int 1, .int 2, .int 3, .int 5]) d0 (by simpa using d1)
  obtain ⟨k, rfl, k0, k1⟩ : ∃ z : Int, y1 = .int z ∧ 1 ≤ z ∧ z ≤ 5 := by
    simp only [List.mem_cons, List.not_mem_nil, or_false] at hy1
    rcases hy1 with rfl | rfl | rfl | rfl <;> exact ⟨_, rfl, by decide, by decide⟩
  refine wI_lst ey1 ?_
  refine wA_cons (wE_name 7 rfl (wA_nil ⟨by show 3 ≤ sizeLine; decide, ?_⟩))
  refine ⟨_, fd5, szLt (by rw [aIts_len]; omega), ?_⟩
  refine wSs_nil ?_
  have hsm : It.sm (.rep k b2) := by simp only [It.sm]; exact ⟨by omega, k1, sm2⟩
  have hok : It.ok Pn d (toldIts b T) (.rep k b2) := by simp only [It.ok]; exact ⟨hd3 hk, k0, by omega, okIts_same ok2 S.same⟩
  have hz := size_snoc (.rep k b2) b
  simp only [It.size] at hz
  refine ⟨b ++ [.rep k b2], T2, rm3, _, _, _, _, _, _, rfl, by rw [aIts_snoc]; exact Mu.upd_same, ok_snoc S.ok hok, sm_snoc hsm S.sm, by omega, ?_, nm2, ne2, by omega, ?_, ?_⟩
  · rw [told_snoc]; simp only [It.told]; exact same2.trans (tolds_same b2 S.same)
  · exact (lx5.up (by omega)).del pm pl
  · intro z o z1 z2 hz3
    have hz4 := ((ls03.trans ls4).trans ls5) z o z1 z2 hz3
    rw [Mu.upd_ne (fun e => by rw [e, np__law_found] at hz3; cases hz3)]
    exact hz4
  refine wSs_cons (wS_asg (wE_cal C__law_row ar (by omega) (wA_cons (wE_name 0 rfl (wA_cons (wE_name 1 rfl (wA_cons (wE_name 4 rfl (wA_nil ?_)))))))))
  refine ⟨m, l, pp, _, _, _, T', Pn, ps, rfl, lx3, by omega, by omega, S.nm, hpp3, p1, p2, hps, fun w ts μ4 hro hrs lx4 ls4 => ?_⟩
  have fd4 := ls4 _ _ pm pl fd3
  obtain ⟨fs4, at4, k4, _⟩ := lx4.room
  refine wG_tup (wGs_cons (wG_name 8 (wGs_cons (wG_name 9 (wGs_nil (wSs_cons (wS_set 10 (wE_ix (wE_dget ar (wE_name 0 rfl (wE_str ?_)))) nd))) nd)) nd))
  refine ⟨_, _, .inr "names", _, rfl, k4, rfl, rfl, ?_⟩
  refine wE_cal C__law_draw ar (by omega) (wA_cons (wE_name 0 rfl (wA_cons (wE_callB (id := "len") TX.b_len (by decide +kernel) (wA_cons (wE_dget ar (wE_name 0 rfl (wE_str ?_))))))))
  refine ⟨_, _, .inr "names", _, rfl, k4, rfl, rfl, ?_⟩
  refine wA_nil ?_
  refine wC_len (.lst _) ?_
  rw [List.length_map]
  refine wA_nil ?_
  refine ⟨m, l, _, _, _, _, rfl, by omega, by omega, lx4, by omega, fun r4 μ5 d0 d1 lx5 ls5 => ?_⟩
  have fd5 := ls5 _ _ pm pl fd4
  obtain ⟨y1, hy1, ey1⟩ := atI_ex (xs := ns.map D.A.str) d0 (by rw [List.length_map]; omega)
  obtain ⟨x, hx, rfl⟩ := List.mem_map.mp hy1
  have hxn := hns x hx
  refine wI_lst ey1 ?_
  refine wSs_cons (wS_expr (wE_append (wE_name 5 rfl ?_)))
  refine ⟨_, _, rfl, fd5, ?_⟩
  refine wE_tup (wA_cons (wE_str (wA_cons (wE_name 10 rfl (wA_cons (wE_name 8 rfl (wA_cons (wE_name 9 rfl (wA_nil ⟨by show 4 ≤ sizeLine; decide, ?_⟩)))))))))
  refine ⟨_, fd5, szLt (by rw [aIts_len]; omega), ?_⟩
  refine wSs_cons (wS_set 1 (wE_bin (wE_lcPF (own := [("_law_one", 11)]) (wIt_list (wE_name 1 rfl ⟨_, rfl, ?_⟩)) nd (blkOk_by (N := N__law_body) (sc := defScope s__law_body) (by decide +kernel)))) nd)
  refine ⟨szOk (by rw [List.length_map]; omega), T'.map (fun v => decide (v ≠ x)), T'.map D.A.str, by simp, by simp, fun j y k z hy hkk hz s0 H0 C cl fp => ?_, ?_⟩
  obtain ⟨v, hv, rfl⟩ := map_at hy
  obtain ⟨v2, hv2, rfl⟩ := map_at hz
  obtain rfl : v = v2 := Option.some.inj (hv.symm.trans hv2)
  obtain ⟨v3, hv3, e3⟩ : ∃ v3, T'[j]? = some v3 ∧ k = decide (v3 ≠ x) := by
    rw [List.getElem?_map] at hkk
    cases e : T'[j]? with
    | none => rw [e] at hkk; cases hkk
    | some v3 => rw [e] at hkk; exact ⟨v3, rfl, (Option.some.inj hkk).symm⟩
  obtain rfl : v = v3 := Option.some.inj (hv.symm.trans hv3)
  subst e3
  refine wGw_name 11 (⟨rfl, ?_⟩) nd
  refine ⟨fun s0 H0 C cl fp => ?_, fun kt s0 H0 C cl fp => ?_⟩
  refine wT_cmp (wE_name 11 rfl (wE_name 10 rfl ?_))
  refine wO_neS ?_
  rw [show (!decide (v = x)) = decide (v ≠ x) by simp]
  refine ⟨_, rfl, ?_⟩
  exact ⟨rfl, .refl _⟩
  refine wE_name 11 rfl ?_
  refine ⟨?_, .refl _⟩
  rfl
  rw [pickA_map]
  refine wE_lstF (wA_cons (wE_name 10 rfl (wA_nil ⟨by show 1 ≤ sizeLine; decide, ?_⟩)))
  refine wO_catF (.lst _) (.lst _) (szOk (by rw [List.length_map]; have := List.length_filter_le (fun v => decide (v ≠ x)) T'; simp only [List.length_singleton]; omega)) ?_
  refine wSs_nil ?_
  obtain ⟨m1, m2, _⟩ := isNm_let hxn
  have hsm : It.sm (.row x w ts) := by simp only [It.sm]; exact ⟨shl_let m1 m2, hrs⟩
  have hok : It.ok Pn d (toldIts b T) (.row x w ts) := by simp only [It.ok]; exact ⟨hd, hxn, hro.same S.same⟩
  have hz := size_snoc (.row x w ts) b
  simp only [It.size] at hz
  have hpl := putT_len T' x
  refine ⟨b ++ [.row x w ts], putT T' x, rm' - 1, _, _, _, _, _, _, by unfold putT; rw [List.map_append]; rfl, by rw [aIts_snoc]; exact Mu.upd_same, ok_snoc S.ok hok, sm_snoc hsm S.sm, by omega, ?_, putT_all S.nm hxn, putT_ne _ _, by omega, ?_, ?_⟩
  · rw [told_snoc]; simp only [It.told]
    exact (putT_same T' x).trans (told_same (.row x w ts) S.same)
  · exact (lx5.up (by omega)).del pm pl
  · intro z o z1 z2 hz3
    have hz4 := ((ls03.trans ls4).trans ls5) z o z1 z2 hz3
    rw [Mu.upd_ne (fun e => by rw [e, np__law_found] at hz3; cases hz3)]
    exact hz4
  refine wSs_nil ?_
  exact hP
  obtain ⟨b, T', rm', x6, x7, x8, x9, x10, x11, rfl, S⟩ := hI
  have hr : ((r1.toNat : Nat)) ≤ many := by omega
  refine wSs_cons (wS_ret (wE_tup (wA_cons (wE_callTy (T := "tuple") TX.b_tuple (by decide +kernel) (wA_cons (wE_name 5 rfl (wA_nil ?_)))))))
  refine wC_tuple (.loc S.cell) ?_
  refine wA_cons (wE_name 1 rfl (wA_nil ⟨by show 2 ≤ sizeLine; decide, ?_⟩))
  refine q b T' rm' _ S.ok S.sm S.size S.same S.nm S.ne S.len (S.lx.up ?_) S.ls
  have kbr : r1.toNat * KB d ≤ many * KB d := Nat.mul_le_mul_right _ hr
  rw [rgA_len]
  omega

end
end D

set_option Elab.async false
set_option linter.all false
set_option maxRecDepth 100000
set_option maxHeartbeats 4000000
namespace D
open PySem PySem.Spec PyProof.Rows L2
local macro_rules | `(tactic| walk_at "mul") => `(tactic| first | refine wO_mul (mulR (by first | decide | omega) (by first | decide | omega)) ?_ | refine wO_mul (mulL (by first | decide | omega) (by first | decide | omega)) ?_)
local macro_rules | `(tactic| walk_at "mod") => `(tactic| refine wO_mod (by first | decide | omega) ?_)
local macro_rules | `(tactic| walk_at "fdiv") => `(tactic| refine wO_fdiv (by first | decide | omega) (divS (by first | decide | omega)) ?_)
local macro_rules | `(tactic| walk_at "ix") => `(tactic| first | refine wI_tup (by rfl) ?_ | refine wI_lst (by rfl) ?_)
local macro_rules | `(tactic| walk_at "sl") => `(tactic| first | refine wSl_tup ?_ | refine wSl_lstF ?_)
local macro_rules | `(tactic| walk_at "obj") => `(tactic| refine ⟨_, _, _, rfl, by assumption, rfl, ?_⟩)
local macro_rules | `(tactic| walk_at "len") => `(tactic| first | refine wC_len (.tup _) ?_ | refine wC_len (.lst _) ?_ | refine wC_len (.loc (by assumption)) ?_)
section
variable {P : Program} {w : World} {K : PySem.W.Frag} {mg : Str → Option Value} {base : Heap} {CL CP CS pT : Addr}
abbrev s__law_program : Stmt := topS 59
abbrev N__law_program : List Str := ["_law_m", "_law_many", "_law_parts", "_law_k", "_law_ins", "_law_body_here", "_law_told", "_law_give", "_law_at", "_law_outs"]
theorem sc__law_program : FnScope N__law_program ["_law_m", "_law_many"] (defScope s__law_program) := ⟨rfl, rfl, rfl, by decide +kernel, rfl, by decide +kernel, by decide +kernel⟩
theorem valI_old {Pn : List (Str × Int)} {x w : Str} {v i : Int} (h : valI Pn x = some v) : valI (Pn ++ [(w, i)]) x = some v := by
  unfold valI at h ⊢
  rw [List.find?_append]
  cases e : Pn.find? (fun kv => decide (kv.1 = x)) with
  | none => rw [e] at h; cases h
  | some p => rw [e] at h; exact h
theorem valI_new {Pn : List (Str × Int)} {w : Str} {i : Int} (h : valI Pn w = none) : valI (Pn ++ [(w, i)]) w = some i := by
  unfold valI at h ⊢
  rw [List.find?_append]
  cases e : Pn.find? (fun kv => decide (kv.1 = w)) with
  | none => simp
  | some p => rw [e] at h; cases h
theorem valI_out {Pn : List (Str × Int)} {w : Str} (h : ∀ p ∈ Pn, p.1 ≠ w) : valI Pn w = none := by
  unfold valI
  rw [Option.map_eq_none_iff, List.find?_eq_none]
  exact fun p hp e => h p hp (of_decide_eq_true e)
theorem okPts_snoc {q : Pt} : ∀ {l : List Pt} {Pn : List (Str × Int)}, okPts Pn l → q.ok (Pn ++ pnPts l) → okPts Pn (l ++ [q])
  | [], Pn, _, h => by simp only [List.nil_append, okPts]; exact ⟨by simpa using h, trivial⟩
  | x :: l, Pn, h, hq => by
    simp only [okPts] at h
    simp only [List.cons_append, okPts]
    exact ⟨h.1, okPts_snoc h.2 (by simpa using hq)⟩
theorem Pt.dat {q : Pt} {Pn : List (Str × Int)} (h : q.ok Pn) (s : q.sm) : isD q.a = true ∧ deep q.a ≤ 13 := by
  obtain ⟨h1, h2⟩ := datIts h.body
  have h3 := datStrs h.ins
  have h4 := h3.1
  simp only [isD] at h4
  have h5 : deeps (q.ins.map D.A.str) ≤ 0 := deeps_le fun a ha => by
    obtain ⟨w, _, rfl⟩ := List.mem_map.mp ha
    simp [deep]
  refine ⟨?_, ?_⟩
  · simp only [Pt.a, isD, isDs, h1, h4, strOk_let (isNm_let h.nm).1, strOk_let (isNm_let s.give).1, Bool.and_self]
  · simp only [Pt.a, deep, deeps]; omega
theorem cut_nms {ns : List Str} {a b : Int} (h0 : 0 ≤ a) (h1 : a ≤ b) (h2 : b ≤ ns.length) : cutA (ns.map D.A.str) (some a) (some b) = ((ns.drop a.toNat).take (b.toNat - a.toNat)).map D.A.str := by
  unfold cutA HT.sIx
  simp only [show ¬ (a < 0) by omega, show ¬ (b < 0) by omega, if_false]
  rw [List.length_map, Nat.min_eq_left (by omega), Nat.min_eq_left (by omega), ← List.map_drop, ← List.map_take]
theorem slice_nms {ns : List Str} {a k : Nat} (hn : ns.Nodup) (hns : ∀ w ∈ ns, isNm (.str w) = true) (h : a + k ≤ ns.length) : ((ns.drop a).take k).length = k ∧ (∀ w ∈ (ns.drop a).take k, isNm (.str w) = true) ∧ ((ns.drop a).take k).Nodup :=
  ⟨by rw [List.length_take, List.length_drop]; omega, fun w hw => hns w (List.drop_subset _ _ (List.take_subset _ _ hw)), hn.sublist ((List.take_sublist _ _).trans (List.drop_sublist _ _))⟩
theorem deeps_get : ∀ {l : List D.A} {a : D.A}, a ∈ l → deep a ≤ deeps l
  | x :: l, a, h => by
    simp only [deeps]
    rcases List.mem_cons.mp h with rfl | h
    · omega
    · have := deeps_get h
      omega
/-- where the parts stand -/
structure PaS (m l p : Addr) (c i : Nat) (ns : List Str) (μ : Mu) (ps : List Pt) (rm : Int) (μ' : Mu) : Prop where
  cell : μ' p = some (.lst (ps.map Pt.a))
  len : ps.length = i
  ok : okPts [] ps
  pso : PsOk (pnPts ps) ps
  sm : ∀ q ∈ ps, q.sm
  nms : ∀ q ∈ ps, ∃ j, j < i ∧ ns[ns.length - 1 - j]? = some q.nm
  size : sizePts ps + rm.toNat ≤ 58 + 6 * i
  lx : Lx m l c rm (some ns) μ'
  ls : Ls m l μ μ'
def c__law_program : AC := fun xs μ Q _ => ∃ (m l : Addr) (c : Nat) (rm : Int) (mo : Option (List Str)) (many : Nat), xs = [.loc m, .int many] ∧ Lx m l c rm mo μ ∧ c < 2 ^ 29 ∧ many ≤ 12 ∧ ∀ (g : Pg) (rm' : Int) (ns : List Str) (μ' : Mu), g.ok → g.sm → Lx m l (c + 40000) rm' (some ns) μ' → Ls m l μ μ' → Q g.a μ'
theorem ok__law_program {n : Nat}  {f : Addr} {fd : FuncData} (TX : Txt K mg w CL CP CS pT) (C__law_names : Cal P w K mg base n "_law_names" c__law_names) (C__law_draw : Cal P w K mg base n "_law_draw" c__law_draw) (C__law_body : Cal P w K mg base n "_law_body" (c__law_body 0)) (F : Fun K "_law_program" "_law_program" s__law_program f fd) : FnD P w K mg base CX0 (n + 1) f fd ["_law_m", "_law_many"] c__law_program := by
  refine fnD F sc__law_program (fun xs μ Q E hc => by obtain ⟨m, l, c, rm, mo, many, rfl, lw, hc, hmany, q⟩ := hc; rfl) (fun cdv Ao outer s H E xs μ Q E0 ar hc => ?_)
  obtain ⟨m, l, c, rm, mo, many, rfl, lw, hc, hmany, q⟩ := hc
  have nd := sc__law_program.nd
  refine wSs_cons (wS_dput ar (wE_cal C__law_names ar (by omega) (wA_cons (wE_name 0 rfl (wA_cons (wE_bin (wE_int (wE_cal C__law_draw ar (by omega) (wA_cons (wE_name 0 rfl (wA_cons (wE_int (wA_nil ?_)))))))))))))
  refine ⟨m, l, 5, c, _, _, rfl, by decide, by decide, lw, by omega, fun r1 μ1 a0 a1 lw1 ls1 => ?_⟩
  refine wO_add ?_
  refine wA_nil ?_
  refine ⟨m, l, _, (8 + r1).toNat, _, _, by rw [Int.toNat_of_nonneg (by omega)], by omega, lw1, by omega, fun ns μ2 hnl hns hnd lw2 ls2 => ?_⟩
  obtain ⟨fs, at_, g1, g2⟩ := lw2.room
  refine wE_name 0 rfl (wE_str ?_)
  refine ⟨_, _, .inr "names", rfl, g1, rfl, szLt (by have := @dicL_len fs l at_ rm mo; omega), ?_⟩
  rw [dicL_names]
  have lx3 := g2 rm (some ns)
  have ls3 : Ls m l μ2 (μ2.upd m (.dic (dicL fs l at_ rm (some ns)))) := Ls.m
  generalize μ2.upd m (.dic (dicL fs l at_ rm (some ns))) = μ3 at lx3 ls3 ⊢
  obtain ⟨fs3, at3, k1, k2⟩ := lx3.room
  refine wSs_cons (wS_dput ar (wE_int (wE_name 0 rfl (wE_str ?_))))
  refine ⟨_, _, .inr "room", rfl, k1, rfl, szLt (by have := @dicL_len fs3 l at3 rm (some ns); omega), ?_⟩
  rw [dicL_room]
  have lx4 := k2 58 (some ns)
  have ls4 : Ls m l μ3 (μ3.upd m (.dic (dicL fs3 l at3 58 (some ns)))) := Ls.m
  generalize μ3.upd m (.dic (dicL fs3 l at3 58 (some ns))) = μ4 at lx4 ls4 ⊢
  have ls04 := ((ls1.trans ls2).trans ls3).trans ls4
  refine wSs_cons (wS_set 2 (wE_lst (wA_nil ⟨by show 0 ≤ sizeLine; decide, fun p__law_parts np__law_parts => (wSs_cons (wS_for (wIt_range1 TX.b_range (wA_cons (wE_ix (wE_lstF (wA_cons (wE_int (wA_cons (wE_int (wA_cons (wE_int (wA_cons (wE_int (wA_nil ⟨by show 4 ≤ sizeLine; decide, (wE_cal C__law_draw ar (by omega) (wA_cons (wE_name 0 rfl (wA_cons (wE_int (wA_nil ?_))))))⟩)))))))))))))))⟩)) nd)
  have pm := (lx4.off np__law_parts).1
  have pl := (lx4.off np__law_parts).2
  refine ⟨m, l, 4, _, _, _, rfl, by decide, by decide, lx4.new np__law_parts, by omega, fun r2 μ5 b0 b1 lx5 ls5 => ?_⟩
  have fd5 : μ5 p__law_parts = some (.lst (([] : List Pt).map Pt.a)) := ls5 _ _ pm pl Mu.upd_same
  have ls05 : Ls m l μ μ5 := (ls04.new np__law_parts).trans ls5
  obtain ⟨y1, hy1, ey1⟩ := atI_ex (xs := [D.A.int 0, .int 0, .int 1, .int 2]) b0 (by simpa using b1)
  obtain ⟨np, rfl, n0, n1⟩ : ∃ z : Int, y1 = .int z ∧ 0 ≤ z ∧ z ≤ 2 := by
    simp only [List.mem_cons, List.not_mem_nil, or_false] at hy1
    rcases hy1 with rfl | rfl | rfl | rfl <;> exact ⟨_, rfl, by decide, by decide⟩
  refine wI_lst ey1 ?_
  refine wA_nil ⟨_, rfl, by omega, by omega, ?_⟩
  refine ⟨fun i Γ' μ' => ∃ (ps : List Pt) (rm' : Int) (x3 x4 x5 x6 x7 : Option D.A), Γ' = [some (.loc m), some (.int many), some (.loc p__law_parts), x3, x4, x5, x6, x7, none, none] ∧ PaS m l p__law_parts (c + 20 + i * 2600) i ns μ ps rm' μ', ⟨[], 58, _, _, _, _, _, rfl, fd5, rfl, trivial, ⟨datNil, (fun _ h => nomatch h), Nat.zero_le _⟩, (fun _ h => nomatch h), (fun _ h => nomatch h), by simp [sizePts], lx5.up (by omega), ls05⟩, fun i y Γ' μ' hy hI => ?_, fun Γ' μ' hI => ?_⟩
  obtain ⟨ps, rm', x3, x4, x5, x6, x7, rfl, S⟩ := hI
  obtain ⟨hi, rfl⟩ := rgA_at hy
  have hi2 : i < 2 := by omega
  obtain ⟨fs6, at6, g6, _⟩ := S.lx.room
  have hsz := S.size
  have hlen := S.len
  refine wG_name 3 ?_ nd
  refine wSs_cons (wS_set 4 (wE_slice (wE_dget ar (wE_name 0 rfl (wE_str ?_)))) nd)
  refine ⟨_, _, .inr "names", _, rfl, g6, rfl, rfl, ?_⟩
  refine wE_name 3 rfl ⟨_, rfl, (wE_bin (wE_bin (wE_name 3 rfl (wE_int ?_))))⟩
  refine wO_add ?_
  refine wE_cal C__law_draw ar (by omega) (wA_cons (wE_name 0 rfl (wA_cons (wE_int (wA_nil ?_)))))
  refine ⟨m, l, 4, _, _, _, rfl, by decide, by decide, S.lx, by omega, fun r3 μ6 d0 d1 lx6 ls6 => ?_⟩
  have fd6 := ls6 _ _ pm pl S.cell
  refine wO_add ?_
  refine ⟨_, rfl, ?_⟩
  refine wSl_lstF ?_
  rw [cut_nms (by omega) (by omega) (by omega)]
  obtain ⟨i1, i2, i3⟩ := slice_nms (a := (0 + (i : Int)).toNat) (k := (0 + (i : Int) + 1 + r3).toNat - (0 + (i : Int)).toNat) hnd hns (by omega)
  generalize (ns.drop (0 + (i : Int)).toNat).take ((0 + (i : Int) + 1 + r3).toNat - (0 + (i : Int)).toNat) = ins at i1 i2 i3 ⊢
  have j1 : 1 ≤ ins.length := by omega
  have j4 : ins.length ≤ 4 := by omega
  refine wSs_cons (wS_asg (wE_cal C__law_body ar (by omega) (wA_cons (wE_name 0 rfl (wA_cons (wE_callTy (T := "list") TX.b_list (by decide +kernel) (wA_cons (wE_name 4 rfl (wA_nil ?_)))))))))
  refine wC_listF (.lst _) ?_
  refine wA_cons (wE_int (wA_cons (wE_int (wA_cons (wE_name 2 rfl (wA_nil ?_))))))
  have kb : 4 * KB 1 = 2560 := by decide
  refine ⟨m, l, p__law_parts, _, rm', ns, ins, pnPts ps, ps, 4, 1, rfl, lx6, by omega, by omega, i2, (fun z => by rw [z] at j1; simp at j1), hns, by omega, by omega, fd6, pm, pl, S.pso, by decide, by omega, by decide, fun b T' rm2 μ7 ob sb zb same nm ne len lx7 ls7 => ?_⟩
  have fd7 := ls7 _ _ pm pl fd6
  have hpos : 0 < T'.length := List.length_pos_iff.mpr ne
  refine wG_tup (wGs_cons (wG_name 5 (wGs_cons (wG_name 6 (wGs_nil (wSs_cons (wS_set 7 (wE_ix (wE_name 6 rfl (wE_cal C__law_draw ar (by omega) (wA_cons (wE_name 0 rfl (wA_cons (wE_callB (id := "len") TX.b_len (by decide +kernel) (wA_cons (wE_name 6 rfl (wA_nil ?_)))))))))) nd))) nd)) nd))
  refine wC_len (.lst _) ?_
  rw [List.length_map]
  refine wA_nil ?_
  refine ⟨m, l, _, _, _, _, rfl, by omega, by omega, lx7, by omega, fun r4 μ8 e0 e1 lx8 ls8 => ?_⟩
  have fd8 := ls8 _ _ pm pl fd7
  obtain ⟨fs8, at8, g8, _⟩ := lx8.room
  obtain ⟨y2, hy2, ey2⟩ := atI_ex (xs := T'.map D.A.str) e0 (by rw [List.length_map]; omega)
  obtain ⟨give, hgive, rfl⟩ := List.mem_map.mp hy2
  refine wI_lst ey2 ?_
  refine wSs_cons (wS_expr (wE_append (wE_name 2 rfl ?_)))
  refine ⟨_, _, rfl, fd8, ?_⟩
  refine wE_tup (wA_cons (wE_ix (wE_dget ar (wE_name 0 rfl (wE_str ?_)))))
  refine ⟨_, _, .inr "names", _, rfl, g8, rfl, rfl, ?_⟩
  refine wE_bin (wE_neg (wE_int ⟨_, rfl, (wE_name 3 rfl ?_)⟩))
  refine wO_sub ?_
  have hnl2 : ns.length - 1 - i < ns.length := by omega
  obtain ⟨nm1, hnm1⟩ : ∃ w, ns[ns.length - 1 - i]? = some w := ⟨_, List.getElem?_eq_getElem hnl2⟩
  refine wI_lst (atI_neg (y := .str nm1) (by rw [List.getElem?_map, List.length_map, show (-1 - (0 + (i : Int)) + (ns.length : Int)).toNat = ns.length - 1 - i by omega, hnm1]; rfl) (by omega) (by rw [List.length_map]; omega)) ?_
  refine wA_cons (wE_callTy (T := "tuple") TX.b_tuple (by decide +kernel) (wA_cons (wE_name 4 rfl (wA_nil ?_))))
  refine wC_tuple (.lst _) ?_
  refine wA_cons (wE_name 5 rfl (wA_cons (wE_name 7 rfl (wA_nil ⟨by show 4 ≤ sizeLine; decide, ?_⟩))))
  refine ⟨_, fd8, szLt (by rw [List.length_map]; omega), ?_⟩
  refine wSs_nil ?_
  have hnm2 := hns nm1 (List.mem_of_getElem? hnm1)
  have hsm : Pt.sm ⟨nm1, ins, b, give⟩ := ⟨hnm2, i2, sb, nm give hgive⟩
  have hnew : valI (pnPts ps) nm1 = none := valI_out fun p hp e => by
    obtain ⟨q2, hq2, rfl⟩ := List.mem_map.mp hp
    obtain ⟨j, hj, ej⟩ := S.nms q2 hq2
    have e2 : q2.nm = nm1 := e
    rw [e2] at ej
    have e3 := (List.getElem?_inj (by omega) hnd).mp (ej.trans hnm1.symm)
    omega
  have hok : Pt.ok ⟨nm1, ins, b, give⟩ (pnPts ps) := ⟨hnm2, hnew, j1, j4, i2, i3, smIts_ts sb, okIts_down ob, (same give).mp hgive⟩
  have hdat := Pt.dat hok hsm
  have hpd := S.pso.dat
  have epn : pnPts (ps ++ [(⟨nm1, ins, b, give⟩ : Pt)]) = pnPts ps ++ [(nm1, (ins.length : Int))] := by simp
  refine ⟨ps ++ [⟨nm1, ins, b, give⟩], rm2, _, _, _, _, _, rfl, by rw [List.map_append]; exact Mu.upd_same, by rw [List.length_append, hlen]; rfl, okPts_snoc S.ok (by simpa using hok), ⟨?_, fun x hx => ?_, by rw [List.length_append, hlen]; simp; omega⟩, fun x hx => ?_, fun x hx => ?_, ?_, (lx8.up (by omega)).del pm pl, ?_⟩
  · refine ⟨?_, ?_⟩
    · have h1 := hpd.1
      simp only [isD] at h1 ⊢
      refine isDs_all fun a ha => ?_
      rw [List.map_append] at ha
      rcases List.mem_append.mp ha with ha | ha
      · obtain ⟨q2, hq2, rfl⟩ := List.mem_map.mp ha
        exact isDs_mem h1 _ (List.mem_map.mpr ⟨q2, hq2, rfl⟩)
      · rw [List.mem_singleton.mp ha]; exact hdat.1
    · simp only [deep]
      suffices hh : deeps ((ps ++ [(⟨nm1, ins, b, give⟩ : Pt)]).map Pt.a) ≤ 59 by omega
      refine deeps_le fun a ha => ?_
      rw [List.map_append] at ha
      rcases List.mem_append.mp ha with ha | ha
      · have h2 := hpd.2
        simp only [deep] at h2
        have := deeps_get ha
        omega
      · rw [List.mem_singleton.mp ha]; exact Nat.le_trans hdat.2 (by decide)
  · rcases List.mem_append.mp hx with hx | hx
    · obtain ⟨h1, h2, h3⟩ := S.pso.all x hx
      refine ⟨h1, ?_, h3⟩
      rw [epn]; exact valI_old h2
    · obtain rfl := List.mem_singleton.mp hx
      refine ⟨hnm2, ?_, j4⟩
      rw [epn]; exact valI_new hnew
  · rcases List.mem_append.mp hx with hx | hx
    · exact S.sm x hx
    · rw [List.mem_singleton.mp hx]; exact hsm
  · rcases List.mem_append.mp hx with hx | hx
    · obtain ⟨j, hj, ej⟩ := S.nms x hx
      exact ⟨j, by omega, ej⟩
    · rw [List.mem_singleton.mp hx]; exact ⟨i, by omega, hnm1⟩
  · have : sizePts (ps ++ [⟨nm1, ins, b, give⟩]) = sizePts ps + (2 + ins.length + sizeIts b) := by simp [sizePts, Pt.size]
    omega
  · intro z o z1 z2 hz3
    have hz4 := ((((S.ls.trans ls6).trans ls7).trans ls8)) z o z1 z2 hz3
    have hz5 := ls04 z o z1 z2 hz3
    rw [Mu.upd_ne (fun e => by rw [e, np__law_parts] at hz5; cases hz5)]
    exact hz4
  obtain ⟨ps, rm', x3, x4, x5, x6, x7, rfl, S⟩ := hI
  rw [rgA_len] at S
  have hnp : (np - 0).toNat ≤ 2 := by omega
  have hsz := S.size
  have hlen := S.len
  have hlx := S.lx.up (d := c + 5300) (by omega)
  refine wSs_cons (wS_set 8 (wE_cal C__law_draw ar (by omega) (wA_cons (wE_name 0 rfl (wA_cons (wE_int (wA_nil ?_)))))) nd)
  refine ⟨m, l, 3, _, _, _, rfl, by decide, by decide, hlx, by omega, fun r5 μ6 c0 c1 lx6 ls6 => ?_⟩
  have fd6 := ls6 _ _ pm pl S.cell
  obtain ⟨fs6, at6, g6, _⟩ := lx6.room
  refine wSs_cons (wS_set 4 (wE_slice (wE_dget ar (wE_name 0 rfl (wE_str ?_)))) nd)
  refine ⟨_, _, .inr "names", _, rfl, g6, rfl, rfl, ?_⟩
  refine wE_name 8 rfl ⟨_, rfl, (wE_bin (wE_bin (wE_name 8 rfl (wE_int ?_))))⟩
  refine wO_add ?_
  refine wE_cal C__law_draw ar (by omega) (wA_cons (wE_name 0 rfl (wA_cons (wE_int (wA_nil ?_)))))
  refine ⟨m, l, 6, _, _, _, rfl, by decide, by decide, lx6, by omega, fun r6 μ7 d0 d1 lx7 ls7 => ?_⟩
  have fd7 := ls7 _ _ pm pl fd6
  refine wO_add ?_
  refine ⟨_, rfl, ?_⟩
  refine wSl_lstF ?_
  rw [cut_nms (by omega) (by omega) (by omega)]
  obtain ⟨i1, i2, i3⟩ := slice_nms (a := r5.toNat) (k := (r5 + 1 + r6).toNat - r5.toNat) hnd hns (by omega)
  generalize (ns.drop r5.toNat).take ((r5 + 1 + r6).toNat - r5.toNat) = ins at i1 i2 i3 ⊢
  have j1 : 1 ≤ ins.length := by omega
  have j6 : ins.length ≤ 6 := by omega
  refine wSs_cons (wS_asg (wE_cal C__law_body ar (by omega) (wA_cons (wE_name 0 rfl (wA_cons (wE_callTy (T := "list") TX.b_list (by decide +kernel) (wA_cons (wE_name 4 rfl (wA_nil ?_)))))))))
  refine wC_listF (.lst _) ?_
  refine wA_cons (wE_name 1 rfl (wA_cons (wE_int (wA_cons (wE_name 2 rfl (wA_nil ?_))))))
  have kb : many * KB 0 ≤ 12 * 2560 := Nat.mul_le_mul hmany (by decide)
  refine ⟨m, l, p__law_parts, _, rm', ns, ins, pnPts ps, ps, many, 0, rfl, lx7, by omega, by omega, i2, (fun z => by rw [z] at j1; simp at j1), hns, by omega, by omega, fd7, pm, pl, S.pso, hmany, by omega, by decide, fun b T' rm2 μ8 ob sb zb same nm ne len lx8 ls8 => ?_⟩
  have fd8 := ls8 _ _ pm pl fd7
  have hpos : 0 < T'.length := List.length_pos_iff.mpr ne
  refine wG_tup (wGs_cons (wG_name 5 (wGs_cons (wG_name 6 (wGs_nil (wSs_cons (wS_set 9 (wE_lst (wA_cons (wE_ix (wE_name 6 rfl (wE_neg (wE_int ⟨_, rfl, ?_⟩)))))) nd))) nd)) nd))
  obtain ⟨y4, hy4, ey4⟩ := atI_back (xs := T'.map D.A.str) (i := -1) (by decide) (by rw [List.length_map]; omega)
  obtain ⟨o1, ho1, rfl⟩ := List.mem_map.mp hy4
  refine wI_lst ey4 ?_
  refine wA_nil ⟨by show 1 ≤ sizeLine; decide, fun p__law_outs np__law_outs => (wSs_cons (wS_for (wIt_range1 TX.b_range (wA_cons (wE_cal C__law_draw ar (by omega) (wA_cons (wE_name 0 rfl (wA_cons (wE_int (wA_nil ?_))))))))))⟩
  have om := (lx8.off np__law_outs).1
  have ol := (lx8.off np__law_outs).2
  refine ⟨m, l, 4, _, _, _, rfl, by decide, by decide, lx8.new np__law_outs, by omega, fun r7 μ9 e0 e1 lx9 ls9 => ?_⟩
  have od9 : μ9 p__law_outs = some (.lst ([o1].map D.A.str)) := ls9 _ _ om ol Mu.upd_same
  have hop : p__law_outs ≠ p__law_parts := fun z => by rw [z, fd8] at np__law_outs; cases np__law_outs
  have fd9 : μ9 p__law_parts = some (.lst (ps.map Pt.a)) := ls9 _ _ pm pl (by rw [Mu.upd_ne (Ne.symm hop)]; exact fd8)
  have ls08 : Ls m l μ μ8 := ((S.ls.trans ls6).trans ls7).trans ls8
  have ls09 : Ls m l μ μ9 := (ls08.new np__law_outs).trans ls9
  refine wA_nil ⟨_, rfl, by omega, by omega, ?_⟩
  refine ⟨fun i Γ' μ' => ∃ (os : List Str) (x3 x7 : Option D.A), Γ' = [some (.loc m), some (.int many), some (.loc p__law_parts), x3, some (.lst (ins.map D.A.str)), some (.tup (aIts b)), some (.lst (T'.map D.A.str)), x7, some (.int r5), some (.loc p__law_outs)] ∧ μ' p__law_outs = some (.lst (os.map D.A.str)) ∧ μ' p__law_parts = some (.lst (ps.map Pt.a)) ∧ os.length = i + 1 ∧ (∀ w ∈ os, w ∈ T') ∧ Lx m l (c + 39000 + i) rm2 (some ns) μ' ∧ Ls m l μ μ', ⟨[o1], _, _, rfl, od9, fd9, rfl, (fun w h => by rw [List.mem_singleton.mp h]; exact ho1), lx9.up (by omega), ls09⟩, fun i y Γ' μ' hy hI => ?_, fun Γ' μ' hI => ?_⟩
  obtain ⟨os, x3, x7, rfl, od, fd, hol, hoT, lx10, ls10⟩ := hI
  obtain ⟨hi, rfl⟩ := rgA_at hy
  refine wG_name 3 ?_ nd
  refine wSs_cons (wS_expr (wE_append (wE_name 9 rfl ?_)))
  refine ⟨_, _, rfl, od, ?_⟩
  refine wE_ix (wE_name 6 rfl (wE_cal C__law_draw ar (by omega) (wA_cons (wE_name 0 rfl (wA_cons (wE_callB (id := "len") TX.b_len (by decide +kernel) (wA_cons (wE_name 6 rfl (wA_nil ?_)))))))))
  refine wC_len (.lst _) ?_
  rw [List.length_map]
  refine wA_nil ?_
  refine ⟨m, l, _, _, _, _, rfl, by omega, by omega, lx10, by omega, fun r8 μ11 h0 h1 lx11 ls11 => ?_⟩
  obtain ⟨y5, hy5, ey5⟩ := atI_ex (xs := T'.map D.A.str) h0 (by rw [List.length_map]; omega)
  obtain ⟨o2, ho2, rfl⟩ := List.mem_map.mp hy5
  refine wI_lst ey5 ?_
  refine ⟨_, ls11 _ _ om ol od, szLt (by rw [List.length_map]; omega), ?_⟩
  refine wSs_nil ?_
  refine ⟨os ++ [o2], _, _, rfl, by rw [List.map_append]; exact Mu.upd_same, by rw [Mu.upd_ne (Ne.symm hop)]; exact ls11 _ _ pm pl fd, by rw [List.length_append, hol]; rfl, fun w hw => ?_, (lx11.up (by omega)).del om ol, ?_⟩
  · rcases List.mem_append.mp hw with hw | hw
    · exact hoT w hw
    · rw [List.mem_singleton.mp hw]; exact ho2
  · intro z o z1 z2 hz3
    have hz4 := (ls10.trans ls11) z o z1 z2 hz3
    have hz5 := ls08 z o z1 z2 hz3
    rw [Mu.upd_ne (fun e => by rw [e, np__law_outs] at hz5; cases hz5)]
    exact hz4
  obtain ⟨os, x3, x7, rfl, od, fd, hol, hoT, lx10, ls10⟩ := hI
  rw [rgA_len] at hol lx10
  refine wSs_cons (wS_ret (wE_tup (wA_cons (wE_callTy (T := "tuple") TX.b_tuple (by decide +kernel) (wA_cons (wE_name 2 rfl (wA_nil ?_)))))))
  refine wC_tuple (.loc fd) ?_
  refine wA_cons (wE_callTy (T := "tuple") TX.b_tuple (by decide +kernel) (wA_cons (wE_name 4 rfl (wA_nil ?_))))
  refine wC_tuple (.lst _) ?_
  refine wA_cons (wE_name 5 rfl (wA_cons (wE_callTy (T := "tuple") TX.b_tuple (by decide +kernel) (wA_cons (wE_name 9 rfl (wA_nil ?_))))))
  refine wC_tuple (.loc od) ?_
  refine wA_nil ⟨by show 4 ≤ sizeLine; decide, ?_⟩
  exact q ⟨ps, ins, b, os⟩ rm2 ns _ ⟨by show ps.length ≤ 6; omega, S.ok, j1, j6, i2, i3, smIts_ts sb, ob, by show 1 ≤ os.length; omega, by show os.length ≤ 4; omega, fun w hw => ⟨nm w (hoT w hw), (same w).mp (hoT w hw)⟩, by simp only [Pg.size]; omega⟩ ⟨S.sm, sb⟩ (lx10.up (by omega)) ls10

end
end D

set_option Elab.async false
set_option linter.all false
set_option maxRecDepth 100000
set_option maxHeartbeats 4000000
namespace D
open PySem PySem.Spec PyProof.Rows L2
local macro_rules | `(tactic| walk_at "mul") => `(tactic| first | refine wO_mul (mulR (by first | decide | omega) (by first | decide | omega)) ?_ | refine wO_mul (mulL (by first | decide | omega) (by first | decide | omega)) ?_)
local macro_rules | `(tactic| walk_at "mod") => `(tactic| refine wO_mod (by first | decide | omega) ?_)
local macro_rules | `(tactic| walk_at "fdiv") => `(tactic| refine wO_fdiv (by first | decide | omega) (divS (by first | decide | omega)) ?_)
local macro_rules | `(tactic| walk_at "ix") => `(tactic| first | refine wI_tup (by rfl) ?_ | refine wI_lst (by rfl) ?_)
local macro_rules | `(tactic| walk_at "sl") => `(tactic| first | refine wSl_tup ?_ | refine wSl_lstF ?_)
local macro_rules | `(tactic| walk_at "obj") => `(tactic| refine ⟨_, _, _, rfl, by assumption, rfl, ?_⟩)
local macro_rules | `(tactic| walk_at "len") => `(tactic| first | refine wC_len (.tup _) ?_ | refine wC_len (.lst _) ?_ | refine wC_len (.loc (by assumption)) ?_)
section
variable {P : Program} {w : World} {K : PySem.W.Frag} {mg : Str → Option Value} {base : Heap} {CL CP CS pT : Addr}
abbrev s_Looked___init__ : Stmt := (bodyC (topS 39)).getD 0 (.Pass ⟨0, 0, 0, 0⟩)
abbrev N_Looked___init__ : List Str := ["self"]
theorem sc_Looked___init__ : FnScope N_Looked___init__ ["self"] (defScope s_Looked___init__) := ⟨rfl, rfl, rfl, by decide +kernel, rfl, by decide +kernel, by decide +kernel⟩
abbrev LkF (pp : Addr) (m : Int) : List (Str × D.A) := [("parts", .loc pp), ("many", .int m)]
/-- what is looked by: p, its parts at pp, so many things so far -/
structure Lk (CL p pp : Addr) (m : Int) (Pn : List (Str × Int)) (μ : Mu) : Prop where
  ex : ∃ dx, μ p = some (.ins CL dx (LkF pp m))
  pa : μ pp = some (.dic (Pk Pn))
  ne : pp ≠ p
def But (p : Addr) (μ μ' : Mu) : Prop := ∀ q o, q ≠ p → μ q = some o → μ' q = some o
theorem But.ls {p t : Addr} {μ μ' : Mu} (h : But p μ μ') : Ls p t μ μ' := fun q o h1 _ h3 => h q o h1 h3
theorem Lk.sub {CL p pp : Addr} {m : Int} {Pn : List (Str × Int)} {μ μ' : Mu} (h : Lk CL p pp m Pn μ) (s : Sub μ μ') : Lk CL p pp m Pn μ' := ⟨let ⟨dx, e⟩ := h.ex; ⟨dx, s _ _ e⟩, s _ _ h.pa, h.ne⟩
theorem putMany {pp : Addr} {m k : Int} : putL "many" (.int k) (LkF pp m) = LkF pp k := rfl
def c_Looked___init__ (CL : Addr) : AC := fun xs μ Q _ => ∃ (p dx : Addr), xs = [.loc p] ∧ μ p = some (.ins CL dx []) ∧ ∀ (pp : Addr) (μ' : Mu), Lk CL p pp 0 [] μ' → μ pp = none → But p μ μ' → Q .non μ'
theorem ok_Looked___init__ {n : Nat}  {f : Addr} {fd : FuncData} (TX : Txt K mg w CL CP CS pT)  (F : Fun K "__init__" "Looked.__init__" s_Looked___init__ f fd) : FnD P w K mg base CX0 (n + 1) f fd ["self"] (c_Looked___init__ CL) := by
  refine fnD F sc_Looked___init__ (fun xs μ Q E hc => by obtain ⟨p, dx, rfl, hp, q⟩ := hc; rfl) (fun cdv Ao outer s H E xs μ Q E0 ar hc => ?_)
  obtain ⟨p, dx, rfl, hp, q⟩ := hc
  have nd := sc_Looked___init__.nd
  refine wSs_cons (wS_fld TX.cls_Looked TX.na_Looked_parts (wE_dnew ?_))
  refine fun pp npp => ?_
  have ne : pp ≠ p := fun z => by rw [z, hp] at npp; cases npp
  refine wE_name 0 rfl ?_
  refine ⟨p, dx, [], rfl, by rw [Mu.upd_ne (Ne.symm ne)]; exact hp, by decide, ?_⟩
  refine wSs_cons (wS_fld TX.cls_Looked TX.na_Looked_many (wE_int (wE_name 0 rfl ?_)))
  refine ⟨p, dx, _, rfl, Mu.upd_same, by show 1 < 1000; decide, ?_⟩
  refine wSs_nil ?_
  refine q pp _ ⟨⟨dx, Mu.upd_same⟩, by rw [Mu.upd_ne ne, Mu.upd_ne ne, Mu.upd_same]; rfl, ne⟩ npp (fun z o hz h => ?_)
  rw [Mu.upd_ne hz, Mu.upd_ne hz, Mu.upd_ne (fun e => by rw [e, npp] at h; cases h)]
  exact h

abbrev s_Looked_is_more : Stmt := (bodyC (topS 39)).getD 1 (.Pass ⟨0, 0, 0, 0⟩)
abbrev N_Looked_is_more : List Str := ["self", "many"]
theorem sc_Looked_is_more : FnScope N_Looked_is_more ["self", "many"] (defScope s_Looked_is_more) := ⟨rfl, rfl, rfl, by decide +kernel, rfl, by decide +kernel, by decide +kernel⟩
def c_Looked_is_more (CL : Addr) : AC := fun xs μ Q _ => ∃ (p pp : Addr) (m k : Int) (Pn : List (Str × Int)), xs = [.loc p, .int k] ∧ Lk CL p pp m Pn μ ∧ m + k ≤ 80 ∧ ∀ μ' : Mu, Lk CL p pp (m + k) Pn μ' → But p μ μ' → Q (.bl true) μ'
theorem ok_Looked_is_more {n : Nat}  {f : Addr} {fd : FuncData} (TX : Txt K mg w CL CP CS pT)  (F : Fun K "is_more" "Looked.is_more" s_Looked_is_more f fd) : FnD P w K mg base CX0 (n + 1) f fd ["self", "many"] (c_Looked_is_more CL) := by
  refine fnD F sc_Looked_is_more (fun xs μ Q E hc => by obtain ⟨p, pp, m, k, Pn, rfl, lk, hm, q⟩ := hc; rfl) (fun cdv Ao outer s H E xs μ Q E0 ar hc => ?_)
  obtain ⟨p, pp, m, k, Pn, rfl, lk, hm, q⟩ := hc
  obtain ⟨dx, hp⟩ := lk.ex
  have nd := sc_Looked_is_more.nd
  refine wSs_cons (wS_fldadd TX.cls_Looked TX.na_Looked_many (wE_name 0 rfl ?_))
  refine ⟨p, dx, _, m, rfl, hp, rfl, ?_⟩
  refine wE_name 1 rfl ?_
  refine ⟨k, dx, _, rfl, hp, by show 2 < 1000; decide, ?_⟩
  rw [putMany]
  refine wSs_cons (wS_ret (wE_cmp (wE_fld TX.cls_Looked TX.na_Looked_many (wE_name 0 rfl ?_))))
  refine ⟨p, dx, _, .int (m + k), rfl, Mu.upd_same, rfl, ?_⟩
  refine wE_glob TX.k_MOST_SIZE ?_
  refine wO_le ?_
  rw [decide_eq_true hm]
  refine q _ ⟨⟨dx, Mu.upd_same⟩, by rw [Mu.upd_ne lk.ne]; exact lk.pa, lk.ne⟩ (fun z o hz h => by rw [Mu.upd_ne hz]; exact h)

abbrev s_Looked_is_item : Stmt := (bodyC (topS 39)).getD 2 (.Pass ⟨0, 0, 0, 0⟩)
abbrev N_Looked_is_item : List Str := ["self", "thing", "told", "deep"]
theorem sc_Looked_is_item : FnScope N_Looked_is_item ["self", "thing", "told", "deep"] (defScope s_Looked_is_item) := ⟨rfl, rfl, rfl, by decide +kernel, rfl, by decide +kernel, by decide +kernel⟩
theorem FnD.or {P : Program} {w : World} {K : PySem.W.Frag} {mg : Str → Option Value} {base : Heap} {CX : CXT} {k : Nat} {f : Addr} {fd : FuncData} {ps : List Str} {c1 c2 : AC} (F1 : FnD P w K mg base CX k f fd ps c1) (F2 : FnD P w K mg base CX k f fd ps c2) :
    FnD P w K mg base CX k f fd ps (fun xs μ Q E => c1 xs μ Q E ∨ c2 xs μ Q E) where
  len := fun xs μ Q E h => h.elim (F1.len xs μ Q E) (F2.len xs μ Q E)
  run := fun A outer s H args us vs Q E hr hg e0 hb hv ⟨xs, F, M, μ, Q0, E0, h1, h2, h3, h4⟩ => h3.elim (fun h3 => F1.run A outer s H args us vs Q E hr hg e0 hb hv ⟨xs, F, M, μ, Q0, E0, h1, h2, h3, h4⟩) (fun h3 => F2.run A outer s H args us vs Q E hr hg e0 hb hv ⟨xs, F, M, μ, Q0, E0, h1, h2, h3, h4⟩)
theorem but_at {p t : Addr} {μ μ' : Mu} {o : MO} (h : But p μ μ') (ht : t ≠ p) (e : μ t = some o) : μ' t = some o := h t o ht e
theorem Lk.upd_t {CL p pp t : Addr} {m : Int} {Pn : List (Str × Int)} {μ : Mu} {o : MO} (h : Lk CL p pp m Pn μ) (h1 : t ≠ p) (h2 : t ≠ pp) : Lk CL p pp m Pn (μ.upd t o) :=
  ⟨let ⟨dx, e⟩ := h.ex; ⟨dx, by rw [Mu.upd_ne (Ne.symm h1)]; exact e⟩, by rw [Mu.upd_ne (Ne.symm h2)]; exact h.pa, h.ne⟩
def c_Looked_is_item_row (CL : Addr) : AC := fun xs μ Q _ => ∃ (p pp t : Addr) (m : Int) (Pn : List (Str × Int)) (T : List Str) (x wd : Str) (ts : List D.A) (d : Nat), xs = [.loc p, (It.row x wd ts).a, .loc t, .int d] ∧ Lk CL p pp m Pn μ ∧ μ t = some (.dic (Tk T)) ∧ t ≠ p ∧ t ≠ pp ∧ m + 1 ≤ 80 ∧ T.length ≤ 1000 ∧ ts.length ≤ 1000 ∧ It.ok Pn d T (.row x wd ts) ∧
  ∀ μ' : Mu, Lk CL p pp (m + 1) Pn μ' → μ' t = some (.dic (Tk (insT T x))) → Ls p t μ μ' → Q (.bl true) μ'
theorem ok_Looked_is_item_row {n : Nat}  {f : Addr} {fd : FuncData} (TX : Txt K mg w CL CP CS pT) (C_is_name : Cal P w K mg base n "is_name" c_is_name) (C_is_doing : Cal P w K mg base n "is_doing" c_is_doing) (CM_Looked_is_more : CalM P w K mg base n CL "is_more" (c_Looked_is_more CL)) (F : Fun K "is_item" "Looked.is_item" s_Looked_is_item f fd) : FnD P w K mg base CX0 (n + 1) f fd ["self", "thing", "told", "deep"] (c_Looked_is_item_row CL) := by
  refine fnD F sc_Looked_is_item (fun xs μ Q E hc => by obtain ⟨p, pp, t, m, Pn, T, x, wd, ts, d, rfl, lk, ht, tp, tpp, hm, hT, hts, ok, q⟩ := hc; rfl) (fun cdv Ao outer s H E xs μ Q E0 ar hc => ?_)
  obtain ⟨p, pp, t, m, Pn, T, x, wd, ts, d, rfl, lk, ht, tp, tpp, hm, hT, hts, ok, q⟩ := hc
  have dat := It.dat ok
  simp only [It.ok] at ok
  obtain ⟨d3, hx, ho⟩ := ok
  have dat2 : DatOk (It.row x wd ts).a := ⟨dat.1, by have := dat.2; omega⟩
  simp only [It.a] at dat2 ⊢
  have nd := sc_Looked_is_item.nd
  refine wSs_cons (wS_if ?_)
  refine wT.imp (QB := fun k μ' => k = false ∧ Lk CL p pp (m + 1) Pn μ' ∧ But p μ μ') ?_ (fun k μ' hq => ?_)
  refine wT_chain (wW_or (wT_not (wT_val (wE_callB (id := "isinstance") TX.b_isinstance (by decide +kernel) (wA_cons (wE_name 1 rfl (wA_cons (wE_type (n := "tuple") TX.b_tuple (by decide +kernel) (wA_nil ?_)))))))))
  refine wC_isi (n := "tuple") (k := true) rfl rfl ?_
  refine ⟨_, rfl, ?_⟩
  refine ⟨fun hk => ?_, fun hk => ?_⟩
  · exact nomatch hk
  refine wW_or (wT_cmp (wE_name 1 rfl (wE_tup (wA_nil ⟨by show 0 ≤ sizeLine; decide, ?_⟩))))
  refine wO_eqU ar.u64 dat2 ?_
  refine ⟨_, rfl, ?_⟩
  refine ⟨fun hk => ?_, fun hk => ?_⟩
  · exact nomatch hk
  refine wW_or1 (wT_not (wT_val (wE_meth TX.cls_Looked CM_Looked_is_more ar (by omega) (wE_name 0 rfl ?_))))
  obtain ⟨dx, hp⟩ := lk.ex
  refine ⟨p, dx, _, rfl, hp, rfl, ?_⟩
  refine wA_cons (wE_int (wA_nil ?_))
  refine ⟨p, pp, m, 1, Pn, rfl, lk, hm, fun μ1 lk1 b1 => ?_⟩
  refine ⟨_, rfl, ?_⟩
  exact ⟨rfl, lk1, b1⟩
  obtain ⟨rfl, lk1, b1⟩ := hq
  have ht1 := but_at b1 tp ht
  refine ⟨fun hk => ?_, fun hk => ?_⟩
  refine wSs_cons (wS_ret (wE_bl ?_))
  exact nomatch hk
  refine wSs_nil ?_
  refine wSs_cons (wS_if ?_)
  refine wT.imp (QB := fun k μ2 => k = false ∧ μ' = μ2) ?_ (fun k μ2 hq => ?_)
  refine wT_chain (wW_and (wT_cmp (wE_ix (wE_name 1 rfl (wE_int ?_)))))
  walk_at "ix"
  refine wE_str ?_
  refine wO_eqS ?_
  refine ⟨_, rfl, ?_⟩
  refine and_flip (fun hk => ?_) (fun hk => ?_)
  · exact ⟨rfl, rfl⟩
  have bad := of_decide_eq_true hk
  refine wW_and1 (wT_cmp (wE_callB (id := "len") TX.b_len (by decide +kernel) (wA_cons (wE_name 1 rfl (wA_nil ?_)))))
  refine wC_len (.tup _) ?_
  refine wE_int ?_
  refine wO_eqI ?_
  refine ⟨_, rfl, ?_⟩
  exact absurd bad (by decide)
  obtain ⟨rfl, rfl⟩ := hq
  refine ⟨fun hk => ?_, fun hk => ?_⟩
  · exact nomatch hk
  refine wSs_nil ?_
  refine wSs_cons (wS_if ?_)
  refine wT.imp (QB := fun k μ2 => k = false ∧ μ' = μ2) ?_ (fun k μ2 hq => ?_)
  refine wT_chain (wW_or (wT_cmp (wE_ix (wE_name 1 rfl (wE_int ?_)))))
  walk_at "ix"
  refine wE_str ?_
  refine wO_neS ?_
  refine ⟨_, rfl, ?_⟩
  refine ⟨fun hk => ?_, fun hk => ?_⟩
  · exact absurd hk (by decide)
  refine wW_or (wT_cmp (wE_callB (id := "len") TX.b_len (by decide +kernel) (wA_cons (wE_name 1 rfl (wA_nil ?_)))))
  refine wC_len (.tup _) ?_
  refine wE_int ?_
  refine wO_neI ?_
  refine ⟨_, rfl, ?_⟩
  refine ⟨fun hk => ?_, fun hk => ?_⟩
  · exact absurd hk (by simp)
  refine wW_or1 (wT_not (wT_val (wE_cal C_is_name ar (by omega) (wA_cons (wE_ix (wE_name 1 rfl (wE_int ?_)))))))
  walk_at "ix"
  refine wA_nil ?_
  refine ⟨.str x, "str", true, rfl, rfl, rfl, (fun _ => ⟨x, rfl, by have := isNm_wd hx; omega⟩), (fun z => nomatch z), ?_⟩
  rw [hx]
  refine ⟨_, rfl, ?_⟩
  exact ⟨rfl, rfl⟩
  obtain ⟨rfl, rfl⟩ := hq
  refine ⟨fun hk => ?_, fun hk => ?_⟩
  refine wSs_cons (wS_ret (wE_bl ?_))
  exact nomatch hk
  refine wSs_nil ?_
  refine wSs_cons (wS_if (wT_not (wT_val (wE_cal C_is_doing ar (by omega) (wA_cons (wE_ix (wE_name 1 rfl (wE_int ?_))))))))
  walk_at "ix"
  refine wA_cons (wE_ix (wE_name 1 rfl (wE_int ?_)))
  walk_at "ix"
  refine wA_cons (wE_name 2 rfl (wA_cons (wE_fld TX.cls_Looked TX.na_Looked_parts (wE_name 0 rfl ?_))))
  obtain ⟨dx, hp1⟩ := lk1.ex
  refine ⟨p, dx, _, .loc pp, rfl, hp1, rfl, ?_⟩
  refine wA_nil ?_
  refine ⟨wd, ts, t, pp, T, Pn, rfl, ht1, lk1.pa, ho, hts, ?_⟩
  refine ⟨_, rfl, ?_⟩
  refine ⟨fun hk => ?_, fun hk => ?_⟩
  refine wSs_cons (wS_ret (wE_bl ?_))
  exact nomatch hk
  refine wSs_nil ?_
  refine wSs_cons (wS_dput ar (wE_bl (wE_name 2 rfl (wE_ix (wE_name 1 rfl (wE_int ?_))))))
  walk_at "ix"
  refine ⟨t, _, .inr x, rfl, ht1, rfl, szLt (by rw [List.length_map]; omega), ?_⟩
  rw [putA_Tk]
  refine wSs_cons (wS_ret (wE_bl ?_))
  refine q _ (lk1.upd_t tp tpp) Mu.upd_same (fun z o h1 h2 h3 => by rw [Mu.upd_ne h2]; exact b1 z o h1 h3)

/-- a body -/
def c_Looked_is_body (CL : Addr) (lo : Nat) : AC := fun xs μ Q _ => ∃ (p pp t : Addr) (m : Int) (Pn : List (Str × Int)) (T : List Str) (b : List It) (d : Nat), xs = [.loc p, .tup (aIts b), .loc t, .int d] ∧ Lk CL p pp m Pn μ ∧ μ t = some (.dic (Tk T)) ∧ t ≠ p ∧ t ≠ pp ∧ m + sizeIts b ≤ 80 ∧ T.length + sizeIts b ≤ 1000 ∧ lo ≤ d ∧ tsIts b ∧ okIts Pn d T b ∧
  ∀ μ' : Mu, Lk CL p pp (m + sizeIts b) Pn μ' → μ' t = some (.dic (Tk (toldIts b T))) → Ls p t μ μ' → Q (.bl true) μ'
def c_Looked_is_item_rep (CL : Addr) (lo : Nat) : AC := fun xs μ Q _ => ∃ (p pp t : Addr) (m : Int) (Pn : List (Str × Int)) (T : List Str) (k : Int) (b : List It) (d : Nat), xs = [.loc p, (It.rep k b).a, .loc t, .int d] ∧ Lk CL p pp m Pn μ ∧ μ t = some (.dic (Tk T)) ∧ t ≠ p ∧ t ≠ pp ∧ m + 1 + sizeIts b ≤ 80 ∧ T.length + 1 + sizeIts b ≤ 1000 ∧ lo ≤ d ∧ tsIts b ∧ It.ok Pn d T (.rep k b) ∧
  ∀ μ' : Mu, Lk CL p pp (m + 1 + sizeIts b) Pn μ' → μ' t = some (.dic (Tk (toldIts b T))) → Ls p t μ μ' → Q (.bl true) μ'
theorem ok_Looked_is_item_rep {n : Nat} {lo : Nat} {f : Addr} {fd : FuncData} (TX : Txt K mg w CL CP CS pT) (C_is_among : Cal P w K mg base n "is_among" c_is_among) (CM_Looked_is_more : CalM P w K mg base n CL "is_more" (c_Looked_is_more CL)) (CM_Looked_is_body : CalM P w K mg base n CL "is_body" (c_Looked_is_body CL (lo + 1))) (F : Fun K "is_item" "Looked.is_item" s_Looked_is_item f fd) : FnD P w K mg base CX0 (n + 1) f fd ["self", "thing", "told", "deep"] (c_Looked_is_item_rep CL lo) := by
  refine fnD F sc_Looked_is_item (fun xs μ Q E hc => by obtain ⟨p, pp, t, m, Pn, T, k, b, d, rfl, lk, ht, tp, tpp, hm, hT, hlo, hts, ok, q⟩ := hc; rfl) (fun cdv Ao outer s H E xs μ Q E0 ar hc => ?_)
  obtain ⟨p, pp, t, m, Pn, T, k, b, d, rfl, lk, ht, tp, tpp, hm, hT, hlo, hts, ok, q⟩ := hc
  have dat := It.dat ok
  simp only [It.ok] at ok
  obtain ⟨d3, k1, k2, ob⟩ := ok
  have dat2 : DatOk (It.rep k b).a := ⟨dat.1, by have := dat.2; omega⟩
  simp only [It.a] at dat2 ⊢
  have nd := sc_Looked_is_item.nd
  refine wSs_cons (wS_if ?_)
  refine wT.imp (QB := fun k μ' => k = false ∧ Lk CL p pp (m + 1) Pn μ' ∧ But p μ μ') ?_ (fun kb μ' hq => ?_)
  refine wT_chain (wW_or (wT_not (wT_val (wE_callB (id := "isinstance") TX.b_isinstance (by decide +kernel) (wA_cons (wE_name 1 rfl (wA_cons (wE_type (n := "tuple") TX.b_tuple (by decide +kernel) (wA_nil ?_)))))))))
  refine wC_isi (n := "tuple") (k := true) rfl rfl ?_
  refine ⟨_, rfl, ?_⟩
  refine ⟨fun hk => ?_, fun hk => ?_⟩
  · exact nomatch hk
  refine wW_or (wT_cmp (wE_name 1 rfl (wE_tup (wA_nil ⟨by show 0 ≤ sizeLine; decide, ?_⟩))))
  refine wO_eqU ar.u64 dat2 ?_
  refine ⟨_, rfl, ?_⟩
  refine ⟨fun hk => ?_, fun hk => ?_⟩
  · exact nomatch hk
  refine wW_or1 (wT_not (wT_val (wE_meth TX.cls_Looked CM_Looked_is_more ar (by omega) (wE_name 0 rfl ?_))))
  obtain ⟨dx, hp⟩ := lk.ex
  refine ⟨p, dx, _, rfl, hp, rfl, ?_⟩
  refine wA_cons (wE_int (wA_nil ?_))
  refine ⟨p, pp, m, 1, Pn, rfl, lk, by omega, fun μ1 lk1 b1 => ?_⟩
  refine ⟨_, rfl, ?_⟩
  exact ⟨rfl, lk1, b1⟩
  obtain ⟨rfl, lk1, b1⟩ := hq
  have ht1 := but_at b1 tp ht
  refine ⟨fun hk => ?_, fun hk => ?_⟩
  refine wSs_cons (wS_ret (wE_bl ?_))
  exact nomatch hk
  refine wSs_nil ?_
  refine wSs_cons (wS_if ?_)
  refine wT.imp (QB := fun k μ2 => k = true ∧ μ' = μ2) ?_ (fun kb μ2 hq => ?_)
  refine wT_chain (wW_and (wT_cmp (wE_ix (wE_name 1 rfl (wE_int ?_)))))
  walk_at "ix"
  refine wE_str ?_
  refine wO_eqS ?_
  refine ⟨_, rfl, ?_⟩
  refine and_flip (fun hk => ?_) (fun hk => ?_)
  · exact absurd hk (by decide)
  refine wW_and1 (wT_cmp (wE_callB (id := "len") TX.b_len (by decide +kernel) (wA_cons (wE_name 1 rfl (wA_nil ?_)))))
  refine wC_len (.tup _) ?_
  refine wE_int ?_
  refine wO_eqI ?_
  refine ⟨_, rfl, ?_⟩
  exact ⟨rfl, rfl⟩
  obtain ⟨rfl, rfl⟩ := hq
  refine and_flip (fun hk => ?_) (fun hk => ?_)
  · exact nomatch hk
  refine wSs_cons (wS_if ?_)
  refine wT.imp (QB := fun k μ2 => k = false ∧ μ' = μ2) ?_ (fun kb μ2 hq => ?_)
  refine wT_chain (wW_or (wT_cmp (wE_name 3 rfl (wE_glob TX.k_MOST_DEEP ?_))))
  refine wO_eqI ?_
  refine ⟨_, rfl, ?_⟩
  refine ⟨fun hk => ?_, fun hk => ?_⟩
  · exact absurd (of_decide_eq_true hk) (by omega)
  refine wW_or1 (wT_not (wT_val (wE_cal C_is_among ar (by omega) (wA_cons (wE_ix (wE_name 1 rfl (wE_int ?_)))))))
  walk_at "ix"
  refine wA_cons (wE_int (wA_cons (wE_glob TX.k_MOST_TURNS (wA_nil ?_))))
  refine ⟨k, 1, 200, rfl, k1, k2, ?_⟩
  refine ⟨_, rfl, ?_⟩
  exact ⟨rfl, rfl⟩
  obtain ⟨rfl, rfl⟩ := hq
  refine ⟨fun hk => ?_, fun hk => ?_⟩
  refine wSs_cons (wS_ret (wE_bl ?_))
  exact nomatch hk
  refine wSs_nil ?_
  refine wSs_cons (wS_ret (wE_meth TX.cls_Looked CM_Looked_is_body ar (by omega) (wE_name 0 rfl ?_)))
  obtain ⟨dx, hp1⟩ := lk1.ex
  refine ⟨p, dx, _, rfl, hp1, rfl, ?_⟩
  refine wA_cons (wE_ix (wE_name 1 rfl (wE_int ?_)))
  walk_at "ix"
  refine wA_cons (wE_name 2 rfl (wA_cons (wE_bin (wE_name 3 rfl (wE_int ?_)))))
  refine wO_add ?_
  refine wA_nil ?_
  refine ⟨p, pp, t, m + 1, Pn, T, b, d + 1, rfl, lk1, ht1, tp, tpp, hm, by omega, by omega, hts, ob, fun μ3 lk3 ht3 ls3 => ?_⟩
  exact q μ3 lk3 ht3 (b1.ls.trans ls3)

abbrev s_Looked_is_body : Stmt := (bodyC (topS 39)).getD 3 (.Pass ⟨0, 0, 0, 0⟩)
abbrev N_Looked_is_body : List Str := ["self", "thing", "told", "deep", "item"]
theorem sc_Looked_is_body : FnScope N_Looked_is_body ["self", "thing", "told", "deep"] (defScope s_Looked_is_body) := ⟨rfl, rfl, rfl, by decide +kernel, rfl, by decide +kernel, by decide +kernel⟩
/-- any item -/
def c_Looked_is_item (CL : Addr) (lo : Nat) : AC := fun xs μ Q _ => ∃ (p pp t : Addr) (m : Int) (Pn : List (Str × Int)) (T : List Str) (i : It) (d : Nat), xs = [.loc p, i.a, .loc t, .int d] ∧ Lk CL p pp m Pn μ ∧ μ t = some (.dic (Tk T)) ∧ t ≠ p ∧ t ≠ pp ∧ m + i.size ≤ 80 ∧ T.length + i.size ≤ 1000 ∧ lo ≤ d ∧ i.tsOk ∧ i.ok Pn d T ∧
  ∀ μ' : Mu, Lk CL p pp (m + i.size) Pn μ' → μ' t = some (.dic (Tk (i.told T))) → Ls p t μ μ' → Q (.bl true) μ'
theorem item_or {CL : Addr} {lo : Nat} {xs : List D.A} {μ : Mu} {Q : D.A → Mu → Prop} {E : Value → Option Addr → Mu → Prop} (h : c_Looked_is_item CL lo xs μ Q E) : c_Looked_is_item_row CL xs μ Q E ∨ c_Looked_is_item_rep CL lo xs μ Q E := by
  obtain ⟨p, pp, t, m, Pn, T, i, d, rfl, lk, ht, tp, tpp, hm, hT, hlo, hts, ok, q⟩ := h
  cases i with
  | row x wd ts =>
    simp only [It.size, It.told, It.tsOk] at *
    exact .inl ⟨p, pp, t, m, Pn, T, x, wd, ts, d, rfl, lk, ht, tp, tpp, by omega, by omega, hts, ok, q⟩
  | rep k b =>
    simp only [It.size, It.told, It.tsOk] at *
    refine .inr ⟨p, pp, t, m, Pn, T, k, b, d, rfl, lk, ht, tp, tpp, by omega, by omega, hlo, hts, ok, fun μ' h1 => q μ' ?_⟩
    have e : m + ((1 + sizeIts b : Nat) : Int) = m + 1 + (sizeIts b : Nat) := by omega
    rw [e]; exact h1
theorem aIts_get : ∀ {b : List It} {i : Nat} {y : D.A}, (aIts b)[i]? = some y → ∃ it, b[i]? = some it ∧ y = it.a
  | [], _, _, h => by simp [aIts] at h
  | x :: b, 0, y, h => by simp [aIts] at h; exact ⟨x, rfl, h.symm⟩
  | x :: b, i + 1, y, h => by
    simp only [aIts, List.getElem?_cons_succ] at h ⊢
    exact aIts_get h
theorem ok_Looked_is_body {n : Nat} {lo : Nat} {f : Addr} {fd : FuncData} (TX : Txt K mg w CL CP CS pT) (CM_Looked_is_item : CalM P w K mg base n CL "is_item" (c_Looked_is_item CL lo)) (F : Fun K "is_body" "Looked.is_body" s_Looked_is_body f fd) : FnD P w K mg base CX0 (n + 1) f fd ["self", "thing", "told", "deep"] (c_Looked_is_body CL lo) := by
  refine fnD F sc_Looked_is_body (fun xs μ Q E hc => by obtain ⟨p, pp, t, m, Pn, T, b, d, rfl, lk, ht, tp, tpp, hm, hT, hlo, hts, ok, q⟩ := hc; rfl) (fun cdv Ao outer s H E xs μ Q E0 ar hc => ?_)
  obtain ⟨p, pp, t, m, Pn, T, b, d, rfl, lk, ht, tp, tpp, hm, hT, hlo, hts, ok, q⟩ := hc
  have hbl := len_size b
  have nd := sc_Looked_is_body.nd
  refine wSs_cons (wS_ret ?_)
  refine wE_and (wE_callB (id := "isinstance") TX.b_isinstance (by decide +kernel) (wA_cons (wE_name 1 rfl (wA_cons (wE_type (n := "tuple") TX.b_tuple (by decide +kernel) (wA_nil ?_))))))
  refine wC_isi (n := "tuple") (k := true) rfl rfl ?_
  refine ⟨_, rfl, and_flip (fun hk => ?_) (fun hk => ?_)⟩
  · exact nomatch hk
  refine wE_one (wE_callB (id := "all") TX.b_all (by decide +kernel) (wA_cons (wE_lc [("item", 4)] (wIt_tup (wE_name 1 rfl ⟨_, rfl, ?_⟩)) nd (blkOk_by (N := N_Looked_is_body) (sc := defScope s_Looked_is_body) (by decide +kernel)))))
  refine ⟨szOk (by rw [aIts_len]; omega), fun i acc μ' => acc = (List.replicate i true).map D.A.bl ∧ ∃ (Ti : List Str) (mi : Int), Lk CL p pp mi Pn μ' ∧ μ' t = some (.dic (Tk Ti)) ∧ Ls p t μ μ' ∧ tsIts (b.drop i) ∧ okIts Pn d Ti (b.drop i) ∧ mi + sizeIts (b.drop i) = m + sizeIts b ∧ Ti.length + sizeIts (b.drop i) ≤ 1000 ∧ toldIts (b.drop i) Ti = toldIts b T, ⟨rfl, T, m, lk, ht, Ls.refl _, hts, ok, rfl, hT, rfl⟩, fun i y acc μ' hy hJ s0 H0 C cl fp => ?_, fun acc μ' hJ pl npl => ?_⟩
  obtain ⟨rfl, Ti, mi, lki, hti, lsi, htsi, oki, em, hTi, et⟩ := hJ
  obtain ⟨it, hit, rfl⟩ := aIts_get hy
  have ed : b.drop i = it :: b.drop (i + 1) := by
    have hl := (List.getElem?_eq_some_iff.mp hit).1
    rw [List.drop_eq_getElem_cons hl]
    rw [List.getElem?_eq_getElem hl] at hit
    rw [Option.some.inj hit]
  rw [ed] at htsi oki em hTi et
  simp only [okIts, sizeIts, toldIts, tsIts] at htsi oki em hTi et
  refine wGw_name 4 (fun s0 H0 C cl fp => (wE_meth TX.cls_Looked CM_Looked_is_item ar.bk (by omega) (wE_name 0 rfl ?_))) nd
  obtain ⟨dx, hp⟩ := lki.ex
  refine ⟨p, dx, _, rfl, hp, rfl, ?_⟩
  refine wA_cons (wE_name 4 rfl (wA_cons (wE_name 2 rfl (wA_cons (wE_name 3 rfl (wA_nil ?_))))))
  refine ⟨p, pp, t, mi, Pn, Ti, it, d, rfl, lki, hti, tp, tpp, by omega, by omega, hlo, htsi.1, oki.1, fun μ2 lk2 ht2 ls2 => ?_⟩
  refine ⟨by rw [List.replicate_succ', List.map_append]; rfl, it.told Ti, _, lk2, ht2, lsi.trans ls2, htsi.2, oki.2, by omega, ?_, et⟩
  have := told_len it Ti
  omega
  obtain ⟨rfl, Ti, mi, lki, hti, lsi, htsi, oki, em, hTi, et⟩ := hJ
  rw [aIts_len, List.drop_length] at em et
  simp only [sizeIts, toldIts] at em et
  subst et
  have e0 : mi = m + (sizeIts b : Nat) := by omega
  subst e0
  refine wA_nil ?_
  refine wC_all rfl (.loc Mu.upd_same) ?_
  rw [show ((List.replicate (aIts b).length true).all id) = true by simp]
  exact q _ (lki.sub (Sub.new npl)) (Sub.new npl _ _ hti) (lsi.trans fun z o _ _ h => Sub.new npl z o h)

end
end D

set_option Elab.async false
set_option linter.all false
set_option maxRecDepth 100000
set_option maxHeartbeats 4000000
namespace D
open PySem PySem.Spec PyProof.Rows L2
local macro_rules | `(tactic| walk_at "mul") => `(tactic| first | refine wO_mul (mulR (by first | decide | omega) (by first | decide | omega)) ?_ | refine wO_mul (mulL (by first | decide | omega) (by first | decide | omega)) ?_)
local macro_rules | `(tactic| walk_at "mod") => `(tactic| refine wO_mod (by first | decide | omega) ?_)
local macro_rules | `(tactic| walk_at "fdiv") => `(tactic| refine wO_fdiv (by first | decide | omega) (divS (by first | decide | omega)) ?_)
local macro_rules | `(tactic| walk_at "ix") => `(tactic| first | refine wI_tup (by rfl) ?_ | refine wI_lst (by rfl) ?_)
local macro_rules | `(tactic| walk_at "sl") => `(tactic| first | refine wSl_tup ?_ | refine wSl_lstF ?_)
local macro_rules | `(tactic| walk_at "obj") => `(tactic| refine ⟨_, _, _, rfl, by assumption, rfl, ?_⟩)
local macro_rules | `(tactic| walk_at "len") => `(tactic| first | refine wC_len (.tup _) ?_ | refine wC_len (.lst _) ?_ | refine wC_len (.loc (by assumption)) ?_)
section
variable {P : Program} {w : World} {K : PySem.W.Frag} {mg : Str → Option Value} {base : Heap} {CL CP CS pT : Addr}
abbrev s_Looked_is_part : Stmt := (bodyC (topS 39)).getD 4 (.Pass ⟨0, 0, 0, 0⟩)
abbrev N_Looked_is_part : List Str := ["self", "thing", "told", "name"]
theorem sc_Looked_is_part : FnScope N_Looked_is_part ["self", "thing"] (defScope s_Looked_is_part) := ⟨rfl, rfl, rfl, by decide +kernel, rfl, by decide +kernel, by decide +kernel⟩
theorem Lk.old {CL p pp : Addr} {m : Int} {Pn : List (Str × Int)} {μ : Mu} (h : Lk CL p pp m Pn μ) {t : Addr} (n : μ t = none) : t ≠ p ∧ t ≠ pp := by
  obtain ⟨dx, e⟩ := h.ex
  have e2 := h.pa
  exact ⟨fun z => by (rw [z, e] at n; cases n), fun z => by (rw [z, e2] at n; cases n)⟩
def c_Looked_is_part (CL : Addr) : AC := fun xs μ Q _ => ∃ (p pp : Addr) (m : Int) (Pn : List (Str × Int)) (q : Pt), xs = [.loc p, q.a] ∧ Lk CL p pp m Pn μ ∧ 0 ≤ m ∧ q.ok Pn ∧ m + q.size ≤ 80 ∧ Pn.length ≤ 1000 ∧
  ∀ μ' : Mu, Lk CL p pp (m + q.size) (Pn ++ [(q.nm, (q.ins.length : Int))]) μ' → Ls p pp μ μ' → Q (.bl true) μ'
theorem ok_Looked_is_part {n : Nat}  {f : Addr} {fd : FuncData} (TX : Txt K mg w CL CP CS pT) (C_is_name : Cal P w K mg base n "is_name" c_is_name) (C_are_names : Cal P w K mg base n "are_names" c_are_names) (C_are_unlike : Cal P w K mg base n "are_unlike" c_are_unlike) (CM_Looked_is_more : CalM P w K mg base n CL "is_more" (c_Looked_is_more CL)) (CM_Looked_is_body : CalM P w K mg base n CL "is_body" (c_Looked_is_body CL 0)) (F : Fun K "is_part" "Looked.is_part" s_Looked_is_part f fd) : FnD P w K mg base CX0 (n + 1) f fd ["self", "thing"] (c_Looked_is_part CL) := by
  refine fnD F sc_Looked_is_part (fun xs μ Q E hc => by obtain ⟨p, pp, m, Pn, ⟨nm, ins, body, give⟩, rfl, lk, m0, ok, hm, hP, q⟩ := hc; rfl) (fun cdv Ao outer s H E xs μ Q E0 ar hc => ?_)
  obtain ⟨p, pp, m, Pn, ⟨nm, ins, body, give⟩, rfl, lk, m0, ok, hm, hP, q⟩ := hc
  have hnm := ok.nm
  have hnew := ok.new
  have hi1 := ok.i1
  have hi4 := ok.i4
  have hins := ok.ins
  have hunl := ok.unl
  have hgive := ok.give
  simp only [Pt.size] at hm q hnm hnew hi1 hi4 hins hunl hgive
  simp only [Pt.a]
  have nd := sc_Looked_is_part.nd
  refine wSs_cons (wS_if ?_)
  refine wT.imp (QB := fun k μ' => μ = μ' ∧ k = false) ?_ (fun k μ' hq => ?_)
  refine wT_chain (wW_or (wT_not (wT_val (wE_callB (id := "isinstance") TX.b_isinstance (by decide +kernel) (wA_cons (wE_name 1 rfl (wA_cons (wE_type (n := "tuple") TX.b_tuple (by decide +kernel) (wA_nil ?_)))))))))
  refine wC_isi (n := "tuple") (k := true) rfl rfl ?_
  refine ⟨_, rfl, ?_⟩
  refine ⟨fun hk => ?_, fun hk => ?_⟩
  · exact nomatch hk
  refine wW_or (wT_cmp (wE_callB (id := "len") TX.b_len (by decide +kernel) (wA_cons (wE_name 1 rfl (wA_nil ?_)))))
  refine wC_len (.tup _) ?_
  refine wE_int ?_
  refine wO_neI ?_
  refine ⟨_, rfl, ?_⟩
  refine ⟨fun hk => ?_, fun hk => ?_⟩
  · exact absurd hk (by simp)
  refine wW_or (wT_not (wT_val (wE_cal C_is_name ar (by omega) (wA_cons (wE_ix (wE_name 1 rfl (wE_int ?_)))))))
  walk_at "ix"
  refine wA_nil ?_
  refine ⟨.str nm, "str", true, rfl, rfl, rfl, (fun _ => ⟨nm, rfl, by have := isNm_wd hnm; omega⟩), (fun z => nomatch z), ?_⟩
  rw [hnm]
  refine ⟨_, rfl, ?_⟩
  refine ⟨fun hk => ?_, fun hk => ?_⟩
  · exact nomatch hk
  refine wW_or1 (wT_inD ar (wE_ix (wE_name 1 rfl (wE_int ?_))))
  walk_at "ix"
  refine wE_fld TX.cls_Looked TX.na_Looked_parts (wE_name 0 rfl ?_)
  obtain ⟨dx, hp⟩ := lk.ex
  refine ⟨p, dx, _, .loc pp, rfl, hp, rfl, ?_⟩
  refine ⟨pp, _, .inr nm, rfl, lk.pa, rfl, ?_⟩
  refine ⟨rfl, ?_⟩
  rw [valA_Pk, hnew]; rfl
  obtain ⟨rfl, rfl⟩ := hq
  refine ⟨fun hk => ?_, fun hk => ?_⟩
  refine wSs_cons (wS_ret (wE_bl ?_))
  exact nomatch hk
  refine wSs_nil ?_
  refine wSs_cons (wS_if ?_)
  refine wT.imp (QB := fun k μ' => k = false ∧ Lk CL p pp (m + (2 + ins.length)) Pn μ' ∧ But p μ μ') ?_ (fun k μ' hq => ?_)
  refine wT_chain (wW_or (wT_not (wT_val (wE_cal C_are_names ar (by omega) (wA_cons (wE_ix (wE_name 1 rfl (wE_int ?_))))))))
  walk_at "ix"
  refine wA_cons (wE_glob TX.k_MOST_PART_INS (wA_nil ?_))
  refine ⟨ins, 4, rfl, hi1, by omega, by omega, hins, ?_⟩
  refine ⟨_, rfl, ?_⟩
  refine ⟨fun hk => ?_, fun hk => ?_⟩
  · exact nomatch hk
  refine wW_or (wT_not (wT_val (wE_cal C_are_unlike ar (by omega) (wA_cons (wE_ix (wE_name 1 rfl (wE_int ?_)))))))
  walk_at "ix"
  refine wA_nil ?_
  refine ⟨ins, rfl, by omega, hunl, ?_⟩
  refine ⟨_, rfl, ?_⟩
  refine ⟨fun hk => ?_, fun hk => ?_⟩
  · exact nomatch hk
  refine wW_or1 (wT_not (wT_val (wE_meth TX.cls_Looked CM_Looked_is_more ar (by omega) (wE_name 0 rfl ?_))))
  obtain ⟨dx, hp⟩ := lk.ex
  refine ⟨p, dx, _, rfl, hp, rfl, ?_⟩
  refine wA_cons (wE_bin (wE_int (wE_callB (id := "len") TX.b_len (by decide +kernel) (wA_cons (wE_ix (wE_name 1 rfl (wE_int ?_)))))))
  walk_at "ix"
  refine wA_nil ?_
  refine wC_len (.tup _) ?_
  rw [List.length_map]
  refine wO_add ?_
  refine wA_nil ?_
  refine ⟨p, pp, m, _, Pn, rfl, lk, by omega, fun μ1 lk1 b1 => ?_⟩
  refine ⟨_, rfl, ?_⟩
  exact ⟨rfl, lk1, b1⟩
  obtain ⟨rfl, lk1, b1⟩ := hq
  refine ⟨fun hk => ?_, fun hk => ?_⟩
  refine wSs_cons (wS_ret (wE_bl ?_))
  exact nomatch hk
  refine wSs_nil ?_
  refine wSs_cons (wS_set 2 (wE_callTy (T := "dict") TX.b_dict (by decide +kernel) (wA_cons (wE_lcF (own := [("name", 3)]) (wIt_tup (wE_ix (wE_name 1 rfl (wE_int ?_)))) nd (blkOk_by (N := N_Looked_is_part) (sc := defScope s_Looked_is_part) (by decide +kernel))))) nd)
  walk_at "ix"
  refine ⟨_, rfl, ?_⟩
  refine ⟨szOk (by rw [List.length_map]; omega), (Tk ins).map (fun kv => A.tup [kA kv.1, kv.2]), by simp, fun i y z hy hz s0 H0 C cl fp => ?_, ?_⟩
  obtain ⟨w1, g1, rfl⟩ := map_at hy
  obtain ⟨kv, g2, rfl⟩ := map_at hz
  obtain ⟨w2, g3, rfl⟩ := map_at g2
  obtain rfl : w1 = w2 := Option.some.inj (g1.symm.trans g3)
  refine wGw_name 3 (⟨rfl, fun s0 H0 C cl fp => (wE_tup (wA_cons (wE_name 3 rfl (wA_cons (wE_bl (wA_nil ⟨by show 2 ≤ sizeLine; decide, ?_⟩))))))⟩) nd
  refine ⟨?_, .refl _⟩
  rfl
  refine wA_nil ?_
  refine wC_dictP rfl (.lst _) (fun t nt => ?_)
  rw [merge_Tk hunl]
  have lk2 := lk1.sub (Sub.new (m := .dic (Tk ins)) nt)
  obtain ⟨tp, tpp⟩ := lk1.old nt
  refine wSs_cons (wS_if ?_)
  refine wT.imp (QB := fun k μ2 => k = false ∧ Lk CL p pp (m + (2 + ins.length) + sizeIts body) Pn μ2 ∧ Ls p t (μ'.upd t (.dic (Tk ins))) μ2) ?_ (fun k μ2 hq => ?_)
  refine wT_chain (wW_or (wT_not (wT_val (wE_meth TX.cls_Looked CM_Looked_is_body ar (by omega) (wE_name 0 rfl ?_)))))
  obtain ⟨dx, hp⟩ := lk2.ex
  refine ⟨p, dx, _, rfl, hp, rfl, ?_⟩
  refine wA_cons (wE_ix (wE_name 1 rfl (wE_int ?_)))
  walk_at "ix"
  refine wA_cons (wE_name 2 rfl (wA_cons (wE_int (wA_nil ?_))))
  refine ⟨p, pp, t, _, Pn, ins, body, 0, rfl, lk2, Mu.upd_same, tp, tpp, by omega, by omega, Nat.le_refl _, ok.ts, ok.body, fun μ3 lk3 ht3 ls3 => ?_⟩
  refine ⟨_, rfl, ?_⟩
  refine ⟨fun hk => ?_, fun hk => ?_⟩
  · exact nomatch hk
  refine wW_or (wT_not (wT_val (wE_callB (id := "isinstance") TX.b_isinstance (by decide +kernel) (wA_cons (wE_ix (wE_name 1 rfl (wE_int ?_)))))))
  walk_at "ix"
  refine wA_cons (wE_type (n := "str") TX.b_str (by decide +kernel) (wA_nil ?_))
  refine wC_isi (n := "str") (k := true) rfl rfl ?_
  refine ⟨_, rfl, ?_⟩
  refine ⟨fun hk => ?_, fun hk => ?_⟩
  · exact nomatch hk
  refine wW_or1 (wT_notInD ar (wE_ix (wE_name 1 rfl (wE_int ?_))))
  walk_at "ix"
  refine wE_name 2 rfl ?_
  refine ⟨t, _, .inr give, rfl, ht3, rfl, ?_⟩
  refine ⟨?_, lk3, ls3⟩
  rw [valA_Tk, if_pos hgive]; rfl
  obtain ⟨rfl, lk4, ls4⟩ := hq
  refine ⟨fun hk => ?_, fun hk => ?_⟩
  refine wSs_cons (wS_ret (wE_bl ?_))
  exact nomatch hk
  refine wSs_nil ?_
  refine wSs_cons (wS_dput ar (wE_callB (id := "len") TX.b_len (by decide +kernel) (wA_cons (wE_ix (wE_name 1 rfl (wE_int ?_))))))
  walk_at "ix"
  refine wA_nil ?_
  refine wC_len (.tup _) ?_
  rw [List.length_map]
  refine wE_fld TX.cls_Looked TX.na_Looked_parts (wE_name 0 rfl ?_)
  obtain ⟨dx, hp4⟩ := lk4.ex
  refine ⟨p, dx, _, .loc pp, rfl, hp4, rfl, ?_⟩
  refine wE_ix (wE_name 1 rfl (wE_int ?_))
  walk_at "ix"
  refine ⟨pp, _, .inr nm, rfl, lk4.pa, rfl, szLt (by rw [List.length_map]; omega), ?_⟩
  rw [putA_Pk hnew]
  refine wSs_cons (wS_ret (wE_bl ?_))
  have e : m + ((2 + ins.length + sizeIts body : Nat) : Int) = m + (2 + (ins.length : Int)) + (sizeIts body : Nat) := by omega
  refine q _ ?_ (fun z o h1 h2 h3 => ?_)
  · rw [e]; exact ⟨⟨dx, by rw [Mu.upd_ne (Ne.symm lk.ne)]; exact hp4⟩, Mu.upd_same, lk.ne⟩
  · rw [Mu.upd_ne h2]
    have h4 := b1 z o h1 h3
    have h5 : z ≠ t := fun e => by rw [e, nt] at h4; cases h4
    exact ls4 z o h1 h5 (by rw [Mu.upd_ne h5]; exact h4)

abbrev s_Looked_is_program : Stmt := (bodyC (topS 39)).getD 5 (.Pass ⟨0, 0, 0, 0⟩)
abbrev N_Looked_is_program : List Str := ["self", "thing", "part", "told", "name"]
theorem sc_Looked_is_program : FnScope N_Looked_is_program ["self", "thing"] (defScope s_Looked_is_program) := ⟨rfl, rfl, rfl, by decide +kernel, rfl, by decide +kernel, by decide +kernel⟩
def c_Looked_is_program (CL : Addr) : AC := fun xs μ Q _ => ∃ (p pp : Addr) (g : Pg), xs = [.loc p, g.a] ∧ Lk CL p pp 0 [] μ ∧ g.ok ∧ ∀ μ' : Mu, Lk CL p pp g.size (pnPts g.parts) μ' → Ls p pp μ μ' → Q (.bl true) μ'
theorem sizePts_cons (q : Pt) (r : List Pt) : sizePts (q :: r) = q.size + sizePts r := by simp [sizePts]
theorem ok_Looked_is_program {n : Nat}  {f : Addr} {fd : FuncData} (TX : Txt K mg w CL CP CS pT) (C_are_names : Cal P w K mg base n "are_names" c_are_names) (C_are_unlike : Cal P w K mg base n "are_unlike" c_are_unlike) (CM_Looked_is_part : CalM P w K mg base n CL "is_part" (c_Looked_is_part CL)) (CM_Looked_is_more : CalM P w K mg base n CL "is_more" (c_Looked_is_more CL)) (CM_Looked_is_body : CalM P w K mg base n CL "is_body" (c_Looked_is_body CL 0)) (F : Fun K "is_program" "Looked.is_program" s_Looked_is_program f fd) : FnD P w K mg base CX0 (n + 1) f fd ["self", "thing"] (c_Looked_is_program CL) := by
  refine fnD F sc_Looked_is_program (fun xs μ Q E hc => by obtain ⟨p, pp, ⟨parts, ins, body, outs⟩, rfl, lk, ok, q⟩ := hc; rfl) (fun cdv Ao outer s H E xs μ Q E0 ar hc => ?_)
  obtain ⟨p, pp, ⟨parts, ins, body, outs⟩, rfl, lk, ok, q⟩ := hc
  have h6 := ok.p6
  have hpa := ok.parts
  have hi1 := ok.i1
  have hi6 := ok.i6
  have hins := ok.ins
  have hunl := ok.unl
  have ho1 := ok.o1
  have ho4 := ok.o4
  have houts := ok.outs
  have hm := ok.size
  simp only [Pg.size] at hm q h6 hpa hi1 hi6 hins hunl ho1 ho4 houts
  simp only [Pg.a]
  have nd := sc_Looked_is_program.nd
  refine wSs_cons (wS_if ?_)
  refine wT.imp (QB := fun k μ' => μ = μ' ∧ k = false) ?_ (fun k μ' hq => ?_)
  refine wT_chain (wW_or (wT_not (wT_val (wE_callB (id := "isinstance") TX.b_isinstance (by decide +kernel) (wA_cons (wE_name 1 rfl (wA_cons (wE_type (n := "tuple") TX.b_tuple (by decide +kernel) (wA_nil ?_)))))))))
  refine wC_isi (n := "tuple") (k := true) rfl rfl ?_
  refine ⟨_, rfl, ?_⟩
  refine ⟨fun hk => ?_, fun hk => ?_⟩
  · exact nomatch hk
  refine wW_or (wT_cmp (wE_callB (id := "len") TX.b_len (by decide +kernel) (wA_cons (wE_name 1 rfl (wA_nil ?_)))))
  refine wC_len (.tup _) ?_
  refine wE_int ?_
  refine wO_neI ?_
  refine ⟨_, rfl, ?_⟩
  refine ⟨fun hk => ?_, fun hk => ?_⟩
  · exact absurd hk (by simp)
  refine wW_or1 (wT_not (wT_val (wE_callB (id := "isinstance") TX.b_isinstance (by decide +kernel) (wA_cons (wE_ix (wE_name 1 rfl (wE_int ?_)))))))
  walk_at "ix"
  refine wA_cons (wE_type (n := "tuple") TX.b_tuple (by decide +kernel) (wA_nil ?_))
  refine wC_isi (n := "tuple") (k := true) rfl rfl ?_
  refine ⟨_, rfl, ?_⟩
  exact ⟨rfl, rfl⟩
  obtain ⟨rfl, rfl⟩ := hq
  refine ⟨fun hk => ?_, fun hk => ?_⟩
  refine wSs_cons (wS_ret (wE_bl ?_))
  exact nomatch hk
  refine wSs_nil ?_
  refine wSs_cons (wS_if ?_)
  refine wT.imp (QB := fun k μ' => k = false ∧ Lk CL p pp (sizePts parts) (pnPts parts) μ' ∧ Ls p pp μ μ') ?_ (fun k μ' hq => ?_)
  refine wT_chain (wW_or (wT_cmp (wE_callB (id := "len") TX.b_len (by decide +kernel) (wA_cons (wE_ix (wE_name 1 rfl (wE_int ?_)))))))
  walk_at "ix"
  refine wA_nil ?_
  refine wC_len (.tup _) ?_
  rw [List.length_map]
  refine wE_glob TX.k_MOST_PARTS ?_
  refine wO_gt ?_
  refine ⟨_, rfl, ?_⟩
  refine ⟨fun hk => ?_, fun hk => ?_⟩
  · exact absurd (of_decide_eq_true hk) (by omega)
  refine wW_or1 (wT_not (wT_val (wE_callB (id := "all") TX.b_all (by decide +kernel) (wA_cons (wE_lc [("part", 2)] (wIt_tup (wE_ix (wE_name 1 rfl (wE_int ?_)))) nd (blkOk_by (N := N_Looked_is_program) (sc := defScope s_Looked_is_program) (by decide +kernel)))))))
  walk_at "ix"
  refine ⟨_, rfl, ?_⟩
  refine ⟨szOk (by rw [List.length_map]; omega), fun i acc μ' => acc = (List.replicate i true).map D.A.bl ∧ ∃ (Pn : List (Str × Int)) (mi : Int), Lk CL p pp mi Pn μ' ∧ Ls p pp μ μ' ∧ okPts Pn (parts.drop i) ∧ mi + sizePts (parts.drop i) = sizePts parts ∧ 0 ≤ mi ∧ Pn ++ pnPts (parts.drop i) = pnPts parts, ⟨rfl, [], 0, lk, Ls.refl _, hpa, by simp, Int.le_refl _, rfl⟩, fun i y acc μ' hy hJ s0 H0 C cl fp => ?_, fun acc μ' hJ pl npl => ?_⟩
  obtain ⟨rfl, Pn, mi, lki, lsi, oki, em, m0, eP⟩ := hJ
  obtain ⟨pt, hit, rfl⟩ := map_at hy
  have ed : parts.drop i = pt :: parts.drop (i + 1) := by
    have hl := (List.getElem?_eq_some_iff.mp hit).1
    rw [List.drop_eq_getElem_cons hl]
    rw [List.getElem?_eq_getElem hl] at hit
    rw [Option.some.inj hit]
  rw [ed] at oki em eP
  rw [sizePts_cons] at em
  simp only [okPts] at oki
  have hPl : Pn.length ≤ 6 := by
    have := congrArg List.length eP
    simp only [List.length_append, List.length_map] at this
    omega
  refine wGw_name 2 (fun s0 H0 C cl fp => (wE_meth TX.cls_Looked CM_Looked_is_part ar.bk (by omega) (wE_name 0 rfl ?_))) nd
  obtain ⟨dx, hp⟩ := lki.ex
  refine ⟨p, dx, _, rfl, hp, rfl, ?_⟩
  refine wA_cons (wE_name 2 rfl (wA_nil ?_))
  refine ⟨p, pp, mi, Pn, pt, rfl, lki, m0, oki.1, by omega, by omega, fun μ2 lk2 ls2 => ?_⟩
  exact ⟨by rw [List.replicate_succ', List.map_append]; rfl, _, _, lk2, lsi.trans ls2, oki.2, by omega, by omega, by rw [List.append_assoc]; exact eP⟩
  obtain ⟨rfl, Pn, mi, lki, lsi, oki, em, m0, eP⟩ := hJ
  rw [List.length_map, List.drop_length] at em eP
  have e1 : mi = (sizePts parts : Nat) := by simp [sizePts] at em ⊢; omega
  have e2 : Pn = pnPts parts := by simpa using eP
  subst e1
  subst e2
  refine wA_nil ?_
  refine wC_all rfl (.loc Mu.upd_same) ?_
  rw [show ((List.replicate (parts.map Pt.a).length true).all id) = true by simp]
  refine ⟨_, rfl, ?_⟩
  exact ⟨rfl, lki.sub (Sub.new npl), lsi.trans fun z o _ _ h => Sub.new npl z o h⟩
  obtain ⟨rfl, lk1, ls1⟩ := hq
  refine ⟨fun hk => ?_, fun hk => ?_⟩
  refine wSs_cons (wS_ret (wE_bl ?_))
  exact nomatch hk
  refine wSs_nil ?_
  refine wSs_cons (wS_if ?_)
  refine wT.imp (QB := fun k μ2 => k = false ∧ Lk CL p pp (sizePts parts + ins.length) (pnPts parts) μ2 ∧ But p μ' μ2) ?_ (fun k μ2 hq => ?_)
  refine wT_chain (wW_or (wT_not (wT_val (wE_cal C_are_names ar (by omega) (wA_cons (wE_ix (wE_name 1 rfl (wE_int ?_))))))))
  walk_at "ix"
  refine wA_cons (wE_glob TX.k_MOST_INS (wA_nil ?_))
  refine ⟨ins, 6, rfl, hi1, by omega, by omega, hins, ?_⟩
  refine ⟨_, rfl, ?_⟩
  refine ⟨fun hk => ?_, fun hk => ?_⟩
  · exact nomatch hk
  refine wW_or (wT_not (wT_val (wE_cal C_are_unlike ar (by omega) (wA_cons (wE_ix (wE_name 1 rfl (wE_int ?_)))))))
  walk_at "ix"
  refine wA_nil ?_
  refine ⟨ins, rfl, by omega, hunl, ?_⟩
  refine ⟨_, rfl, ?_⟩
  refine ⟨fun hk => ?_, fun hk => ?_⟩
  · exact nomatch hk
  refine wW_or1 (wT_not (wT_val (wE_meth TX.cls_Looked CM_Looked_is_more ar (by omega) (wE_name 0 rfl ?_))))
  obtain ⟨dx, hp⟩ := lk1.ex
  refine ⟨p, dx, _, rfl, hp, rfl, ?_⟩
  refine wA_cons (wE_callB (id := "len") TX.b_len (by decide +kernel) (wA_cons (wE_ix (wE_name 1 rfl (wE_int ?_)))))
  walk_at "ix"
  refine wA_nil ?_
  refine wC_len (.tup _) ?_
  rw [List.length_map]
  refine wA_nil ?_
  refine ⟨p, pp, _, _, _, rfl, lk1, by omega, fun μ1 lk2 b2 => ?_⟩
  refine ⟨_, rfl, ?_⟩
  exact ⟨rfl, lk2, b2⟩
  obtain ⟨rfl, lk2, b2⟩ := hq
  refine ⟨fun hk => ?_, fun hk => ?_⟩
  refine wSs_cons (wS_ret (wE_bl ?_))
  exact nomatch hk
  refine wSs_nil ?_
  refine wSs_cons (wS_set 3 (wE_callTy (T := "dict") TX.b_dict (by decide +kernel) (wA_cons (wE_lcF (own := [("name", 4)]) (wIt_tup (wE_ix (wE_name 1 rfl (wE_int ?_)))) nd (blkOk_by (N := N_Looked_is_program) (sc := defScope s_Looked_is_program) (by decide +kernel))))) nd)
  walk_at "ix"
  refine ⟨_, rfl, ?_⟩
  refine ⟨szOk (by rw [List.length_map]; omega), (Tk ins).map (fun kv => A.tup [kA kv.1, kv.2]), by simp, fun i y z hy hz s0 H0 C cl fp => ?_, ?_⟩
  obtain ⟨w1, g1, rfl⟩ := map_at hy
  obtain ⟨kv, g2, rfl⟩ := map_at hz
  obtain ⟨w2, g3, rfl⟩ := map_at g2
  obtain rfl : w1 = w2 := Option.some.inj (g1.symm.trans g3)
  refine wGw_name 4 (⟨rfl, fun s0 H0 C cl fp => (wE_tup (wA_cons (wE_name 4 rfl (wA_cons (wE_bl (wA_nil ⟨by show 2 ≤ sizeLine; decide, ?_⟩))))))⟩) nd
  refine ⟨?_, .refl _⟩
  rfl
  refine wA_nil ?_
  refine wC_dictP rfl (.lst _) (fun t nt => ?_)
  rw [merge_Tk hunl]
  have lk3 := lk2.sub (Sub.new (m := .dic (Tk ins)) nt)
  obtain ⟨tp, tpp⟩ := lk2.old nt
  refine wSs_cons (wS_if ?_)
  refine wT.imp (QB := fun k μ3 => k = false ∧ Lk CL p pp (sizePts parts + ins.length + sizeIts body) (pnPts parts) μ3 ∧ Ls p t (μ2.upd t (.dic (Tk ins))) μ3 ∧ μ3 t = some (.dic (Tk (toldIts body ins)))) ?_ (fun k μ3 hq => ?_)
  refine wT_chain (wW_or (wT_not (wT_val (wE_meth TX.cls_Looked CM_Looked_is_body ar (by omega) (wE_name 0 rfl ?_)))))
  obtain ⟨dx, hp⟩ := lk3.ex
  refine ⟨p, dx, _, rfl, hp, rfl, ?_⟩
  refine wA_cons (wE_ix (wE_name 1 rfl (wE_int ?_)))
  walk_at "ix"
  refine wA_cons (wE_name 3 rfl (wA_cons (wE_int (wA_nil ?_))))
  refine ⟨p, pp, t, _, _, ins, body, 0, rfl, lk3, Mu.upd_same, tp, tpp, by omega, by omega, Nat.le_refl _, ok.ts, ok.body, fun μ4 lk4 ht4 ls4 => ?_⟩
  refine ⟨_, rfl, ?_⟩
  refine ⟨fun hk => ?_, fun hk => ?_⟩
  · exact nomatch hk
  refine wW_or1 (wT_not (wT_val (wE_cal C_are_names ar (by omega) (wA_cons (wE_ix (wE_name 1 rfl (wE_int ?_)))))))
  walk_at "ix"
  refine wA_cons (wE_glob TX.k_MOST_OUTS (wA_nil ?_))
  refine ⟨outs, 4, rfl, ho1, by omega, by omega, fun w hw => (houts w hw).1, ?_⟩
  refine ⟨_, rfl, ?_⟩
  exact ⟨rfl, lk4, ls4, ht4⟩
  obtain ⟨rfl, lk5, ls5, ht5⟩ := hq
  refine ⟨fun hk => ?_, fun hk => ?_⟩
  refine wSs_cons (wS_ret (wE_bl ?_))
  exact nomatch hk
  refine wSs_nil ?_
  refine wSs_cons (wS_ret ?_)
  refine wE_and (wE_meth TX.cls_Looked CM_Looked_is_more ar (by omega) (wE_name 0 rfl ?_))
  obtain ⟨dx, hp⟩ := lk5.ex
  refine ⟨p, dx, _, rfl, hp, rfl, ?_⟩
  refine wA_cons (wE_callB (id := "len") TX.b_len (by decide +kernel) (wA_cons (wE_ix (wE_name 1 rfl (wE_int ?_)))))
  walk_at "ix"
  refine wA_nil ?_
  refine wC_len (.tup _) ?_
  rw [List.length_map]
  refine wA_nil ?_
  refine ⟨p, pp, _, _, _, rfl, lk5, by omega, fun μ6 lk6 b6 => ?_⟩
  have ht6 := but_at b6 tp ht5
  refine ⟨_, rfl, and_flip (fun hk => ?_) (fun hk => ?_)⟩
  · exact nomatch hk
  refine wE_one (wE_callB (id := "all") TX.b_all (by decide +kernel) (wA_cons (wE_lcF (own := [("name", 4)]) (wIt_tup (wE_ix (wE_name 1 rfl (wE_int ?_)))) nd (blkOk_by (N := N_Looked_is_program) (sc := defScope s_Looked_is_program) (by decide +kernel)))))
  walk_at "ix"
  refine ⟨_, rfl, ?_⟩
  refine ⟨szOk (by rw [List.length_map]; omega), (outs.map fun _ => true).map D.A.bl, by simp, fun i y z hy hz s0 H0 C cl fp => ?_, ?_⟩
  obtain ⟨w1, g1, rfl⟩ := map_at hy
  obtain ⟨bz, g2, rfl⟩ := map_at hz
  obtain ⟨w2, g3, rfl⟩ := map_at g2
  have hw1 := (houts w1 (List.mem_of_getElem? g1)).2
  refine wGw_name 4 (⟨rfl, fun s0 H0 C cl fp => (wE_inD ar.bk (wE_name 4 rfl (wE_name 3 rfl ?_)))⟩) nd
  refine ⟨t, _, .inr w1, rfl, ht6, rfl, ?_⟩
  refine ⟨?_, .refl _⟩
  rw [valA_Tk, if_pos hw1]; rfl
  refine wA_nil ?_
  refine wC_all rfl (.lst _) ?_
  rw [show ((outs.map fun _ => true).all id) = true by simp]
  have e : ((sizePts parts + ins.length + sizeIts body + outs.length : Nat) : Int) = (sizePts parts : Int) + ins.length + sizeIts body + outs.length := by omega
  refine q _ (by rw [e]; exact lk6) (fun z o h1 h2 h3 => ?_)
  have h4 := b2 z o h1 (ls1 z o h1 h2 h3)
  have h5 : z ≠ t := fun e => by rw [e, nt] at h4; cases h4
  exact b6 z o h1 (ls5 z o h1 h5 (by rw [Mu.upd_ne h5]; exact h4))

end
end D

set_option Elab.async false
set_option linter.all false
set_option maxRecDepth 100000
set_option maxHeartbeats 4000000
namespace D
open PySem PySem.Spec PyProof.Rows L2
local macro_rules | `(tactic| walk_at "mul") => `(tactic| first | refine wO_mul (mulR (by first | decide | omega) (by first | decide | omega)) ?_ | refine wO_mul (mulL (by first | decide | omega) (by first | decide | omega)) ?_)
local macro_rules | `(tactic| walk_at "mod") => `(tactic| refine wO_mod (by first | decide | omega) ?_)
local macro_rules | `(tactic| walk_at "fdiv") => `(tactic| refine wO_fdiv (by first | decide | omega) (divS (by first | decide | omega)) ?_)
local macro_rules | `(tactic| walk_at "ix") => `(tactic| first | refine wI_tup (by rfl) ?_ | refine wI_lst (by rfl) ?_)
local macro_rules | `(tactic| walk_at "sl") => `(tactic| first | refine wSl_tup ?_ | refine wSl_lstF ?_)
local macro_rules | `(tactic| walk_at "obj") => `(tactic| refine ⟨_, _, _, rfl, by assumption, rfl, ?_⟩)
local macro_rules | `(tactic| walk_at "len") => `(tactic| first | refine wC_len (.tup _) ?_ | refine wC_len (.lst _) ?_ | refine wC_len (.loc (by assumption)) ?_)
section
variable {P : Program} {w : World} {K : PySem.W.Frag} {mg : Str → Option Value} {base : Heap} {CL CP CS pT : Addr}
abbrev s_Program___init__ : Stmt := (bodyC (topS 40)).getD 0 (.Pass ⟨0, 0, 0, 0⟩)
abbrev N_Program___init__ : List Str := ["self", "plain", "looked", "one"]
theorem sc_Program___init__ : FnScope N_Program___init__ ["self", "plain"] (defScope s_Program___init__) := ⟨rfl, rfl, rfl, by decide +kernel, rfl, by decide +kernel, by decide +kernel⟩
abbrev Rp (g : Pg) : List (Key × D.A) := g.parts.map fun q => ((.inr q.nm : Key), q.a)
abbrev PgF (g : Pg) (rp : Addr) : List (Str × D.A) := [("told", g.a), ("many", .int g.size), ("rows_of_parts", .loc rp)]
/-- a program that stands -/
def PgAt (CP p : Addr) (g : Pg) (μ : Mu) : Prop := ∃ dx rp, μ p = some (.ins CP dx (PgF g rp)) ∧ μ rp = some (.dic (Rp g)) ∧ rp ≠ p
theorem PgAt.sub {CP p : Addr} {g : Pg} {μ μ' : Mu} (h : PgAt CP p g μ) (s : Sub μ μ') : PgAt CP p g μ' := by
  obtain ⟨dx, rp, h1, h2, h3⟩ := h
  exact ⟨dx, rp, s _ _ h1, s _ _ h2, h3⟩
theorem merge_Rp {g : Pg} (h : g.ok) : mergeA [] (Rp g) = Rp g := by
  refine merge_nodup ?_
  have h1 := (okPts_nodup h.parts).1
  rw [List.map_map, show ((fun x : Key × D.A => x.1) ∘ fun q : Pt => ((.inr q.nm : Key), q.a)) = fun q => (.inr q.nm : Key) from rfl, show (g.parts.map fun q => (.inr q.nm : Key)) = (g.parts.map (·.nm)).map Sum.inr by rw [List.map_map]; rfl]
  exact List.Pairwise.map _ (fun a b hab e => hab (Sum.inr.inj e)) h1
def c_Program___init__ (CP : Addr) : AC := fun xs μ Q _ => ∃ (p dx : Addr) (g : Pg), xs = [.loc p, g.a] ∧ μ p = some (.ins CP dx []) ∧ g.ok ∧ ∀ μ' : Mu, PgAt CP p g μ' → But p μ μ' → Q .non μ'
theorem ok_Program___init__ {n : Nat}  {f : Addr} {fd : FuncData} (TX : Txt K mg w CL CP CS pT) (CK_Looked : CalK P w K mg base n "Looked" CL (c_Looked___init__ CL)) (CM_Looked_is_program : CalM P w K mg base n CL "is_program" (c_Looked_is_program CL)) (F : Fun K "__init__" "Program.__init__" s_Program___init__ f fd) : FnD P w K mg base CX0 (n + 2) f fd ["self", "plain"] (c_Program___init__ CP) := by
  refine fnD F sc_Program___init__ (fun xs μ Q E hc => by obtain ⟨p, dx, g, rfl, hp, ok, q⟩ := hc; rfl) (fun cdv Ao outer s H E xs μ Q E0 ar hc => ?_)
  obtain ⟨p, dx, g, rfl, hp, ok, q⟩ := hc
  have nd := sc_Program___init__.nd
  refine wSs_cons (wS_set 2 (wE_make0 CK_Looked ar (by omega) ?_) nd)
  refine fun lp ldx nlp => ⟨lp, ldx, rfl, Mu.upd_same, fun lpp μ1 lk1 npp b1 => ⟨rfl, ?_⟩⟩
  have n1 : p ≠ lp := fun z => by rw [z, nlp] at hp; cases hp
  have hp0 : (μ.upd lp (.ins CL ldx [])) p = some (.ins CP dx []) := by rw [Mu.upd_ne n1]; exact hp
  have n2 : p ≠ lpp := fun z => by rw [z, npp] at hp0; cases hp0
  have hp1 := b1 p _ n1 hp0
  refine wSs_cons (wS_if (wT_not (wT_val (wE_meth TX.cls_Looked CM_Looked_is_program ar (by omega) (wE_name 2 rfl ?_)))))
  obtain ⟨dx2, hl⟩ := lk1.ex
  refine ⟨lp, dx2, _, rfl, hl, rfl, ?_⟩
  refine wA_cons (wE_name 1 rfl (wA_nil ?_))
  refine ⟨lp, lpp, g, rfl, lk1, ok, fun μ2 lk2 ls2 => ?_⟩
  have hp2 := ls2 p _ n1 n2 hp1
  obtain ⟨dx3, hl2⟩ := lk2.ex
  refine ⟨_, rfl, ?_⟩
  refine ⟨fun hk => ?_, fun hk => ?_⟩
  refine wSs_cons ?_
  exact nomatch hk
  refine wSs_nil ?_
  refine wSs_cons (wS_fld TX.cls_Program TX.na_Program_told (wE_name 1 rfl (wE_name 0 rfl ?_)))
  refine ⟨p, dx, [], rfl, hp2, by show 0 < 1000; decide, ?_⟩
  refine wSs_cons (wS_fld TX.cls_Program TX.na_Program_many (wE_fld TX.cls_Looked TX.na_Looked_many (wE_name 2 rfl ?_)))
  refine ⟨lp, dx3, _, .int g.size, rfl, by rw [Mu.upd_ne (Ne.symm n1)]; exact hl2, rfl, ?_⟩
  refine wE_name 0 rfl ?_
  refine ⟨p, dx, _, rfl, Mu.upd_same, by show 1 < 1000; decide, ?_⟩
  refine wSs_cons (wS_fld TX.cls_Program TX.na_Program_rows_of_parts (wE_callTy (T := "dict") TX.b_dict (by decide +kernel) (wA_cons (wE_lcF (own := [("one", 3)]) (wIt_tup (wE_ix (wE_name 1 rfl (wE_int ?_)))) nd (blkOk_by (N := N_Program___init__) (sc := defScope s_Program___init__) (by decide +kernel))))))
  walk_at "ix"
  refine ⟨_, rfl, ?_⟩
  refine ⟨szOk (by rw [List.length_map]; have := ok.p6; omega), (Rp g).map (fun kv => A.tup [kA kv.1, kv.2]), by simp, fun i y z hy hz s0 H0 C cl fp => ?_, ?_⟩
  obtain ⟨q1, g1, rfl⟩ := map_at hy
  obtain ⟨kv, g2, rfl⟩ := map_at hz
  obtain ⟨q2, g3, rfl⟩ := map_at g2
  obtain rfl : q1 = q2 := Option.some.inj (g1.symm.trans g3)
  refine wGw_name 3 (⟨rfl, fun s0 H0 C cl fp => (wE_tup (wA_cons (wE_ix (wE_name 3 rfl (wE_int ?_)))))⟩) nd
  walk_at "ix"
  refine wA_cons (wE_name 3 rfl (wA_nil ⟨by show 2 ≤ sizeLine; decide, ?_⟩))
  refine ⟨?_, .refl _⟩
  rfl
  refine wA_nil ?_
  refine wC_dictP rfl (.lst _) (fun rp nrp => ?_)
  rw [merge_Rp ok]
  have n3 : rp ≠ p := fun z => by rw [z, Mu.upd_same] at nrp; cases nrp
  refine wE_name 0 rfl ?_
  refine ⟨p, dx, _, rfl, by rw [Mu.upd_ne (Ne.symm n3)]; exact Mu.upd_same, by show 2 < 1000; decide, ?_⟩
  refine wSs_nil ?_
  refine q _ ⟨dx, rp, Mu.upd_same, by rw [Mu.upd_ne n3]; exact Mu.upd_same, n3⟩ (fun z o h1 h2 => ?_)
  rw [Mu.upd_ne h1]
  have h3 : z ≠ lp := fun e => by rw [e, nlp] at h2; cases h2
  have h4 : (μ.upd lp (.ins CL ldx [])) z = some o := by rw [Mu.upd_ne h3]; exact h2
  have h5 : z ≠ lpp := fun e => by rw [e, npp] at h4; cases h4
  have h6 := ls2 z o h3 h5 (b1 z o h3 h4)
  have h7 : z ≠ rp := fun e => by
    rw [Mu.upd_ne n3, Mu.upd_ne n3] at nrp
    rw [e, nrp] at h6; cases h6
  rw [Mu.upd_ne h7, Mu.upd_ne h1, Mu.upd_ne h1]
  exact h6

abbrev s_Program_plain : Stmt := (bodyC (topS 40)).getD 1 (.Pass ⟨0, 0, 0, 0⟩)
abbrev N_Program_plain : List Str := ["self"]
theorem sc_Program_plain : FnScope N_Program_plain ["self"] (defScope s_Program_plain) := ⟨rfl, rfl, rfl, by decide +kernel, rfl, by decide +kernel, by decide +kernel⟩
def c_Program_plain (CP : Addr) : AC := fun xs μ Q _ => ∃ (p : Addr) (g : Pg), xs = [.loc p] ∧ PgAt CP p g μ ∧ Q g.a μ
theorem ok_Program_plain {n : Nat}  {f : Addr} {fd : FuncData} (TX : Txt K mg w CL CP CS pT)  (F : Fun K "plain" "Program.plain" s_Program_plain f fd) : FnD P w K mg base CX0 (n + 1) f fd ["self"] (c_Program_plain CP) := by
  refine fnD F sc_Program_plain (fun xs μ Q E hc => by obtain ⟨p, g, rfl, ⟨dx, rp, h1, h2, h3⟩, q⟩ := hc; rfl) (fun cdv Ao outer s H E xs μ Q E0 ar hc => ?_)
  obtain ⟨p, g, rfl, ⟨dx, rp, h1, h2, h3⟩, q⟩ := hc
  have nd := sc_Program_plain.nd
  refine wSs_cons (wS_ret (wE_fld TX.cls_Program TX.na_Program_told (wE_name 0 rfl ?_)))
  refine ⟨p, dx, _, g.a, rfl, h1, rfl, ?_⟩
  exact q

abbrev s_Program_ins : Stmt := (bodyC (topS 40)).getD 2 (.Pass ⟨0, 0, 0, 0⟩)
abbrev N_Program_ins : List Str := ["self"]
theorem sc_Program_ins : FnScope N_Program_ins ["self"] (defScope s_Program_ins) := ⟨rfl, rfl, rfl, by decide +kernel, rfl, by decide +kernel, by decide +kernel⟩
def c_Program_ins (CP : Addr) : AC := fun xs μ Q _ => ∃ (p : Addr) (g : Pg), xs = [.loc p] ∧ PgAt CP p g μ ∧ ∀ l : Addr, μ l = none → Q (.loc l) (μ.upd l (.lst (g.ins.map D.A.str)))
theorem ok_Program_ins {n : Nat}  {f : Addr} {fd : FuncData} (TX : Txt K mg w CL CP CS pT)  (F : Fun K "ins" "Program.ins" s_Program_ins f fd) : FnD P w K mg base CX0 (n + 1) f fd ["self"] (c_Program_ins CP) := by
  refine fnD F sc_Program_ins (fun xs μ Q E hc => by obtain ⟨p, g, rfl, ⟨dx, rp, h1, h2, h3⟩, q⟩ := hc; rfl) (fun cdv Ao outer s H E xs μ Q E0 ar hc => ?_)
  obtain ⟨p, g, rfl, ⟨dx, rp, h1, h2, h3⟩, q⟩ := hc
  have nd := sc_Program_ins.nd
  refine wSs_cons (wS_ret (wE_callTy (T := "list") TX.b_list (by decide +kernel) (wA_cons (wE_ix (wE_fld TX.cls_Program TX.na_Program_told (wE_name 0 rfl ?_))))))
  refine ⟨p, dx, _, g.a, rfl, h1, rfl, ?_⟩
  simp only [Pg.a]
  refine wE_int ?_
  walk_at "ix"
  refine wA_nil ?_
  refine wC_list (.tup _) (fun l nl => ?_)
  exact q l nl

abbrev s_Program_outs : Stmt := (bodyC (topS 40)).getD 3 (.Pass ⟨0, 0, 0, 0⟩)
abbrev N_Program_outs : List Str := ["self"]
theorem sc_Program_outs : FnScope N_Program_outs ["self"] (defScope s_Program_outs) := ⟨rfl, rfl, rfl, by decide +kernel, rfl, by decide +kernel, by decide +kernel⟩
def c_Program_outs (CP : Addr) : AC := fun xs μ Q _ => ∃ (p : Addr) (g : Pg), xs = [.loc p] ∧ PgAt CP p g μ ∧ ∀ l : Addr, μ l = none → Q (.loc l) (μ.upd l (.lst (g.outs.map D.A.str)))
theorem ok_Program_outs {n : Nat}  {f : Addr} {fd : FuncData} (TX : Txt K mg w CL CP CS pT)  (F : Fun K "outs" "Program.outs" s_Program_outs f fd) : FnD P w K mg base CX0 (n + 1) f fd ["self"] (c_Program_outs CP) := by
  refine fnD F sc_Program_outs (fun xs μ Q E hc => by obtain ⟨p, g, rfl, ⟨dx, rp, h1, h2, h3⟩, q⟩ := hc; rfl) (fun cdv Ao outer s H E xs μ Q E0 ar hc => ?_)
  obtain ⟨p, g, rfl, ⟨dx, rp, h1, h2, h3⟩, q⟩ := hc
  have nd := sc_Program_outs.nd
  refine wSs_cons (wS_ret (wE_callTy (T := "list") TX.b_list (by decide +kernel) (wA_cons (wE_ix (wE_fld TX.cls_Program TX.na_Program_told (wE_name 0 rfl ?_))))))
  refine ⟨p, dx, _, g.a, rfl, h1, rfl, ?_⟩
  simp only [Pg.a]
  refine wE_int ?_
  walk_at "ix"
  refine wA_nil ?_
  refine wC_list (.tup _) (fun l nl => ?_)
  exact q l nl

abbrev s_Program_body : Stmt := (bodyC (topS 40)).getD 4 (.Pass ⟨0, 0, 0, 0⟩)
abbrev N_Program_body : List Str := ["self"]
theorem sc_Program_body : FnScope N_Program_body ["self"] (defScope s_Program_body) := ⟨rfl, rfl, rfl, by decide +kernel, rfl, by decide +kernel, by decide +kernel⟩
def c_Program_body (CP : Addr) : AC := fun xs μ Q _ => ∃ (p : Addr) (g : Pg), xs = [.loc p] ∧ PgAt CP p g μ ∧ Q (.tup (aIts g.body)) μ
theorem ok_Program_body {n : Nat}  {f : Addr} {fd : FuncData} (TX : Txt K mg w CL CP CS pT)  (F : Fun K "body" "Program.body" s_Program_body f fd) : FnD P w K mg base CX0 (n + 1) f fd ["self"] (c_Program_body CP) := by
  refine fnD F sc_Program_body (fun xs μ Q E hc => by obtain ⟨p, g, rfl, ⟨dx, rp, h1, h2, h3⟩, q⟩ := hc; rfl) (fun cdv Ao outer s H E xs μ Q E0 ar hc => ?_)
  obtain ⟨p, g, rfl, ⟨dx, rp, h1, h2, h3⟩, q⟩ := hc
  have nd := sc_Program_body.nd
  refine wSs_cons (wS_ret (wE_ix (wE_fld TX.cls_Program TX.na_Program_told (wE_name 0 rfl ?_))))
  refine ⟨p, dx, _, g.a, rfl, h1, rfl, ?_⟩
  simp only [Pg.a]
  refine wE_int ?_
  walk_at "ix"
  exact q

abbrev s_Program_part : Stmt := (bodyC (topS 40)).getD 5 (.Pass ⟨0, 0, 0, 0⟩)
abbrev N_Program_part : List Str := ["self", "name"]
theorem sc_Program_part : FnScope N_Program_part ["self", "name"] (defScope s_Program_part) := ⟨rfl, rfl, rfl, by decide +kernel, rfl, by decide +kernel, by decide +kernel⟩
def c_Program_part (CP : Addr) : AC := fun xs μ Q _ => ∃ (p : Addr) (g : Pg) (n : Str), xs = [.loc p, .str n] ∧ PgAt CP p g μ ∧ Q ((valA (Rp g) (.inr n)).getD .non) μ
theorem ok_Program_part {n : Nat}  {f : Addr} {fd : FuncData} (TX : Txt K mg w CL CP CS pT)  (F : Fun K "part" "Program.part" s_Program_part f fd) : FnD P w K mg base CX0 (n + 1) f fd ["self", "name"] (c_Program_part CP) := by
  refine fnD F sc_Program_part (fun xs μ Q E hc => by obtain ⟨p, g, n, rfl, ⟨dx, rp, h1, h2, h3⟩, q⟩ := hc; rfl) (fun cdv Ao outer s H E xs μ Q E0 ar hc => ?_)
  obtain ⟨p, g, n, rfl, ⟨dx, rp, h1, h2, h3⟩, q⟩ := hc
  have nd := sc_Program_part.nd
  refine wSs_cons (wS_ret (wE_dget2 ar (wE_fld TX.cls_Program TX.na_Program_rows_of_parts (wE_name 0 rfl ?_))))
  refine ⟨p, dx, _, .loc rp, rfl, h1, rfl, ?_⟩
  refine ⟨rp, _, rfl, h2, ?_⟩
  refine wE_name 1 rfl (wE_non ?_)
  refine ⟨_, .inr n, h2, rfl, ?_⟩
  exact q

abbrev s_Program_size : Stmt := (bodyC (topS 40)).getD 6 (.Pass ⟨0, 0, 0, 0⟩)
abbrev N_Program_size : List Str := ["self"]
theorem sc_Program_size : FnScope N_Program_size ["self"] (defScope s_Program_size) := ⟨rfl, rfl, rfl, by decide +kernel, rfl, by decide +kernel, by decide +kernel⟩
def c_Program_size (CP : Addr) : AC := fun xs μ Q _ => ∃ (p : Addr) (g : Pg), xs = [.loc p] ∧ PgAt CP p g μ ∧ Q (.int g.size) μ
theorem ok_Program_size {n : Nat}  {f : Addr} {fd : FuncData} (TX : Txt K mg w CL CP CS pT)  (F : Fun K "size" "Program.size" s_Program_size f fd) : FnD P w K mg base CX0 (n + 1) f fd ["self"] (c_Program_size CP) := by
  refine fnD F sc_Program_size (fun xs μ Q E hc => by obtain ⟨p, g, rfl, ⟨dx, rp, h1, h2, h3⟩, q⟩ := hc; rfl) (fun cdv Ao outer s H E xs μ Q E0 ar hc => ?_)
  obtain ⟨p, g, rfl, ⟨dx, rp, h1, h2, h3⟩, q⟩ := hc
  have nd := sc_Program_size.nd
  refine wSs_cons (wS_ret (wE_fld TX.cls_Program TX.na_Program_many (wE_name 0 rfl ?_)))
  refine ⟨p, dx, _, .int g.size, rfl, h1, rfl, ?_⟩
  exact q

end
end D

set_option Elab.async false
set_option linter.all false
set_option maxRecDepth 100000
set_option maxHeartbeats 4000000
namespace D
open PySem PySem.Spec PyProof.Rows L2
local macro_rules | `(tactic| walk_at "mul") => `(tactic| first | refine wO_mul (mulR (by first | decide | omega) (by first | decide | omega)) ?_ | refine wO_mul (mulL (by first | decide | omega) (by first | decide | omega)) ?_)
local macro_rules | `(tactic| walk_at "mod") => `(tactic| refine wO_mod (by first | decide | omega) ?_)
local macro_rules | `(tactic| walk_at "fdiv") => `(tactic| refine wO_fdiv (by first | decide | omega) (divS (by first | decide | omega)) ?_)
local macro_rules | `(tactic| walk_at "ix") => `(tactic| first | refine wI_tup (by rfl) ?_ | refine wI_lst (by rfl) ?_)
local macro_rules | `(tactic| walk_at "sl") => `(tactic| first | refine wSl_tup ?_ | refine wSl_lstF ?_)
local macro_rules | `(tactic| walk_at "obj") => `(tactic| refine ⟨_, _, _, rfl, by assumption, rfl, ?_⟩)
local macro_rules | `(tactic| walk_at "len") => `(tactic| first | refine wC_len (.tup _) ?_ | refine wC_len (.lst _) ?_ | refine wC_len (.loc (by assumption)) ?_)
section
variable {P : Program} {w : World} {K : PySem.W.Frag} {mg : Str → Option Value} {base : Heap} {CL CP CS pT : Addr}
abbrev s_fraction : Stmt := topS 6
abbrev N_fraction : List Str := ["n", "d", "part"]
theorem sc_fraction : FnScope N_fraction ["n", "d"] (defScope s_fraction) := ⟨rfl, rfl, rfl, by decide +kernel, rfl, by decide +kernel, by decide +kernel⟩
def c_fraction : AC := fun xs μ Q _ => ∃ n d : Int, xs = [.int n, .int d] ∧ d ≠ 0 ∧ Bd 8000 d ∧ Q (low n d) μ
abbrev dvs_fraction : List L2.V := [.int 1]
abbrev das_fraction : List D.A := [.int 1]
theorem ok_fraction {n : Nat}  {f : Addr} {fd : FuncData} (TX : Txt K mg w CL CP CS pT) (C_common : Cal P w K mg base n "common" c_common) (F : FunD K "fraction" "fraction" (defArgs s_fraction) (defBody s_fraction) (defScope s_fraction) dvs_fraction [] f fd) : FnD P w K mg base CX0 (n + 1) f fd ["n", "d"] c_fraction := by
  refine fnDD F sc_fraction (fun xs μ Q E hc => by obtain ⟨n, d, rfl, d0, hd, q⟩ := hc; rfl) (fun cdv Ao outer s H E xs μ Q E0 ar hc => ?_)
  obtain ⟨n, d, rfl, d0, hd, q⟩ := hc
  have nd := sc_fraction.nd
  refine wSs_cons (wS_set 2 (wE_cal C_common ar (by omega) (wA_cons (wE_name 0 rfl (wA_cons (wE_name 1 rfl (wA_nil ?_)))))) nd)
  refine ⟨n, d, rfl, ?_⟩
  refine wSs_cons (wS_set 2 ?_ nd)
  refine wE.imp (Q := fun z μ' => μ = μ' ∧ z = .int (part n d)) ?_ (fun z μ' hz => ?_)
  refine wE_if (wT_cmp (wE_name 1 rfl (wE_int ?_)))
  refine wO_gt ?_
  refine ⟨_, rfl, ?_⟩
  refine ⟨fun hk => ?_, fun hk => ?_⟩
  refine wE_name 2 rfl ?_
  exact ⟨rfl, by unfold part; rw [if_pos (of_decide_eq_true hk)]⟩
  refine wE_bin (wE_int (wE_name 2 rfl ?_))
  refine wO_sub ?_
  exact ⟨rfl, by unfold part; rw [if_neg (of_decide_eq_false hk)]⟩
  obtain ⟨rfl, rfl⟩ := hz
  refine wSs_cons (wS_ret (wE_tup (wA_cons (wE_bin (wE_name 0 rfl (wE_name 2 rfl ?_))))))
  refine wO_fdivN (part_ne d0) ((part_bd d0 hd).noPy (by decide) (by decide)) ?_
  refine wA_cons (wE_bin (wE_name 1 rfl (wE_name 2 rfl ?_)))
  refine wO_fdivN (part_ne d0) ((part_bd d0 hd).noPy (by decide) (by decide)) ?_
  refine wA_nil ⟨by show 2 ≤ sizeLine; decide, ?_⟩
  exact q

abbrev s_text_of : Stmt := topS 7
abbrev N_text_of : List Str := ["one"]
theorem sc_text_of : FnScope N_text_of ["one"] (defScope s_text_of) := ⟨rfl, rfl, rfl, by decide +kernel, rfl, by decide +kernel, by decide +kernel⟩
/-- what is written of a number -/
def txt (i : Int) : Str := Str.ofString (toString i)
def textOf (a b : Int) : Str := if b = 1 then txt a else txt a ++ "/" ++ txt b
theorem txt_len {i : Int} (h : Bd 1900 i) : (txt i).length ≤ 1922 := by
  have := len_intText (Nat.lt_of_lt_of_le (h.log (by decide)) (by decide) : i.natAbs.log2 < 1920)
  refine Nat.le_trans this ?_
  split <;> omega
def c_text_of : AC := fun xs μ Q _ => ∃ a b : Int, xs = [.tup [.int a, .int b]] ∧ Bd 1900 a ∧ Bd 1900 b ∧ Q (.str (textOf a b)) μ
theorem ok_text_of {n : Nat}  {f : Addr} {fd : FuncData} (TX : Txt K mg w CL CP CS pT)  (F : Fun K "text_of" "text_of" s_text_of f fd) : FnD P w K mg base CX0 (n + 1) f fd ["one"] c_text_of := by
  refine fnD F sc_text_of (fun xs μ Q E hc => by obtain ⟨a, b, rfl, ha, hb, q⟩ := hc; rfl) (fun cdv Ao outer s H E xs μ Q E0 ar hc => ?_)
  obtain ⟨a, b, rfl, ha, hb, q⟩ := hc
  have la := txt_len ha
  have lb := txt_len hb
  have g1 : a.natAbs.log2 < 1920 := Nat.lt_of_lt_of_le (ha.log (by decide)) (by decide)
  have g2 : b.natAbs.log2 < 1920 := Nat.lt_of_lt_of_le (hb.log (by decide)) (by decide)
  have e1 : ("/" : Str).length = 1 := by decide
  have e2 : (txt a ++ ("/" : Str)).length ≤ 1923 := by rw [Str.length_append]; omega
  have nd := sc_text_of.nd
  refine wSs_cons (wS_ret ?_)
  refine wE_if (wT_cmp (wE_ix (wE_name 0 rfl (wE_int ?_))))
  walk_at "ix"
  refine wE_int ?_
  refine wO_eqI ?_
  refine ⟨_, rfl, ?_⟩
  refine ⟨fun hk => ?_, fun hk => ?_⟩
  refine wE_callTy (T := "str") TX.b_str (by decide +kernel) (wA_cons (wE_ix (wE_name 0 rfl (wE_int ?_))))
  walk_at "ix"
  refine wA_nil ?_
  refine wC_strI g1 ?_
  rw [show textOf a b = txt a by unfold textOf; rw [if_pos (of_decide_eq_true hk)]] at q
  exact q
  refine wE_bin (wE_bin (wE_callTy (T := "str") TX.b_str (by decide +kernel) (wA_cons (wE_ix (wE_name 0 rfl (wE_int ?_))))))
  walk_at "ix"
  refine wA_nil ?_
  refine wC_strI g1 ?_
  refine wE_str ?_
  refine wO_addS (szOk (Nat.le_trans (Nat.add_le_add la (Nat.le_of_eq e1)) (by decide))) ?_
  refine wE_callTy (T := "str") TX.b_str (by decide +kernel) (wA_cons (wE_ix (wE_name 0 rfl (wE_int ?_))))
  walk_at "ix"
  refine wA_nil ?_
  refine wC_strI g2 ?_
  refine wO_addS (szOk (Nat.le_trans (Nat.add_le_add e2 lb) (by decide))) ?_
  rw [show textOf a b = txt a ++ "/" ++ txt b by unfold textOf; rw [if_neg (of_decide_eq_false hk)]] at q
  exact q

abbrev s_word_of : Stmt := topS 12
abbrev N_word_of : List Str := ["thing"]
theorem sc_word_of : FnScope N_word_of ["thing"] (defScope s_word_of) := ⟨rfl, rfl, rfl, by decide +kernel, rfl, by decide +kernel, by decide +kernel⟩
theorem bd_small {i : Int} (h : i.natAbs ≤ 10 ^ 20) : Bd 1900 i := by
  unfold Bd
  exact Nat.lt_of_le_of_lt h (by decide +kernel)
def c_word_of : AC := fun xs μ Q _ => ∃ x : D.A, xs = [x] ∧ TSm x ∧ Q (.str (wordT x)) μ
theorem ok_word_of {n : Nat}  {f : Addr} {fd : FuncData} (TX : Txt K mg w CL CP CS pT) (C_is_fraction : Cal P w K mg base n "is_fraction" c_is_fraction) (C_text_of : Cal P w K mg base n "text_of" c_text_of) (F : Fun K "word_of" "word_of" s_word_of f fd) : FnD P w K mg base CX0 (n + 1) f fd ["thing"] c_word_of := by
  refine fnD F sc_word_of (fun xs μ Q E hc => by obtain ⟨x, rfl, hx, q⟩ := hc; rfl) (fun cdv Ao outer s H E xs μ Q E0 ar hc => ?_)
  obtain ⟨x, rfl, hx, q⟩ := hc
  have nd := sc_word_of.nd
  refine wSs_cons (wS_ret ?_)
  refine wE_if (wT_val (wE_cal C_is_fraction ar (by omega) (wA_cons (wE_name 0 rfl (wA_nil ?_)))))
  refine ⟨_, rfl, ?_, ?_⟩
  · rcases hx with ⟨w, rfl, _⟩ | ⟨n, d, rfl, _⟩ | ⟨k, rfl, _⟩
    · exact .inl ⟨"str", rfl, rfl, rfl⟩
    · refine .inr ⟨_, rfl, fun y hy => ?_⟩
      simp only [List.mem_cons, List.not_mem_nil, or_false] at hy
      rcases hy with rfl | rfl <;> exact Kd_int _
    · exact .inl ⟨"int", rfl, rfl, rfl⟩
  refine ⟨_, rfl, ?_⟩
  refine ⟨fun hk => ?_, fun hk => ?_⟩
  refine wE_cal C_text_of ar (by omega) (wA_cons (wE_name 0 rfl (wA_nil ?_)))
  obtain ⟨n, d, rfl, h1, h2⟩ : ∃ n d : Int, x = .tup [.int n, .int d] ∧ n.natAbs ≤ 10 ^ 20 ∧ d.natAbs ≤ 10 ^ 20 := by
    rcases hx with ⟨w, rfl, _⟩ | ⟨n, d, rfl, hf, h1, h2⟩ | ⟨k, rfl, _⟩
    · exact absurd hk (by simp [isFr])
    · have hp := hf.pos
      exact ⟨n, d, rfl, h1, Nat.le_trans (show d.natAbs ≤ 9 by omega) (by decide)⟩
    · exact absurd hk (by simp [isFr])
  refine ⟨n, d, rfl, bd_small h1, bd_small h2, ?_⟩
  exact q
  refine wE_callTy (T := "str") TX.b_str (by decide +kernel) (wA_cons (wE_name 0 rfl (wA_nil ?_)))
  rcases hx with ⟨w, rfl, _⟩ | ⟨n, d, rfl, hf, h1, h2⟩ | ⟨k, rfl, hk2⟩
  · exact wC_strS q
  · rw [isFr_fr hf] at hk; cases hk
  · exact wC_strI (log_small (Nat.le_trans hk2 (by decide))) q
  skip

abbrev s_body_lines : Stmt := topS 13
abbrev N_body_lines : List Str := ["body", "found", "item", "thing"]
theorem sc_body_lines : FnScope N_body_lines ["body"] (defScope s_body_lines) := ⟨rfl, rfl, rfl, by decide +kernel, rfl, by decide +kernel, by decide +kernel⟩
/-- a line of two words -/
theorem line_two {a b c : Str} (h : TL.tl c = TL.tl a ++ [32]) : lineT [a, b] = c ++ b := by
  unfold lineT
  refine TL.ext_tl ?_
  rw [TL.join_eq, TL.tl_join, blank, TL.tl_append, h]
  simp [TL.joinL]
theorem line_one (a : Str) : lineT [a] = a := by
  unfold lineT
  refine TL.ext_tl ?_
  rw [TL.join_eq, TL.tl_join, blank]
  rfl
theorem itTag (it : It) : ∃ (tag : Str) (r : List D.A), it.a = .tup (.str tag :: r) ∧ (tag = "repeat" → ∃ n b, it = .rep n b) ∧ (tag ≠ "repeat" → it.size = 1) := by
  cases it with
  | row x w ts => exact ⟨"row", [.str x, .str w, .tup ts], by simp only [It.a], fun e => absurd e (by decide), fun _ => by simp only [It.size]⟩
  | rep n b => exact ⟨"repeat", [.int n, .tup (aIts b)], by simp only [It.a], fun _ => ⟨n, b, rfl⟩, fun e => absurd rfl e⟩
theorem sizeAt : ∀ {b : List It} {i : Nat} {it : It}, b[i]? = some it → it.size ≤ sizeIts b
  | x :: b, 0, it, e => by simp at e; subst e; simp only [sizeIts]; omega
  | x :: b, i + 1, it, e => by
    simp only [List.getElem?_cons_succ] at e
    have := sizeAt e
    simp only [sizeIts]; omega
theorem its_at {Pn : List (Str × Int)} : ∀ {b : List It} {d : Nat} {T : List Str} {i : Nat} {it : It}, okIts Pn d T b → AllNm T → b[i]? = some it → ∃ T2, it.ok Pn d T2 ∧ AllNm T2
  | x :: b, d, T, 0, it, h, hT, e => by
    simp only [okIts] at h
    simp at e; subst e; exact ⟨T, h.1, hT⟩
  | x :: b, d, T, i + 1, it, h, hT, e => by
    simp only [okIts] at h
    simp only [List.getElem?_cons_succ] at e
    exact its_at h.2 (told_nm h.1 hT) e
theorem sm_at : ∀ {b : List It} {i : Nat} {it : It}, smIts b → b[i]? = some it → it.sm
  | x :: b, 0, it, h, e => by simp only [smIts] at h; simp at e; subst e; exact h.1
  | x :: b, i + 1, it, h, e => by
    simp only [smIts] at h
    simp only [List.getElem?_cons_succ] at e
    exact sm_at h.2 e
theorem ls_take : ∀ (b : List It) (i : Nat) (it : It), b[i]? = some it → lsIts (b.take (i + 1)) = lsIts (b.take i) ++ it.ls
  | x :: b, 0, it, e => by simp at e; subst e; simp [lsIts]
  | x :: b, i + 1, it, e => by
    simp only [List.getElem?_cons_succ] at e
    rw [List.take_succ_cons, List.take_succ_cons, lsIts, lsIts, ls_take b i it e, List.append_assoc]
theorem ls_len_take (b : List It) : ∀ i, (lsIts (b.take i)).length ≤ (lsIts b).length := by
  induction b with
  | nil => intro i; simp
  | cons x b ih =>
    intro i
    cases i with
    | zero => simp [lsIts]
    | succ i =>
      rw [List.take_succ_cons, lsIts, lsIts, List.length_append, List.length_append]
      have := ih i
      omega
def c_body_lines (lo : Nat) : AC := fun xs μ Q _ => ∃ (Pn : List (Str × Int)) (d : Nat) (T : List Str) (b : List It), xs = [.tup (aIts b)] ∧ okIts Pn d T b ∧ AllNm T ∧ smIts b ∧ lo ≤ d ∧ d ≤ 3 ∧ sizeIts b ≤ 100 ∧ ∀ l : Addr, μ l = none → ∀ μ' : Mu, Sub μ μ' → μ' l = some (.lst (((lsIts b).map lineT).map D.A.str)) → Q (.loc l) μ'
theorem ok_body_lines {n : Nat} {lo : Nat} {f : Addr} {fd : FuncData} (TX : Txt K mg w CL CP CS pT) (C_body_lines : Cal P w K mg base n "body_lines" (c_body_lines (lo+1))) (C_word_of : Cal P w K mg base n "word_of" c_word_of) (F : Fun K "body_lines" "body_lines" s_body_lines f fd) : FnD P w K mg base CX0 (n + 1) f fd ["body"] (c_body_lines lo) := by
  refine fnD F sc_body_lines (fun xs μ Q E hc => by obtain ⟨Pn, d, T, b, rfl, ok, hT, sm, hlo, hd3, hz, q⟩ := hc; rfl) (fun cdv Ao outer s H E xs μ Q E0 ar hc => ?_)
  obtain ⟨Pn, d, T, b, rfl, ok, hT, sm, hlo, hd3, hz, q⟩ := hc
  have hbl := len_size b
  have hll := (lensIts ok sm).2
  have nd := sc_body_lines.nd
  refine wSs_cons (wS_set 1 (wE_lst (wA_nil ⟨by show 0 ≤ sizeLine; decide, fun p_found np_found => (wSs_cons (wS_for (wIt_tup (wE_name 0 rfl ⟨_, rfl, ?_⟩))))⟩)) nd)
  refine ⟨fun i Γ' μ' => ∃ x2 x3 : Option D.A, Γ' = [some (.tup (aIts b)), some (.loc p_found), x2, x3] ∧ Sub μ μ' ∧ μ' p_found = some (.lst (((lsIts (b.take i)).map lineT).map D.A.str)), ⟨_, _, rfl, Sub.new np_found, Mu.upd_same⟩, fun i y Γ' μ' hy hI => ?_, fun Γ' μ' hI => ?_⟩
  obtain ⟨x2, x3, rfl, sb, fd⟩ := hI
  obtain ⟨it, hit, rfl⟩ := aIts_get hy
  obtain ⟨T2, ok2, hT2⟩ := its_at ok hT hit
  have sm2 := sm_at sm hit
  obtain ⟨tag, r, ea, hrep, hrow⟩ := itTag it
  have hsz := sizeAt hit
  have elt := ls_take b i it hit
  have hlt := ls_len_take b i
  rw [ea]
  refine wG_name 2 ?_ nd
  refine wSs_cut (fun Γ' μ' => ∃ x2 x3 : Option D.A, Γ' = [some (.tup (aIts b)), some (.loc p_found), x2, x3] ∧ Sub μ μ' ∧ μ' p_found = some (.lst (((lsIts (b.take (i + 1))).map lineT).map D.A.str))) ?_ (fun Γ' μ' hP => ?_)
  refine wS_if (wT_cmp (wE_ix (wE_name 2 rfl (wE_int ?_))))
  refine wI_tup (atI0 _ _) ?_
  refine wE_str ?_
  refine wO_eqS ?_
  refine ⟨_, rfl, ?_⟩
  refine ⟨fun hk => ?_, fun hk => ?_⟩
  refine wSs_cons (wS_expr (wE_extend (wE_name 1 rfl ?_)))
  obtain ⟨k, b2, rfl⟩ := hrep (of_decide_eq_true hk)
  simp only [It.a, D.A.tup.injEq, List.cons.injEq] at ea
  obtain ⟨_, rfl⟩ := ea
  simp only [It.ok] at ok2
  simp only [It.sm] at sm2
  simp only [It.size] at hsz
  simp only [It.ls] at elt
  have hll2 := (lensIts ok2.2.2.2 sm2.2.2).2
  refine ⟨_, _, rfl, fd, ?_⟩
  refine wE_bin (wE_bin (wE_lstF (wA_cons (wE_bin (wE_str (wE_callTy (T := "str") TX.b_str (by decide +kernel) (wA_cons (wE_ix (wE_name 2 rfl (wE_int ?_))))))))))
  refine wI_tup (y := .int k) rfl ?_
  refine wA_nil ?_
  refine wC_strI (log_small (Nat.le_trans (show k.natAbs ≤ 5 by omega) (by decide))) ?_
  refine wO_addS (szOk (by have := len_ofI (i := k) (Nat.le_trans (show k.natAbs ≤ 5 by omega) (by decide)); have e : ("repeat " : Str).length = 7 := (by decide); show ("repeat " : Str).length + (ofI k).length ≤ _; omega)) ?_
  refine wA_nil ⟨by show 1 ≤ sizeLine; decide, (wE_cal C_body_lines ar (by omega) (wA_cons (wE_ix (wE_name 2 rfl (wE_int ?_)))))⟩
  refine wI_tup (y := .tup (aIts b2)) rfl ?_
  refine wA_nil ?_
  have hd4 := ok2.1
  refine ⟨Pn, d + 1, T2, b2, rfl, ok2.2.2.2, hT2, sm2.2.2, by omega, by omega, by omega, fun l nl μ2 sb2 hl => ?_⟩
  have fd2 := sb2 _ _ fd
  refine wO_catF (.lst _) (.loc hl) (szOk (by simp only [List.length_cons, List.length_nil, List.length_map]; omega)) ?_
  refine wE_lstF (wA_cons (wE_str (wA_nil ⟨by show 1 ≤ sizeLine; decide, ?_⟩)))
  refine wO_catF (.lst _) (.lst _) (szOk (by simp only [List.length_append, List.length_cons, List.length_nil, List.length_map]; omega)) ?_
  refine ⟨_, _, fd2, .lst _, szOk (by simp only [List.length_append, List.length_cons, List.length_nil, List.length_map]; omega), ?_⟩
  refine wSs_nil ?_
  refine ⟨_, _, rfl, ?_, ?_⟩
  · intro z o hz3
    have hz4 := sb2 z o (sb z o hz3)
    rw [Mu.upd_ne (fun e => by rw [e, np_found] at hz3; cases hz3)]
    exact hz4
  · rw [Mu.upd_same, elt]
    have e1 : lineT [("repeat" : Str), ofI k] = "repeat " ++ Str.ofString (toString k) := line_two (by decide)
    simp only [List.map_append, List.map_cons, List.map_nil, e1]
    rfl
  refine wSs_cons (wS_expr (wE_append (wE_name 1 rfl ?_)))
  obtain ⟨x, w, ts, rfl⟩ : ∃ x w ts, it = .row x w ts := by
    cases it with
    | row x w ts => exact ⟨x, w, ts, rfl⟩
    | rep k b2 =>
      simp only [It.a, D.A.tup.injEq, List.cons.injEq, D.A.str.injEq] at ea
      exact absurd ea.1.symm (of_decide_eq_false hk)
  simp only [It.a, D.A.tup.injEq, List.cons.injEq, D.A.str.injEq] at ea
  obtain ⟨rfl, rfl⟩ := ea
  obtain ⟨hL1, hL2⟩ := (It.lens ok2 sm2).1 (x :: "=" :: w :: ts.map wordT) (by simp only [It.ls]; exact List.mem_singleton.mpr rfl)
  simp only [It.ok] at ok2
  simp only [It.sm] at sm2
  simp only [It.ls] at elt
  obtain ⟨tsm, tl5, _⟩ := row_tsm ok2.2.2 sm2.2
  refine ⟨_, _, rfl, fd, ?_⟩
  refine wE_m1 PySem.F.slot_str_join PySem.F.type_str_join (wE_str ⟨_, rfl, (wE_bin (wE_lstF (wA_cons (wE_ix (wE_name 2 rfl (wE_int ?_))))))⟩)
  refine wI_tup (y := .str x) rfl ?_
  refine wA_cons (wE_str (wA_cons (wE_ix (wE_name 2 rfl (wE_int ?_)))))
  refine wI_tup (y := .str w) rfl ?_
  refine wA_nil ⟨by show 3 ≤ sizeLine; decide, (wE_lcF (own := [("thing", 3)]) (wIt_tup (wE_ix (wE_name 2 rfl (wE_int ?_)))) nd (blkOk_by (N := N_body_lines) (sc := defScope s_body_lines) (by decide +kernel)))⟩
  refine wI_tup (y := .tup ts) rfl ?_
  refine ⟨_, rfl, ?_⟩
  refine ⟨szOk (by omega), (ts.map wordT).map D.A.str, by simp, fun j y z hy hz s0 H0 C cl fp => ?_, ?_⟩
  obtain ⟨v, hv, rfl⟩ := map_at hz
  obtain ⟨a, ha, rfl⟩ := map_at hv
  obtain rfl : y = a := Option.some.inj (hy.symm.trans ha)
  refine wGw_name 3 (⟨rfl, fun s0 H0 C cl fp => (wE_cal C_word_of ar.bk (by omega) (wA_cons (wE_name 3 rfl (wA_nil ?_))))⟩) nd
  refine ⟨y, rfl, tsm y (List.mem_of_getElem? hy), ?_⟩
  refine ⟨?_, .refl _⟩
  rfl
  refine wO_catF (.lst _) (.lst _) (szOk (by simp only [List.length_cons, List.length_nil, List.length_map]; omega)) ?_
  refine wM_join (ys := x :: "=" :: w :: ts.map wordT) (.inl (.lst _)) (Nat.le_trans (sum_words hL1 hL2) (by decide)) ?_
  refine ⟨_, fd, szLt (by rw [List.length_map, List.length_map]; omega), ?_⟩
  refine wSs_nil ?_
  refine ⟨_, _, rfl, ?_, ?_⟩
  · intro z o hz3
    rw [Mu.upd_ne (fun e => by rw [e, np_found] at hz3; cases hz3)]
    exact sb z o hz3
  · rw [Mu.upd_same, elt]
    simp only [List.map_append, List.map_cons, List.map_nil]
  refine wSs_nil ?_
  exact hP
  obtain ⟨x2, x3, rfl, sb, fd⟩ := hI
  rw [aIts_len, List.take_length] at fd
  refine wSs_cons (wS_ret (wE_name 1 rfl ?_))
  exact q _ np_found _ sb fd

end
end D

set_option Elab.async false
set_option linter.all false
set_option maxRecDepth 100000
set_option maxHeartbeats 4000000
namespace D
open PySem PySem.Spec PyProof.Rows L2
local macro_rules | `(tactic| walk_at "mul") => `(tactic| first | refine wO_mul (mulR (by first | decide | omega) (by first | decide | omega)) ?_ | refine wO_mul (mulL (by first | decide | omega) (by first | decide | omega)) ?_)
local macro_rules | `(tactic| walk_at "mod") => `(tactic| refine wO_mod (by first | decide | omega) ?_)
local macro_rules | `(tactic| walk_at "fdiv") => `(tactic| refine wO_fdiv (by first | decide | omega) (divS (by first | decide | omega)) ?_)
local macro_rules | `(tactic| walk_at "ix") => `(tactic| first | refine wI_tup (by rfl) ?_ | refine wI_lst (by rfl) ?_)
local macro_rules | `(tactic| walk_at "sl") => `(tactic| first | refine wSl_tup ?_ | refine wSl_lstF ?_)
local macro_rules | `(tactic| walk_at "obj") => `(tactic| refine ⟨_, _, _, rfl, by assumption, rfl, ?_⟩)
local macro_rules | `(tactic| walk_at "len") => `(tactic| first | refine wC_len (.tup _) ?_ | refine wC_len (.lst _) ?_ | refine wC_len (.loc (by assumption)) ?_)
section
variable {P : Program} {w : World} {K : PySem.W.Frag} {mg : Str → Option Value} {base : Heap} {CL CP CS pT : Addr}
abbrev s_shown : Stmt := topS 14
abbrev N_shown : List Str := ["program", "parts", "ins", "body", "outs", "lines", "name", "part_ins", "part_body", "give"]
theorem sc_shown : FnScope N_shown ["program"] (defScope s_shown) := ⟨rfl, rfl, rfl, by decide +kernel, rfl, by decide +kernel, by decide +kernel⟩
theorem okPtsMem : ∀ {l : List Pt} {Pn : List (Str × Int)} {q : Pt}, okPts Pn l → q ∈ l → (∃ Pn', q.ok Pn') ∧ q.size ≤ sizePts l
  | x :: l, Pn, q, h, hq => by
    simp only [okPts] at h
    have es : sizePts (x :: l) = x.size + sizePts l := by simp [sizePts]
    rcases List.mem_cons.mp hq with rfl | hq
    · exact ⟨⟨_, h.1⟩, by omega⟩
    · obtain ⟨h1, h2⟩ := okPtsMem h.2 hq
      exact ⟨h1, by omega⟩
theorem pls_take (l : List Pt) (i : Nat) : ((l.take i).map Pt.ls).flatten.length ≤ (l.map Pt.ls).flatten.length := by
  have e : (l.map Pt.ls).flatten = ((l.take i).map Pt.ls).flatten ++ ((l.drop i).map Pt.ls).flatten := by rw [← List.flatten_append, ← List.map_append, List.take_append_drop]
  rw [e, List.length_append]; omega
theorem pls_next {l : List Pt} {i : Nat} {q : Pt} (h : l[i]? = some q) : ((l.take (i + 1)).map Pt.ls).flatten = ((l.take i).map Pt.ls).flatten ++ q.ls := by
  rw [List.take_add_one, h]; simp
def c_shown (CP : Addr) : AC := fun xs μ Q _ => ∃ (p : Addr) (g : Pg), xs = [.loc p] ∧ PgAt CP p g μ ∧ g.ok ∧ g.sm ∧ ∀ μ', Sub μ μ' → Q (.str g.text) μ'
theorem ok_shown {n : Nat}  {f : Addr} {fd : FuncData} (TX : Txt K mg w CL CP CS pT) (C_body_lines : Cal P w K mg base n "body_lines" (c_body_lines 0)) (CM_Program_plain : CalM P w K mg base n CP "plain" (c_Program_plain CP)) (F : Fun K "shown" "shown" s_shown f fd) : FnD P w K mg base CX0 (n + 1) f fd ["program"] (c_shown CP) := by
  refine fnD F sc_shown (fun xs μ Q E hc => by obtain ⟨p, g, rfl, at0, ok, sm, q⟩ := hc; rfl) (fun cdv Ao outer s H E xs μ Q E0 ar hc => ?_)
  obtain ⟨p, g, rfl, at0, ok, sm, q⟩ := hc
  obtain ⟨hL, hN⟩ := Pg.lens ok sm
  have hz := ok.size
  simp only [Pg.size] at hz
  have i6 := ok.i6
  have o4 := ok.o4
  obtain ⟨dx, rp, hp, hrp⟩ := at0
  have at0 : PgAt CP p g μ := ⟨dx, rp, hp, hrp⟩
  have hN2 : (g.parts.map Pt.ls).flatten.length + (lsIts g.body).length + 2 ≤ 200 := by
    simp only [Pg.ls, List.length_append, List.length_cons, List.length_nil] at hN
    omega
  have nd := sc_shown.nd
  refine wSs_cons (wS_asg (wE_meth0 TX.cls_Program CM_Program_plain ar (by omega) (wE_name 0 rfl ?_)))
  refine ⟨p, dx, _, rfl, hp, rfl, ?_⟩
  refine ⟨p, g, rfl, at0, ?_⟩
  simp only [Pg.a]
  refine wG_tup (wGs_cons (wG_name 1 (wGs_cons (wG_name 2 (wGs_cons (wG_name 3 (wGs_cons (wG_name 4 (wGs_nil (wSs_cons (wS_set 5 (wE_lst (wA_nil ⟨by show 0 ≤ sizeLine; decide, fun p_lines np_lines => (wSs_cons (wS_for (wIt_tup (wE_name 1 rfl ⟨_, rfl, ?_⟩))))⟩)) nd))) nd)) nd)) nd)) nd))
  refine ⟨fun i Γ' μ' => ∃ x6 x7 x8 x9 : Option D.A, Γ' = [some (.loc p), some (.tup (g.parts.map Pt.a)), some (.tup (g.ins.map D.A.str)), some (.tup (aIts g.body)), some (.tup (g.outs.map D.A.str)), some (.loc p_lines), x6, x7, x8, x9] ∧ Sub μ μ' ∧ μ' p_lines = some (.lst (((((g.parts.take i).map Pt.ls).flatten).map lineT).map D.A.str)), ⟨_, _, _, _, rfl, Sub.new np_lines, Mu.upd_same⟩, fun i y Γ' μ' hy hI => ?_, fun Γ' μ' hI => ?_⟩
  obtain ⟨x6, x7, x8, x9, rfl, sb, fd⟩ := hI
  obtain ⟨pt, hpt, rfl⟩ := map_at hy
  have hptm := List.mem_of_getElem? hpt
  obtain ⟨⟨Pn, ptok⟩, ptsz⟩ := okPtsMem ok.parts hptm
  have ptsm := sm.parts pt hptm
  have hpl := pls_take g.parts i
  have hpn := pls_next hpt
  have hpl2 := pls_take g.parts (i + 1)
  rw [hpn, List.length_append] at hpl2
  simp only [Pt.ls, List.length_append, List.length_cons, List.length_nil] at hpl2
  have i4 := ptok.i4
  simp only [Pt.size] at ptsz
  obtain ⟨hA1, hA2⟩ := hL (("part" : Str) :: pt.nm :: pt.ins) (List.mem_append_left _ (List.mem_flatten.mpr ⟨pt.ls, List.mem_map.mpr ⟨pt, hptm, rfl⟩, by simp only [Pt.ls]; exact List.mem_cons_self ..⟩))
  have hgv : isNm (.str pt.give) = true := tolds_nm ptok.body ptok.ins _ ptok.give
  simp only [Pt.a]
  refine wG_tup (wGs_cons (wG_name 6 (wGs_cons (wG_name 7 (wGs_cons (wG_name 8 (wGs_cons (wG_name 9 (wGs_nil ?_) nd)) nd)) nd)) nd))
  refine wSs_cons (wS_expr (wE_append (wE_name 5 rfl ?_)))
  refine ⟨_, _, rfl, fd, ?_⟩
  refine wE_m1 PySem.F.slot_str_join PySem.F.type_str_join (wE_str ⟨_, rfl, (wE_bin (wE_tup (wA_cons (wE_str (wA_cons (wE_name 6 rfl (wA_nil ⟨by show 2 ≤ sizeLine; decide, (wE_name 7 rfl ?_)⟩)))))))⟩)
  refine wO_catT (szOk (by simp only [List.length_cons, List.length_nil, List.length_map]; omega)) ?_
  refine wM_join (ys := ("part" : Str) :: pt.nm :: pt.ins) (.inr rfl) (Nat.le_trans (sum_words hA1 hA2) (by decide)) ?_
  refine ⟨_, fd, szLt (by rw [List.length_map, List.length_map]; omega), ?_⟩
  refine wSs_cons (wS_expr (wE_extend (wE_name 5 rfl ?_)))
  refine ⟨_, _, rfl, Mu.upd_same, ?_⟩
  refine wE_bin (wE_cal C_body_lines ar (by omega) (wA_cons (wE_name 8 rfl (wA_nil ?_))))
  refine ⟨Pn, 0, pt.ins, pt.body, rfl, ptok.body, ptok.ins, ptsm.body, by omega, by omega, by omega, fun l nl μ2 sb2 hl => ?_⟩
  have fd2 := sb2 _ _ Mu.upd_same
  refine wE_lstF (wA_cons (wE_bin (wE_str (wE_name 9 rfl ?_))))
  refine wO_addS (szOk (by have := (isNm_let hgv).2.1; have e : ("give " : Str).length = 5 := (by decide); omega)) ?_
  refine wA_nil ⟨by show 1 ≤ sizeLine; decide, ?_⟩
  refine wO_catF (.loc hl) (.lst _) (szOk (by simp only [List.length_cons, List.length_nil, List.length_map]; omega)) ?_
  refine ⟨_, _, fd2, .lst _, szOk (by simp only [List.length_append, List.length_cons, List.length_nil, List.length_map]; omega), ?_⟩
  refine wSs_nil ?_
  refine ⟨_, _, _, _, rfl, ?_, ?_⟩
  · intro z o hz3
    have e1 : z ≠ p_lines := fun e => by rw [e, np_lines] at hz3; cases hz3
    rw [Mu.upd_ne e1]
    exact sb2 z o (by rw [Mu.upd_ne e1]; exact sb z o hz3)
  · rw [Mu.upd_same, hpn]
    have e1 : lineT [("give" : Str), pt.give] = "give " ++ pt.give := line_two (by decide)
    simp only [Pt.ls, List.map_append, List.map_cons, List.map_nil, e1, List.append_assoc, List.cons_append, List.nil_append]
  obtain ⟨x6, x7, x8, x9, rfl, sb, fd⟩ := hI
  rw [List.length_map, List.take_length] at fd
  obtain ⟨hA1, hA2⟩ := hL (("in" : Str) :: g.ins) (List.mem_append_right _ (List.mem_cons_self ..))
  obtain ⟨hB1, hB2⟩ := hL (("out" : Str) :: g.outs) (List.mem_append_right _ (List.mem_cons_of_mem _ (List.mem_append_right _ (List.mem_singleton.mpr rfl))))
  refine wSs_cons (wS_expr (wE_append (wE_name 5 rfl ?_)))
  refine ⟨_, _, rfl, fd, ?_⟩
  refine wE_m1 PySem.F.slot_str_join PySem.F.type_str_join (wE_str ⟨_, rfl, (wE_bin (wE_tup (wA_cons (wE_str (wA_nil ⟨by show 1 ≤ sizeLine; decide, (wE_name 2 rfl ?_)⟩)))))⟩)
  refine wO_catT (szOk (by simp only [List.length_cons, List.length_nil, List.length_map]; omega)) ?_
  refine wM_join (ys := ("in" : Str) :: g.ins) (.inr rfl) (Nat.le_trans (sum_words hA1 hA2) (by decide)) ?_
  refine ⟨_, fd, szLt (by rw [List.length_map, List.length_map]; omega), ?_⟩
  refine wSs_cons (wS_ret (wE_m1 PySem.F.slot_str_join PySem.F.type_str_join (wE_str ⟨_, rfl, (wE_bin (wE_bin (wE_name 5 rfl (wE_cal C_body_lines ar (by omega) (wA_cons (wE_name 3 rfl (wA_nil ?_)))))))⟩)))
  refine ⟨_, 0, _, g.body, rfl, ok.body, ok.ins, sm.body, by omega, by omega, by omega, fun l nl μ2 sb2 hl => ?_⟩
  have fd2 := sb2 _ _ Mu.upd_same
  have sb3 : Sub μ μ2 := fun z o hz3 => sb2 z o (by rw [Mu.upd_ne (fun e => by rw [e, np_lines] at hz3; cases hz3)]; exact sb z o hz3)
  refine wO_catF (.loc fd2) (.loc hl) (szOk (by simp only [List.length_append, List.length_cons, List.length_nil, List.length_map]; omega)) ?_
  refine wE_lstF (wA_cons (wE_m1 PySem.F.slot_str_join PySem.F.type_str_join (wE_str ⟨_, rfl, (wE_bin (wE_tup (wA_cons (wE_str (wA_nil ⟨by show 1 ≤ sizeLine; decide, (wE_name 4 rfl ?_)⟩)))))⟩)))
  refine wO_catT (szOk (by simp only [List.length_cons, List.length_nil, List.length_map]; omega)) ?_
  refine wM_join (ys := ("out" : Str) :: g.outs) (.inr rfl) (Nat.le_trans (sum_words hB1 hB2) (by decide)) ?_
  refine wA_nil ⟨by show 1 ≤ sizeLine; decide, ?_⟩
  refine wO_catF (.lst _) (.lst _) (szOk (by simp only [List.length_append, List.length_cons, List.length_nil, List.length_map]; omega)) ?_
  have hs : ((g.ls.map lineT).map (·.length)).sum ≤ 32008 * (g.ls.map lineT).length := sum_le fun w hw => by
    obtain ⟨ws, hws, rfl⟩ := List.mem_map.mp hw
    exact len_line (hL ws hws).1 (hL ws hws).2
  rw [List.length_map] at hs
  refine wM_join (ys := g.ls.map lineT) (.inl (by
    have e : ∀ {a b : List D.A}, a = b → IsL μ2 (.lst a) b := fun e => e ▸ .lst _
    exact e (by simp only [Pg.ls, List.map_append, List.map_cons, List.map_nil, List.append_assoc, List.cons_append, List.nil_append]))) (by rw [List.length_map, show ("\n" : Str).length = 1 by decide]; omega) ?_
  exact q _ sb3

end
end D

set_option Elab.async false
set_option linter.all false
set_option maxRecDepth 100000
set_option maxHeartbeats 4000000
namespace D
open PySem PySem.Spec PyProof.Rows L2
local macro_rules | `(tactic| walk_at "mul") => `(tactic| first | refine wO_mul (mulR (by first | decide | omega) (by first | decide | omega)) ?_ | refine wO_mul (mulL (by first | decide | omega) (by first | decide | omega)) ?_)
local macro_rules | `(tactic| walk_at "mod") => `(tactic| refine wO_mod (by first | decide | omega) ?_)
local macro_rules | `(tactic| walk_at "fdiv") => `(tactic| refine wO_fdiv (by first | decide | omega) (divS (by first | decide | omega)) ?_)
local macro_rules | `(tactic| walk_at "ix") => `(tactic| first | refine wI_tup (by rfl) ?_ | refine wI_lst (by rfl) ?_)
local macro_rules | `(tactic| walk_at "sl") => `(tactic| first | refine wSl_tup ?_ | refine wSl_lstF ?_)
local macro_rules | `(tactic| walk_at "obj") => `(tactic| refine ⟨_, _, _, rfl, by assumption, rfl, ?_⟩)
local macro_rules | `(tactic| walk_at "len") => `(tactic| first | refine wC_len (.tup _) ?_ | refine wC_len (.lst _) ?_ | refine wC_len (.loc (by assumption)) ?_)
section
variable {P : Program} {w : World} {K : PySem.W.Frag} {mg : Str → Option Value} {base : Heap} {CL CP CS pT : Addr}
abbrev s__law_word : Stmt := topS 60
abbrev N__law_word : List Str := ["_law_thing_here"]
theorem sc__law_word : FnScope N__law_word ["_law_thing_here"] (defScope s__law_word) := ⟨rfl, rfl, rfl, by decide +kernel, rfl, by decide +kernel, by decide +kernel⟩
def c__law_word : AC := fun xs μ Q _ => ∃ x : D.A, xs = [x] ∧ TSm x ∧ Q (.str (wordT x)) μ
theorem ok__law_word {n : Nat}  {f : Addr} {fd : FuncData} (TX : Txt K mg w CL CP CS pT)  (F : Fun K "_law_word" "_law_word" s__law_word f fd) : FnD P w K mg base CX0 (n + 1) f fd ["_law_thing_here"] c__law_word := by
  refine fnD F sc__law_word (fun xs μ Q E hc => by obtain ⟨x, rfl, hx, q⟩ := hc; rfl) (fun cdv Ao outer s H E xs μ Q E0 ar hc => ?_)
  obtain ⟨x, rfl, hx, q⟩ := hc
  have nd := sc__law_word.nd
  refine wSs_cons (wS_if (wT_val (wE_callB (id := "isinstance") TX.b_isinstance (by decide +kernel) (wA_cons (wE_name 0 rfl (wA_cons (wE_type (n := "tuple") TX.b_tuple (by decide +kernel) (wA_nil ?_))))))))
  obtain ⟨nm, k, e1, e2, e3⟩ : ∃ nm k, tyN μ x = some nm ∧ kitB nm "tuple" = some k ∧ (k = true → ∃ n d : Int, x = .tup [.int n, .int d] ∧ n.natAbs ≤ 10 ^ 20 ∧ d.natAbs ≤ 10 ^ 20) := by
    rcases hx with ⟨w, rfl, _⟩ | ⟨n, d, rfl, hf, h1, h2⟩ | ⟨k, rfl, _⟩
    · exact ⟨"str", false, rfl, rfl, fun z => nomatch z⟩
    · have hp := hf.pos
      exact ⟨"tuple", true, rfl, rfl, fun _ => ⟨n, d, rfl, h1, Nat.le_trans (show d.natAbs ≤ 9 by omega) (by decide)⟩⟩
    · exact ⟨"int", false, rfl, rfl, fun z => nomatch z⟩
  have e4 : k = false → (∃ w, x = .str w) ∨ ∃ i : Int, x = .int i ∧ i.natAbs ≤ 9 := fun z => by
    subst z
    rcases hx with ⟨w, rfl, _⟩ | ⟨n, d, rfl, _⟩ | ⟨i, rfl, h⟩
    · exact .inl ⟨w, rfl⟩
    · cases e1; cases e2
    · exact .inr ⟨i, rfl, h⟩
  refine wC_isi e1 e2 ?_
  refine ⟨_, rfl, ?_⟩
  refine ⟨fun hk => ?_, fun hk => ?_⟩
  refine wSs_cons (wS_ret ?_)
  refine wE_if (wT_cmp (wE_ix (wE_name 0 rfl (wE_int ?_))))
  obtain ⟨n, d, rfl, h1, h2⟩ := e3 hk
  have l1 := len_ofI h1
  have l2 := len_ofI h2
  have l3 : ("/" : Str).length = 1 := by decide
  refine wI_tup (y := .int d) rfl ?_
  refine wE_int ?_
  refine wO_eqI ?_
  refine ⟨_, rfl, ?_⟩
  refine ⟨fun hk => ?_, fun hk => ?_⟩
  refine wE_callTy (T := "str") TX.b_str (by decide +kernel) (wA_cons (wE_ix (wE_name 0 rfl (wE_int ?_))))
  refine wI_tup (y := .int n) rfl ?_
  refine wA_nil ?_
  refine wC_strI (log_small h1) ?_
  have e : wordT (.tup [.int n, .int d]) = ofI n := by simp only [wordT]; rw [if_pos (of_decide_eq_true hk)]
  rw [e] at q
  exact q
  refine wE_bin (wE_bin (wE_callTy (T := "str") TX.b_str (by decide +kernel) (wA_cons (wE_ix (wE_name 0 rfl (wE_int ?_))))))
  refine wI_tup (y := .int n) rfl ?_
  refine wA_nil ?_
  refine wC_strI (log_small h1) ?_
  refine wE_str ?_
  refine wO_addS (szOk (by show (ofI n).length + _ ≤ _; omega)) ?_
  refine wE_callTy (T := "str") TX.b_str (by decide +kernel) (wA_cons (wE_ix (wE_name 0 rfl (wE_int ?_))))
  refine wI_tup (y := .int d) rfl ?_
  refine wA_nil ?_
  refine wC_strI (log_small h2) ?_
  refine wO_addS (szOk (by rw [Str.length_append]; show (ofI n).length + _ + (ofI d).length ≤ _; omega)) ?_
  have e : wordT (.tup [.int n, .int d]) = ofI n ++ "/" ++ ofI d := by simp only [wordT]; rw [if_neg (of_decide_eq_false hk)]
  rw [e] at q
  exact q
  refine wSs_nil ?_
  refine wSs_cons (wS_ret (wE_callTy (T := "str") TX.b_str (by decide +kernel) (wA_cons (wE_name 0 rfl (wA_nil ?_)))))
  rcases e4 hk with ⟨w, rfl⟩ | ⟨i, rfl, h⟩
  · exact wC_strS q
  · exact wC_strI (log_small (Nat.le_trans h (by decide))) q
  skip

abbrev s__law_body_lines : Stmt := topS 61
abbrev N__law_body_lines : List Str := ["_law_body_here", "_law_found", "_law_item", "_law_thing_here"]
theorem sc__law_body_lines : FnScope N__law_body_lines ["_law_body_here"] (defScope s__law_body_lines) := ⟨rfl, rfl, rfl, by decide +kernel, rfl, by decide +kernel, by decide +kernel⟩
def c__law_body_lines (lo : Nat) : AC := fun xs μ Q _ => ∃ (Pn : List (Str × Int)) (d : Nat) (T : List Str) (b : List It), xs = [.tup (aIts b)] ∧ okIts Pn d T b ∧ AllNm T ∧ smIts b ∧ lo ≤ d ∧ d ≤ 3 ∧ sizeIts b ≤ 100 ∧ ∀ l : Addr, μ l = none → ∀ μ' : Mu, Sub μ μ' → μ' l = some (.lst (((lsIts b).map lineT).map D.A.str)) → Q (.loc l) μ'
theorem ok__law_body_lines {n : Nat} {lo : Nat} {f : Addr} {fd : FuncData} (TX : Txt K mg w CL CP CS pT) (C__law_body_lines : Cal P w K mg base n "_law_body_lines" (c__law_body_lines (lo+1))) (C__law_word : Cal P w K mg base n "_law_word" c__law_word) (F : Fun K "_law_body_lines" "_law_body_lines" s__law_body_lines f fd) : FnD P w K mg base CX0 (n + 1) f fd ["_law_body_here"] (c__law_body_lines lo) := by
  refine fnD F sc__law_body_lines (fun xs μ Q E hc => by obtain ⟨Pn, d, T, b, rfl, ok, hT, sm, hlo, hd3, hz, q⟩ := hc; rfl) (fun cdv Ao outer s H E xs μ Q E0 ar hc => ?_)
  obtain ⟨Pn, d, T, b, rfl, ok, hT, sm, hlo, hd3, hz, q⟩ := hc
  have hbl := len_size b
  have hll := (lensIts ok sm).2
  have nd := sc__law_body_lines.nd
  refine wSs_cons (wS_set 1 (wE_lst (wA_nil ⟨by show 0 ≤ sizeLine; decide, fun p__law_found np__law_found => (wSs_cons (wS_for (wIt_tup (wE_name 0 rfl ⟨_, rfl, ?_⟩))))⟩)) nd)
  refine ⟨fun i Γ' μ' => ∃ (pf : Addr) (x2 x3 : Option D.A), Γ' = [some (.tup (aIts b)), some (.loc pf), x2, x3] ∧ μ pf = none ∧ Sub μ μ' ∧ μ' pf = some (.lst (((lsIts (b.take i)).map lineT).map D.A.str)), ⟨p__law_found, _, _, rfl, np__law_found, Sub.new np__law_found, Mu.upd_same⟩, fun i y Γ' μ' hy hI => ?_, fun Γ' μ' hI => ?_⟩
  obtain ⟨pf, x2, x3, rfl, npf, sb, fd⟩ := hI
  obtain ⟨it, hit, rfl⟩ := aIts_get hy
  obtain ⟨T2, ok2, hT2⟩ := its_at ok hT hit
  have sm2 := sm_at sm hit
  obtain ⟨tag, r, ea, hrep, hrow⟩ := itTag it
  have hsz := sizeAt hit
  have elt := ls_take b i it hit
  have hlt := ls_len_take b i
  rw [ea]
  refine wG_name 2 ?_ nd
  refine wSs_cut (fun Γ' μ' => ∃ (pf : Addr) (x2 x3 : Option D.A), Γ' = [some (.tup (aIts b)), some (.loc pf), x2, x3] ∧ μ pf = none ∧ Sub μ μ' ∧ μ' pf = some (.lst (((lsIts (b.take (i + 1))).map lineT).map D.A.str))) ?_ (fun Γ' μ' hP => ?_)
  refine wS_if (wT_cmp (wE_ix (wE_name 2 rfl (wE_int ?_))))
  refine wI_tup (atI0 _ _) ?_
  refine wE_str ?_
  refine wO_eqS ?_
  refine ⟨_, rfl, ?_⟩
  refine ⟨fun hk => ?_, fun hk => ?_⟩
  refine wSs_cons (wS_set 1 (wE_bin (wE_bin (wE_bin (wE_name 1 rfl (wE_lstF (wA_cons (wE_bin (wE_str (wE_callTy (T := "str") TX.b_str (by decide +kernel) (wA_cons (wE_ix (wE_name 2 rfl (wE_int ?_))))))))))))) nd)
  obtain ⟨k, b2, rfl⟩ := hrep (of_decide_eq_true hk)
  simp only [It.a, D.A.tup.injEq, List.cons.injEq] at ea
  obtain ⟨_, rfl⟩ := ea
  simp only [It.ok] at ok2
  simp only [It.sm] at sm2
  simp only [It.size] at hsz
  simp only [It.ls] at elt
  have hll2 := (lensIts ok2.2.2.2 sm2.2.2).2
  refine wI_tup (y := .int k) rfl ?_
  refine wA_nil ?_
  refine wC_strI (log_small (Nat.le_trans (show k.natAbs ≤ 5 by omega) (by decide))) ?_
  refine wO_addS (szOk (by have := len_ofI (i := k) (Nat.le_trans (show k.natAbs ≤ 5 by omega) (by decide)); have e : ("repeat " : Str).length = 7 := (by decide); show ("repeat " : Str).length + (ofI k).length ≤ _; omega)) ?_
  refine wA_nil ⟨by show 1 ≤ sizeLine; decide, ?_⟩
  refine wO_catF (.loc fd) (.lst _) (szOk (by simp only [List.length_cons, List.length_nil, List.length_map]; omega)) ?_
  refine wE_cal C__law_body_lines ar (by omega) (wA_cons (wE_ix (wE_name 2 rfl (wE_int ?_))))
  refine wI_tup (y := .tup (aIts b2)) rfl ?_
  refine wA_nil ?_
  have hd4 := ok2.1
  refine ⟨Pn, d + 1, T2, b2, rfl, ok2.2.2.2, hT2, sm2.2.2, by omega, by omega, by omega, fun l nl μ2 sb2 hl => ?_⟩
  have fd2 := sb2 _ _ fd
  refine wO_catF (.lst _) (.loc hl) (szOk (by simp only [List.length_append, List.length_cons, List.length_nil, List.length_map]; omega)) ?_
  refine wE_lstF (wA_cons (wE_str (wA_nil ⟨by show 1 ≤ sizeLine; decide, ?_⟩)))
  refine wO_cat (.lst _) (.lst _) (szOk (by simp only [List.length_append, List.length_cons, List.length_nil, List.length_map]; omega)) fun p5 np5 => ?_
  refine wSs_nil ?_
  have sb3 : Sub μ μ2 := fun z o hz3 => sb2 z o (sb z o hz3)
  refine ⟨p5, _, _, rfl, sb3.none np5, fun z o hz3 => ?_, ?_⟩
  · have hz4 := sb3 z o hz3
    rw [Mu.upd_ne (fun e => by rw [e, np5] at hz4; cases hz4)]
    exact hz4
  · rw [Mu.upd_same, elt]
    have e1 : lineT [("repeat" : Str), ofI k] = "repeat " ++ Str.ofString (toString k) := line_two (by decide)
    simp only [List.map_append, List.map_cons, List.map_nil, e1, line_one, List.append_assoc, List.cons_append, List.nil_append]
  refine wSs_cons (wS_expr (wE_append (wE_name 1 rfl ?_)))
  obtain ⟨x, w, ts, rfl⟩ : ∃ x w ts, it = .row x w ts := by
    cases it with
    | row x w ts => exact ⟨x, w, ts, rfl⟩
    | rep k b2 =>
      simp only [It.a, D.A.tup.injEq, List.cons.injEq, D.A.str.injEq] at ea
      exact absurd ea.1.symm (of_decide_eq_false hk)
  simp only [It.a, D.A.tup.injEq, List.cons.injEq, D.A.str.injEq] at ea
  obtain ⟨rfl, rfl⟩ := ea
  obtain ⟨hL1, hL2⟩ := (It.lens ok2 sm2).1 (x :: "=" :: w :: ts.map wordT) (by simp only [It.ls]; exact List.mem_singleton.mpr rfl)
  simp only [It.ok] at ok2
  simp only [It.sm] at sm2
  simp only [It.ls] at elt
  obtain ⟨tsm, tl5, _⟩ := row_tsm ok2.2.2 sm2.2
  refine ⟨_, _, rfl, fd, ?_⟩
  refine wE_m1 PySem.F.slot_str_join PySem.F.type_str_join (wE_str ⟨_, rfl, (wE_bin (wE_lstF (wA_cons (wE_ix (wE_name 2 rfl (wE_int ?_))))))⟩)
  refine wI_tup (y := .str x) rfl ?_
  refine wA_cons (wE_str (wA_cons (wE_ix (wE_name 2 rfl (wE_int ?_)))))
  refine wI_tup (y := .str w) rfl ?_
  refine wA_nil ⟨by show 3 ≤ sizeLine; decide, (wE_lcF (own := [("_law_thing_here", 3)]) (wIt_tup (wE_ix (wE_name 2 rfl (wE_int ?_)))) nd (blkOk_by (N := N__law_body_lines) (sc := defScope s__law_body_lines) (by decide +kernel)))⟩
  refine wI_tup (y := .tup ts) rfl ?_
  refine ⟨_, rfl, ?_⟩
  refine ⟨szOk (by omega), (ts.map wordT).map D.A.str, by simp, fun j y z hy hz s0 H0 C cl fp => ?_, ?_⟩
  obtain ⟨v, hv, rfl⟩ := map_at hz
  obtain ⟨a, ha, rfl⟩ := map_at hv
  obtain rfl : y = a := Option.some.inj (hy.symm.trans ha)
  refine wGw_name 3 (⟨rfl, fun s0 H0 C cl fp => (wE_cal C__law_word ar.bk (by omega) (wA_cons (wE_name 3 rfl (wA_nil ?_))))⟩) nd
  refine ⟨y, rfl, tsm y (List.mem_of_getElem? hy), ?_⟩
  refine ⟨?_, .refl _⟩
  rfl
  refine wO_catF (.lst _) (.lst _) (szOk (by simp only [List.length_cons, List.length_nil, List.length_map]; omega)) ?_
  refine wM_join (ys := x :: "=" :: w :: ts.map wordT) (.inl (.lst _)) (Nat.le_trans (sum_words hL1 hL2) (by decide)) ?_
  refine ⟨_, fd, szLt (by rw [List.length_map, List.length_map]; omega), ?_⟩
  refine wSs_nil ?_
  refine ⟨pf, _, _, rfl, npf, ?_, ?_⟩
  · intro z o hz3
    rw [Mu.upd_ne (fun e => by rw [e, npf] at hz3; cases hz3)]
    exact sb z o hz3
  · rw [Mu.upd_same, elt]
    simp only [List.map_append, List.map_cons, List.map_nil]
  refine wSs_nil ?_
  exact hP
  obtain ⟨pf, x2, x3, rfl, npf, sb, fd⟩ := hI
  rw [aIts_len, List.take_length] at fd
  refine wSs_cons (wS_ret (wE_name 1 rfl ?_))
  exact q _ npf _ sb fd

abbrev s__law_lines : Stmt := topS 62
abbrev N__law_lines : List Str := ["_law_plain", "_law_found", "_law_name", "_law_ins", "_law_body_here", "_law_give"]
theorem sc__law_lines : FnScope N__law_lines ["_law_plain"] (defScope s__law_lines) := ⟨rfl, rfl, rfl, by decide +kernel, rfl, by decide +kernel, by decide +kernel⟩
def c__law_lines : AC := fun xs μ Q _ => ∃ g : Pg, xs = [g.a] ∧ g.ok ∧ g.sm ∧ ∀ μ', Sub μ μ' → Q (.lst ((g.ls.map lineT).map D.A.str)) μ'
abbrev gA (g : Pg) : List D.A := [.tup (g.parts.map Pt.a), .tup (g.ins.map D.A.str), .tup (aIts g.body), .tup (g.outs.map D.A.str)]
theorem ok__law_lines {n : Nat}  {f : Addr} {fd : FuncData} (TX : Txt K mg w CL CP CS pT) (C__law_body_lines : Cal P w K mg base n "_law_body_lines" (c__law_body_lines 0)) (F : Fun K "_law_lines" "_law_lines" s__law_lines f fd) : FnD P w K mg base CX0 (n + 1) f fd ["_law_plain"] (c__law_lines) := by
  refine fnD F sc__law_lines (fun xs μ Q E hc => by obtain ⟨g, rfl, ok, sm, q⟩ := hc; rfl) (fun cdv Ao outer s H E xs μ Q E0 ar hc => ?_)
  obtain ⟨g, rfl, ok, sm, q⟩ := hc
  obtain ⟨hL, hN⟩ := Pg.lens ok sm
  have hz := ok.size
  simp only [Pg.size] at hz
  have i6 := ok.i6
  have o4 := ok.o4
  have hN2 : (g.parts.map Pt.ls).flatten.length + (lsIts g.body).length + 2 ≤ 200 := by
    simp only [Pg.ls, List.length_append, List.length_cons, List.length_nil] at hN
    omega
  have nd := sc__law_lines.nd
  refine wSs_cons (wS_set 1 (wE_lstF (wA_nil ⟨by show 0 ≤ sizeLine; decide, (wSs_cons (wS_for (wIt_tup (wE_ix (wE_name 0 rfl (wE_int ?_))))))⟩)) nd)
  refine wI_tup (xs := gA g) (y := .tup (g.parts.map Pt.a)) rfl ?_
  refine ⟨_, rfl, ?_⟩
  refine ⟨fun i Γ' μ' => ∃ (zs : List D.A) (x2 x3 x4 x5 : Option D.A), Γ' = [some g.a, some (.lst zs), x2, x3, x4, x5] ∧ zs = ((((g.parts.take i).map Pt.ls).flatten).map lineT).map D.A.str ∧ Sub μ μ', ⟨_, _, _, _, _, rfl, rfl, Sub.refl _⟩, fun i y Γ' μ' hy hI => ?_, fun Γ' μ' hI => ?_⟩
  obtain ⟨zs, x2, x3, x4, x5, rfl, rfl, sb⟩ := hI
  obtain ⟨pt, hpt, rfl⟩ := map_at hy
  have hptm := List.mem_of_getElem? hpt
  obtain ⟨⟨Pn, ptok⟩, ptsz⟩ := okPtsMem ok.parts hptm
  have ptsm := sm.parts pt hptm
  have hpl := pls_take g.parts i
  have hpn := pls_next hpt
  have hpl2 := pls_take g.parts (i + 1)
  rw [hpn, List.length_append] at hpl2
  simp only [Pt.ls, List.length_append, List.length_cons, List.length_nil] at hpl2
  have i4 := ptok.i4
  simp only [Pt.size] at ptsz
  obtain ⟨hA1, hA2⟩ := hL (("part" : Str) :: pt.nm :: pt.ins) (List.mem_append_left _ (List.mem_flatten.mpr ⟨pt.ls, List.mem_map.mpr ⟨pt, hptm, rfl⟩, by simp only [Pt.ls]; exact List.mem_cons_self ..⟩))
  have hgv : isNm (.str pt.give) = true := tolds_nm ptok.body ptok.ins _ ptok.give
  simp only [Pt.a]
  refine wG_tup (wGs_cons (wG_name 2 (wGs_cons (wG_name 3 (wGs_cons (wG_name 4 (wGs_cons (wG_name 5 (wGs_nil ?_) nd)) nd)) nd)) nd))
  refine wSs_cons (wS_set 1 (wE_bin (wE_bin (wE_bin (wE_name 1 rfl (wE_lstF (wA_cons (wE_m1 PySem.F.slot_str_join PySem.F.type_str_join (wE_str ⟨_, rfl, (wE_bin (wE_tup (wA_cons (wE_str (wA_cons (wE_name 2 rfl (wA_nil ⟨by show 2 ≤ sizeLine; decide, (wE_name 3 rfl ?_)⟩)))))))⟩)))))))) nd)
  refine wO_catT (szOk (by simp only [List.length_cons, List.length_nil, List.length_map]; omega)) ?_
  refine wM_join (ys := ("part" : Str) :: pt.nm :: pt.ins) (.inr rfl) (Nat.le_trans (sum_words hA1 hA2) (by decide)) ?_
  refine wA_nil ⟨by show 1 ≤ sizeLine; decide, ?_⟩
  refine wO_catF (.lst _) (.lst _) (szOk (by simp only [List.length_cons, List.length_nil, List.length_map]; omega)) ?_
  refine wE_cal C__law_body_lines ar (by omega) (wA_cons (wE_name 4 rfl (wA_nil ?_)))
  refine ⟨Pn, 0, pt.ins, pt.body, rfl, ptok.body, ptok.ins, ptsm.body, by omega, by omega, by omega, fun l nl μ2 sb2 hl => ?_⟩
  refine wO_catF (.lst _) (.loc hl) (szOk (by simp only [List.length_append, List.length_cons, List.length_nil, List.length_map]; omega)) ?_
  refine wE_lstF (wA_cons (wE_bin (wE_str (wE_name 5 rfl ?_))))
  refine wO_addS (szOk (by have := (isNm_let hgv).2.1; have e : ("give " : Str).length = 5 := (by decide); omega)) ?_
  refine wA_nil ⟨by show 1 ≤ sizeLine; decide, ?_⟩
  refine wO_catF (.lst _) (.lst _) (szOk (by simp only [List.length_append, List.length_cons, List.length_nil, List.length_map]; omega)) ?_
  refine wSs_nil ?_
  refine ⟨_, _, _, _, _, rfl, ?_, fun z o hz3 => sb2 z o (sb z o hz3)⟩
  rw [hpn]
  have e1 : lineT [("give" : Str), pt.give] = "give " ++ pt.give := line_two (by decide)
  simp only [Pt.ls, List.map_append, List.map_cons, List.map_nil, e1, List.append_assoc, List.cons_append, List.nil_append]
  obtain ⟨zs, x2, x3, x4, x5, rfl, rfl, sb⟩ := hI
  rw [List.length_map, List.take_length]
  obtain ⟨hA1, hA2⟩ := hL (("in" : Str) :: g.ins) (List.mem_append_right _ (List.mem_cons_self ..))
  obtain ⟨hB1, hB2⟩ := hL (("out" : Str) :: g.outs) (List.mem_append_right _ (List.mem_cons_of_mem _ (List.mem_append_right _ (List.mem_singleton.mpr rfl))))
  refine wSs_cons (wS_set 1 (wE_bin (wE_bin (wE_name 1 rfl (wE_lstF (wA_cons (wE_m1 PySem.F.slot_str_join PySem.F.type_str_join (wE_str ⟨_, rfl, (wE_bin (wE_tup (wA_cons (wE_str (wA_nil ⟨by show 1 ≤ sizeLine; decide, (wE_ix (wE_name 0 rfl (wE_int ?_)))⟩)))))⟩))))))) nd)
  refine wI_tup (xs := gA g) (y := .tup (g.ins.map D.A.str)) rfl ?_
  refine wO_catT (szOk (by simp only [List.length_cons, List.length_nil, List.length_map]; omega)) ?_
  refine wM_join (ys := ("in" : Str) :: g.ins) (.inr rfl) (Nat.le_trans (sum_words hA1 hA2) (by decide)) ?_
  refine wA_nil ⟨by show 1 ≤ sizeLine; decide, ?_⟩
  refine wO_catF (.lst _) (.lst _) (szOk (by simp only [List.length_cons, List.length_nil, List.length_map]; omega)) ?_
  refine wE_cal C__law_body_lines ar (by omega) (wA_cons (wE_ix (wE_name 0 rfl (wE_int ?_))))
  refine wI_tup (xs := gA g) (y := .tup (aIts g.body)) rfl ?_
  refine wA_nil ?_
  refine ⟨_, 0, _, g.body, rfl, ok.body, ok.ins, sm.body, by omega, by omega, by omega, fun l nl μ2 sb2 hl => ?_⟩
  refine wO_catF (.lst _) (.loc hl) (szOk (by simp only [List.length_append, List.length_cons, List.length_nil, List.length_map]; omega)) ?_
  refine wSs_cons (wS_ret (wE_bin (wE_name 1 rfl (wE_lstF (wA_cons (wE_m1 PySem.F.slot_str_join PySem.F.type_str_join (wE_str ⟨_, rfl, (wE_bin (wE_tup (wA_cons (wE_str (wA_nil ⟨by show 1 ≤ sizeLine; decide, (wE_ix (wE_name 0 rfl (wE_int ?_)))⟩)))))⟩)))))))
  refine wI_tup (xs := gA g) (y := .tup (g.outs.map D.A.str)) rfl ?_
  refine wO_catT (szOk (by simp only [List.length_cons, List.length_nil, List.length_map]; omega)) ?_
  refine wM_join (ys := ("out" : Str) :: g.outs) (.inr rfl) (Nat.le_trans (sum_words hB1 hB2) (by decide)) ?_
  refine wA_nil ⟨by show 1 ≤ sizeLine; decide, ?_⟩
  refine wO_catF (.lst _) (.lst _) (szOk (by simp only [List.length_append, List.length_cons, List.length_nil, List.length_map]; omega)) ?_
  have e : ∀ {a b : List D.A}, b = a → (∀ μ', Sub μ μ' → Q (.lst a) μ') → Q (.lst b) μ2 := fun e h => e ▸ h μ2 (fun z o hz3 => sb2 z o (sb z o hz3))
  refine e ?_ q
  simp only [Pg.ls, List.map_append, List.map_cons, List.map_nil, List.append_assoc, List.cons_append, List.nil_append]

end
end D

set_option Elab.async false
set_option linter.all false
set_option maxRecDepth 100000
set_option maxHeartbeats 4000000
namespace D
open PySem PySem.Spec PyProof.Rows L2
local macro_rules | `(tactic| walk_at "mul") => `(tactic| first | refine wO_mul (mulR (by first | decide | omega) (by first | decide | omega)) ?_ | refine wO_mul (mulL (by first | decide | omega) (by first | decide | omega)) ?_)
local macro_rules | `(tactic| walk_at "mod") => `(tactic| refine wO_mod (by first | decide | omega) ?_)
local macro_rules | `(tactic| walk_at "fdiv") => `(tactic| refine wO_fdiv (by first | decide | omega) (divS (by first | decide | omega)) ?_)
local macro_rules | `(tactic| walk_at "ix") => `(tactic| first | refine wI_tup (by rfl) ?_ | refine wI_lst (by rfl) ?_)
local macro_rules | `(tactic| walk_at "sl") => `(tactic| first | refine wSl_tup ?_ | refine wSl_lstF ?_)
local macro_rules | `(tactic| walk_at "obj") => `(tactic| refine ⟨_, _, _, rfl, by assumption, rfl, ?_⟩)
local macro_rules | `(tactic| walk_at "len") => `(tactic| first | refine wC_len (.tup _) ?_ | refine wC_len (.lst _) ?_ | refine wC_len (.loc (by assumption)) ?_)
section
variable {P : Program} {w : World} {K : PySem.W.Frag} {mg : Str → Option Value} {base : Heap} {CL CP CS pT : Addr}
abbrev s_figures_in : Stmt := topS 8
abbrev N_figures_in : List Str := ["word", "sign_of"]
theorem sc_figures_in : FnScope N_figures_in ["word"] (defScope s_figures_in) := ⟨rfl, rfl, rfl, by decide +kernel, rfl, by decide +kernel, by decide +kernel⟩
def c_figures_in : AC := fun xs μ Q _ => ∃ w : Str, xs = [.str w] ∧ w.length ≤ 640 ∧ Q (optA (figIn w)) μ
theorem ok_figures_in {n : Nat}  {f : Addr} {fd : FuncData} (TX : Txt K mg w CL CP CS pT)  (F : Fun K "figures_in" "figures_in" s_figures_in f fd) : FnD P w K mg base CX0 (n + 1) f fd ["word"] c_figures_in := by
  refine fnD F sc_figures_in (fun xs μ Q E hc => by obtain ⟨w, rfl, hw, q⟩ := hc; rfl) (fun cdv Ao outer s H E xs μ Q E0 ar hc => ?_)
  obtain ⟨w, rfl, hw, q⟩ := hc
  have nd := sc_figures_in.nd
  refine wSs_cons (wS_if ?_)
  refine wT.imp (QB := fun k μ' => μ = μ' ∧ k = !(decide ((1 : Int) ≤ w.length) && decide ((w.length : Int) ≤ 4000) && digA w)) ?_ (fun k μ' hq => ?_)
  refine wT_chain (wW_or (wT_not (wT_chain2 (wE_int (wE_callB (id := "len") TX.b_len (by decide +kernel) (wA_cons (wE_name 0 rfl (wA_nil ?_))))))))
  refine wC_lenS (szOk (by omega)) ?_
  refine wO_le ?_
  refine ⟨_, rfl, and_flip (fun hk => ?_) (fun hk => ?_)⟩
  · exact ⟨fun _ => ⟨rfl, by rw [hk]; rfl⟩, fun z => nomatch z⟩
  have h1 := hk
  refine wE_glob TX.k_MOST_FIGURES ?_
  refine wO_le ?_
  refine ⟨_, rfl, ?_⟩
  refine ⟨fun hk => ?_, fun hk => ?_⟩
  · have h2 : decide ((w.length : Int) ≤ 4000) = false := by simpa using hk
    exact ⟨rfl, by rw [h1, h2]; rfl⟩
  have h2 : decide ((w.length : Int) ≤ 4000) = true := by simpa using hk
  refine wW_or1 (wT_not (wT_val (wE_callB (id := "all") TX.b_all (by decide +kernel) (wA_cons (wE_lcF (own := [("sign_of", 1)]) (wIt_str (wE_name 0 rfl ⟨_, rfl, ?_⟩)) nd (blkOk_by (N := N_figures_in) (sc := defScope s_figures_in) (by decide +kernel)))))))
  refine ⟨szOk (by simp only [signsA, List.length_map]; show w.cps.toList.length ≤ _; rw [Array.length_toList]; exact Nat.le_trans hw (by decide)), (w.cps.toList.map fun ch => decide (ch ∈ ("0123456789" : Str).cps.toList)).map D.A.bl, by simp [signsA], fun j y z hy hz s0 H0 C cl fp => ?_, ?_⟩
  obtain ⟨ch, h3, rfl⟩ := map_at hy
  obtain ⟨bz, h4, rfl⟩ := map_at hz
  obtain ⟨ch2, h5, rfl⟩ := map_at h4
  obtain rfl : ch = ch2 := Option.some.inj (h3.symm.trans h5)
  refine wGw_name 1 (⟨rfl, fun s0 H0 C cl fp => (wE_cmp (wE_name 1 rfl (wE_glob TX.k_FIGURES ?_)))⟩) nd
  refine wO_inSign ?_
  refine ⟨?_, .refl _⟩
  rfl
  refine wA_nil ?_
  refine wC_all rfl (.lst _) ?_
  refine ⟨_, rfl, ?_⟩
  refine ⟨rfl, ?_⟩
  rw [h1, h2]
  simp [digA, List.all_map, Function.comp_def]
  obtain ⟨rfl, hkk⟩ := hq
  generalize hB : (decide ((1 : Int) ≤ w.length) && decide ((w.length : Int) ≤ 4000) && digA w) = B at hkk
  refine ⟨fun hk => ?_, fun hk => ?_⟩
  refine wSs_cons (wS_ret (wE_non ?_))
  have hB2 : B = false := by rw [hk] at hkk; simpa using hkk.symm
  have e : figIn w = none := by unfold figIn; rw [hB, hB2]; rfl
  rw [e] at q; exact q
  have hB2 : B = true := by rw [hk] at hkk; simpa using hkk.symm
  have e : figIn w = if (Txt.startswith w "0" && !decide (w = "0")) = true then none else PySem.intText? w := by unfold figIn; rw [hB, hB2]; rfl
  rw [e] at q
  refine wSs_nil ?_
  refine wSs_cons (wS_if ?_)
  refine wT.imp (QB := fun k μ' => μ = μ' ∧ k = (Txt.startswith w "0" && !decide (w = "0"))) ?_ (fun k μ' hq => ?_)
  refine wT_chain (wW_and (wT_val (wE_m1 PySem.F.slot_str_startswith PySem.F.type_str_startswith (wE_name 0 rfl ⟨_, rfl, (wE_str ?_)⟩))))
  refine wM_startswith ?_
  refine ⟨_, rfl, ?_⟩
  refine and_flip (fun hk => ?_) (fun hk => ?_)
  · exact ⟨rfl, by rw [hk]; rfl⟩
  have h9 := hk
  refine wW_and1 (wT_cmp (wE_name 0 rfl (wE_str ?_)))
  refine wO_neS ?_
  refine ⟨_, rfl, ?_⟩
  exact ⟨rfl, by rw [h9]; rfl⟩
  obtain ⟨rfl, hk9⟩ := hq
  refine ⟨fun hk => ?_, fun hk => ?_⟩
  refine wSs_cons (wS_ret (wE_non ?_))
  rw [← hk9, hk] at q; exact q
  rw [← hk9, hk] at q
  refine wSs_nil ?_
  refine wSs_cons (wS_ret (wE_callTy (T := "int") TX.b_int (by decide +kernel) (wA_cons (wE_name 0 rfl (wA_nil ?_)))))
  have hB3 : (decide ((1 : Int) ≤ w.length) && decide ((w.length : Int) ≤ 4000) && digA w) = true := hB.trans hB2
  simp only [Bool.and_eq_true, decide_eq_true_eq] at hB3
  obtain ⟨nv, n1, n2, n3⟩ := dig_int hB3.2 (by omega) hw
  rw [n1] at q
  refine wC_intS n1 hw ?_
  exact q

abbrev s_whole_in : Stmt := topS 9
abbrev N_whole_in : List Str := ["word", "found"]
theorem sc_whole_in : FnScope N_whole_in ["word"] (defScope s_whole_in) := ⟨rfl, rfl, rfl, by decide +kernel, rfl, by decide +kernel, by decide +kernel⟩
theorem cutS_len (w : Str) : (cutS w (some 1) none).length ≤ w.length := by
  unfold cutS
  show ((w.cps.toList.drop _).take _).toArray.size ≤ w.cps.size
  rw [List.size_toArray, List.length_take, List.length_drop, Array.length_toList]
  omega
def c_whole_in : AC := fun xs μ Q _ => ∃ w : Str, xs = [.str w] ∧ w.length ≤ 640 ∧ Q (optA (wholeIn w)) μ
theorem ok_whole_in {n : Nat}  {f : Addr} {fd : FuncData} (TX : Txt K mg w CL CP CS pT) (C_figures_in : Cal P w K mg base n "figures_in" c_figures_in) (F : Fun K "whole_in" "whole_in" s_whole_in f fd) : FnD P w K mg base CX0 (n + 1) f fd ["word"] c_whole_in := by
  refine fnD F sc_whole_in (fun xs μ Q E hc => by obtain ⟨w, rfl, hw, q⟩ := hc; rfl) (fun cdv Ao outer s H E xs μ Q E0 ar hc => ?_)
  obtain ⟨w, rfl, hw, q⟩ := hc
  have hc1 := cutS_len w
  generalize hf : figIn (if Txt.startswith w "-" = true then cutS w (some 1) none else w) = fi
  have ew : wholeIn w = wholeOf w fi := by unfold wholeIn; rw [hf]
  have nd := sc_whole_in.nd
  refine wSs_cons (wS_set 1 (wE_cal C_figures_in ar (by omega) (wA_cons ?_)) nd)
  refine wE.imp (Q := fun z μ' => μ = μ' ∧ z = .str (if Txt.startswith w "-" = true then cutS w (some 1) none else w)) ?_ (fun z μ' hz => ?_)
  refine wE_if (wT_val (wE_m1 PySem.F.slot_str_startswith PySem.F.type_str_startswith (wE_name 0 rfl ⟨_, rfl, (wE_str ?_)⟩)))
  refine wM_startswith ?_
  refine ⟨_, rfl, ?_⟩
  refine ⟨fun hk => ?_, fun hk => ?_⟩
  refine wE_slice (wE_name 0 rfl (wE_int ⟨_, rfl, ?_⟩))
  refine wSl_str (szOk (by omega)) ?_
  exact ⟨rfl, by rw [if_pos hk]⟩
  refine wE_name 0 rfl ?_
  exact ⟨rfl, by rw [if_neg (by rw [hk]; simp)]⟩
  obtain ⟨rfl, rfl⟩ := hz
  refine wA_nil ?_
  refine ⟨_, rfl, by split <;> omega, ?_⟩
  rw [hf]
  refine wSs_cons (wS_if ?_)
  refine wT.imp (QB := fun k μ' => μ = μ' ∧ (k = true → wholeIn w = none) ∧ (k = false → ∃ v, fi = some v ∧ wholeIn w = some (if Txt.startswith w "-" = true then 0 - v else v))) ?_ (fun k μ' hq => ?_)
  refine wT_chain (wW_or (wT_cmp (wE_name 1 rfl (wE_non ?_))))
  refine wO_isN ?_
  refine ⟨_, rfl, ?_⟩
  refine ⟨fun hk => ?_, fun hk => ?_⟩
  · cases fi with
    | none => exact ⟨rfl, fun _ => by rw [ew]; rfl, fun z => nomatch z⟩
    | some v => simp [optA, isNon] at hk
  obtain ⟨v, rfl⟩ : ∃ v, fi = some v := by
    cases fi with
    | none => simp [optA, isNon] at hk
    | some v => exact ⟨v, rfl⟩
  refine wW_or1 (wT_cmp (wE_name 0 rfl (wE_str ?_)))
  refine wO_eqS ?_
  refine ⟨_, rfl, ?_⟩
  refine ⟨rfl, fun z => ?_, fun z => ⟨v, rfl, ?_⟩⟩
  · rw [ew]; unfold wholeOf; simp only; rw [if_pos (of_decide_eq_true z)]
  · rw [ew]; unfold wholeOf; simp only; rw [if_neg (of_decide_eq_false z)]
  obtain ⟨rfl, g1, g2⟩ := hq
  refine ⟨fun hk => ?_, fun hk => ?_⟩
  refine wSs_cons (wS_ret (wE_non ?_))
  rw [g1 hk] at q; exact q
  obtain ⟨v, rfl, ev⟩ := g2 hk
  rw [ev] at q
  refine wSs_nil ?_
  refine wSs_cons (wS_ret ?_)
  refine wE_if (wT_val (wE_m1 PySem.F.slot_str_startswith PySem.F.type_str_startswith (wE_name 0 rfl ⟨_, rfl, (wE_str ?_)⟩)))
  refine wM_startswith ?_
  refine ⟨_, rfl, ?_⟩
  refine ⟨fun hk => ?_, fun hk => ?_⟩
  refine wE_bin (wE_int (wE_name 1 rfl ?_))
  refine wO_sub ?_
  rw [if_pos hk] at q; exact q
  refine wE_name 1 rfl ?_
  rw [if_neg (by rw [hk]; simp)] at q; exact q

abbrev s_number_in : Stmt := topS 10
abbrev N_number_in : List Str := ["word", "top", "stroke", "below", "n", "d"]
theorem sc_number_in : FnScope N_number_in ["word"] (defScope s_number_in) := ⟨rfl, rfl, rfl, by decide +kernel, rfl, by decide +kernel, by decide +kernel⟩
def c_number_in : AC := fun xs μ Q _ => ∃ w : Str, xs = [.str w] ∧ w.length ≤ 640 ∧ Q (numIn w) μ
theorem figIn_bd {w : Str} {d : Int} (hw : w.length ≤ 640) (h : figIn w = some d) : 0 ≤ d ∧ Bd 2200 d := by
  unfold figIn at h
  split at h
  · rename_i hc
    simp only [Bool.and_eq_true, decide_eq_true_eq] at hc
    obtain ⟨nv, n1, n2, n3⟩ := dig_int hc.2 (by omega) hw
    split at h
    · cases h
    · rw [n1] at h; cases h; exact ⟨n2, n3⟩
  · cases h
theorem ok_number_in {n : Nat}  {f : Addr} {fd : FuncData} (TX : Txt K mg w CL CP CS pT) (C_whole_in : Cal P w K mg base n "whole_in" c_whole_in) (C_figures_in : Cal P w K mg base n "figures_in" c_figures_in) (C_fraction : Cal P w K mg base n "fraction" c_fraction) (F : Fun K "number_in" "number_in" s_number_in f fd) : FnD P w K mg base CX0 (n + 1) f fd ["word"] c_number_in := by
  refine fnD F sc_number_in (fun xs μ Q E hc => by obtain ⟨w, rfl, hw, q⟩ := hc; rfl) (fun cdv Ao outer s H E xs μ Q E0 ar hc => ?_)
  obtain ⟨w, rfl, hw, q⟩ := hc
  obtain ⟨l1, l2, l3⟩ := fact_partition w "/"
  generalize hn : wholeIn (Txt.partition w "/").1 = nn
  generalize hd : belowIn w = dd
  have en : numIn w = numOf nn dd := by unfold numIn; rw [hn, hd]
  have nd := sc_number_in.nd
  refine wSs_cons (wS_asg (wE_m1 PySem.F.slot_str_partition PySem.F.type_str_partition (wE_name 0 rfl ⟨_, rfl, (wE_str ?_)⟩)))
  refine wM_partition (by decide) (szOk (by omega)) ?_
  refine wG_tup (wGs_cons (wG_name 1 (wGs_cons (wG_name 2 (wGs_cons (wG_name 3 (wGs_nil (wSs_cons (wS_set 4 (wE_cal C_whole_in ar (by omega) (wA_cons (wE_name 1 rfl (wA_nil ?_)))) nd))) nd)) nd)) nd))
  refine ⟨_, rfl, by omega, ?_⟩
  rw [hn]
  refine wSs_cons (wS_set 5 ?_ nd)
  refine wE.imp (Q := fun z μ' => μ = μ' ∧ z = optA dd) ?_ (fun z μ' hz => ?_)
  refine wE_if (wT_cmp (wE_name 2 rfl (wE_str ?_)))
  refine wO_neS ?_
  refine ⟨_, rfl, ?_⟩
  refine ⟨fun hk => ?_, fun hk => ?_⟩
  refine wE_cal C_figures_in ar (by omega) (wA_cons (wE_name 3 rfl (wA_nil ?_)))
  refine ⟨_, rfl, by omega, ?_⟩
  exact ⟨rfl, by rw [← hd]; unfold belowIn; rw [if_pos (by simpa using hk)]⟩
  refine wE_int ?_
  exact ⟨rfl, by rw [← hd]; unfold belowIn; rw [if_neg (by simpa using hk)]; rfl⟩
  obtain ⟨rfl, rfl⟩ := hz
  refine wSs_cons (wS_if ?_)
  refine wT.imp (QB := fun k μ' => μ = μ' ∧ (k = true → numIn w = .non) ∧ (k = false → ∃ n d, nn = some n ∧ dd = some d ∧ d ≠ 0)) ?_ (fun k μ' hq => ?_)
  refine wT_chain (wW_or (wT_cmp (wE_name 4 rfl (wE_non ?_))))
  refine wO_isN ?_
  refine ⟨_, rfl, ?_⟩
  refine ⟨fun hk => ?_, fun hk => ?_⟩
  · refine ⟨rfl, fun _ => ?_, fun z => nomatch z⟩
    cases nn with
    | none => rw [en]; cases dd <;> rfl
    | some v => simp [optA, isNon] at hk
  obtain ⟨n, rfl⟩ : ∃ v, nn = some v := by
    cases nn with
    | none => simp [optA, isNon] at hk
    | some v => exact ⟨v, rfl⟩
  refine wW_or (wT_cmp (wE_name 5 rfl (wE_non ?_)))
  refine wO_isN ?_
  refine ⟨_, rfl, ?_⟩
  refine ⟨fun hk => ?_, fun hk => ?_⟩
  · refine ⟨rfl, fun _ => ?_, fun z => nomatch z⟩
    cases dd with
    | none => rw [en]; rfl
    | some v => simp [optA, isNon] at hk
  obtain ⟨d, rfl⟩ : ∃ v, dd = some v := by
    cases dd with
    | none => simp [optA, isNon] at hk
    | some v => exact ⟨v, rfl⟩
  refine wW_or1 (wT_cmp (wE_name 5 rfl (wE_int ?_)))
  refine wO_eqI ?_
  refine ⟨_, rfl, ?_⟩
  refine ⟨rfl, fun z => ?_, fun z => ⟨n, d, rfl, rfl, of_decide_eq_false z⟩⟩
  rw [en]; unfold numOf; simp only; rw [if_pos (of_decide_eq_true z)]
  obtain ⟨rfl, g1, g2⟩ := hq
  refine ⟨fun hk => ?_, fun hk => ?_⟩
  refine wSs_cons (wS_ret (wE_non ?_))
  rw [g1 hk] at q; exact q
  obtain ⟨n, d, rfl, rfl, d0⟩ := g2 hk
  have e : numIn w = low n d := by rw [en]; unfold numOf; simp only; rw [if_neg d0]
  rw [e] at q
  have db : Bd 8000 d := by
    unfold belowIn at hd
    split at hd
    · exact (figIn_bd (by omega) hd).2.mono (by decide)
    · cases hd; unfold Bd; decide +kernel
  refine wSs_nil ?_
  refine wSs_cons (wS_ret (wE_cal C_fraction ar (by omega) (wA_cons (wE_name 4 rfl (wA_cons (wE_name 5 rfl (wA_nil ?_)))))))
  refine ⟨n, d, rfl, d0, db, ?_⟩
  exact q

end
end D

set_option Elab.async false
set_option linter.all false
set_option maxRecDepth 100000
set_option maxHeartbeats 4000000
namespace D
open PySem PySem.Spec PyProof.Rows L2
local macro_rules | `(tactic| walk_at "mul") => `(tactic| first | refine wO_mul (mulR (by first | decide | omega) (by first | decide | omega)) ?_ | refine wO_mul (mulL (by first | decide | omega) (by first | decide | omega)) ?_)
local macro_rules | `(tactic| walk_at "mod") => `(tactic| refine wO_mod (by first | decide | omega) ?_)
local macro_rules | `(tactic| walk_at "fdiv") => `(tactic| refine wO_fdiv (by first | decide | omega) (divS (by first | decide | omega)) ?_)
local macro_rules | `(tactic| walk_at "ix") => `(tactic| first | refine wI_tup (by rfl) ?_ | refine wI_lst (by rfl) ?_)
local macro_rules | `(tactic| walk_at "sl") => `(tactic| first | refine wSl_tup ?_ | refine wSl_lstF ?_)
local macro_rules | `(tactic| walk_at "obj") => `(tactic| refine ⟨_, _, _, rfl, by assumption, rfl, ?_⟩)
local macro_rules | `(tactic| walk_at "len") => `(tactic| first | refine wC_len (.tup _) ?_ | refine wC_len (.lst _) ?_ | refine wC_len (.loc (by assumption)) ?_)
section
variable {P : Program} {w : World} {K : PySem.W.Frag} {mg : Str → Option Value} {base : Heap} {CL CP CS pT : Addr}
abbrev s_words_of : Stmt := topS 42
abbrev N_words_of : List Str := ["line", "word"]
theorem sc_words_of : FnScope N_words_of ["line"] (defScope s_words_of) := ⟨rfl, rfl, rfl, by decide +kernel, rfl, by decide +kernel, by decide +kernel⟩
def c_words_of : AC := fun xs μ Q _ => ∃ w : Str, xs = [.str w] ∧ 9 ∉ w.cps.toList ∧ w.length ≤ 1000000 ∧ Q (.lst ((wordsOf w).map D.A.str)) μ
theorem ok_words_of {n : Nat}  {f : Addr} {fd : FuncData} (TX : Txt K mg w CL CP CS pT)  (F : Fun K "words_of" "words_of" s_words_of f fd) : FnD P w K mg base CX0 (n + 1) f fd ["line"] c_words_of := by
  refine fnD F sc_words_of (fun xs μ Q E hc => by obtain ⟨w, rfl, h9, hw, q⟩ := hc; rfl) (fun cdv Ao outer s H E xs μ Q E0 ar hc => ?_)
  obtain ⟨w, rfl, h9, hw, q⟩ := hc
  obtain ⟨l1, l2, l3⟩ := fact_partition w "#"
  have hsw := PyProof.Rows.split_weight (Txt.partition w "#").1 " " (by decide)
  have nd := sc_words_of.nd
  refine wSs_cons (wS_if (wT_cmp (wE_str (wE_name 0 rfl ?_))))
  rw [show ("\t" : Str) = ⟨#[9]⟩ by decide]
  refine wO_inSign ?_
  refine ⟨_, rfl, ?_⟩
  refine ⟨fun hk => ?_, fun hk => ?_⟩
  refine wSs_cons (wS_ret (wE_non ?_))
  exact absurd (of_decide_eq_true hk) h9
  refine wSs_nil ?_
  refine wSs_cons (wS_ret (wE_lcPF (own := [("word", 1)]) (wIt_list (wE_m1 PySem.F.slot_str_split PySem.F.type_str_split (wE_ix (wE_m1 PySem.F.slot_str_partition PySem.F.type_str_partition (wE_name 0 rfl ⟨_, rfl, (wE_str ?_)⟩))))) nd (blkOk_by (N := N_words_of) (sc := defScope s_words_of) (by decide +kernel))))
  refine wM_partition (by decide) (szOk (by omega)) ?_
  refine wE_int ?_
  refine wI_tup (atI0 _ _) ?_
  refine ⟨_, rfl, (wE_str ?_)⟩
  refine wM_split (by decide) (szOk (by omega)) ?_
  refine ⟨_, rfl, ?_⟩
  refine ⟨szOk (by rw [List.length_map]; omega), (Txt.split (Txt.partition w "#").1 " ").map (fun v : Str => !decide (v = "")), (Txt.split (Txt.partition w "#").1 " ").map D.A.str, by simp, by simp, fun j y k z hy hkk hz s0 H0 C cl fp => ?_, ?_⟩
  obtain ⟨v, hv, rfl⟩ := map_at hy
  obtain ⟨v2, hv2, rfl⟩ := map_at hz
  obtain rfl : v = v2 := Option.some.inj (hv.symm.trans hv2)
  obtain rfl : k = !decide (v = "") := by
    rw [List.getElem?_map, hv] at hkk
    exact (Option.some.inj hkk).symm
  refine wGw_name 1 (⟨rfl, ?_⟩) nd
  refine ⟨fun s0 H0 C cl fp => ?_, fun kt s0 H0 C cl fp => ?_⟩
  refine wT_cmp (wE_name 1 rfl (wE_str ?_))
  refine wO_neS ?_
  refine ⟨_, rfl, ?_⟩
  exact ⟨rfl, .refl _⟩
  refine wE_name 1 rfl ?_
  refine ⟨?_, .refl _⟩
  rfl
  rw [pickA_map]; exact q

abbrev s_thing_in : Stmt := topS 43
abbrev N_thing_in : List Str := ["word"]
theorem sc_thing_in : FnScope N_thing_in ["word"] (defScope s_thing_in) := ⟨rfl, rfl, rfl, by decide +kernel, rfl, by decide +kernel, by decide +kernel⟩
def c_thing_in : AC := fun xs μ Q _ => ∃ w : Str, xs = [.str w] ∧ w.length ≤ 640 ∧ Q (thIn w) μ
theorem ok_thing_in {n : Nat}  {f : Addr} {fd : FuncData} (TX : Txt K mg w CL CP CS pT) (C_is_name : Cal P w K mg base n "is_name" c_is_name) (C_number_in : Cal P w K mg base n "number_in" c_number_in) (F : Fun K "thing_in" "thing_in" s_thing_in f fd) : FnD P w K mg base CX0 (n + 1) f fd ["word"] c_thing_in := by
  refine fnD F sc_thing_in (fun xs μ Q E hc => by obtain ⟨w, rfl, hw, q⟩ := hc; rfl) (fun cdv Ao outer s H E xs μ Q E0 ar hc => ?_)
  obtain ⟨w, rfl, hw, q⟩ := hc
  have nd := sc_thing_in.nd
  refine wSs_cons (wS_ret ?_)
  refine wE_if (wT_val (wE_cal C_is_name ar (by omega) (wA_cons (wE_name 0 rfl (wA_nil ?_)))))
  refine ⟨_, "str", true, rfl, rfl, rfl, (fun _ => ⟨w, rfl, by omega⟩), (fun z => nomatch z), ?_⟩
  refine ⟨_, rfl, ?_⟩
  refine ⟨fun hk => ?_, fun hk => ?_⟩
  refine wE_name 0 rfl ?_
  rw [show thIn w = .str w by unfold thIn; rw [if_pos hk]] at q
  exact q
  refine wE_cal C_number_in ar (by omega) (wA_cons (wE_name 0 rfl (wA_nil ?_)))
  refine ⟨w, rfl, hw, ?_⟩
  rw [show thIn w = numIn w by unfold thIn; rw [if_neg (by rw [hk]; decide)]] at q
  exact q

end
end D

set_option Elab.async false
set_option linter.all false
set_option maxRecDepth 100000
set_option maxHeartbeats 4000000
namespace D
open PySem PySem.Spec PyProof.Rows L2
local macro_rules | `(tactic| walk_at "mul") => `(tactic| first | refine wO_mul (mulR (by first | decide | omega) (by first | decide | omega)) ?_ | refine wO_mul (mulL (by first | decide | omega) (by first | decide | omega)) ?_)
local macro_rules | `(tactic| walk_at "mod") => `(tactic| refine wO_mod (by first | decide | omega) ?_)
local macro_rules | `(tactic| walk_at "fdiv") => `(tactic| refine wO_fdiv (by first | decide | omega) (divS (by first | decide | omega)) ?_)
local macro_rules | `(tactic| walk_at "ix") => `(tactic| first | refine wI_tup (by rfl) ?_ | refine wI_lst (by rfl) ?_)
local macro_rules | `(tactic| walk_at "sl") => `(tactic| first | refine wSl_tup ?_ | refine wSl_lstF ?_)
local macro_rules | `(tactic| walk_at "obj") => `(tactic| refine ⟨_, _, _, rfl, by assumption, rfl, ?_⟩)
local macro_rules | `(tactic| walk_at "len") => `(tactic| first | refine wC_len (.tup _) ?_ | refine wC_len (.lst _) ?_ | refine wC_len (.loc (by assumption)) ?_)
section
variable {P : Program} {w : World} {K : PySem.W.Frag} {mg : Str → Option Value} {base : Heap} {CL CP CS pT : Addr}
abbrev s_doing_in : Stmt := topS 44
abbrev N_doing_in : List Str := ["words", "word", "rest", "things", "one"]
theorem sc_doing_in : FnScope N_doing_in ["words"] (defScope s_doing_in) := ⟨rfl, rfl, rfl, by decide +kernel, rfl, by decide +kernel, by decide +kernel⟩
theorem cutA_tail {x : D.A} {l : List D.A} : cutA (x :: l) (some 1) none = l := by
  unfold cutA HT.sIx
  simp only [show ¬ ((1 : Int) < 0) by decide, if_false]
  rw [show min (1 : Int).toNat (x :: l).length = 1 by simp only [List.length_cons]; omega]
  simp
theorem cutA_head {x : D.A} {l : List D.A} : cutA (x :: l) none (some 1) = [x] := by
  unfold cutA HT.sIx
  simp only [show ¬ ((1 : Int) < 0) by decide, if_false]
  rw [show min (1 : Int).toNat (x :: l).length = 1 by simp only [List.length_cons]; omega]
  simp
def c_doing_in : AC := fun xs μ Q _ => ∃ (w : Str) (r : List Str) (ts : List D.A), xs = [.lst ((w :: r).map D.A.str)] ∧ Does w r ts ∧ (∀ v ∈ r, v.length ≤ 640) ∧ r.length ≤ 100 ∧ ts.all okA = true ∧ ts.any isNon = false ∧ Q (.tup [.str w, .tup ts]) μ
theorem ok_doing_in {n : Nat}  {f : Addr} {fd : FuncData} (TX : Txt K mg w CL CP CS pT) (C_thing_in : Cal P w K mg base n "thing_in" c_thing_in) (C_whole_in : Cal P w K mg base n "whole_in" c_whole_in) (F : Fun K "doing_in" "doing_in" s_doing_in f fd) : FnD P w K mg base CX0 (n + 1) f fd ["words"] c_doing_in := by
  refine fnD F sc_doing_in (fun xs μ Q E hc => by obtain ⟨w, r, ts, rfl, hd, hr, hl, h1, h2, q⟩ := hc; rfl) (fun cdv Ao outer s H E xs μ Q E0 ar hc => ?_)
  obtain ⟨w, r, ts, rfl, hd, hr, hl, h1, h2, q⟩ := hc
  have htl : ts.length = r.length := by
    rcases hd with ⟨_, c, r', rfl, rfl⟩ | ⟨_, a, b, k, rfl, _, rfl⟩ | ⟨_, _, rfl⟩ <;> simp
  have nd := sc_doing_in.nd
  refine wSs_cons (wS_par 1 2 (wA_cons (wE_ix (wE_name 0 rfl (wE_int ?_)))) nd)
  simp only [List.map_cons]
  refine wI_lst (y := .str w) (atI_pos (by rfl) (by decide)) ?_
  refine wA_cons (wE_slice (wE_name 0 rfl (wE_int ⟨_, rfl, ?_⟩)))
  refine wSl_lstF ?_
  rw [cutA_tail]
  refine wA_nil ⟨_, _, rfl, ?_⟩
  refine wSs_cut (fun Γ' μ' => (∃ x4 : Option D.A, Γ' = [some (.lst (.str w :: r.map D.A.str)), some (.str w), some (.lst (r.map D.A.str)), some (.lst ts), x4]) ∧ μ = μ') ?_ (fun Γ' μ' hP => ?_)
  refine wS_if (wT_cmp (wE_name 1 rfl (wE_str ?_)))
  refine wO_eqS ?_
  refine ⟨_, rfl, ?_⟩
  refine ⟨fun hk => ?_, fun hk => ?_⟩
  refine wSs_cons (wS_set 3 (wE_bin (wE_slice (wE_name 2 rfl (wE_int ⟨_, rfl, ?_⟩)))) nd)
  obtain ⟨c, r', rfl, rfl⟩ : ∃ c r', r = c :: r' ∧ ts = .str c :: r'.map thIn := by
    have hw := of_decide_eq_true hk
    rcases hd with ⟨_, h⟩ | ⟨h, _⟩ | ⟨h, _⟩
    · exact h
    · rw [hw] at h; exact absurd h (by decide)
    · exact absurd hw h
  refine wSl_lstF ?_
  rw [List.map_cons, cutA_head]
  refine wE_lcF (own := [("one", 4)]) (wIt_list (wE_slice (wE_name 2 rfl (wE_int ⟨_, rfl, ?_⟩)))) nd (blkOk_by (N := N_doing_in) (sc := defScope s_doing_in) (by decide +kernel))
  refine wSl_lstF ?_
  rw [cutA_tail]
  refine ⟨_, rfl, ?_⟩
  refine ⟨szOk (by rw [List.length_map]; simp only [List.length_cons] at hl; omega), r'.map thIn, by simp, fun j y z hy hz s0 H0 C cl fp => ?_, ?_⟩
  obtain ⟨v, hv, rfl⟩ := map_at hy
  obtain ⟨v2, hv2, rfl⟩ := map_at hz
  obtain rfl : v = v2 := Option.some.inj (hv.symm.trans hv2)
  refine wGw_name 4 (⟨rfl, fun s0 H0 C cl fp => (wE_cal C_thing_in ar.bk (by omega) (wA_cons (wE_name 4 rfl (wA_nil ?_))))⟩) nd
  refine ⟨v, rfl, hr v (List.mem_cons_of_mem _ (List.mem_of_getElem? hv)), ?_⟩
  refine ⟨?_, .refl _⟩
  rfl
  refine wO_catF (.lst _) (.lst _) (szOk (by simp only [List.length_cons, List.length_nil, List.length_map] at hl ⊢; omega)) ?_
  refine wSs_nil ?_
  exact ⟨⟨_, rfl⟩, rfl⟩
  have hc1 : w ≠ "call" := of_decide_eq_false hk
  refine wSs_cut (fun Γ' μ' => (∃ x4 : Option D.A, Γ' = [some (.lst (.str w :: r.map D.A.str)), some (.str w), some (.lst (r.map D.A.str)), some (.lst ts), x4]) ∧ μ = μ') ?_ (fun Γ' μ' hP => ?_)
  refine wS_if ?_
  refine wT.imp (QB := fun k μ' => μ = μ' ∧ (k = true → ∃ a b i, r = [a, b] ∧ wholeIn b = some i ∧ ts = [thIn a, .int i]) ∧ (k = false → ts = r.map thIn)) ?_ (fun k μ' hq => ?_)
  refine wT_chain (wW_and (wT_cmp (wE_name 1 rfl (wE_str ?_))))
  refine wO_eqS ?_
  refine ⟨_, rfl, ?_⟩
  refine and_flip (fun hk => ?_) (fun hk => ?_)
  · refine ⟨rfl, (fun z => nomatch z), fun _ => ?_⟩
    rcases hd with ⟨h, _⟩ | ⟨h, _⟩ | ⟨_, _, h⟩
    · exact absurd h hc1
    · exact absurd h (of_decide_eq_false hk)
    · exact h
  obtain ⟨a, b, i, rfl, hwb, rfl⟩ : ∃ a b i, r = [a, b] ∧ wholeIn b = some i ∧ ts = [thIn a, .int i] := by
    have hw := of_decide_eq_true hk
    rcases hd with ⟨h, _⟩ | ⟨_, h⟩ | ⟨_, h, _⟩
    · exact absurd h hc1
    · exact h
    · exact absurd hw h
  refine wW_and1 (wT_cmp (wE_callB (id := "len") TX.b_len (by decide +kernel) (wA_cons (wE_name 2 rfl (wA_nil ?_)))))
  refine wC_len (.lst _) ?_
  refine wE_ix (wE_glob TX.k_TAKEN (wE_str ?_))
  refine wI_kd TX.d_TAKEN (i := 2) rfl ?_
  refine wO_eqI ?_
  refine ⟨_, rfl, ?_⟩
  exact ⟨rfl, (fun _ => ⟨a, b, i, rfl, hwb, rfl⟩), fun z => nomatch z⟩
  obtain ⟨rfl, g1, g2⟩ := hq
  refine ⟨fun hk => ?_, fun hk => ?_⟩
  refine wSs_cons (wS_set 3 (wE_lstF (wA_cons (wE_cal C_thing_in ar (by omega) (wA_cons (wE_ix (wE_name 2 rfl (wE_int ?_))))))) nd)
  obtain ⟨a, b, i, rfl, hwb, rfl⟩ := g1 hk
  refine wI_lst (y := .str a) (atI_pos (by rfl) (by decide)) ?_
  refine wA_nil ?_
  refine ⟨a, rfl, hr a (by simp), ?_⟩
  refine wA_cons (wE_cal C_whole_in ar (by omega) (wA_cons (wE_ix (wE_name 2 rfl (wE_int ?_)))))
  refine wI_lst (y := .str b) (atI_pos (by rfl) (by decide)) ?_
  refine wA_nil ?_
  refine ⟨b, rfl, hr b (by simp), ?_⟩
  rw [hwb]
  refine wA_nil ⟨by show 2 ≤ sizeLine; decide, (wSs_nil ?_)⟩
  exact ⟨⟨_, rfl⟩, rfl⟩
  refine wSs_cons (wS_setLcF [("one", 4)] 3 (wIt_list (wE_name 2 rfl ⟨_, rfl, ?_⟩)) nd (blkOk_by (N := N_doing_in) (sc := defScope s_doing_in) (by decide +kernel)) (sw_true rfl rfl rfl (by decide +kernel)))
  refine ⟨szOk (by rw [List.length_map]; omega), r.map thIn, by simp, fun j y z hy hz s0 H0 C cl fp => ?_, ?_⟩
  obtain ⟨v, hv, rfl⟩ := map_at hy
  obtain ⟨v2, hv2, rfl⟩ := map_at hz
  obtain rfl : v = v2 := Option.some.inj (hv.symm.trans hv2)
  refine wGw_name 4 (⟨rfl, fun s0 H0 C cl fp => (wE_cal C_thing_in ar.bk (by omega) (wA_cons (wE_name 4 rfl (wA_nil ?_))))⟩) nd
  refine ⟨v, rfl, hr v (List.mem_of_getElem? hv), ?_⟩
  refine ⟨?_, .refl _⟩
  rfl
  refine wSs_nil ?_
  rw [g2 hk]
  exact ⟨⟨_, rfl⟩, rfl⟩
  obtain ⟨⟨x4, rfl⟩, rfl⟩ := hP
  refine wSs_nil ?_
  exact ⟨⟨_, rfl⟩, rfl⟩
  obtain ⟨⟨x4, rfl⟩, rfl⟩ := hP
  refine wSs_cons (wS_ret ?_)
  refine wE_if (wT_cmp (wE_non (wE_name 3 rfl ?_)))
  refine wO_noneIn (in1_lt ar) (.lst _) h1 ?_
  rw [h2]
  refine ⟨_, rfl, ?_⟩
  refine ⟨fun hk => ?_, fun hk => ?_⟩
  refine wE_non ?_
  exact nomatch hk
  refine wE_tup (wA_cons (wE_name 1 rfl (wA_cons (wE_callTy (T := "tuple") TX.b_tuple (by decide +kernel) (wA_cons (wE_name 3 rfl (wA_nil ?_)))))))
  refine wC_tuple (.lst _) ?_
  refine wA_nil ⟨by show 2 ≤ sizeLine; decide, ?_⟩
  exact q

end
end D

set_option Elab.async false
set_option linter.all false
set_option maxRecDepth 100000
set_option maxHeartbeats 4000000
namespace D
open PySem PySem.Spec PyProof.Rows L2
local macro_rules | `(tactic| walk_at "mul") => `(tactic| first | refine wO_mul (mulR (by first | decide | omega) (by first | decide | omega)) ?_ | refine wO_mul (mulL (by first | decide | omega) (by first | decide | omega)) ?_)
local macro_rules | `(tactic| walk_at "mod") => `(tactic| refine wO_mod (by first | decide | omega) ?_)
local macro_rules | `(tactic| walk_at "fdiv") => `(tactic| refine wO_fdiv (by first | decide | omega) (divS (by first | decide | omega)) ?_)
local macro_rules | `(tactic| walk_at "ix") => `(tactic| first | refine wI_tup (by rfl) ?_ | refine wI_lst (by rfl) ?_)
local macro_rules | `(tactic| walk_at "sl") => `(tactic| first | refine wSl_tup ?_ | refine wSl_lstF ?_)
local macro_rules | `(tactic| walk_at "obj") => `(tactic| refine ⟨_, _, _, rfl, by assumption, rfl, ?_⟩)
local macro_rules | `(tactic| walk_at "len") => `(tactic| first | refine wC_len (.tup _) ?_ | refine wC_len (.lst _) ?_ | refine wC_len (.loc (by assumption)) ?_)
section
variable {P : Program} {w : World} {K : PySem.W.Frag} {mg : Str → Option Value} {base : Heap} {CL CP CS pT : Addr}
def c_are_unlike_l : AC := fun xs μ Q _ => ∃ ws : List Str, xs = [.lst (ws.map D.A.str)] ∧ ws.length ≤ 1000 ∧ ws.Nodup ∧ Q (.bl true) μ
theorem ok_are_unlike_l {n : Nat}  {f : Addr} {fd : FuncData} (TX : Txt K mg w CL CP CS pT)  (F : Fun K "are_unlike" "are_unlike" s_are_unlike f fd) : FnD P w K mg base CX0 (n + 1) f fd ["names"] c_are_unlike_l := by
  refine fnD F sc_are_unlike (fun xs μ Q E hc => by obtain ⟨ws, rfl, h1, h2, q⟩ := hc; rfl) (fun cdv Ao outer s H E xs μ Q E0 ar hc => ?_)
  obtain ⟨ws, rfl, h1, h2, q⟩ := hc
  have nd := sc_are_unlike.nd
  refine wSs_cons (wS_ret (wE_cmp (wE_lenSetL TX.b_len TX.b_set (wE_name 0 rfl ?_))))
  refine ⟨ws, rfl, h1, ?_⟩
  rw [unl_nodup _ ws rfl h2]
  refine wE_callB (id := "len") TX.b_len (by decide +kernel) (wA_cons (wE_name 0 rfl (wA_nil ?_)))
  refine wC_len (.lst _) ?_
  rw [List.length_map]
  refine wO_eqI ?_
  rw [decide_eq_true rfl]; exact q

abbrev s_Source___init__ : Stmt := (bodyC (topS 45)).getD 0 (.Pass ⟨0, 0, 0, 0⟩)
abbrev N_Source___init__ : List Str := ["self"]
theorem sc_Source___init__ : FnScope N_Source___init__ ["self"] (defScope s_Source___init__) := ⟨rfl, rfl, rfl, by decide +kernel, rfl, by decide +kernel, by decide +kernel⟩
def c_Source___init__ (CS : Addr) : AC := fun xs μ Q _ => ∃ (μ0 : Mu) (p dx : Addr), xs = [.loc p] ∧ μ0 p = none ∧ μ = μ0.upd p (.ins CS dx []) ∧ ∀ (c : SC) (μ' : Mu), SrcAt CS μ0 p 0 S0 c μ' → Q .non μ'
theorem ok_Source___init__ {n : Nat}  {f : Addr} {fd : FuncData} (TX : Txt K mg w CL CP CS pT)  (F : Fun K "__init__" "Source.__init__" s_Source___init__ f fd) : FnD P w K mg base CX0 (n + 1) f fd ["self"] (c_Source___init__ CS) := by
  refine fnD F sc_Source___init__ (fun xs μ Q E hc => by obtain ⟨μ0, p, dx, rfl, np, rfl, q⟩ := hc; rfl) (fun cdv Ao outer s H E xs μ Q E0 ar hc => ?_)
  obtain ⟨μ0, p, dx, rfl, np, rfl, q⟩ := hc
  have nd := sc_Source___init__.nd
  refine wSs_cons (wS_fld TX.cls_Source TX.na_Source_line (wE_int (wE_name 0 rfl ?_)))
  refine ⟨p, dx, _, rfl, Mu.upd_same, by decide, ?_⟩
  rw [Mu.upd_upd]
  refine wSs_cons (wS_fld TX.cls_Source TX.na_Source_many (wE_int (wE_name 0 rfl ?_)))
  refine ⟨p, dx, _, rfl, Mu.upd_same, by show 1 < 1000; decide, ?_⟩
  rw [Mu.upd_upd]
  refine wSs_cons (wS_fld TX.cls_Source TX.na_Source_parts (wE_lst (wA_nil ⟨by show 0 ≤ sizeLine; decide, fun pl npl => (wE_name 0 rfl ?_)⟩)))
  have ne1 : pl ≠ p := fun e => by rw [e, Mu.upd_same] at npl; cases npl
  have o1 : μ0 pl = none := by rw [Mu.upd_ne ne1] at npl; exact npl
  refine ⟨p, dx, _, rfl, by rw [Mu.upd_ne (Ne.symm ne1)]; exact Mu.upd_same, by show 2 < 1000; decide, ?_⟩
  refine wSs_cons (wS_fld TX.cls_Source TX.na_Source_counts (wE_dnew ?_))
  refine fun pc npc => ?_
  have ne2 : pc ≠ p := fun e => by rw [e, Mu.upd_same] at npc; cases npc
  rw [Mu.upd_ne ne2] at npc
  have ne3 : pc ≠ pl := fun e => by rw [e, Mu.upd_same] at npc; cases npc
  have o2 : μ0 pc = none := by rw [Mu.upd_ne ne3, Mu.upd_ne ne2] at npc; exact npc
  refine wE_name 0 rfl ?_
  refine ⟨p, dx, _, rfl, by rw [Mu.upd_ne (Ne.symm ne2)]; exact Mu.upd_same, by show 3 < 1000; decide, ?_⟩
  refine wSs_cons (wS_fld TX.cls_Source TX.na_Source_name (wE_str (wE_name 0 rfl ?_)))
  refine ⟨p, dx, _, rfl, Mu.upd_same, by show 4 < 1000; decide, ?_⟩
  rw [Mu.upd_upd]
  refine wSs_cons (wS_fld TX.cls_Source TX.na_Source_own_ins (wE_non (wE_name 0 rfl ?_)))
  refine ⟨p, dx, _, rfl, Mu.upd_same, by show 5 < 1000; decide, ?_⟩
  rw [Mu.upd_upd]
  refine wSs_cons (wS_fld TX.cls_Source TX.na_Source_known (wE_dnew ?_))
  refine fun pk npk => ?_
  have ne4 : pk ≠ p := fun e => by rw [e, Mu.upd_same] at npk; cases npk
  rw [Mu.upd_ne ne4] at npk
  have ne5 : pk ≠ pc := fun e => by rw [e, Mu.upd_same] at npk; cases npk
  rw [Mu.upd_ne ne5, Mu.upd_ne ne4] at npk
  have ne6 : pk ≠ pl := fun e => by rw [e, Mu.upd_same] at npk; cases npk
  have o3 : μ0 pk = none := by rw [Mu.upd_ne ne6, Mu.upd_ne ne4] at npk; exact npk
  refine wE_name 0 rfl ?_
  refine ⟨p, dx, _, rfl, by rw [Mu.upd_ne (Ne.symm ne4)]; exact Mu.upd_same, by show 6 < 1000; decide, ?_⟩
  refine wSs_cons (wS_fld TX.cls_Source TX.na_Source_bodies (wE_lst (wA_nil ⟨by show 0 ≤ sizeLine; decide, fun pl2 npl2 => (wE_name 0 rfl ?_)⟩)))
  have ne7 : pl2 ≠ p := fun e => by rw [e, Mu.upd_same] at npl2; cases npl2
  rw [Mu.upd_ne ne7] at npl2
  have ne8 : pl2 ≠ pk := fun e => by rw [e, Mu.upd_same] at npl2; cases npl2
  rw [Mu.upd_ne ne8, Mu.upd_ne ne7] at npl2
  have ne9 : pl2 ≠ pc := fun e => by rw [e, Mu.upd_same] at npl2; cases npl2
  rw [Mu.upd_ne ne9, Mu.upd_ne ne7] at npl2
  have ne10 : pl2 ≠ pl := fun e => by rw [e, Mu.upd_same] at npl2; cases npl2
  have o4 : μ0 pl2 = none := by rw [Mu.upd_ne ne10, Mu.upd_ne ne7] at npl2; exact npl2
  refine ⟨p, dx, _, rfl, by rw [Mu.upd_ne (Ne.symm ne7)]; exact Mu.upd_same, by show 7 < 1000; decide, ?_⟩
  refine wSs_cons (wS_fld TX.cls_Source TX.na_Source_whole (wE_non (wE_name 0 rfl ?_)))
  refine ⟨p, dx, _, rfl, Mu.upd_same, by show 8 < 1000; decide, ?_⟩
  rw [Mu.upd_upd]
  refine wSs_nil ?_
  refine q ⟨dx, pl, pc, pk, pl2, []⟩ _ ⟨?_, ?_, Mu.upd_same, ?_, ?_, ?_, ?_, trivial, ?_, Ne.symm ne5⟩
  · exact ((((((((Sub.refl μ0).put np).put o1).put np).put o2).put np).put o3).put np |>.put o4).put np
  · intro a ha
    simp only [List.mem_cons, List.not_mem_nil, or_false] at ha
    rcases ha with rfl | rfl | rfl | rfl | rfl <;> assumption
  · rw [Mu.upd_ne ne1, Mu.upd_ne (Ne.symm ne10), Mu.upd_ne ne1, Mu.upd_ne (Ne.symm ne6), Mu.upd_ne ne1, Mu.upd_ne (Ne.symm ne3), Mu.upd_ne ne1, Mu.upd_same]; rfl
  · rw [Mu.upd_ne ne2, Mu.upd_ne (Ne.symm ne9), Mu.upd_ne ne2, Mu.upd_ne (Ne.symm ne5), Mu.upd_ne ne2, Mu.upd_same]; rfl
  · rw [Mu.upd_ne ne4, Mu.upd_ne (Ne.symm ne8), Mu.upd_ne ne4, Mu.upd_same]; rfl
  · rw [Mu.upd_ne ne7, Mu.upd_same]; rfl
  · simp only [List.nodup_cons, List.mem_cons, List.not_mem_nil, or_false, not_false_eq_true, List.nodup_nil, and_true]
    exact Ne.symm ne10

abbrev s_Source_need : Stmt := (bodyC (topS 45)).getD 1 (.Pass ⟨0, 0, 0, 0⟩)
abbrev N_Source_need : List Str := ["self", "is_good"]
theorem sc_Source_need : FnScope N_Source_need ["self", "is_good"] (defScope s_Source_need) := ⟨rfl, rfl, rfl, by decide +kernel, rfl, by decide +kernel, by decide +kernel⟩
def c_Source_need (_CS : Addr) : AC := fun xs μ Q _ => ∃ p : Addr, xs = [.loc p, .bl true] ∧ Q .non μ
theorem ok_Source_need {n : Nat}  {f : Addr} {fd : FuncData} (TX : Txt K mg w CL CP CS pT)  (F : Fun K "need" "Source.need" s_Source_need f fd) : FnD P w K mg base CX0 (n + 1) f fd ["self", "is_good"] (c_Source_need CS) := by
  refine fnD F sc_Source_need (fun xs μ Q E hc => by obtain ⟨p, rfl, q⟩ := hc; rfl) (fun cdv Ao outer s H E xs μ Q E0 ar hc => ?_)
  obtain ⟨p, rfl, q⟩ := hc
  have nd := sc_Source_need.nd
  refine wSs_cons (wS_if (wT_not (wT_val (wE_name 1 rfl ⟨_, rfl, ?_⟩))))
  refine ⟨fun hk => ?_, fun hk => ?_⟩
  · exact nomatch hk
  refine wSs_nil ?_
  refine wSs_nil ?_
  exact q

abbrev s_Source_more : Stmt := (bodyC (topS 45)).getD 2 (.Pass ⟨0, 0, 0, 0⟩)
abbrev N_Source_more : List Str := ["self", "many"]
theorem sc_Source_more : FnScope N_Source_more ["self", "many"] (defScope s_Source_more) := ⟨rfl, rfl, rfl, by decide +kernel, rfl, by decide +kernel, by decide +kernel⟩
def c_Source_more (CS : Addr) : AC := fun xs μ Q _ => ∃ (μ0 : Mu) (p : Addr) (L : Int) (S : Src) (c : SC) (k : Nat), xs = [.loc p, .int k] ∧ SrcAt CS μ0 p L S c μ ∧ S.many + k ≤ 80 ∧ ∀ μ' : Mu, SrcAt CS μ0 p L { S with many := S.many + k } c μ' → Q .non μ'
theorem ok_Source_more {n : Nat}  {f : Addr} {fd : FuncData} (TX : Txt K mg w CL CP CS pT) (CM_Source_need : CalM P w K mg base n CS "need" (c_Source_need CS)) (F : Fun K "more" "Source.more" s_Source_more f fd) : FnD P w K mg base CX0 (n + 1) f fd ["self", "many"] (c_Source_more CS) := by
  refine fnD F sc_Source_more (fun xs μ Q E hc => by obtain ⟨μ0, p, L, S, c, k, rfl, sa, hk, q⟩ := hc; rfl) (fun cdv Ao outer s H E xs μ Q E0 ar hc => ?_)
  obtain ⟨μ0, p, L, S, c, k, rfl, sa, hk, q⟩ := hc
  have nd := sc_Source_more.nd
  refine wSs_cons (wS_fldadd TX.cls_Source TX.na_Source_many (wE_name 0 rfl ?_))
  refine ⟨p, c.dx, _, S.many, rfl, sa.ob, rfl, ?_⟩
  refine wE_name 1 rfl ?_
  refine ⟨k, c.dx, _, rfl, sa.ob, by show 9 < 1000; decide, ?_⟩
  have sa := sa.put (L' := L) (S' := { S with many := S.many + k }) rfl rfl rfl
  rw [show putL "many" (.int ((S.many : Int) + (k : Int))) (SF L S c) = SF L { S with many := S.many + k } c from rfl]
  refine wSs_cons (wS_expr (wE_meth TX.cls_Source CM_Source_need ar (by omega) (wE_name 0 rfl ?_)))
  refine sa.o rfl ?_
  refine wA_cons (wE_cmp (wE_fld TX.cls_Source TX.na_Source_many (wE_name 0 rfl ?_)))
  refine sa.f rfl ?_
  refine wE_glob TX.k_MOST_SIZE ?_
  refine wO_le ?_
  refine wA_nil ?_
  refine ⟨p, by rw [decide_eq_true (show ((S.many + k : Nat) : Int) ≤ 80 by omega)], ?_⟩
  refine wSs_nil ?_
  exact q _ sa

abbrev s_Source_begin : Stmt := (bodyC (topS 45)).getD 3 (.Pass ⟨0, 0, 0, 0⟩)
abbrev N_Source_begin : List Str := ["self", "name", "ins", "most", "one"]
theorem sc_Source_begin : FnScope N_Source_begin ["self", "name", "ins", "most"] (defScope s_Source_begin) := ⟨rfl, rfl, rfl, by decide +kernel, rfl, by decide +kernel, by decide +kernel⟩
def c_Source_begin (CS : Addr) : AC := fun xs μ Q _ => ∃ (μ0 : Mu) (p : Addr) (L : Int) (S : Src) (c : SC) (nm : Str) (ins : List Str) (most : Int), xs = [.loc p, .str nm, .lst (ins.map D.A.str), .int most] ∧ SrcAt CS μ0 p L S c μ ∧ 1 ≤ ins.length ∧ (ins.length : Int) ≤ most ∧ most ≤ 6 ∧ AllNm ins ∧ ins.Nodup ∧ S.many + ins.length ≤ 80 ∧
  ∀ (c' : SC) (μ' : Mu), SrcAt CS μ0 p L { S with many := S.many + ins.length, name := nm, own := some ins, known := ins, bodies := [(1, [])] } c' μ' → Q .non μ'
theorem ok_Source_begin {n : Nat}  {f : Addr} {fd : FuncData} (TX : Txt K mg w CL CP CS pT) (C_are_names : Cal P w K mg base n "are_names" c_are_names) (C_are_unlike : Cal P w K mg base n "are_unlike" c_are_unlike_l) (CM_Source_need : CalM P w K mg base n CS "need" (c_Source_need CS)) (CM_Source_more : CalM P w K mg base n CS "more" (c_Source_more CS)) (F : Fun K "begin" "Source.begin" s_Source_begin f fd) : FnD P w K mg base CX0 (n + 1) f fd ["self", "name", "ins", "most"] (c_Source_begin CS) := by
  refine fnD F sc_Source_begin (fun xs μ Q E hc => by obtain ⟨μ0, p, L, S, c, nm, ins, most, rfl, sa, h1, h2, h6, hnm, hun, hmany, q⟩ := hc; rfl) (fun cdv Ao outer s H E xs μ Q E0 ar hc => ?_)
  obtain ⟨μ0, p, L, S, c, nm, ins, most, rfl, sa, h1, h2, h6, hnm, hun, hmany, q⟩ := hc
  have nd := sc_Source_begin.nd
  refine wSs_cons (wS_expr (wE_meth TX.cls_Source CM_Source_need ar (by omega) (wE_name 0 rfl ?_)))
  refine sa.o rfl ?_
  refine wA_cons ?_
  refine wE_and (wE_cal C_are_names ar (by omega) (wA_cons (wE_callTy (T := "tuple") TX.b_tuple (by decide +kernel) (wA_cons (wE_name 2 rfl (wA_nil ?_))))))
  refine wC_tuple (.lst _) ?_
  refine wA_cons (wE_name 3 rfl (wA_nil ?_))
  refine ⟨ins, most, rfl, h1, h2, by omega, hnm, ?_⟩
  refine ⟨_, rfl, and_flip (fun hk => ?_) (fun hk => ?_)⟩
  · exact nomatch hk
  refine wE_one (wE_cal C_are_unlike ar (by omega) (wA_cons (wE_name 2 rfl (wA_nil ?_))))
  refine ⟨ins, rfl, by omega, hun, ?_⟩
  refine wA_nil ?_
  refine ⟨p, rfl, ?_⟩
  refine wSs_cons (wS_expr (wE_meth TX.cls_Source CM_Source_more ar (by omega) (wE_name 0 rfl ?_)))
  refine sa.o rfl ?_
  refine wA_cons (wE_callB (id := "len") TX.b_len (by decide +kernel) (wA_cons (wE_name 2 rfl (wA_nil ?_))))
  refine wC_len (.lst _) ?_
  rw [List.length_map]
  refine wA_nil ?_
  refine ⟨μ0, p, L, S, c, ins.length, rfl, sa, hmany, fun μ1 sa => ?_⟩
  refine wSs_cons (wS_fld TX.cls_Source TX.na_Source_name (wE_name 1 rfl (wE_name 0 rfl ?_)))
  refine sa.s ?_
  have sa := sa.put (L' := L) (S' := { S with many := S.many + ins.length, name := nm }) rfl rfl rfl
  rw [show putL "name" (.str nm) (SF L { S with many := S.many + ins.length } c) = SF L { S with many := S.many + ins.length, name := nm } c from rfl]
  refine wSs_cons (wS_fld TX.cls_Source TX.na_Source_own_ins (wE_callTy (T := "tuple") TX.b_tuple (by decide +kernel) (wA_cons (wE_name 2 rfl (wA_nil ?_)))))
  refine wC_tuple (.lst _) ?_
  refine wE_name 0 rfl ?_
  refine sa.s ?_
  have sa := sa.put (L' := L) (S' := { S with many := S.many + ins.length, name := nm, own := some ins }) rfl rfl rfl
  rw [show putL "own_ins" (.tup (ins.map D.A.str)) (SF L { S with many := S.many + ins.length, name := nm } c) = SF L { S with many := S.many + ins.length, name := nm, own := some ins } c from rfl]
  refine wSs_cons (wS_fld TX.cls_Source TX.na_Source_known (wE_callTy (T := "dict") TX.b_dict (by decide +kernel) (wA_cons (wE_lcF (own := [("one", 4)]) (wIt_list (wE_name 2 rfl ⟨_, rfl, ?_⟩)) nd (blkOk_by (N := N_Source_begin) (sc := defScope s_Source_begin) (by decide +kernel))))))
  refine ⟨szOk (by rw [List.length_map]; omega), (Tk ins).map (fun kv => A.tup [kA kv.1, kv.2]), by simp, fun i y z hy hz s0 H0 C cl fp => ?_, ?_⟩
  obtain ⟨w1, g1, rfl⟩ := map_at hy
  obtain ⟨kv, g2, rfl⟩ := map_at hz
  obtain ⟨w2, g3, rfl⟩ := map_at g2
  obtain rfl : w1 = w2 := Option.some.inj (g1.symm.trans g3)
  refine wGw_name 4 (⟨rfl, fun s0 H0 C cl fp => (wE_tup (wA_cons (wE_name 4 rfl (wA_cons (wE_bl (wA_nil ⟨by show 2 ≤ sizeLine; decide, ?_⟩))))))⟩) nd
  refine ⟨?_, .refl _⟩
  rfl
  refine wA_nil ?_
  refine wC_dictP rfl (.lst _) (fun t nt => ?_)
  rw [merge_Tk hun]
  have sa0 := sa.grow (m := .dic (Tk ins)) nt
  refine wE_name 0 rfl ?_
  refine sa0.s ?_
  have sa := sa.known (T := ins) nt
  rw [show putL "known" (.loc t) (SF L { S with many := S.many + ins.length, name := nm, own := some ins } c) = SF L { S with many := S.many + ins.length, name := nm, own := some ins, known := ins } { c with pk := t } from rfl]
  refine wSs_cons (wS_fld TX.cls_Source TX.na_Source_bodies (wE_lst (wA_cons (wE_tup (wA_cons (wE_int (wA_cons (wE_lst (wA_nil ⟨by show 0 ≤ sizeLine; decide, fun pl2 npl2 => (wA_nil ⟨by show 2 ≤ sizeLine; decide, (wA_nil ⟨by show 1 ≤ sizeLine; decide, fun pl npl => (wE_name 0 rfl ?_)⟩)⟩)⟩)))))))))
  have sa2 := (sa.grow (m := .lst []) npl2).grow (m := .lst [.tup [.int 1, .loc pl2]]) npl
  refine sa2.s ?_
  have sa := sa.first npl2 npl
  refine wSs_nil ?_
  exact q _ _ sa

end
end D

set_option Elab.async false
set_option linter.all false
set_option maxRecDepth 100000
set_option maxHeartbeats 4000000
namespace D
open PySem PySem.Spec PyProof.Rows L2
local macro_rules | `(tactic| walk_at "mul") => `(tactic| first | refine wO_mul (mulR (by first | decide | omega) (by first | decide | omega)) ?_ | refine wO_mul (mulL (by first | decide | omega) (by first | decide | omega)) ?_)
local macro_rules | `(tactic| walk_at "mod") => `(tactic| refine wO_mod (by first | decide | omega) ?_)
local macro_rules | `(tactic| walk_at "fdiv") => `(tactic| refine wO_fdiv (by first | decide | omega) (divS (by first | decide | omega)) ?_)
local macro_rules | `(tactic| walk_at "ix") => `(tactic| first | refine wI_tup (by rfl) ?_ | refine wI_lst (by rfl) ?_)
local macro_rules | `(tactic| walk_at "sl") => `(tactic| first | refine wSl_tup ?_ | refine wSl_lstF ?_)
local macro_rules | `(tactic| walk_at "obj") => `(tactic| refine ⟨_, _, _, rfl, by assumption, rfl, ?_⟩)
local macro_rules | `(tactic| walk_at "len") => `(tactic| first | refine wC_len (.tup _) ?_ | refine wC_len (.lst _) ?_ | refine wC_len (.loc (by assumption)) ?_)
section
variable {P : Program} {w : World} {K : PySem.W.Frag} {mg : Str → Option Value} {base : Heap} {CL CP CS pT : Addr}
abbrev s_Source_take_part : Stmt := (bodyC (topS 45)).getD 4 (.Pass ⟨0, 0, 0, 0⟩)
abbrev N_Source_take_part : List Str := ["self", "words"]
theorem sc_Source_take_part : FnScope N_Source_take_part ["self", "words"] (defScope s_Source_take_part) := ⟨rfl, rfl, rfl, by decide +kernel, rfl, by decide +kernel, by decide +kernel⟩
/-- words that a reader takes -/
structure WdOk (ws : List Str) : Prop where
  n : ws.length ≤ 100
  l : ∀ w ∈ ws, w.length ≤ 640
theorem bar_nm {w : Str} (h : w ∈ BARS) : isNm (.str w) = false := by
  have e : BARS.all (fun w => !isNm (.str w)) = true := by decide +kernel
  simpa using List.all_eq_true.mp e w h
/-- a line is taken, of a kind -/
def TakeC (P : List Str → Prop) (CS : Addr) : AC := fun xs μ Q _ => ∃ (μ0 : Mu) (p : Addr) (L : Int) (S S' : Src) (c : SC) (ws : List Str), xs = [.loc p, .lst (ws.map D.A.str)] ∧ SrcAt CS μ0 p L S c μ ∧ Step S ws S' ∧ P ws ∧ WdOk ws ∧ S.Sm ∧ ∀ (c' : SC) (μ' : Mu), SrcAt CS μ0 p L S' c' μ' → Q .non μ'
abbrev c_Source_take_part (CS : Addr) : AC := TakeC (fun ws => ws.head? = some ("part" : Str)) CS
theorem cutA_tl2 {x y : D.A} {l : List D.A} : cutA (x :: y :: l) (some 2) none = l := by
  unfold cutA HT.sIx
  simp only [show ¬ ((2 : Int) < 0) by decide, if_false]
  rw [show min (2 : Int).toNat (x :: y :: l).length = 2 by simp only [List.length_cons]; omega]
  simp
theorem ok_Source_take_part {n : Nat}  {f : Addr} {fd : FuncData} (TX : Txt K mg w CL CP CS pT) (C_is_name : Cal P w K mg base n "is_name" c_is_name) (CM_Source_need : CalM P w K mg base n CS "need" (c_Source_need CS)) (CM_Source_more : CalM P w K mg base n CS "more" (c_Source_more CS)) (CM_Source_begin : CalM P w K mg base n CS "begin" (c_Source_begin CS)) (F : Fun K "take_part" "Source.take_part" s_Source_take_part f fd) : FnD P w K mg base CX0 (n + 1) f fd ["self", "words"] (c_Source_take_part CS) := by
  refine fnD F sc_Source_take_part (fun xs μ Q E hc => by obtain ⟨μ0, p, L, S, S', c, ws, rfl, sa, hs, hP, hw, hsm, q⟩ := hc; rfl) (fun cdv Ao outer s H E xs μ Q E0 ar hc => ?_)
  obtain ⟨μ0, p, L, S, S', c, ws, rfl, sa, hs, hP, hw, hsm, q⟩ := hc
  obtain ⟨nm, ins, rfl, e1, e2, e3, e4, e5, e6, e7, e8, e9, e10, rfl⟩ : ∃ nm ins, ws = ("part" : Str) :: nm :: ins ∧ S.own = none ∧ S.whole = none ∧ S.parts.length < 6 ∧ isNm (.str nm) = true ∧ valI (pnPts S.parts) nm = none ∧ 1 ≤ ins.length ∧ ins.length ≤ 4 ∧ AllNm ins ∧ ins.Nodup ∧ S.many + 1 + ins.length ≤ 80 ∧ S' = { S with many := S.many + 1 + ins.length, name := nm, own := some ins, known := ins, bodies := [(1, [])] } := by
    cases hs with
    | part a1 a2 a3 a4 a5 a6 a7 a8 a9 a10 => exact ⟨_, _, rfl, a1, a2, a3, a4, a5, a6, a7, a8, a9, a10, rfl⟩
    | row _ _ h => simp only [List.head?_cons, Option.some.injEq] at hP; subst hP; rw [bar_nm (by decide)] at h; cases h
    | _ => exact absurd hP (by simp only [List.head?_cons, Option.some.injEq]; decide)
  simp only [List.map_cons]
  have nd := sc_Source_take_part.nd
  refine wSs_cons (wS_expr (wE_meth TX.cls_Source CM_Source_need ar (by omega) (wE_name 0 rfl ?_)))
  refine sa.o rfl ?_
  refine wA_cons ?_
  refine wE_and (wE_cmp (wE_fld TX.cls_Source TX.na_Source_own_ins (wE_name 0 rfl ?_)))
  refine sa.f rfl ?_
  refine wE_non ?_
  refine wO_isN ?_
  rw [e1]
  refine ⟨_, rfl, and_flip (fun hk => ?_) (fun hk => ?_)⟩
  · exact nomatch hk
  refine wE_and (wE_cmp (wE_callB (id := "len") TX.b_len (by decide +kernel) (wA_cons (wE_fld TX.cls_Source TX.na_Source_parts (wE_name 0 rfl ?_)))))
  refine sa.f rfl ?_
  refine wA_nil ?_
  refine wC_len (.loc sa.pa) ?_
  rw [List.length_map]
  refine wE_glob TX.k_MOST_PARTS ?_
  refine wO_lt ?_
  refine ⟨_, rfl, and_flip (fun hk => ?_) (fun hk => ?_)⟩
  · exact absurd (of_decide_eq_false hk) (by omega)
  refine wE_one (wE_cmp (wE_callB (id := "len") TX.b_len (by decide +kernel) (wA_cons (wE_name 1 rfl (wA_nil ?_)))))
  refine wC_len (.lst _) ?_
  refine wE_int ?_
  refine wO_gt ?_
  refine wA_nil ?_
  refine ⟨p, by rw [decide_eq_true (by simp only [List.length_cons, List.length_map]; omega)], ?_⟩
  refine wSs_cons (wS_expr (wE_meth TX.cls_Source CM_Source_need ar (by omega) (wE_name 0 rfl ?_)))
  refine sa.o rfl ?_
  refine wA_cons ?_
  refine wE_and (wE_cal C_is_name ar (by omega) (wA_cons (wE_ix (wE_name 1 rfl (wE_int ?_)))))
  refine wI_lst (y := .str nm) (atI_pos (by rfl) (by decide)) ?_
  refine wA_nil ?_
  refine ⟨.str nm, "str", true, rfl, rfl, rfl, (fun _ => ⟨nm, rfl, by have := isNm_wd e4; omega⟩), (fun z => nomatch z), ?_⟩
  rw [e4]
  refine ⟨_, rfl, and_flip (fun hk => ?_) (fun hk => ?_)⟩
  · exact nomatch hk
  refine wE_one (wE_notInD ar (wE_ix (wE_name 1 rfl (wE_int ?_))))
  refine wI_lst (y := .str nm) (atI_pos (by rfl) (by decide)) ?_
  refine wE_fld TX.cls_Source TX.na_Source_counts (wE_name 0 rfl ?_)
  refine sa.f rfl ?_
  refine ⟨c.pc, _, .inr nm, rfl, sa.co, rfl, ?_⟩
  rw [valA_Pk, e5]
  refine wA_nil ?_
  refine ⟨p, rfl, ?_⟩
  refine wSs_cons (wS_expr (wE_meth TX.cls_Source CM_Source_more ar (by omega) (wE_name 0 rfl ?_)))
  refine sa.o rfl ?_
  refine wA_cons (wE_int (wA_nil ?_))
  refine ⟨μ0, p, L, S, c, 1, rfl, sa, by omega, fun μ1 sa => ?_⟩
  refine wSs_cons (wS_expr (wE_meth TX.cls_Source CM_Source_begin ar (by omega) (wE_name 0 rfl ?_)))
  refine sa.o rfl ?_
  refine wA_cons (wE_ix (wE_name 1 rfl (wE_int ?_)))
  refine wI_lst (y := .str nm) (atI_pos (by rfl) (by decide)) ?_
  refine wA_cons (wE_slice (wE_name 1 rfl (wE_int ⟨_, rfl, ?_⟩)))
  refine wSl_lstF ?_
  rw [cutA_tl2]
  refine wA_cons (wE_glob TX.k_MOST_PART_INS (wA_nil ?_))
  refine ⟨μ0, p, L, _, c, nm, ins, 4, rfl, sa, e6, by omega, by omega, e8, e9, by show S.many + 1 + ins.length ≤ 80; omega, fun c1 μ2 sa => ?_⟩
  refine wSs_nil ?_
  exact q _ _ sa

abbrev s_Source_take_in : Stmt := (bodyC (topS 45)).getD 5 (.Pass ⟨0, 0, 0, 0⟩)
abbrev N_Source_take_in : List Str := ["self", "words"]
theorem sc_Source_take_in : FnScope N_Source_take_in ["self", "words"] (defScope s_Source_take_in) := ⟨rfl, rfl, rfl, by decide +kernel, rfl, by decide +kernel, by decide +kernel⟩
abbrev c_Source_take_in (CS : Addr) : AC := TakeC (fun ws => ws.head? = some ("in" : Str)) CS
theorem ok_Source_take_in {n : Nat}  {f : Addr} {fd : FuncData} (TX : Txt K mg w CL CP CS pT) (CM_Source_need : CalM P w K mg base n CS "need" (c_Source_need CS)) (CM_Source_begin : CalM P w K mg base n CS "begin" (c_Source_begin CS)) (F : Fun K "take_in" "Source.take_in" s_Source_take_in f fd) : FnD P w K mg base CX0 (n + 1) f fd ["self", "words"] (c_Source_take_in CS) := by
  refine fnD F sc_Source_take_in (fun xs μ Q E hc => by obtain ⟨μ0, p, L, S, S', c, ws, rfl, sa, hs, hP, hw, hsm, q⟩ := hc; rfl) (fun cdv Ao outer s H E xs μ Q E0 ar hc => ?_)
  obtain ⟨μ0, p, L, S, S', c, ws, rfl, sa, hs, hP, hw, hsm, q⟩ := hc
  obtain ⟨ins, rfl, e1, e2, e6, e7, e8, e9, e10, rfl⟩ : ∃ ins, ws = ("in" : Str) :: ins ∧ S.own = none ∧ S.whole = none ∧ 1 ≤ ins.length ∧ ins.length ≤ 6 ∧ AllNm ins ∧ ins.Nodup ∧ S.many + ins.length ≤ 80 ∧ S' = { S with many := S.many + ins.length, name := "", own := some ins, known := ins, bodies := [(1, [])] } := by
    cases hs with
    | ins a1 a2 a3 a4 a5 a6 a7 => exact ⟨_, rfl, a1, a2, a3, a4, a5, a6, a7, rfl⟩
    | row _ _ h => simp only [List.head?_cons, Option.some.injEq] at hP; subst hP; rw [bar_nm (by decide)] at h; cases h
    | _ => exact absurd hP (by simp only [List.head?_cons, Option.some.injEq]; decide)
  simp only [List.map_cons]
  have nd := sc_Source_take_in.nd
  refine wSs_cons (wS_expr (wE_meth TX.cls_Source CM_Source_need ar (by omega) (wE_name 0 rfl ?_)))
  refine sa.o rfl ?_
  refine wA_cons (wE_cmp (wE_fld TX.cls_Source TX.na_Source_own_ins (wE_name 0 rfl ?_)))
  refine sa.f rfl ?_
  refine wE_non ?_
  refine wO_isN ?_
  rw [e1]
  refine wA_nil ?_
  refine ⟨p, rfl, ?_⟩
  refine wSs_cons (wS_expr (wE_meth TX.cls_Source CM_Source_begin ar (by omega) (wE_name 0 rfl ?_)))
  refine sa.o rfl ?_
  refine wA_cons (wE_str (wA_cons (wE_slice (wE_name 1 rfl (wE_int ⟨_, rfl, ?_⟩)))))
  refine wSl_lstF ?_
  rw [cutA_tail]
  refine wA_cons (wE_glob TX.k_MOST_INS (wA_nil ?_))
  refine ⟨μ0, p, L, S, c, "", ins, 6, rfl, sa, e6, by omega, by omega, e8, e9, by omega, fun c1 μ2 sa => ?_⟩
  refine wSs_nil ?_
  exact q _ _ sa

abbrev s_Source_take_repeat : Stmt := (bodyC (topS 45)).getD 6 (.Pass ⟨0, 0, 0, 0⟩)
abbrev N_Source_take_repeat : List Str := ["self", "words", "many"]
theorem sc_Source_take_repeat : FnScope N_Source_take_repeat ["self", "words"] (defScope s_Source_take_repeat) := ⟨rfl, rfl, rfl, by decide +kernel, rfl, by decide +kernel, by decide +kernel⟩
abbrev c_Source_take_repeat (CS : Addr) : AC := TakeC (fun ws => ws.head? = some ("repeat" : Str)) CS
theorem ok_Source_take_repeat {n : Nat}  {f : Addr} {fd : FuncData} (TX : Txt K mg w CL CP CS pT) (C_whole_in : Cal P w K mg base n "whole_in" c_whole_in) (C_is_among : Cal P w K mg base n "is_among" c_is_among) (CM_Source_need : CalM P w K mg base n CS "need" (c_Source_need CS)) (CM_Source_more : CalM P w K mg base n CS "more" (c_Source_more CS)) (F : Fun K "take_repeat" "Source.take_repeat" s_Source_take_repeat f fd) : FnD P w K mg base CX0 (n + 1) f fd ["self", "words"] (c_Source_take_repeat CS) := by
  refine fnD F sc_Source_take_repeat (fun xs μ Q E hc => by obtain ⟨μ0, p, L, S, S', c, ws, rfl, sa, hs, hP, hw, hsm, q⟩ := hc; rfl) (fun cdv Ao outer s H E xs μ Q E0 ar hc => ?_)
  obtain ⟨μ0, p, L, S, S', c, ws, rfl, sa, hs, hP, hw, hsm, q⟩ := hc
  obtain ⟨s, n, rfl, e1, e2, e3, e4, e5, e6, e7, rfl⟩ : ∃ s n, ws = [("repeat" : Str), s] ∧ S.own ≠ none ∧ S.whole = none ∧ S.bodies.length ≤ 3 ∧ wholeIn s = some n ∧ 1 ≤ n ∧ n ≤ 200 ∧ S.many + 1 ≤ 80 ∧ S' = { S with many := S.many + 1, bodies := (n, []) :: S.bodies } := by
    cases hs with
    | rep a1 a2 a3 a4 a5 a6 a7 => exact ⟨_, _, rfl, a1, a2, a3, a4, a5, a6, a7, rfl⟩
    | row _ _ h => simp only [List.head?_cons, Option.some.injEq] at hP; subst hP; rw [bar_nm (by decide)] at h; cases h
    | _ => exact absurd hP (by simp only [List.head?_cons, Option.some.injEq]; decide)
  obtain ⟨own, ho⟩ : ∃ w, S.own = some w := by
    cases h : S.own with
    | none => exact absurd h e1
    | some w => exact ⟨w, rfl⟩
  simp only [List.map_cons, List.map_nil]
  have nd := sc_Source_take_repeat.nd
  refine wSs_cons (wS_expr (wE_meth TX.cls_Source CM_Source_need ar (by omega) (wE_name 0 rfl ?_)))
  refine sa.o rfl ?_
  refine wA_cons ?_
  refine wE_and (wE_cmp (wE_fld TX.cls_Source TX.na_Source_own_ins (wE_name 0 rfl ?_)))
  refine sa.f rfl ?_
  refine wE_non ?_
  refine wO_notN ?_
  rw [ho]
  refine ⟨_, rfl, and_flip (fun hk => ?_) (fun hk => ?_)⟩
  · exact nomatch hk
  refine wE_and (wE_cmp (wE_callB (id := "len") TX.b_len (by decide +kernel) (wA_cons (wE_name 1 rfl (wA_nil ?_)))))
  refine wC_len (.lst _) ?_
  refine wE_int ?_
  refine wO_eqI ?_
  refine ⟨_, rfl, and_flip (fun hk => ?_) (fun hk => ?_)⟩
  · exact absurd (of_decide_eq_false hk) (by simp)
  refine wE_one (wE_cmp (wE_callB (id := "len") TX.b_len (by decide +kernel) (wA_cons (wE_fld TX.cls_Source TX.na_Source_bodies (wE_name 0 rfl ?_)))))
  refine sa.f rfl ?_
  refine wA_nil ?_
  refine wC_len (.loc sa.bo) ?_
  rw [(bodA_len sa.it).1]
  refine wE_glob TX.k_MOST_DEEP ?_
  refine wO_le ?_
  refine wA_nil ?_
  refine ⟨p, by rw [decide_eq_true (by omega)], ?_⟩
  refine wSs_cons (wS_set 2 (wE_cal C_whole_in ar (by omega) (wA_cons (wE_ix (wE_name 1 rfl (wE_int ?_))))) nd)
  refine wI_lst (y := .str s) (atI_pos (by rfl) (by decide)) ?_
  refine wA_nil ?_
  refine ⟨s, rfl, hw.l s (by simp), ?_⟩
  rw [e4]
  refine wSs_cons (wS_expr (wE_meth TX.cls_Source CM_Source_need ar (by omega) (wE_name 0 rfl ?_)))
  refine sa.o rfl ?_
  refine wA_cons (wE_cal C_is_among ar (by omega) (wA_cons (wE_name 2 rfl (wA_cons (wE_int (wA_cons (wE_glob TX.k_MOST_TURNS (wA_nil ?_))))))))
  refine ⟨n, 1, 200, rfl, e5, e6, ?_⟩
  refine wA_nil ?_
  refine ⟨p, rfl, ?_⟩
  refine wSs_cons (wS_expr (wE_meth TX.cls_Source CM_Source_more ar (by omega) (wE_name 0 rfl ?_)))
  refine sa.o rfl ?_
  refine wA_cons (wE_int (wA_nil ?_))
  refine ⟨μ0, p, L, S, c, 1, rfl, sa, e7, fun μ1 sa => ?_⟩
  refine wSs_cons (wS_expr (wE_append (wE_fld TX.cls_Source TX.na_Source_bodies (wE_name 0 rfl ?_))))
  refine sa.f rfl ?_
  refine ⟨_, _, rfl, sa.bo, ?_⟩
  refine wE_tup (wA_cons (wE_name 2 rfl (wA_cons (wE_lst (wA_nil ⟨by show 0 ≤ sizeLine; decide, fun pl npl => (wA_nil ⟨by show 2 ≤ sizeLine; decide, ?_⟩)⟩)))))
  refine ⟨_, (sa.grow npl).bo, szLt (by rw [(bodA_len sa.it).1]; show S.bodies.length ≤ _; omega), ?_⟩
  have sa := sa.inner (k := n) npl
  refine wSs_nil ?_
  exact q _ _ sa

abbrev s_Source_take_end : Stmt := (bodyC (topS 45)).getD 7 (.Pass ⟨0, 0, 0, 0⟩)
abbrev N_Source_take_end : List Str := ["self", "words", "many", "items"]
theorem sc_Source_take_end : FnScope N_Source_take_end ["self", "words"] (defScope s_Source_take_end) := ⟨rfl, rfl, rfl, by decide +kernel, rfl, by decide +kernel, by decide +kernel⟩
abbrev c_Source_take_end (CS : Addr) : AC := TakeC (fun ws => ws.head? = some ("end" : Str)) CS
theorem atI_last {l : List D.A} {y : D.A} : atI (l ++ [y]) (-1) = some y := by
  refine atI_neg ?_ (by decide) (by simp only [List.length_append, List.length_cons, List.length_nil]; omega)
  rw [show ((-1 : Int) + ((l ++ [y]).length : Int)).toNat = l.length by simp only [List.length_append, List.length_cons, List.length_nil]; omega]
  simp
theorem ok_Source_take_end {n : Nat}  {f : Addr} {fd : FuncData} (TX : Txt K mg w CL CP CS pT) (CM_Source_need : CalM P w K mg base n CS "need" (c_Source_need CS)) (F : Fun K "take_end" "Source.take_end" s_Source_take_end f fd) : FnD P w K mg base CX0 (n + 1) f fd ["self", "words"] (c_Source_take_end CS) := by
  refine fnD F sc_Source_take_end (fun xs μ Q E hc => by obtain ⟨μ0, p, L, S, S', c, ws, rfl, sa, hs, hP, hw, hsm, q⟩ := hc; rfl) (fun cdv Ao outer s H E xs μ Q E0 ar hc => ?_)
  obtain ⟨μ0, p, L, S, S', c, ws, rfl, sa, hs, hP, hw, hsm, q⟩ := hc
  obtain ⟨n, m, a, b, r, rfl, e1, e2, rfl⟩ : ∃ n m a b r, ws = [("end" : Str)] ∧ S.whole = none ∧ S.bodies = (n, a) :: (m, b) :: r ∧ S' = { S with bodies := (m, b ++ [.rep n a]) :: r } := by
    cases hs with
    | fin a1 a2 => exact ⟨_, _, _, _, _, rfl, a1, a2, rfl⟩
    | row _ _ h => simp only [List.head?_cons, Option.some.injEq] at hP; subst hP; rw [bar_nm (by decide)] at h; cases h
    | _ => exact absurd hP (by simp only [List.head?_cons, Option.some.injEq]; decide)
  obtain ⟨b1, b2, bs, eb⟩ : ∃ b1 b2 bs, c.bs = b1 :: b2 :: bs := by
    have h := (bodA_len sa.it).2
    rw [e2] at h
    match hb : c.bs, h with
    | b1 :: b2 :: bs, _ => exact ⟨b1, b2, bs, rfl⟩
    | [], h => simp at h
    | [_], h => simp at h
  have hbo := sa.bo
  have hit := sa.it
  have hun := sa.un
  rw [e2, eb] at hbo hit
  simp only [List.map_cons, List.map_nil]
  have nd := sc_Source_take_end.nd
  refine wSs_cons (wS_expr (wE_meth TX.cls_Source CM_Source_need ar (by omega) (wE_name 0 rfl ?_)))
  refine sa.o rfl ?_
  refine wA_cons ?_
  refine wE_and (wE_cmp (wE_callB (id := "len") TX.b_len (by decide +kernel) (wA_cons (wE_name 1 rfl (wA_nil ?_)))))
  refine wC_len (.lst _) ?_
  refine wE_int ?_
  refine wO_eqI ?_
  refine ⟨_, rfl, and_flip (fun hk => ?_) (fun hk => ?_)⟩
  · exact absurd (of_decide_eq_false hk) (by simp)
  refine wE_one (wE_cmp (wE_callB (id := "len") TX.b_len (by decide +kernel) (wA_cons (wE_fld TX.cls_Source TX.na_Source_bodies (wE_name 0 rfl ?_)))))
  refine sa.f rfl ?_
  refine wA_nil ?_
  refine wC_len (.loc sa.bo) ?_
  rw [(bodA_len sa.it).1]
  refine wE_int ?_
  refine wO_gt ?_
  refine wA_nil ?_
  refine ⟨p, by rw [decide_eq_true (by rw [e2]; simp only [List.length_cons]; omega)], ?_⟩
  refine wSs_cons (wS_asg (wE_pop (wE_fld TX.cls_Source TX.na_Source_bodies (wE_name 0 rfl ?_))))
  refine sa.f rfl ?_
  refine ⟨c.pb, bodA ((m, b) :: r) (b2 :: bs), .tup [.int n, .loc b1], rfl, hbo, ?_⟩
  have sa := sa.popB eb e2
  have h1 : (μ.upd c.pb (.lst (bodA ((m, b) :: r) (b2 :: bs)))) b1 = some (.lst (aIts a)) := by
    rw [Mu.upd_ne (fun e => by rw [eb] at hun; simp only [List.nodup_cons, List.mem_cons, not_or] at hun; exact hun.2.1.1 e.symm)]
    exact hit.1
  refine wG_tup (wGs_cons (wG_name 2 (wGs_cons (wG_name 3 (wGs_nil ?_) nd)) nd))
  refine wSs_cons (wS_expr (wE_append (wE_ix (wE_ix (wE_fld TX.cls_Source TX.na_Source_bodies (wE_name 0 rfl ?_))))))
  refine sa.f rfl ?_
  refine wE_neg (wE_int ⟨_, rfl, ?_⟩)
  refine wI_loc sa.bo (y := .tup [.int m, .loc b2]) atI_last ?_
  refine wE_int ?_
  refine wI_tup (y := .loc b2) rfl ?_
  refine ⟨_, _, rfl, sa.it.1, ?_⟩
  refine wE_tup (wA_cons (wE_str (wA_cons (wE_name 2 rfl (wA_cons (wE_callTy (T := "tuple") TX.b_tuple (by decide +kernel) (wA_cons (wE_name 3 rfl (wA_nil ?_)))))))))
  refine wC_tuple (.loc h1) ?_
  refine wA_nil ⟨by show 3 ≤ sizeLine; decide, ?_⟩
  refine ⟨_, sa.it.1, szLt (by rw [aIts_len]; have := hsm.b; rw [e2] at this; simp only [List.map_cons, List.sum_cons, List.length_cons] at this; have := hsm.m; omega), ?_⟩
  have sa := sa.push (i := .rep n a) rfl rfl
  refine wSs_nil ?_
  exact q _ _ sa

end
end D

set_option Elab.async false
set_option linter.all false
set_option maxRecDepth 100000
set_option maxHeartbeats 4000000
namespace D
open PySem PySem.Spec PyProof.Rows L2
local macro_rules | `(tactic| walk_at "mul") => `(tactic| first | refine wO_mul (mulR (by first | decide | omega) (by first | decide | omega)) ?_ | refine wO_mul (mulL (by first | decide | omega) (by first | decide | omega)) ?_)
local macro_rules | `(tactic| walk_at "mod") => `(tactic| refine wO_mod (by first | decide | omega) ?_)
local macro_rules | `(tactic| walk_at "fdiv") => `(tactic| refine wO_fdiv (by first | decide | omega) (divS (by first | decide | omega)) ?_)
local macro_rules | `(tactic| walk_at "ix") => `(tactic| first | refine wI_tup (by rfl) ?_ | refine wI_lst (by rfl) ?_)
local macro_rules | `(tactic| walk_at "sl") => `(tactic| first | refine wSl_tup ?_ | refine wSl_lstF ?_)
local macro_rules | `(tactic| walk_at "obj") => `(tactic| refine ⟨_, _, _, rfl, by assumption, rfl, ?_⟩)
local macro_rules | `(tactic| walk_at "len") => `(tactic| first | refine wC_len (.tup _) ?_ | refine wC_len (.lst _) ?_ | refine wC_len (.loc (by assumption)) ?_)
section
variable {P : Program} {w : World} {K : PySem.W.Frag} {mg : Str → Option Value} {base : Heap} {CL CP CS pT : Addr}
abbrev s_Source_take_row : Stmt := (bodyC (topS 45)).getD 8 (.Pass ⟨0, 0, 0, 0⟩)
abbrev N_Source_take_row : List Str := ["self", "words", "doing"]
theorem sc_Source_take_row : FnScope N_Source_take_row ["self", "words"] (defScope s_Source_take_row) := ⟨rfl, rfl, rfl, by decide +kernel, rfl, by decide +kernel, by decide +kernel⟩
abbrev c_Source_take_row (CS : Addr) : AC := TakeC (fun ws => ∃ x, ws.head? = some x ∧ x ∉ BARS) CS
theorem ok_Source_take_row {n : Nat}  {f : Addr} {fd : FuncData} (TX : Txt K mg w CL CP CS pT) (C_is_name : Cal P w K mg base n "is_name" c_is_name) (C_doing_in : Cal P w K mg base n "doing_in" c_doing_in) (C_is_doing : Cal P w K mg base n "is_doing" c_is_doing) (CM_Source_need : CalM P w K mg base n CS "need" (c_Source_need CS)) (CM_Source_more : CalM P w K mg base n CS "more" (c_Source_more CS)) (F : Fun K "take_row" "Source.take_row" s_Source_take_row f fd) : FnD P w K mg base CX0 (n + 1) f fd ["self", "words"] (c_Source_take_row CS) := by
  refine fnD F sc_Source_take_row (fun xs μ Q E hc => by obtain ⟨μ0, p, L, S, S', c, ws, rfl, sa, hs, ⟨x0, hP1, hP2⟩, hw, hsm, q⟩ := hc; rfl) (fun cdv Ao outer s H E xs μ Q E0 ar hc => ?_)
  obtain ⟨μ0, p, L, S, S', c, ws, rfl, sa, hs, ⟨x0, hP1, hP2⟩, hw, hsm, q⟩ := hc
  obtain ⟨x, w, rs, ts, m, b, r, rfl, e1, e2, e3, e4, e5, e6, e7, rfl⟩ : ∃ x w rs ts m b r, ws = x :: ("=" : Str) :: w :: rs ∧ S.own ≠ none ∧ S.whole = none ∧ isNm (.str x) = true ∧ Does w rs ts ∧ RowOk (pnPts S.parts) S.known w ts ∧ S.many + 1 ≤ 80 ∧ S.bodies = (m, b) :: r ∧ S' = { S with many := S.many + 1, bodies := (m, b ++ [.row x w ts]) :: r, known := insT S.known x } := by
    cases hs with
    | row a1 a2 a3 a4 a5 a6 a7 => exact ⟨_, _, _, _, _, _, _, rfl, a1, a2, a3, a4, a5, a6, a7, rfl⟩
    | _ => exact absurd hP1 (by simp only [List.head?_cons, Option.some.injEq]; intro e; subst e; exact hP2 (by decide))
  obtain ⟨own, ho⟩ : ∃ w, S.own = some w := by
    cases h : S.own with
    | none => exact absurd h e1
    | some w => exact ⟨w, rfl⟩
  obtain ⟨b1, bs, eb⟩ : ∃ b1 bs, c.bs = b1 :: bs := by
    have h := (bodA_len sa.it).2
    rw [e7] at h
    match hb : c.bs, h with
    | b1 :: bs, _ => exact ⟨b1, bs, rfl⟩
    | [], h => simp at h
  have hrl : rs.length ≤ 100 := by have := hw.n; simp only [List.length_cons] at this; omega
  obtain ⟨k1, k2⟩ := okA_row e5
  have htl := does_len e4
  simp only [List.map_cons]
  have nd := sc_Source_take_row.nd
  refine wSs_cons (wS_expr (wE_meth TX.cls_Source CM_Source_need ar (by omega) (wE_name 0 rfl ?_)))
  refine sa.o rfl ?_
  refine wA_cons ?_
  refine wE_and (wE_cmp (wE_fld TX.cls_Source TX.na_Source_own_ins (wE_name 0 rfl ?_)))
  refine sa.f rfl ?_
  refine wE_non ?_
  refine wO_notN ?_
  rw [ho]
  refine ⟨_, rfl, and_flip (fun hk => ?_) (fun hk => ?_)⟩
  · exact nomatch hk
  refine wE_and (wE_cmp (wE_callB (id := "len") TX.b_len (by decide +kernel) (wA_cons (wE_name 1 rfl (wA_nil ?_)))))
  refine wC_len (.lst _) ?_
  refine wE_int ?_
  refine wO_gt ?_
  refine ⟨_, rfl, and_flip (fun hk => ?_) (fun hk => ?_)⟩
  · exact absurd (of_decide_eq_false hk) (by simp only [List.length_cons, List.length_map]; omega)
  refine wE_and (wE_cmp (wE_ix (wE_name 1 rfl (wE_int ?_))))
  refine wI_lst (y := .str "=") (atI_pos (by rfl) (by decide)) ?_
  refine wE_str ?_
  refine wO_eqS ?_
  refine ⟨_, rfl, and_flip (fun hk => ?_) (fun hk => ?_)⟩
  · exact absurd (of_decide_eq_false hk) (by simp)
  refine wE_one (wE_cal C_is_name ar (by omega) (wA_cons (wE_ix (wE_name 1 rfl (wE_int ?_)))))
  refine wI_lst (y := .str x) (atI_pos (by rfl) (by decide)) ?_
  refine wA_nil ?_
  refine ⟨.str x, "str", true, rfl, rfl, rfl, (fun _ => ⟨x, rfl, by have := isNm_wd e3; omega⟩), (fun z => nomatch z), ?_⟩
  rw [e3]
  refine wA_nil ?_
  refine ⟨p, rfl, ?_⟩
  refine wSs_cons (wS_set 2 (wE_cal C_doing_in ar (by omega) (wA_cons (wE_slice (wE_name 1 rfl (wE_int ⟨_, rfl, ?_⟩))))) nd)
  refine wSl_lstF ?_
  rw [cutA_tl2]
  refine wA_nil ?_
  refine ⟨w, rs, ts, by rw [List.map_cons], e4, fun v hv => hw.l v (by simp [hv]), hrl, k1, k2, ?_⟩
  refine wSs_cons (wS_expr (wE_meth TX.cls_Source CM_Source_need ar (by omega) (wE_name 0 rfl ?_)))
  refine sa.o rfl ?_
  refine wA_cons ?_
  refine wE_and (wE_cmp (wE_name 2 rfl (wE_non ?_)))
  refine wO_notN ?_
  refine ⟨_, rfl, and_flip (fun hk => ?_) (fun hk => ?_)⟩
  · exact nomatch hk
  refine wE_one (wE_cal C_is_doing ar (by omega) (wA_cons (wE_ix (wE_name 2 rfl (wE_int ?_)))))
  refine wI_tup (y := .str w) rfl ?_
  refine wA_cons (wE_ix (wE_name 2 rfl (wE_int ?_)))
  refine wI_tup (y := .tup ts) rfl ?_
  refine wA_cons (wE_fld TX.cls_Source TX.na_Source_known (wE_name 0 rfl ?_))
  refine sa.f rfl ?_
  refine wA_cons (wE_fld TX.cls_Source TX.na_Source_counts (wE_name 0 rfl ?_))
  refine sa.f rfl ?_
  refine wA_nil ?_
  refine ⟨w, ts, c.pk, c.pc, S.known, pnPts S.parts, rfl, sa.kn, sa.co, e5, by omega, ?_⟩
  refine wA_nil ?_
  refine ⟨p, rfl, ?_⟩
  refine wSs_cons (wS_expr (wE_meth TX.cls_Source CM_Source_more ar (by omega) (wE_name 0 rfl ?_)))
  refine sa.o rfl ?_
  refine wA_cons (wE_int (wA_nil ?_))
  refine ⟨μ0, p, L, S, c, 1, rfl, sa, e6, fun μ1 sa => ?_⟩
  have hbo := sa.bo
  have hit := sa.it
  simp only [e7, eb] at hbo hit
  refine wSs_cons (wS_expr (wE_append (wE_ix (wE_ix (wE_fld TX.cls_Source TX.na_Source_bodies (wE_name 0 rfl ?_))))))
  refine sa.f rfl ?_
  refine wE_neg (wE_int ⟨_, rfl, ?_⟩)
  refine wI_loc hbo (y := .tup [.int m, .loc b1]) atI_last ?_
  refine wE_int ?_
  refine wI_tup (y := .loc b1) rfl ?_
  refine ⟨_, _, rfl, hit.1, ?_⟩
  refine wE_bin (wE_tup (wA_cons (wE_str (wA_cons (wE_ix (wE_name 1 rfl (wE_int ?_)))))))
  refine wI_lst (y := .str x) (atI_pos (by rfl) (by decide)) ?_
  refine wA_nil ⟨by show 2 ≤ sizeLine; decide, (wE_name 2 rfl ?_)⟩
  refine wO_catT (szOk (by simp)) ?_
  refine ⟨_, hit.1, szLt (by rw [aIts_len]; have := hsm.b; rw [e7] at this; simp only [List.map_cons, List.sum_cons, List.length_cons] at this; have := hsm.m; omega), ?_⟩
  have sa := sa.push (i := .row x w ts) eb e7
  simp only [It.a] at sa
  refine wSs_cons (wS_dput ar (wE_bl (wE_fld TX.cls_Source TX.na_Source_known (wE_name 0 rfl ?_))))
  refine sa.f rfl ?_
  refine wE_ix (wE_name 1 rfl (wE_int ?_))
  refine wI_lst (y := .str x) (atI_pos (by rfl) (by decide)) ?_
  refine ⟨c.pk, _, .inr x, rfl, sa.kn, rfl, szLt (by rw [List.length_map]; have := hsm.k; have := hsm.m; show S.known.length ≤ _; omega), ?_⟩
  rw [putA_Tk]
  have sa := sa.tell (w := x)
  refine wSs_nil ?_
  exact q _ _ sa

abbrev s_Source_take_give : Stmt := (bodyC (topS 45)).getD 9 (.Pass ⟨0, 0, 0, 0⟩)
abbrev N_Source_take_give : List Str := ["self", "words"]
theorem sc_Source_take_give : FnScope N_Source_take_give ["self", "words"] (defScope s_Source_take_give) := ⟨rfl, rfl, rfl, by decide +kernel, rfl, by decide +kernel, by decide +kernel⟩
abbrev c_Source_take_give (CS : Addr) : AC := TakeC (fun ws => ws.head? = some ("give" : Str)) CS
theorem ok_Source_take_give {n : Nat}  {f : Addr} {fd : FuncData} (TX : Txt K mg w CL CP CS pT) (CM_Source_need : CalM P w K mg base n CS "need" (c_Source_need CS)) (CM_Source_more : CalM P w K mg base n CS "more" (c_Source_more CS)) (F : Fun K "take_give" "Source.take_give" s_Source_take_give f fd) : FnD P w K mg base CX0 (n + 1) f fd ["self", "words"] (c_Source_take_give CS) := by
  refine fnD F sc_Source_take_give (fun xs μ Q E hc => by obtain ⟨μ0, p, L, S, S', c, ws, rfl, sa, hs, hP, hw, hsm, q⟩ := hc; rfl) (fun cdv Ao outer s H E xs μ Q E0 ar hc => ?_)
  obtain ⟨μ0, p, L, S, S', c, ws, rfl, sa, hs, hP, hw, hsm, q⟩ := hc
  obtain ⟨g, ins, b, rfl, e1, e2, e4, e5, e6, e7, rfl⟩ : ∃ g ins b, ws = [("give" : Str), g] ∧ S.own = some ins ∧ S.whole = none ∧ S.name ≠ "" ∧ S.bodies = [(1, b)] ∧ g ∈ S.known ∧ S.many + 1 ≤ 80 ∧ S' = { S with many := S.many + 1, parts := S.parts ++ [⟨S.name, ins, b, g⟩], own := none, bodies := [] } := by
    cases hs with
    | give a1 a2 a3 a4 a5 a6 a7 => subst a3; exact ⟨_, _, _, rfl, a1, a2, a4, a5, a6, a7, rfl⟩
    | row _ _ h => simp only [List.head?_cons, Option.some.injEq] at hP; subst hP; rw [bar_nm (by decide)] at h; cases h
    | _ => exact absurd hP (by simp only [List.head?_cons, Option.some.injEq]; decide)
  obtain ⟨hpl, hnew⟩ := hsm.n (by rw [e1]; exact fun z => nomatch z) e4
  obtain ⟨b1, eb⟩ : ∃ b1, c.bs = [b1] := by
    have h := (bodA_len sa.it).2
    rw [e5] at h
    match hb : c.bs, h with
    | [b1], _ => exact ⟨b1, rfl⟩
    | [], h => simp at h
    | _ :: _ :: _, h => simp at h
  simp only [List.map_cons, List.map_nil]
  have nd := sc_Source_take_give.nd
  refine wSs_cons (wS_expr (wE_meth TX.cls_Source CM_Source_need ar (by omega) (wE_name 0 rfl ?_)))
  refine sa.o rfl ?_
  refine wA_cons ?_
  refine wE_and (wE_cmp (wE_fld TX.cls_Source TX.na_Source_own_ins (wE_name 0 rfl ?_)))
  refine sa.f rfl ?_
  refine wE_non ?_
  refine wO_notN ?_
  rw [e1]
  refine ⟨_, rfl, and_flip (fun hk => ?_) (fun hk => ?_)⟩
  · exact nomatch hk
  refine wE_and (wE_cmp (wE_fld TX.cls_Source TX.na_Source_name (wE_name 0 rfl ?_)))
  refine sa.f rfl ?_
  refine wE_str ?_
  refine wO_neS ?_
  refine ⟨_, rfl, and_flip (fun hk => ?_) (fun hk => ?_)⟩
  · exact absurd hk (by simp [e4])
  refine wE_one (wE_cmp (wE_callB (id := "len") TX.b_len (by decide +kernel) (wA_cons (wE_fld TX.cls_Source TX.na_Source_bodies (wE_name 0 rfl ?_)))))
  refine sa.f rfl ?_
  refine wA_nil ?_
  refine wC_len (.loc sa.bo) ?_
  rw [(bodA_len sa.it).1]
  refine wE_int ?_
  refine wO_eqI ?_
  refine wA_nil ?_
  refine ⟨p, by rw [decide_eq_true (by rw [e5]; rfl)], ?_⟩
  refine wSs_cons (wS_expr (wE_meth TX.cls_Source CM_Source_need ar (by omega) (wE_name 0 rfl ?_)))
  refine sa.o rfl ?_
  refine wA_cons ?_
  refine wE_and (wE_cmp (wE_callB (id := "len") TX.b_len (by decide +kernel) (wA_cons (wE_name 1 rfl (wA_nil ?_)))))
  refine wC_len (.lst _) ?_
  refine wE_int ?_
  refine wO_eqI ?_
  refine ⟨_, rfl, and_flip (fun hk => ?_) (fun hk => ?_)⟩
  · exact absurd (of_decide_eq_false hk) (by simp)
  refine wE_one (wE_inD ar (wE_ix (wE_name 1 rfl (wE_int ?_))))
  refine wI_lst (y := .str g) (atI_pos (by rfl) (by decide)) ?_
  refine wE_fld TX.cls_Source TX.na_Source_known (wE_name 0 rfl ?_)
  refine sa.f rfl ?_
  refine ⟨c.pk, _, .inr g, rfl, sa.kn, rfl, ?_⟩
  rw [valA_Tk, if_pos e6]
  refine wA_nil ?_
  refine ⟨p, rfl, ?_⟩
  refine wSs_cons (wS_expr (wE_meth TX.cls_Source CM_Source_more ar (by omega) (wE_name 0 rfl ?_)))
  refine sa.o rfl ?_
  refine wA_cons (wE_int (wA_nil ?_))
  refine ⟨μ0, p, L, S, c, 1, rfl, sa, e7, fun μ1 sa => ?_⟩
  have hbo := sa.bo
  have hit := sa.it
  simp only [e5, eb] at hbo hit
  refine wSs_cons (wS_expr (wE_append (wE_fld TX.cls_Source TX.na_Source_parts (wE_name 0 rfl ?_))))
  refine sa.f rfl ?_
  refine ⟨_, _, rfl, sa.pa, ?_⟩
  refine wE_tup (wA_cons (wE_fld TX.cls_Source TX.na_Source_name (wE_name 0 rfl ?_)))
  refine sa.f rfl ?_
  refine wA_cons (wE_fld TX.cls_Source TX.na_Source_own_ins (wE_name 0 rfl ?_))
  refine sa.f (y := .tup (ins.map A.str)) (by show some (ownA S.own) = _; rw [e1]; rfl) ?_
  refine wA_cons (wE_callTy (T := "tuple") TX.b_tuple (by decide +kernel) (wA_cons (wE_ix (wE_ix (wE_fld TX.cls_Source TX.na_Source_bodies (wE_name 0 rfl ?_))))))
  refine sa.f rfl ?_
  refine wE_int ?_
  refine wI_loc hbo (y := .tup [.int 1, .loc b1]) rfl ?_
  refine wE_int ?_
  refine wI_tup (y := .loc b1) rfl ?_
  refine wA_nil ?_
  refine wC_tuple (.loc hit.1) ?_
  refine wA_cons (wE_ix (wE_name 1 rfl (wE_int ?_)))
  refine wI_lst (y := .str g) (atI_pos (by rfl) (by decide)) ?_
  refine wA_nil ⟨by show 4 ≤ sizeLine; decide, ?_⟩
  refine ⟨_, sa.pa, szLt (by rw [List.length_map]; show S.parts.length ≤ _; omega), ?_⟩
  have sa2 := sa.part (q := ⟨S.name, ins, b, g⟩)
  have kne : c.pp ≠ p := fun e => by have := sa.pa; rw [e, sa.ob] at this; cases this
  have kne2 : c.pp ≠ c.pc := fun e => by have := sa.pa; rw [e, sa.co] at this; cases this
  refine wSs_cons (wS_dput ar (wE_callB (id := "len") TX.b_len (by decide +kernel) (wA_cons (wE_fld TX.cls_Source TX.na_Source_own_ins (wE_name 0 rfl ?_)))))
  refine ⟨p, c.dx, _, .tup (ins.map A.str), rfl, by rw [Mu.upd_ne (Ne.symm kne)]; exact sa.ob, by show some (ownA S.own) = _; rw [e1]; rfl, ?_⟩
  refine wA_nil ?_
  refine wC_len (.tup _) ?_
  rw [List.length_map]
  refine wE_fld TX.cls_Source TX.na_Source_counts (wE_name 0 rfl ?_)
  refine ⟨p, c.dx, _, .loc c.pc, rfl, by rw [Mu.upd_ne (Ne.symm kne)]; exact sa.ob, rfl, ?_⟩
  refine wE_fld TX.cls_Source TX.na_Source_name (wE_name 0 rfl ?_)
  refine ⟨p, c.dx, _, .str S.name, rfl, by rw [Mu.upd_ne (Ne.symm kne)]; exact sa.ob, rfl, ?_⟩
  refine ⟨c.pc, _, .inr S.name, rfl, by rw [Mu.upd_ne (Ne.symm kne2)]; exact sa.co, rfl, szLt (by simp only [Pk, pnPts, List.length_map]; show S.parts.length ≤ _; omega), ?_⟩
  rw [putA_Pk hnew]
  refine wSs_cons (wS_fld TX.cls_Source TX.na_Source_own_ins (wE_non (wE_name 0 rfl ?_)))
  refine sa2.s ?_
  have sa3 := sa2.put (L' := L) (S' := { S with many := S.many + 1, parts := S.parts ++ [⟨S.name, ins, b, g⟩], own := none }) rfl rfl rfl
  refine wSs_cons (wS_fld TX.cls_Source TX.na_Source_bodies (wE_lst (wA_nil ⟨by show 0 ≤ sizeLine; decide, fun pl npl => (wE_name 0 rfl ?_)⟩)))
  refine (sa3.grow (m := .lst []) npl).s ?_
  have sa4 := sa3.empty npl
  refine wSs_nil ?_
  exact q _ _ sa4

end
end D

set_option Elab.async false
set_option linter.all false
set_option maxRecDepth 100000
set_option maxHeartbeats 4000000
namespace D
open PySem PySem.Spec PyProof.Rows L2
local macro_rules | `(tactic| walk_at "mul") => `(tactic| first | refine wO_mul (mulR (by first | decide | omega) (by first | decide | omega)) ?_ | refine wO_mul (mulL (by first | decide | omega) (by first | decide | omega)) ?_)
local macro_rules | `(tactic| walk_at "mod") => `(tactic| refine wO_mod (by first | decide | omega) ?_)
local macro_rules | `(tactic| walk_at "fdiv") => `(tactic| refine wO_fdiv (by first | decide | omega) (divS (by first | decide | omega)) ?_)
local macro_rules | `(tactic| walk_at "ix") => `(tactic| first | refine wI_tup (by rfl) ?_ | refine wI_lst (by rfl) ?_)
local macro_rules | `(tactic| walk_at "sl") => `(tactic| first | refine wSl_tup ?_ | refine wSl_lstF ?_)
local macro_rules | `(tactic| walk_at "obj") => `(tactic| refine ⟨_, _, _, rfl, by assumption, rfl, ?_⟩)
local macro_rules | `(tactic| walk_at "len") => `(tactic| first | refine wC_len (.tup _) ?_ | refine wC_len (.lst _) ?_ | refine wC_len (.loc (by assumption)) ?_)
section
variable {P : Program} {w : World} {K : PySem.W.Frag} {mg : Str → Option Value} {base : Heap} {CL CP CS pT : Addr}
abbrev s_Source_take_out : Stmt := (bodyC (topS 45)).getD 10 (.Pass ⟨0, 0, 0, 0⟩)
abbrev N_Source_take_out : List Str := ["self", "words", "outs", "name"]
theorem sc_Source_take_out : FnScope N_Source_take_out ["self", "words"] (defScope s_Source_take_out) := ⟨rfl, rfl, rfl, by decide +kernel, rfl, by decide +kernel, by decide +kernel⟩
abbrev c_Source_take_out (CS : Addr) : AC := TakeC (fun ws => ws.head? = some ("out" : Str)) CS
theorem ok_Source_take_out {n : Nat}  {f : Addr} {fd : FuncData} (TX : Txt K mg w CL CP CS pT) (C_are_names : Cal P w K mg base n "are_names" c_are_names) (CM_Source_need : CalM P w K mg base n CS "need" (c_Source_need CS)) (CM_Source_more : CalM P w K mg base n CS "more" (c_Source_more CS)) (F : Fun K "take_out" "Source.take_out" s_Source_take_out f fd) : FnD P w K mg base CX0 (n + 1) f fd ["self", "words"] (c_Source_take_out CS) := by
  refine fnD F sc_Source_take_out (fun xs μ Q E hc => by obtain ⟨μ0, p, L, S, S', c, ws, rfl, sa, hs, hP, hw, hsm, q⟩ := hc; rfl) (fun cdv Ao outer s H E xs μ Q E0 ar hc => ?_)
  obtain ⟨μ0, p, L, S, S', c, ws, rfl, sa, hs, hP, hw, hsm, q⟩ := hc
  obtain ⟨ins, outs, b, rfl, e1, e2, e3, e4, e5, e6, e7, e8, rfl⟩ : ∃ ins outs b, ws = ("out" : Str) :: outs ∧ S.own = some ins ∧ S.whole = none ∧ S.name = "" ∧ S.bodies = [(1, b)] ∧ 1 ≤ outs.length ∧ outs.length ≤ 4 ∧ (∀ w ∈ outs, isNm (.str w) = true ∧ w ∈ S.known) ∧ S.many + outs.length ≤ 80 ∧ S' = { S with many := S.many + outs.length, whole := some ⟨S.parts, ins, b, outs⟩ } := by
    cases hs with
    | out a1 a2 a3 a4 a5 a6 a7 a8 => exact ⟨_, _, _, rfl, a1, a2, a3, a4, a5, a6, a7, a8, rfl⟩
    | row _ _ h => simp only [List.head?_cons, Option.some.injEq] at hP; subst hP; rw [bar_nm (by decide)] at h; cases h
    | _ => exact absurd hP (by simp only [List.head?_cons, Option.some.injEq]; decide)
  obtain ⟨b1, eb⟩ : ∃ b1, c.bs = [b1] := by
    have h := (bodA_len sa.it).2
    rw [e4] at h
    match hb : c.bs, h with
    | [b1], _ => exact ⟨b1, rfl⟩
    | [], h => simp at h
    | _ :: _ :: _, h => simp at h
  simp only [List.map_cons, List.map_nil]
  have nd := sc_Source_take_out.nd
  refine wSs_cons (wS_expr (wE_meth TX.cls_Source CM_Source_need ar (by omega) (wE_name 0 rfl ?_)))
  refine sa.o rfl ?_
  refine wA_cons ?_
  refine wE_and (wE_cmp (wE_fld TX.cls_Source TX.na_Source_own_ins (wE_name 0 rfl ?_)))
  refine sa.f rfl ?_
  refine wE_non ?_
  refine wO_notN ?_
  rw [e1]
  refine ⟨_, rfl, and_flip (fun hk => ?_) (fun hk => ?_)⟩
  · exact nomatch hk
  refine wE_and (wE_cmp (wE_fld TX.cls_Source TX.na_Source_name (wE_name 0 rfl ?_)))
  refine sa.f rfl ?_
  refine wE_str ?_
  refine wO_eqS ?_
  refine ⟨_, rfl, and_flip (fun hk => ?_) (fun hk => ?_)⟩
  · exact absurd (of_decide_eq_false hk) (by rw [e3]; simp)
  refine wE_one (wE_cmp (wE_callB (id := "len") TX.b_len (by decide +kernel) (wA_cons (wE_fld TX.cls_Source TX.na_Source_bodies (wE_name 0 rfl ?_)))))
  refine sa.f rfl ?_
  refine wA_nil ?_
  refine wC_len (.loc sa.bo) ?_
  rw [(bodA_len sa.it).1]
  refine wE_int ?_
  refine wO_eqI ?_
  refine wA_nil ?_
  refine ⟨p, by rw [decide_eq_true (by rw [e4]; rfl)], ?_⟩
  refine wSs_cons (wS_set 2 (wE_callTy (T := "tuple") TX.b_tuple (by decide +kernel) (wA_cons (wE_slice (wE_name 1 rfl (wE_int ⟨_, rfl, ?_⟩))))) nd)
  refine wSl_lstF ?_
  rw [cutA_tail]
  refine wA_nil ?_
  refine wC_tuple (.lst _) ?_
  refine wSs_cons (wS_expr (wE_meth TX.cls_Source CM_Source_need ar (by omega) (wE_name 0 rfl ?_)))
  refine sa.o rfl ?_
  refine wA_cons ?_
  refine wE_and (wE_cal C_are_names ar (by omega) (wA_cons (wE_name 2 rfl (wA_cons (wE_glob TX.k_MOST_OUTS (wA_nil ?_))))))
  refine ⟨outs, 4, rfl, e5, by omega, by omega, fun w hw => (e7 w hw).1, ?_⟩
  refine ⟨_, rfl, and_flip (fun hk => ?_) (fun hk => ?_)⟩
  · exact nomatch hk
  refine wE_one (wE_callB (id := "all") TX.b_all (by decide +kernel) (wA_cons (wE_lcF (own := [("name", 3)]) (wIt_tup (wE_name 2 rfl ⟨_, rfl, ?_⟩)) nd (blkOk_by (N := N_Source_take_out) (sc := defScope s_Source_take_out) (by decide +kernel)))))
  refine ⟨szOk (by rw [List.length_map]; omega), (outs.map fun _ => true).map D.A.bl, by simp, fun i y z hy hz s0 H0 C cl fp => ?_, ?_⟩
  obtain ⟨w1, g1, rfl⟩ := map_at hy
  obtain ⟨bz, g2, rfl⟩ := map_at hz
  obtain ⟨w2, g3, rfl⟩ := map_at g2
  have hw1 := (e7 w1 (List.mem_of_getElem? g1)).2
  refine wGw_name 3 (⟨rfl, fun s0 H0 C cl fp => (wE_inD ar.bk (wE_name 3 rfl (wE_fld TX.cls_Source TX.na_Source_known (wE_name 0 rfl ?_))))⟩) nd
  refine sa.f rfl ?_
  refine ⟨c.pk, _, .inr w1, rfl, sa.kn, rfl, ?_⟩
  refine ⟨?_, .refl _⟩
  rw [valA_Tk, if_pos hw1]; rfl
  refine wA_nil ?_
  refine wC_all rfl (.lst _) ?_
  rw [show ((outs.map fun _ => true).all id) = true by simp]
  refine wA_nil ?_
  refine ⟨p, rfl, ?_⟩
  refine wSs_cons (wS_expr (wE_meth TX.cls_Source CM_Source_more ar (by omega) (wE_name 0 rfl ?_)))
  refine sa.o rfl ?_
  refine wA_cons (wE_callB (id := "len") TX.b_len (by decide +kernel) (wA_cons (wE_name 2 rfl (wA_nil ?_))))
  refine wC_len (.tup _) ?_
  rw [List.length_map]
  refine wA_nil ?_
  refine ⟨μ0, p, L, S, c, outs.length, rfl, sa, e8, fun μ1 sa => ?_⟩
  have hbo := sa.bo
  have hit := sa.it
  simp only [e4, eb] at hbo hit
  refine wSs_cons (wS_fld TX.cls_Source TX.na_Source_whole (wE_tup (wA_cons (wE_callTy (T := "tuple") TX.b_tuple (by decide +kernel) (wA_cons (wE_fld TX.cls_Source TX.na_Source_parts (wE_name 0 rfl ?_)))))))
  refine sa.f rfl ?_
  refine wA_nil ?_
  refine wC_tuple (.loc sa.pa) ?_
  refine wA_cons (wE_fld TX.cls_Source TX.na_Source_own_ins (wE_name 0 rfl ?_))
  refine sa.f (y := .tup (ins.map A.str)) (by show some (ownA S.own) = _; rw [e1]; rfl) ?_
  refine wA_cons (wE_callTy (T := "tuple") TX.b_tuple (by decide +kernel) (wA_cons (wE_ix (wE_ix (wE_fld TX.cls_Source TX.na_Source_bodies (wE_name 0 rfl ?_))))))
  refine sa.f rfl ?_
  refine wE_int ?_
  refine wI_loc hbo (y := .tup [.int 1, .loc b1]) rfl ?_
  refine wE_int ?_
  refine wI_tup (y := .loc b1) rfl ?_
  refine wA_nil ?_
  refine wC_tuple (.loc hit.1) ?_
  refine wA_cons (wE_name 2 rfl (wA_nil ⟨by show 4 ≤ sizeLine; decide, (wE_name 0 rfl ?_)⟩))
  refine sa.s ?_
  have sa := sa.put (L' := L) (S' := { S with many := S.many + outs.length, whole := some ⟨S.parts, ins, b, outs⟩ }) rfl rfl rfl
  refine wSs_nil ?_
  exact q _ _ sa

abbrev s_Source_take : Stmt := (bodyC (topS 45)).getD 11 (.Pass ⟨0, 0, 0, 0⟩)
abbrev N_Source_take : List Str := ["self", "words"]
theorem sc_Source_take : FnScope N_Source_take ["self", "words"] (defScope s_Source_take) := ⟨rfl, rfl, rfl, by decide +kernel, rfl, by decide +kernel, by decide +kernel⟩
def c_Source_take (CS : Addr) : AC := TakeC (fun _ => True) CS
theorem Step.ne {S S' : Src} {ws : List Str} (h : Step S ws S') : S.whole = none ∧ ∃ x r, ws = x :: r ∧ (x ∈ ([("part" : Str), "in", "repeat", "end", "give", "out"] : List Str) ∨ x ∉ BARS) := by
  cases h with
  | part a1 a2 => exact ⟨a2, _, _, rfl, .inl (by simp)⟩
  | ins a1 a2 => exact ⟨a2, _, _, rfl, .inl (by simp)⟩
  | rep a1 a2 => exact ⟨a2, _, _, rfl, .inl (by simp)⟩
  | fin a1 a2 => exact ⟨a1, _, _, rfl, .inl (by simp)⟩
  | row a1 a2 a3 => exact ⟨a2, _, _, rfl, .inr fun z => by rw [bar_nm z] at a3; cases a3⟩
  | give a1 a2 => exact ⟨a2, _, _, rfl, .inl (by simp)⟩
  | out a1 a2 => exact ⟨a2, _, _, rfl, .inl (by simp)⟩
theorem ok_Source_take {n : Nat}  {f : Addr} {fd : FuncData} (TX : Txt K mg w CL CP CS pT) (CM_Source_need : CalM P w K mg base n CS "need" (c_Source_need CS)) (CM_Source_take_part : CalM P w K mg base n CS "take_part" (c_Source_take_part CS)) (CM_Source_take_in : CalM P w K mg base n CS "take_in" (c_Source_take_in CS)) (CM_Source_take_repeat : CalM P w K mg base n CS "take_repeat" (c_Source_take_repeat CS)) (CM_Source_take_end : CalM P w K mg base n CS "take_end" (c_Source_take_end CS)) (CM_Source_take_give : CalM P w K mg base n CS "take_give" (c_Source_take_give CS)) (CM_Source_take_out : CalM P w K mg base n CS "take_out" (c_Source_take_out CS)) (CM_Source_take_row : CalM P w K mg base n CS "take_row" (c_Source_take_row CS)) (F : Fun K "take" "Source.take" s_Source_take f fd) : FnD P w K mg base CX0 (n + 1) f fd ["self", "words"] (c_Source_take CS) := by
  refine fnD F sc_Source_take (fun xs μ Q E hc => by obtain ⟨μ0, p, L, S, S', c, ws, rfl, sa, hs, hP, hw, hsm, q⟩ := hc; rfl) (fun cdv Ao outer s H E xs μ Q E0 ar hc => ?_)
  obtain ⟨μ0, p, L, S, S', c, ws, rfl, sa, hs, hP, hw, hsm, q⟩ := hc
  obtain ⟨e1, x, r, rfl, hx⟩ := hs.ne
  simp only [List.map_cons]
  have nd := sc_Source_take.nd
  refine wSs_cons (wS_expr (wE_meth TX.cls_Source CM_Source_need ar (by omega) (wE_name 0 rfl ?_)))
  refine sa.o rfl ?_
  refine wA_cons (wE_cmp (wE_fld TX.cls_Source TX.na_Source_whole (wE_name 0 rfl ?_)))
  refine sa.f rfl ?_
  refine wE_non ?_
  refine wO_isN ?_
  rw [e1]
  refine wA_nil ?_
  refine ⟨p, rfl, ?_⟩
  refine wSs_cut (fun Γ' μ' => ∃ c', SrcAt CS μ0 p L S' c' μ') ?_ (fun Γ' μ' hP => ?_)
  refine wS_if (wT_cmp (wE_ix (wE_name 1 rfl (wE_int ?_))))
  refine wI_lst (y := .str x) (atI0 _ _) ?_
  refine wE_str ?_
  refine wO_eqS ?_
  refine ⟨_, rfl, ?_⟩
  refine ⟨fun hk => ?_, fun hn1 => ?_⟩
  refine wSs_cons (wS_expr (wE_meth TX.cls_Source CM_Source_take_part ar (by omega) (wE_name 0 rfl ?_)))
  refine sa.o rfl ?_
  refine wA_cons (wE_name 1 rfl (wA_nil ?_))
  refine ⟨μ0, p, L, S, S', c, x :: r, rfl, sa, hs, by show some x = _; rw [of_decide_eq_true hk], hw, hsm, fun c1 μ1 sa1 => ?_⟩
  refine wSs_nil ?_
  exact ⟨c1, sa1⟩
  refine wSs_cut (fun Γ' μ' => ∃ c', SrcAt CS μ0 p L S' c' μ') ?_ (fun Γ' μ' hP => ?_)
  refine wS_if (wT_cmp (wE_ix (wE_name 1 rfl (wE_int ?_))))
  refine wI_lst (y := .str x) (atI0 _ _) ?_
  refine wE_str ?_
  refine wO_eqS ?_
  refine ⟨_, rfl, ?_⟩
  refine ⟨fun hk => ?_, fun hn2 => ?_⟩
  refine wSs_cons (wS_expr (wE_meth TX.cls_Source CM_Source_take_in ar (by omega) (wE_name 0 rfl ?_)))
  refine sa.o rfl ?_
  refine wA_cons (wE_name 1 rfl (wA_nil ?_))
  refine ⟨μ0, p, L, S, S', c, x :: r, rfl, sa, hs, by show some x = _; rw [of_decide_eq_true hk], hw, hsm, fun c1 μ1 sa1 => ?_⟩
  refine wSs_nil ?_
  exact ⟨c1, sa1⟩
  refine wSs_cut (fun Γ' μ' => ∃ c', SrcAt CS μ0 p L S' c' μ') ?_ (fun Γ' μ' hP => ?_)
  refine wS_if (wT_cmp (wE_ix (wE_name 1 rfl (wE_int ?_))))
  refine wI_lst (y := .str x) (atI0 _ _) ?_
  refine wE_str ?_
  refine wO_eqS ?_
  refine ⟨_, rfl, ?_⟩
  refine ⟨fun hk => ?_, fun hn3 => ?_⟩
  refine wSs_cons (wS_expr (wE_meth TX.cls_Source CM_Source_take_repeat ar (by omega) (wE_name 0 rfl ?_)))
  refine sa.o rfl ?_
  refine wA_cons (wE_name 1 rfl (wA_nil ?_))
  refine ⟨μ0, p, L, S, S', c, x :: r, rfl, sa, hs, by show some x = _; rw [of_decide_eq_true hk], hw, hsm, fun c1 μ1 sa1 => ?_⟩
  refine wSs_nil ?_
  exact ⟨c1, sa1⟩
  refine wSs_cut (fun Γ' μ' => ∃ c', SrcAt CS μ0 p L S' c' μ') ?_ (fun Γ' μ' hP => ?_)
  refine wS_if (wT_cmp (wE_ix (wE_name 1 rfl (wE_int ?_))))
  refine wI_lst (y := .str x) (atI0 _ _) ?_
  refine wE_str ?_
  refine wO_eqS ?_
  refine ⟨_, rfl, ?_⟩
  refine ⟨fun hk => ?_, fun hn4 => ?_⟩
  refine wSs_cons (wS_expr (wE_meth TX.cls_Source CM_Source_take_end ar (by omega) (wE_name 0 rfl ?_)))
  refine sa.o rfl ?_
  refine wA_cons (wE_name 1 rfl (wA_nil ?_))
  refine ⟨μ0, p, L, S, S', c, x :: r, rfl, sa, hs, by show some x = _; rw [of_decide_eq_true hk], hw, hsm, fun c1 μ1 sa1 => ?_⟩
  refine wSs_nil ?_
  exact ⟨c1, sa1⟩
  refine wSs_cut (fun Γ' μ' => ∃ c', SrcAt CS μ0 p L S' c' μ') ?_ (fun Γ' μ' hP => ?_)
  refine wS_if (wT_cmp (wE_ix (wE_name 1 rfl (wE_int ?_))))
  refine wI_lst (y := .str x) (atI0 _ _) ?_
  refine wE_str ?_
  refine wO_eqS ?_
  refine ⟨_, rfl, ?_⟩
  refine ⟨fun hk => ?_, fun hn5 => ?_⟩
  refine wSs_cons (wS_expr (wE_meth TX.cls_Source CM_Source_take_give ar (by omega) (wE_name 0 rfl ?_)))
  refine sa.o rfl ?_
  refine wA_cons (wE_name 1 rfl (wA_nil ?_))
  refine ⟨μ0, p, L, S, S', c, x :: r, rfl, sa, hs, by show some x = _; rw [of_decide_eq_true hk], hw, hsm, fun c1 μ1 sa1 => ?_⟩
  refine wSs_nil ?_
  exact ⟨c1, sa1⟩
  refine wSs_cut (fun Γ' μ' => ∃ c', SrcAt CS μ0 p L S' c' μ') ?_ (fun Γ' μ' hP => ?_)
  refine wS_if (wT_cmp (wE_ix (wE_name 1 rfl (wE_int ?_))))
  refine wI_lst (y := .str x) (atI0 _ _) ?_
  refine wE_str ?_
  refine wO_eqS ?_
  refine ⟨_, rfl, ?_⟩
  refine ⟨fun hk => ?_, fun hn6 => ?_⟩
  refine wSs_cons (wS_expr (wE_meth TX.cls_Source CM_Source_take_out ar (by omega) (wE_name 0 rfl ?_)))
  refine sa.o rfl ?_
  refine wA_cons (wE_name 1 rfl (wA_nil ?_))
  refine ⟨μ0, p, L, S, S', c, x :: r, rfl, sa, hs, by show some x = _; rw [of_decide_eq_true hk], hw, hsm, fun c1 μ1 sa1 => ?_⟩
  refine wSs_nil ?_
  exact ⟨c1, sa1⟩
  refine wSs_cons (wS_expr (wE_meth TX.cls_Source CM_Source_take_row ar (by omega) (wE_name 0 rfl ?_)))
  refine sa.o rfl ?_
  refine wA_cons (wE_name 1 rfl (wA_nil ?_))
  have hx2 : x ∉ BARS := by
    rcases hx with hx | hx
    · simp only [List.mem_cons, List.not_mem_nil, or_false] at hx
      rcases hx with rfl | rfl | rfl | rfl | rfl | rfl
      · exact absurd rfl (of_decide_eq_false hn1)
      · exact absurd rfl (of_decide_eq_false hn2)
      · exact absurd rfl (of_decide_eq_false hn3)
      · exact absurd rfl (of_decide_eq_false hn4)
      · exact absurd rfl (of_decide_eq_false hn5)
      · exact absurd rfl (of_decide_eq_false hn6)
    · exact hx
  refine ⟨μ0, p, L, S, S', c, x :: r, rfl, sa, hs, ⟨x, rfl, hx2⟩, hw, hsm, fun c1 μ1 sa1 => ?_⟩
  refine wSs_nil ?_
  exact ⟨c1, sa1⟩
  refine wSs_nil ?_
  exact hP
  refine wSs_nil ?_
  exact hP
  refine wSs_nil ?_
  exact hP
  refine wSs_nil ?_
  exact hP
  refine wSs_nil ?_
  exact hP
  refine wSs_nil ?_
  obtain ⟨c1, sa1⟩ := hP
  exact q _ _ sa1

end
end D

set_option Elab.async false
set_option linter.all false
set_option maxRecDepth 100000
set_option maxHeartbeats 4000000
namespace D
open PySem PySem.Spec PyProof.Rows L2
local macro_rules | `(tactic| walk_at "mul") => `(tactic| first | refine wO_mul (mulR (by first | decide | omega) (by first | decide | omega)) ?_ | refine wO_mul (mulL (by first | decide | omega) (by first | decide | omega)) ?_)
local macro_rules | `(tactic| walk_at "mod") => `(tactic| refine wO_mod (by first | decide | omega) ?_)
local macro_rules | `(tactic| walk_at "fdiv") => `(tactic| refine wO_fdiv (by first | decide | omega) (divS (by first | decide | omega)) ?_)
local macro_rules | `(tactic| walk_at "ix") => `(tactic| first | refine wI_tup (by rfl) ?_ | refine wI_lst (by rfl) ?_)
local macro_rules | `(tactic| walk_at "sl") => `(tactic| first | refine wSl_tup ?_ | refine wSl_lstF ?_)
local macro_rules | `(tactic| walk_at "obj") => `(tactic| refine ⟨_, _, _, rfl, by assumption, rfl, ?_⟩)
local macro_rules | `(tactic| walk_at "len") => `(tactic| first | refine wC_len (.tup _) ?_ | refine wC_len (.lst _) ?_ | refine wC_len (.loc (by assumption)) ?_)
section
variable {P : Program} {w : World} {K : PySem.W.Frag} {mg : Str → Option Value} {base : Heap} {CL CP CS pT : Addr}
abbrev s_read : Stmt := topS 46
abbrev N_read : List Str := ["text", "source", "line", "words"]
theorem sc_read : FnScope N_read ["text"] (defScope s_read) := ⟨rfl, rfl, rfl, by decide +kernel, rfl, by decide +kernel, by decide +kernel⟩
theorem But.made2 {p dx C : Addr} {μ μ' : Mu} {fs : List (Str × D.A)} (b : But p (μ.upd p (.ins C dx fs)) μ') (np : μ p = none) : Sub μ μ' := fun q o h => by
  have e : q ≠ p := fun z => by rw [z, np] at h; cases h
  exact b q o e (by rw [Mu.upd_ne e]; exact h)
def c_read (CP : Addr) : AC := fun xs μ Q _ => ∃ (w : Str) (g : Pg), xs = [.str w] ∧ Rds w g ∧ g.ok ∧ g.sm ∧ ∀ (p : Addr) (μ' : Mu), PgAt CP p g μ' → Sub μ μ' → Q (.loc p) μ'
theorem datWs {ws : List Str} (h : ∀ w ∈ ws, WordC w) : DatOk (.lst (ws.map D.A.str)) := by
  refine ⟨?_, ?_⟩
  · simp only [isD]
    refine isDs_all fun a ha => ?_
    obtain ⟨w, hw, rfl⟩ := List.mem_map.mp ha
    exact clean_asc (h w hw).1
  · have : deeps (ws.map D.A.str) ≤ 0 := deeps_le fun a ha => by
      obtain ⟨w, hw, rfl⟩ := List.mem_map.mp ha
      simp [deep]
    simp only [deep]; omega
theorem drop_filter {W : List Str} {i : Nat} {l : Str} (h : W[i]? = some l) : ((W.drop i).map wordsOf).filter (fun ws => !ws.isEmpty) = (if wordsOf l = [] then [] else [wordsOf l]) ++ ((W.drop (i + 1)).map wordsOf).filter (fun ws => !ws.isEmpty) := by
  have hl := (List.getElem?_eq_some_iff.mp h).1
  rw [List.drop_eq_getElem_cons hl]
  rw [List.getElem?_eq_getElem hl] at h
  rw [Option.some.inj h, List.map_cons, List.filter_cons]
  by_cases e : wordsOf l = []
  · rw [if_pos e, e]; rfl
  · rw [if_neg e, if_pos (ne_empty e)]; rfl
theorem ok_read {n : Nat}  {f : Addr} {fd : FuncData} (TX : Txt K mg w CL CP CS pT) (C_words_of : Cal P w K mg base n "words_of" c_words_of) (CK_Source : CalK P w K mg base n "Source" CS (c_Source___init__ CS)) (CM_Source_need : CalM P w K mg base n CS "need" (c_Source_need CS)) (CM_Source_take : CalM P w K mg base n CS "take" (c_Source_take CS)) (CK_Program : CalK P w K mg base n "Program" CP (c_Program___init__ CP)) (F : Fun K "read" "read" s_read f fd) : FnD P w K mg base CX0 (n + 2) f fd ["text"] (c_read CP) := by
  refine fnD F sc_read (fun xs μ Q E hc => by obtain ⟨w, g, rfl, hr, ok, sm, q⟩ := hc; rfl) (fun cdv Ao outer s H E xs μ Q E0 ar hc => ?_)
  obtain ⟨w, g, rfl, hr, ok, sm, q⟩ := hc
  obtain ⟨S', hst, hwh⟩ := reads_wide ok sm hr.rd
  have nd := sc_read.nd
  refine wSs_cons (wS_if (wT_not (wT_val (wE_callB (id := "isinstance") TX.b_isinstance (by decide +kernel) (wA_cons (wE_name 0 rfl (wA_cons (wE_type (n := "str") TX.b_str (by decide +kernel) (wA_nil ?_)))))))))
  refine wC_isi (n := "str") (k := true) rfl rfl ?_
  refine ⟨_, rfl, ?_⟩
  refine ⟨fun hk => ?_, fun hk => ?_⟩
  · exact nomatch hk
  refine wSs_nil ?_
  refine wSs_cons (wS_set 1 (wE_make0 CK_Source ar (by omega) ?_) nd)
  refine fun p dx np => ⟨μ, p, dx, rfl, np, rfl, fun c μ1 sa => ⟨rfl, ?_⟩⟩
  refine wSs_cons (wS_for (wIt_list (wE_m1 PySem.F.slot_str_split PySem.F.type_str_split (wE_name 0 rfl ⟨_, rfl, (wE_str ?_)⟩))))
  refine wM_split (by decide) (szOk (by have := hr.ln; omega)) ?_
  refine ⟨_, rfl, ?_⟩
  refine ⟨fun i Γ' μ' => ∃ (x2 x3 : Option D.A) (c : SC) (S : Src), Γ' = [some (.str w), some (.loc p), x2, x3] ∧ SrcAt CS μ p i S c μ' ∧ S.Sm ∧ Steps S ((((Txt.split w "\n").drop i).map wordsOf).filter fun ws => !ws.isEmpty) S', ⟨_, _, c, S0, rfl, sa, Src0.sm, hst⟩, fun i y Γ' μ' hy hI => ?_, fun Γ' μ' hI => ?_⟩
  obtain ⟨x2, x3, c, S, rfl, sa, hsm, hst⟩ := hI
  obtain ⟨line, hli, rfl⟩ := map_at hy
  have hlm := List.mem_of_getElem? hli
  obtain ⟨h9, hln⟩ := hr.ls line hlm
  obtain ⟨hw8, hwc⟩ := hr.words ok sm line hlm
  rw [drop_filter hli] at hst
  refine wG_name 2 ?_ nd
  refine wSs_cons (wS_fldadd TX.cls_Source TX.na_Source_line (wE_name 1 rfl ?_))
  refine ⟨p, c.dx, _, (i : Int), rfl, sa.ob, rfl, ?_⟩
  refine wE_int ?_
  refine ⟨1, c.dx, _, rfl, sa.ob, by show 9 < 1000; decide, ?_⟩
  have sa := sa.put (L' := ((i + 1 : Nat) : Int)) (S' := S) rfl rfl rfl
  rw [show putL "line" (.int ((i : Int) + 1)) (SF i S c) = SF ((i + 1 : Nat) : Int) S c from rfl]
  refine wSs_cons (wS_set 3 (wE_cal C_words_of ar (by omega) (wA_cons (wE_name 2 rfl (wA_nil ?_)))) nd)
  refine ⟨line, rfl, h9, by omega, ?_⟩
  refine wSs_cons (wS_expr (wE_meth TX.cls_Source CM_Source_need ar (by omega) (wE_name 1 rfl ?_)))
  refine sa.o rfl ?_
  refine wA_cons (wE_cmp (wE_name 3 rfl (wE_non ?_)))
  refine wO_notN ?_
  refine wA_nil ?_
  refine ⟨p, rfl, ?_⟩
  refine wSs_cut (fun Γ' μ' => ∃ (x2 x3 : Option D.A) (c : SC) (S : Src), Γ' = [some (.str w), some (.loc p), x2, x3] ∧ SrcAt CS μ p ((i + 1 : Nat) : Int) S c μ' ∧ S.Sm ∧ Steps S ((((Txt.split w "\n").drop (i + 1)).map wordsOf).filter fun ws => !ws.isEmpty) S') ?_ (fun Γ' μ' hP => ?_)
  refine wS_if (wT_cmp (wE_name 3 rfl (wE_lstF (wA_nil ⟨by show 0 ≤ sizeLine; decide, ?_⟩))))
  refine wO_neL ar.u64 (.lst _) (.lst []) (datWs hwc) datNil ?_
  rw [eqvNil]
  refine ⟨_, rfl, ?_⟩
  refine ⟨fun hk => ?_, fun hk => ?_⟩
  have hne : wordsOf line ≠ [] := fun z => by rw [z] at hk; simp at hk
  rw [if_neg hne] at hst
  obtain ⟨S1, hs1, hs2⟩ : ∃ S1, Step S (wordsOf line) S1 ∧ Steps S1 ((((Txt.split w "\n").drop (i + 1)).map wordsOf).filter fun ws => !ws.isEmpty) S' := by
    cases hst with
    | cons a b => exact ⟨_, a, b⟩
  refine wSs_cons (wS_expr (wE_meth TX.cls_Source CM_Source_take ar (by omega) (wE_name 1 rfl ?_)))
  refine sa.o rfl ?_
  refine wA_cons (wE_name 3 rfl (wA_nil ?_))
  refine ⟨μ, p, _, S, S1, c, wordsOf line, rfl, sa, hs1, trivial, ⟨by omega, fun x hx => (hwc x hx).2⟩, hsm, fun c1 μ2 sa2 => ?_⟩
  refine wSs_nil ?_
  exact ⟨_, _, c1, S1, rfl, sa2, hs1.sm hsm, hs2⟩
  have he : wordsOf line = [] := by
    cases h : wordsOf line with
    | nil => rfl
    | cons a b => rw [h] at hk; simp at hk
  rw [if_pos he, List.nil_append] at hst
  refine wSs_nil ?_
  exact ⟨_, _, c, S, rfl, sa, hsm, hst⟩
  refine wSs_nil ?_
  exact hP
  obtain ⟨x2, x3, c, S, rfl, sa, hsm, hst⟩ := hI
  rw [List.length_map, List.drop_length] at hst
  have eS : S = S' := by
    cases hst with
    | nil => rfl
  subst eS
  refine wSs_cons (wS_fldadd TX.cls_Source TX.na_Source_line (wE_name 1 rfl ?_))
  refine ⟨p, c.dx, _, _, rfl, sa.ob, rfl, ?_⟩
  refine wE_int ?_
  refine ⟨1, c.dx, _, rfl, sa.ob, by show 9 < 1000; decide, ?_⟩
  generalize hL : ((((Txt.split w "\n").map D.A.str).length : Nat) : Int) + 1 = L2
  have sa := sa.put (L' := L2) (S' := S) rfl rfl rfl
  rw [show putL "line" (.int L2) (SF ((((Txt.split w "\n").map D.A.str).length : Nat) : Int) S c) = SF L2 S c from rfl]
  refine wSs_cons (wS_expr (wE_meth TX.cls_Source CM_Source_need ar (by omega) (wE_name 1 rfl ?_)))
  refine sa.o rfl ?_
  refine wA_cons (wE_cmp (wE_fld TX.cls_Source TX.na_Source_whole (wE_name 1 rfl ?_)))
  refine sa.f (y := g.a) (by show some (whlA S.whole) = _; rw [hwh]; rfl) ?_
  refine wE_non ?_
  refine wO_notN ?_
  refine wA_nil ?_
  refine ⟨p, rfl, ?_⟩
  refine wSs_cons (wS_ret (wE_make CK_Program ar (by omega) (wA_cons (wE_fld TX.cls_Source TX.na_Source_whole (wE_name 1 rfl ?_)))))
  refine sa.f (y := g.a) (by show some (whlA S.whole) = _; rw [hwh]; rfl) ?_
  refine wA_nil ?_
  refine fun p2 dx2 np2 => ⟨p2, dx2, g, rfl, Mu.upd_same, ok, fun μ4 at1 b1 => ⟨rfl, ?_⟩⟩
  exact q p2 _ at1 (sa.sub.trans (b1.made2 np2))

end
end D

set_option Elab.async false
set_option linter.all false
set_option maxRecDepth 100000
set_option maxHeartbeats 4000000
namespace D
open PySem PySem.Spec PyProof.Rows L2
local macro_rules | `(tactic| walk_at "mul") => `(tactic| first | refine wO_mul (mulR (by first | decide | omega) (by first | decide | omega)) ?_ | refine wO_mul (mulL (by first | decide | omega) (by first | decide | omega)) ?_)
local macro_rules | `(tactic| walk_at "mod") => `(tactic| refine wO_mod (by first | decide | omega) ?_)
local macro_rules | `(tactic| walk_at "fdiv") => `(tactic| refine wO_fdiv (by first | decide | omega) (divS (by first | decide | omega)) ?_)
local macro_rules | `(tactic| walk_at "ix") => `(tactic| first | refine wI_tup (by rfl) ?_ | refine wI_lst (by rfl) ?_)
local macro_rules | `(tactic| walk_at "sl") => `(tactic| first | refine wSl_tup ?_ | refine wSl_lstF ?_)
local macro_rules | `(tactic| walk_at "obj") => `(tactic| refine ⟨_, _, _, rfl, by assumption, rfl, ?_⟩)
local macro_rules | `(tactic| walk_at "len") => `(tactic| first | refine wC_len (.tup _) ?_ | refine wC_len (.lst _) ?_ | refine wC_len (.loc (by assumption)) ?_)
section
variable {P : Program} {w : World} {K : PySem.W.Frag} {mg : Str → Option Value} {base : Heap} {CL CP CS pT : Addr}
abbrev s__law_wide_word : Stmt := topS 63
abbrev N__law_wide_word : List Str := ["_law_m", "_law_word_here", "_law_top", "_law_stroke", "_law_below", "_law_more"]
theorem sc__law_wide_word : FnScope N__law_wide_word ["_law_m", "_law_word_here"] (defScope s__law_wide_word) := ⟨rfl, rfl, rfl, by decide +kernel, rfl, by decide +kernel, by decide +kernel⟩
def c__law_wide_word : AC := fun xs μ Q _ => ∃ (m l : Addr) (c : Nat) (rm : Int) (mo : Option (List Str)) (w : Str), xs = [.loc m, .str w] ∧ Lx m l c rm mo μ ∧ c < 2 ^ 37 ∧ WordK w ∧ w.length ≤ 640 ∧ ∀ (w' : Str) (μ' : Mu), WideW w w' → Lx m l (c + 2) rm mo μ' → Ls m l μ μ' → Q (.str w') μ'
theorem ok__law_wide_word {n : Nat}  {f : Addr} {fd : FuncData} (TX : Txt K mg w CL CP CS pT) (C__law_draw : Cal P w K mg base n "_law_draw" c__law_draw) (F : Fun K "_law_wide_word" "_law_wide_word" s__law_wide_word f fd) : FnD P w K mg base CX0 (n + 1) f fd ["_law_m", "_law_word_here"] c__law_wide_word := by
  refine fnD F sc__law_wide_word (fun xs μ Q E hc => by obtain ⟨m, l, c, rm, mo, w, rfl, lw, hc, hwk, hwl, q⟩ := hc; rfl) (fun cdv Ao outer s H E xs μ Q E0 ar hc => ?_)
  obtain ⟨m, l, c, rm, mo, w, rfl, lw, hc, hwk, hwl, q⟩ := hc
  have nd := sc__law_wide_word.nd
  refine wSs_cons (wS_asg (wE_m1 PySem.F.slot_str_partition PySem.F.type_str_partition (wE_name 1 rfl ⟨_, rfl, (wE_str ?_)⟩)))
  refine wM_partition (by decide) (szOk (by omega)) ?_
  refine wG_tup (wGs_cons (wG_name 2 (wGs_cons (wG_name 3 (wGs_cons (wG_name 4 (wGs_nil (wSs_cons (wS_if ?_))) nd)) nd)) nd))
  refine wT.imp (QB := fun k μ' => (k = false → ∃ a b : Int, Fr a b ∧ a.natAbs ≤ 10 ^ 20 ∧ b ≤ 9 ∧ b ≠ 1 ∧ w = ofI a ++ "/" ++ ofI b) ∧ Lx m l (c + 1) rm mo μ' ∧ Ls m l μ μ') ?_ (fun k μ' hq => ?_)
  refine wT_chain (wW_or (wT_cmp (wE_name 3 rfl (wE_str ?_))))
  refine wO_eqS ?_
  refine ⟨_, rfl, ?_⟩
  refine ⟨fun hk => ?_, fun hk => ?_⟩
  · exact ⟨(fun z => nomatch z), lw.up (by omega), Ls.refl _⟩
  have hfr : ∃ a b : Int, Fr a b ∧ a.natAbs ≤ 10 ^ 20 ∧ b ≤ 9 ∧ b ≠ 1 ∧ w = ofI a ++ "/" ++ ofI b := by
    rcases hwk with h | h
    · exact absurd (by rw [TL.partition_none strokeL h]; rfl) (of_decide_eq_false hk)
    · exact h
  refine wW_or1 (wT_cmp (wE_cal C__law_draw ar (by omega) (wA_cons (wE_name 0 rfl (wA_cons (wE_int (wA_nil ?_)))))))
  refine ⟨m, l, 2, c, _, _, rfl, by decide, by decide, lw, by omega, fun r1 μ1 a0 a1 lw1 ls1 => ?_⟩
  refine wE_int ?_
  refine wO_eqI ?_
  refine ⟨_, rfl, ?_⟩
  exact ⟨fun _ => hfr, lw1, ls1⟩
  obtain ⟨hfr, lw1, ls1⟩ := hq
  refine ⟨fun hk => ?_, fun hk => ?_⟩
  refine wSs_cons (wS_ret (wE_name 1 rfl ?_))
  exact q w _ (.inl rfl) (lw1.up (by omega)) ls1
  obtain ⟨a, b, hf, h1, h2, h3, rfl⟩ := hfr hk
  rw [TL.partition_app strokeL (b := ofI b) (noStroke a)]
  refine wSs_nil ?_
  refine wSs_cons (wS_set 5 (wE_bin (wE_int (wE_cal C__law_draw ar (by omega) (wA_cons (wE_name 0 rfl (wA_cons (wE_int (wA_nil ?_)))))))) nd)
  refine ⟨m, l, 3, _, _, _, rfl, by decide, by decide, lw1, by omega, fun r μ2 b0 b1 lw2 ls2 => ?_⟩
  obtain ⟨e1, e2⟩ := wide_bd (k := 2 + r) hf h1 h2 (by omega) (by omega)
  have ha22 : a.natAbs < 10 ^ 22 := Nat.lt_of_le_of_lt h1 (by decide)
  have hb22 : b.natAbs < 10 ^ 22 := Nat.lt_of_le_of_lt (show b.natAbs ≤ 9 by have := hf.pos; omega) (by decide)
  have g22 : ∀ {i : Int}, i.natAbs < 10 ^ 22 → i.natAbs.log2 < 1920 := fun {i} h => by
    by_cases h0 : i.natAbs = 0
    · rw [h0]; decide
    · have h1 : i.natAbs.log2 < 80 := (Nat.log2_lt h0).mpr (Nat.lt_of_lt_of_le h (by decide))
      omega
  refine wO_add ?_
  refine wSs_cons (wS_ret (wE_bin (wE_bin (wE_callTy (T := "str") TX.b_str (by decide +kernel) (wA_cons (wE_bin (wE_callTy (T := "int") TX.b_int (by decide +kernel) (wA_cons (wE_name 2 rfl (wA_nil ?_))))))))))
  refine wC_intS (int_ofI ha22) (by have := len_i22 ha22; show (ofI a).length ≤ 640; omega) ?_
  refine wE_name 5 rfl ?_
  walk_at "mul"
  refine wA_nil ?_
  refine wC_strI (g22 e1) ?_
  refine wE_str ?_
  refine wO_addS (szOk (by have := len_i22 e1; have e3 : ("/" : Str).length = 1 := (by decide); show (ofI (a * (2 + r))).length + _ ≤ _; omega)) ?_
  refine wE_callTy (T := "str") TX.b_str (by decide +kernel) (wA_cons (wE_bin (wE_callTy (T := "int") TX.b_int (by decide +kernel) (wA_cons (wE_name 4 rfl (wA_nil ?_))))))
  refine wC_intS (int_ofI hb22) (by have := len_i22 hb22; show (ofI b).length ≤ 640; omega) ?_
  refine wE_name 5 rfl ?_
  walk_at "mul"
  refine wA_nil ?_
  refine wC_strI (g22 e2) ?_
  refine wO_addS (szOk (by have h4 := len_i22 e1; have h5 := len_i22 e2; have e3 : ("/" : Str).length = 1 := (by decide); rw [Str.length_append]; show (ofI (a * (2 + r))).length + _ + (ofI (b * (2 + r))).length ≤ _; omega)) ?_
  exact q _ _ (.inr ⟨a, b, 2 + r, hf, h1, h2, h3, by omega, by omega, rfl, rfl⟩) lw2 (ls1.trans ls2)

abbrev s__law_wide : Stmt := topS 64
abbrev N__law_wide : List Str := ["_law_m", "_law_lines_here", "_law_found", "_law_line", "_law_words", "_law_word_here"]
theorem sc__law_wide : FnScope N__law_wide ["_law_m", "_law_lines_here"] (defScope s__law_wide) := ⟨rfl, rfl, rfl, by decide +kernel, rfl, by decide +kernel, by decide +kernel⟩
def c__law_wide : AC := fun xs μ Q _ => ∃ (m l : Addr) (c : Nat) (rm : Int) (mo : Option (List Str)) (g : Pg), xs = [.loc m, .lst ((g.ls.map lineT).map D.A.str)] ∧ Lx m l c rm mo μ ∧ c < 2 ^ 36 ∧ g.ok ∧ g.sm ∧ ∀ (w : Str) (μ' : Mu), Rds w g → Lx m l (c + 10000) rm mo μ' → Ls m l μ μ' → Q (.str w) μ'
theorem str_of {l : List Str} {y : D.A} (h : y ∈ l.map D.A.str) : ∃ w ∈ l, y = .str w := by
  obtain ⟨w, h1, h2⟩ := List.mem_map.mp h
  exact ⟨w, h1, h2.symm⟩
theorem ok__law_wide {n : Nat}  {f : Addr} {fd : FuncData} (TX : Txt K mg w CL CP CS pT) (C__law_wide_word : Cal P w K mg base n "_law_wide_word" c__law_wide_word) (C__law_draw : Cal P w K mg base n "_law_draw" c__law_draw) (F : Fun K "_law_wide" "_law_wide" s__law_wide f fd) : FnD P w K mg base CX0 (n + 1) f fd ["_law_m", "_law_lines_here"] c__law_wide := by
  refine fnD F sc__law_wide (fun xs μ Q E hc => by obtain ⟨m, l, c, rm, mo, g, rfl, lw, hc, ok, sm, q⟩ := hc; rfl) (fun cdv Ao outer s H E xs μ Q E0 ar hc => ?_)
  obtain ⟨m, l, c, rm, mo, g, rfl, lw, hc, ok, sm, q⟩ := hc
  obtain ⟨hL, hN⟩ := Pg.lens ok sm
  have hC := Pg.clean ok
  have hK := Pg.allw wordK ok sm
  have hWC := Pg.wordC ok sm
  have nd := sc__law_wide.nd
  refine wSs_cons (wS_set 2 (wE_lstF (wA_nil ⟨by show 0 ≤ sizeLine; decide, (wSs_cons (wS_for (wIt_list (wE_name 1 rfl ⟨_, rfl, ?_⟩))))⟩)) nd)
  refine ⟨fun i Γ' μ' => ∃ (F : List Str) (x3 x4 x5 : Option D.A), Γ' = [some (.loc m), some (.lst ((g.ls.map lineT).map D.A.str)), some (.lst (F.map D.A.str)), x3, x4, x5] ∧ WLs (g.ls.take i) F ∧ F.length ≤ 2 * i ∧ Lx m l (c + 24 * i) rm mo μ' ∧ Ls m l μ μ' ∧ (i ≠ 0 → F ≠ []), ⟨[], _, _, _, rfl, WLs.nil, by simp, lw, Ls.refl _, fun z => absurd rfl z⟩, fun i y Γ' μ' hy hI => ?_, fun Γ' μ' hI => ?_⟩
  obtain ⟨F, x3, x4, x5, rfl, hF, hFl, lwi, lsi, _⟩ := hI
  obtain ⟨line, hli, rfl⟩ := map_at hy
  obtain ⟨ws, hws, rfl⟩ := map_at hli
  have hi := (List.getElem?_eq_some_iff.mp hws).1
  have hwm := List.mem_of_getElem? hws
  have hln : (lineT ws).length ≤ 32008 := len_line (hL ws hwm).1 (hL ws hwm).2
  have etk : g.ls.take (i + 1) = g.ls.take i ++ [ws] := by rw [List.take_add_one, hws]; rfl
  have hw8 := (hL ws hwm).1
  refine wG_name 3 ?_ nd
  refine wSs_cons (wS_setLc [("_law_word_here", 5)] 4 (wIt_list (wE_m1 PySem.F.slot_str_split PySem.F.type_str_split (wE_name 3 rfl ⟨_, rfl, (wE_str ?_)⟩))) nd (blkOk_by (N := N__law_wide) (sc := defScope s__law_wide) (by decide +kernel)) (sw_true rfl rfl rfl (by decide +kernel)))
  refine wM_split (by decide) (szOk (by omega)) ?_
  rw [split_line (hC ws hwm).1 (hC ws hwm).2]
  refine ⟨_, rfl, ?_⟩
  refine ⟨szOk (by rw [List.length_map]; omega), fun j acc μ'' => ∃ ws' : List Str, acc = ws'.map D.A.str ∧ W2 WideW (ws.take j) ws' ∧ Lx m l (c + 24 * i + 2 * j) rm mo μ'' ∧ Ls m l μ μ'', ⟨[], rfl, W2.nil, lwi, lsi⟩, fun j y acc μ'' hy2 hJ s0 H0 C cl fp => ?_, fun acc μ'' hJ pl npl => ?_⟩
  obtain ⟨ws', rfl, hw2, lwj, lsj⟩ := hJ
  obtain ⟨w, hwj, rfl⟩ := map_at hy2
  have hj := (List.getElem?_eq_some_iff.mp hwj).1
  have hwmem := List.mem_of_getElem? hwj
  refine wGw_name 5 (fun s0 H0 C cl fp => (wE_cal C__law_wide_word ar.bk (by omega) (wA_cons (wE_name 0 rfl (wA_cons (wE_name 5 rfl (wA_nil ?_))))))) nd
  refine ⟨m, l, _, _, _, w, rfl, lwj, by omega, hK ws hwm w hwmem, (hWC ws hwm w hwmem).2, fun w' μ3 hww lw3 ls3 => ?_⟩
  refine ⟨ws' ++ [w'], by simp, ?_, lw3, lsj.trans ls3⟩
  rw [List.take_add_one, hwj]
  exact hw2.app (.cons hww .nil)
  obtain ⟨ws', rfl, hw2, lwj, lsj⟩ := hJ
  rw [List.length_map] at lwj hw2
  rw [List.take_length] at hw2
  have lwk := Lx.new (o := .lst (ws'.map D.A.str)) lwj npl
  have lsk := Ls.new (o := .lst (ws'.map D.A.str)) lsj npl
  have hpl : (μ''.upd pl (.lst (ws'.map D.A.str))) pl = some (.lst (ws'.map D.A.str)) := Mu.upd_same
  have hwc' : ∀ w ∈ ws', WordC w := fun w hw => by
    obtain ⟨y, hy3, hyw⟩ := hw2.mem w hw
    exact (hWC ws hwm y hy3).wide hyw
  have hne : ws' ≠ [] := fun z => by
    rw [z] at hw2
    have := hw2.len
    exact (hC ws hwm).1 (List.length_eq_zero_iff.mp (by simpa using this.symm))
  have hl8 : ws'.length ≤ 8 := by rw [hw2.len]; exact hw8
  have off := lwj.off npl
  refine wSs_cons (wS_set 3 (wE_bin (wE_bin (wE_str (wE_cal C__law_draw ar (by omega) (wA_cons (wE_name 0 rfl (wA_cons (wE_int (wA_nil ?_))))))))) nd)
  refine ⟨m, l, 3, _, _, _, rfl, by decide, by decide, lwk, by omega, fun r1 μ1 a0 a1 lw1 ls1 => ?_⟩
  obtain ⟨mo1, mt1, ml1⟩ := mul_sp (n := r1) a0 (by omega)
  refine wO_mulS mo1 ?_
  refine wE_m1 PySem.F.slot_str_join PySem.F.type_str_join (wE_bin (wE_str (wE_bin (wE_int (wE_cal C__law_draw ar (by omega) (wA_cons (wE_name 0 rfl (wA_cons (wE_int (wA_nil ?_))))))))))
  refine ⟨m, l, 3, _, _, _, rfl, by decide, by decide, lw1, by omega, fun r2 μ2 b0 b1 lw2 ls2 => ?_⟩
  refine wO_add ?_
  obtain ⟨mo2, mt2, ml2⟩ := mul_sp (n := 1 + r2) (by omega) (by omega)
  refine wO_mulS mo2 ?_
  refine ⟨_, rfl, (wE_name 4 rfl ?_)⟩
  have hp2 := ls2 pl _ off.1 off.2 (ls1 pl _ off.1 off.2 hpl)
  have hsum := sum_le fun w hw => (hwc' w hw).2
  have h640 : 640 * ws'.length ≤ 640 * 8 := Nat.mul_le_mul_left _ hl8
  have h3 : ws'.length * (Txt.mul " " (1 + r2)).length ≤ 8 * 3 := Nat.mul_le_mul hl8 ml2
  refine wM_join (ys := ws') (.inl (.loc hp2)) (by omega) ?_
  have hjl := (wide_line (tail := "") hne hwc' hl8 a0 (by omega) (show 1 ≤ 1 + r2 by omega) (by omega) (by decide)).2.2.2
  rw [Str.length_append, show ("" : Str).length = 0 by decide, Nat.add_zero, Str.length_append] at hjl
  refine wO_addS (szOk (by omega)) ?_
  refine wSs_cons (wS_set 3 (wE_bin (wE_name 3 rfl (wE_ix (wE_lstF (wA_cons (wE_str (wA_cons (wE_str (wA_cons (wE_str (wA_cons (wE_str (wA_cons (wE_str (wA_nil ⟨by show 5 ≤ sizeLine; decide, (wE_cal C__law_draw ar (by omega) (wA_cons (wE_name 0 rfl (wA_cons (wE_int (wA_nil ?_))))))⟩))))))))))))))) nd)
  refine ⟨m, l, 5, _, _, _, rfl, by decide, by decide, lw2, by omega, fun r3 μ3 c0 c1 lw3 ls3 => ?_⟩
  obtain ⟨y1, hy1, ey1⟩ := atI_ex (xs := [D.A.str "", .str " ", .str "#", .str " # out a", .str "  # = {}"]) c0 (by simpa using c1)
  obtain ⟨tail, htail, rfl⟩ := str_of (l := [("" : Str), " ", "#", " # out a", "  # = {}"]) hy1
  obtain ⟨lk1, lk2, lk3, lk4⟩ := wide_line (tail := tail) hne hwc' hl8 a0 (by omega) (show 1 ≤ 1 + r2 by omega) (by omega) htail
  refine wI_lst ey1 ?_
  refine wO_addS (szOk (by rw [← Str.length_append]; omega)) ?_
  refine wSs_cons (wS_set 2 (wE_bin (wE_bin (wE_name 2 rfl (wE_bin (wE_lstF (wA_cons (wE_ix (wE_lstF (wA_cons (wE_str (wA_cons (wE_str (wA_cons (wE_str (wA_cons (wE_str (wA_nil ⟨by show 4 ≤ sizeLine; decide, (wE_cal C__law_draw ar (by omega) (wA_cons (wE_name 0 rfl (wA_cons (wE_int (wA_nil ?_))))))⟩))))))))))))))))) nd)
  refine ⟨m, l, 4, _, _, _, rfl, by decide, by decide, lw3, by omega, fun r4 μ4 d0 d1 lw4 ls4 => ?_⟩
  obtain ⟨y2, hy2, ey2⟩ := atI_ex (xs := [D.A.str "", .str "   ", .str "# in a", .str " #5"]) d0 (by simpa using d1)
  obtain ⟨v, hv, rfl⟩ := str_of (l := [("" : Str), "   ", "# in a", " #5"]) hy2
  refine wI_lst ey2 ?_
  refine wA_nil ⟨by show 1 ≤ sizeLine; decide, (wE_bin (wE_cal C__law_draw ar (by omega) (wA_cons (wE_name 0 rfl (wA_cons (wE_int (wA_nil ?_)))))))⟩
  refine ⟨m, l, 4, _, _, _, rfl, by decide, by decide, lw4, by omega, fun r5 μ5 e0 e1 lw5 ls5 => ?_⟩
  refine wE_int ?_
  walk_at "fdiv"
  refine wO_repF (.lst _) (by omega) (by omega) (szOk (by simp only [List.length_cons, List.length_nil]; omega)) ?_
  rw [repl_map]
  refine wO_catF (.lst _) (.lst _) (szOk (by simp only [List.length_map, List.length_replicate]; omega)) ?_
  refine wE_lstF (wA_cons (wE_name 3 rfl (wA_nil ⟨by show 1 ≤ sizeLine; decide, ?_⟩)))
  refine wO_catF (.lst _) (.lst _) (szOk (by simp only [List.length_append, List.length_map, List.length_replicate, List.length_cons, List.length_nil]; omega)) ?_
  refine wSs_nil ?_
  have hvv := void_line (v := v) (by
    simp only [List.mem_cons, List.not_mem_nil, or_false] at hv
    rcases hv with rfl | rfl | rfl | rfl <;> decide)
  rw [show List.map D.A.str F ++ List.map D.A.str (List.replicate (r5 / 3).toNat v) ++ [D.A.str (Txt.mul " " r1 ++ Txt.join (Txt.mul " " (1 + r2)) ws' ++ tail)] = (F ++ List.replicate (r5 / 3).toNat v ++ [Txt.mul " " r1 ++ Txt.join (Txt.mul " " (1 + r2)) ws' ++ tail]).map D.A.str by simp only [List.map_append, List.map_cons, List.map_nil]]
  refine ⟨_, _, _, _, rfl, ?_, ?_, lw5.up (by omega), ((((lsk.trans ls1).trans ls2).trans ls3).trans ls4).trans ls5, fun _ => by simp⟩
  · rw [etk]
    exact (hF.void fun x hx => by rw [List.eq_of_mem_replicate hx]; exact hvv).line hw2 hne lk1 ⟨lk2, lk3, lk4⟩
  · simp only [List.length_append, List.length_replicate, List.length_cons, List.length_nil]; omega
  obtain ⟨F, x3, x4, x5, rfl, hF, hFl, lwi, lsi, hFne⟩ := hI
  rw [List.length_map, List.length_map] at hFl lwi hF hFne
  rw [List.take_length] at hF
  have hgne : g.ls.length ≠ 0 := fun z => by
    have := List.length_eq_zero_iff.mp z
    unfold Pg.ls at this
    simp at this
  refine wSs_cons (wS_ret (wE_m1 PySem.F.slot_str_join PySem.F.type_str_join (wE_str ⟨_, rfl, (wE_bin (wE_name 2 rfl (wE_bin (wE_lstF (wA_cons (wE_ix (wE_lstF (wA_cons (wE_str (wA_cons (wE_str (wA_cons (wE_str (wA_cons (wE_str (wA_nil ⟨by show 4 ≤ sizeLine; decide, (wE_cal C__law_draw ar (by omega) (wA_cons (wE_name 0 rfl (wA_cons (wE_int (wA_nil ?_))))))⟩))))))))))))))))⟩)))
  refine ⟨m, l, 4, _, _, _, rfl, by decide, by decide, lwi, by omega, fun r4 μ4 d0 d1 lw4 ls4 => ?_⟩
  obtain ⟨y2, hy2, ey2⟩ := atI_ex (xs := [D.A.str "", .str "  ", .str "# in a", .str " #"]) d0 (by simpa using d1)
  obtain ⟨v, hv, rfl⟩ := str_of (l := [("" : Str), "  ", "# in a", " #"]) hy2
  have hvv := void_line (v := v) (by
    simp only [List.mem_cons, List.not_mem_nil, or_false] at hv
    rcases hv with rfl | rfl | rfl | rfl <;> decide)
  refine wI_lst ey2 ?_
  refine wA_nil ⟨by show 1 ≤ sizeLine; decide, (wE_cal C__law_draw ar (by omega) (wA_cons (wE_name 0 rfl (wA_cons (wE_int (wA_nil ?_))))))⟩
  refine ⟨m, l, 3, _, _, _, rfl, by decide, by decide, lw4, by omega, fun r5 μ5 e0 e1 lw5 ls5 => ?_⟩
  refine wO_repF (.lst _) (by omega) (by omega) (szOk (by simp only [List.length_cons, List.length_nil]; omega)) ?_
  rw [repl_map]
  refine wO_catF (.lst _) (.lst _) (szOk (by simp only [List.length_map, List.length_replicate]; omega)) ?_
  rw [← List.map_append]
  have hF2 := hF.void (F2 := List.replicate r5.toNat v) fun x hx => by rw [List.eq_of_mem_replicate hx]; exact hvv
  have hF2l : (F ++ List.replicate r5.toNat v).length ≤ 402 := by rw [List.length_append, List.length_replicate]; omega
  have hsum := sum_le fun w hw => (hF2.ok w hw).2.2
  have hmul : 20000 * (F ++ List.replicate r5.toNat v).length ≤ 20000 * 402 := Nat.mul_le_mul_left _ hF2l
  refine wM_join (ys := F ++ List.replicate r5.toNat v) (.inl (.lst _)) (by rw [show ("\n" : Str).length = 1 by decide]; omega) ?_
  exact q _ _ (hF2.rds (by simp [hFne hgne]) hF2l) (lw5.up (by omega)) ((lsi.trans ls4).trans ls5)

end
end D

set_option Elab.async false
set_option linter.all false
set_option maxRecDepth 100000
set_option maxHeartbeats 4000000
namespace D
open PySem PySem.Spec PyProof.Rows L2
local macro_rules | `(tactic| walk_at "mul") => `(tactic| first | refine wO_mul (mulR (by first | decide | omega) (by first | decide | omega)) ?_ | refine wO_mul (mulL (by first | decide | omega) (by first | decide | omega)) ?_)
local macro_rules | `(tactic| walk_at "mod") => `(tactic| refine wO_mod (by first | decide | omega) ?_)
local macro_rules | `(tactic| walk_at "fdiv") => `(tactic| refine wO_fdiv (by first | decide | omega) (divS (by first | decide | omega)) ?_)
local macro_rules | `(tactic| walk_at "ix") => `(tactic| first | refine wI_tup (by rfl) ?_ | refine wI_lst (by rfl) ?_)
local macro_rules | `(tactic| walk_at "sl") => `(tactic| first | refine wSl_tup ?_ | refine wSl_lstF ?_)
local macro_rules | `(tactic| walk_at "obj") => `(tactic| refine ⟨_, _, _, rfl, by assumption, rfl, ?_⟩)
local macro_rules | `(tactic| walk_at "len") => `(tactic| first | refine wC_len (.tup _) ?_ | refine wC_len (.lst _) ?_ | refine wC_len (.loc (by assumption)) ?_)
section
variable {P : Program} {w : World} {K : PySem.W.Frag} {mg : Str → Option Value} {base : Heap} {CL CP CS pT : Addr}
abbrev s_law : Stmt := topS 65
abbrev N_law : List Str := ["_law_script", "_law_m", "_law_k", "_law_plain", "_law_program_here", "_law_lines_here", "_law_text", "_law_one", "_law_found"]
theorem sc_law : FnScope N_law ["_law_script"] (defScope s_law) := ⟨rfl, rfl, rfl, by decide +kernel, rfl, by decide +kernel, by decide +kernel⟩
def c_law : AC := fun xs μ Q _ => ∃ ns : List Int, xs = [.fls (ns.map D.A.int)] ∧ ns.length ≤ 63 ∧ ∀ μ', Q (.bl true) μ'
theorem PgAt.ls {CP p m l : Addr} {g : Pg} {c : Nat} {rm : Int} {mo : Option (List Str)} {μ μ' : Mu} (h : PgAt CP p g μ) (lw : Lx m l c rm mo μ) (s : Ls m l μ μ') : PgAt CP p g μ' := by
  obtain ⟨dx, rp, h1, h2, h3⟩ := h
  obtain ⟨⟨fs, left, a, g1, g2, _⟩, ne⟩ := lw
  have n1 : p ≠ m := fun e => by rw [e, g1] at h1; cases h1
  have n2 : p ≠ l := fun e => by rw [e, g2] at h1; cases h1
  have n3 : rp ≠ l := fun e => by rw [e, g2] at h2; cases h2
  have n4 : rp ≠ m := fun e => by
    rw [e, g1] at h2
    exact PgAtLs_ne (MO.dic.inj (Option.some.inj h2)).symm
  exact ⟨dx, rp, s _ _ n1 n2 h1, s _ _ n4 n3 h2, h3⟩
theorem ok_law {n : Nat}  {f : Addr} {fd : FuncData} (TX : Txt K mg w CL CP CS pT) (C__law_begun : Cal P w K mg base n "_law_begun" c__law_begun) (C__law_program : Cal P w K mg base n "_law_program" c__law_program) (C__law_lines : Cal P w K mg base n "_law_lines" c__law_lines) (C_shown : Cal P w K mg base n "shown" (c_shown CP)) (C__law_wide : Cal P w K mg base n "_law_wide" c__law_wide) (C_read : Cal P w K mg base n "read" (c_read CP)) (CK_Program : CalK P w K mg base n "Program" CP (c_Program___init__ CP)) (CM_Program_plain : CalM P w K mg base n CP "plain" (c_Program_plain CP)) (CM_Program_size : CalM P w K mg base n CP "size" (c_Program_size CP)) (F : Fun K "law" "law" s_law f fd) : FnD P w K mg base CX0 (n + 2) f fd ["_law_script"] (c_law) := by
  refine fnD F sc_law (fun xs μ Q E hc => by obtain ⟨ns, rfl, hn, q⟩ := hc; rfl) (fun cdv Ao outer s H E xs μ Q E0 ar hc => ?_)
  obtain ⟨ns, rfl, hn, q⟩ := hc
  have nd := sc_law.nd
  refine wSs_cons (wS_set 1 (wE_cal C__law_begun ar (by omega) (wA_cons (wE_name 0 rfl (wA_nil ?_)))) nd)
  refine ⟨ns, rfl, hn, fun m l μ1 nm lw sb => ?_⟩
  refine wSs_cons (wS_for (wIt_range1 TX.b_range (wA_cons (wE_bin (wE_int (wE_callB (id := "min") TX.b_min (by decide +kernel) (wA_cons (wE_int (wA_cons (wE_callB (id := "len") TX.b_len (by decide +kernel) (wA_cons (wE_name 0 rfl (wA_nil ?_)))))))))))))
  refine wC_len (.fls _) ?_
  rw [List.length_map]
  refine wA_nil ?_
  refine wC_min2 (by rfl) ?_
  generalize hmn : (if (ns.length : Int) < 15 then (ns.length : Int) else 15) = mn
  have m0 : 0 ≤ mn := by rw [← hmn]; split <;> omega
  have m1 : mn ≤ 15 := by rw [← hmn]; split <;> omega
  refine wO_add ?_
  refine wA_nil ⟨_, rfl, by omega, by omega, ?_⟩
  refine ⟨fun i Γ' μ' => ∃ x2 x3 x4 x5 x6 x7 x8 : Option D.A, Γ' = [some (.fls (ns.map D.A.int)), some (.loc m), x2, x3, x4, x5, x6, x7, x8] ∧ ∃ rm mo, Lx m l (i * 80000) rm mo μ', ⟨_, _, _, _, _, _, _, rfl, _, _, lw.up (by omega)⟩, fun i y Γ' μ' hy hI => ?_, fun Γ' μ' hI => ?_⟩
  obtain ⟨x2, x3, x4, x5, x6, x7, x8, rfl, rm, mo, lx⟩ := hI
  obtain ⟨hi, rfl⟩ := rgA_at hy
  have hi2 : i ≤ 16 := by omega
  refine wG_name 2 ?_ nd
  refine wSs_cons (wS_set 3 (wE_cal C__law_program ar (by omega) (wA_cons (wE_name 1 rfl (wA_cons (wE_int (wA_nil ?_)))))) nd)
  refine ⟨m, l, _, _, _, 12, rfl, lx, by omega, by decide, fun g rm1 ns1 μ2 ok sm lx2 ls2 => ?_⟩
  refine wSs_cons (wS_set 4 (wE_make CK_Program ar (by omega) (wA_cons (wE_name 3 rfl (wA_nil ?_)))) nd)
  refine fun p1 dx1 np1 => ⟨p1, dx1, g, rfl, Mu.upd_same, ok, fun μ3 at1 b1 => ⟨rfl, ?_⟩⟩
  have s3 := b1.made2 np1
  have lx3 := lx2.sub s3
  refine wSs_cons (wS_set 5 (wE_cal C__law_lines ar (by omega) (wA_cons (wE_name 3 rfl (wA_nil ?_)))) nd)
  refine ⟨g, rfl, ok, sm, fun μ4 s4 => ?_⟩
  refine wSs_cons (wS_set 6 (wE_cal C_shown ar (by omega) (wA_cons (wE_name 4 rfl (wA_nil ?_)))) nd)
  refine ⟨p1, g, rfl, at1.sub s4, ok, sm, fun μ5 s5 => ?_⟩
  have at5 := (at1.sub s4).sub s5
  have lx5 := (lx3.sub s4).sub s5
  obtain ⟨hL, hN⟩ := Pg.lens ok sm
  refine wSs_cons (wS_if ?_)
  refine wT.imp (QB := fun k μ'' => k = false ∧ μ5 = μ'') ?_ (fun k μ'' hq => ?_)
  refine wT_chain (wW_or (wT_not (wT_val (wE_callB (id := "isinstance") TX.b_isinstance (by decide +kernel) (wA_cons (wE_name 6 rfl (wA_cons (wE_type (n := "str") TX.b_str (by decide +kernel) (wA_nil ?_)))))))))
  refine wC_isi (n := "str") (k := true) rfl rfl ?_
  refine ⟨_, rfl, ?_⟩
  refine ⟨fun hk => ?_, fun hk => ?_⟩
  · exact nomatch hk
  refine wW_or1 (wT_cmp (wE_name 6 rfl (wE_m1 PySem.F.slot_str_join PySem.F.type_str_join (wE_str ⟨_, rfl, (wE_name 5 rfl ?_)⟩))))
  have hll : ∀ w ∈ g.ls.map lineT, w.length ≤ 32008 := fun w hw => by
    obtain ⟨ws, hws, rfl⟩ := List.mem_map.mp hw
    exact len_line (hL ws hws).1 (hL ws hws).2
  have hsum := sum_le hll
  rw [List.length_map] at hsum
  have hmul : 32008 * g.ls.length ≤ 32008 * 200 := Nat.mul_le_mul_left _ hN
  refine wM_join (ys := g.ls.map lineT) (.inl (.lst _)) (by rw [show ("\n" : Str).length = 1 by decide, List.length_map]; omega) ?_
  refine wO_neS ?_
  refine ⟨_, rfl, ?_⟩
  exact ⟨by rw [show Txt.join "\n" (g.ls.map lineT) = g.text from rfl, decide_eq_true rfl]; rfl, rfl⟩
  obtain ⟨rfl, rfl⟩ := hq
  refine ⟨fun hk => ?_, fun hk => ?_⟩
  refine wSs_cons (wS_ret (wE_bl ?_))
  exact nomatch hk
  refine wSs_nil ?_
  refine wSs_cons (wS_for (wIt_list (wE_lstF (wA_cons (wE_name 6 rfl (wA_cons (wE_cal C__law_wide ar (by omega) (wA_cons (wE_name 1 rfl (wA_cons (wE_name 5 rfl (wA_nil ?_))))))))))))
  refine ⟨m, l, _, _, _, g, rfl, lx5, by omega, ok, sm, fun wt μ6 hr6 lx6 ls6 => ?_⟩
  have at6 := at5.ls lx5 ls6
  refine wA_cons (wE_name 6 rfl (wA_nil ⟨by show 3 ≤ sizeLine; decide, ⟨_, rfl, ?_⟩⟩))
  refine ⟨fun j Γ' μ' => ∃ x7 x8 : Option D.A, Γ' = [some (.fls (ns.map D.A.int)), some (.loc m), some (.int (0 + (i : Int))), some g.a, some (.loc p1), some (.lst ((g.ls.map lineT).map D.A.str)), some (.str g.text), x7, x8] ∧ Sub μ6 μ', ⟨_, _, rfl, Sub.refl _⟩, fun j y Γ' μ' hy hI => ?_, fun Γ' μ' hI => ?_⟩
  obtain ⟨x7, x8, rfl, s7⟩ := hI
  obtain ⟨w, rfl, hrw⟩ : ∃ w, y = .str w ∧ Rds w g := by
    have hm := List.mem_of_getElem? hy
    simp only [List.mem_cons, List.not_mem_nil, or_false] at hm
    rcases hm with rfl | rfl | rfl
    · exact ⟨_, rfl, Pg.rds ok sm⟩
    · exact ⟨_, rfl, hr6⟩
    · exact ⟨_, rfl, Pg.rds ok sm⟩
  refine wG_name 7 ?_ nd
  refine wSs_cons (wS_set 8 (wE_cal C_read ar (by omega) (wA_cons (wE_name 7 rfl (wA_nil ?_)))) nd)
  refine ⟨w, g, rfl, hrw, ok, sm, fun p2 μ8 at2 s8 => ?_⟩
  have at8 := (at6.sub s7).sub s8
  obtain ⟨dxa, rpa, ha1, ha2, ha3⟩ := at2
  have at2 : PgAt CP p2 g μ8 := ⟨dxa, rpa, ha1, ha2, ha3⟩
  obtain ⟨dxb, rpb, hb1, hb2, hb3⟩ := at8
  have at8 : PgAt CP p1 g μ8 := ⟨dxb, rpb, hb1, hb2, hb3⟩
  refine wSs_cons (wS_if ?_)
  refine wT.imp (QB := fun k μ'' => k = false ∧ μ8 = μ'') ?_ (fun k μ'' hq => ?_)
  refine wT_chain (wW_or (wT_cmp (wE_callB (id := "repr") TX.b_repr (by decide +kernel) (wA_cons (wE_meth0 TX.cls_Program CM_Program_plain ar (by omega) (wE_name 8 rfl ?_))))))
  refine ⟨p2, dxa, _, rfl, ha1, rfl, ?_⟩
  refine ⟨p2, g, rfl, at2, ?_⟩
  refine wA_nil ?_
  refine wC_repr ar (Pg.show ok sm) ?_
  refine wE_callB (id := "repr") TX.b_repr (by decide +kernel) (wA_cons (wE_name 3 rfl (wA_nil ?_)))
  refine wC_repr ar (Pg.show ok sm) ?_
  refine wO_neS ?_
  refine ⟨_, rfl, ?_⟩
  refine ⟨fun hk => ?_, fun hk => ?_⟩
  · exact absurd hk (by simp)
  refine wW_or1 (wT_cmp (wE_meth0 TX.cls_Program CM_Program_size ar (by omega) (wE_name 8 rfl ?_)))
  refine ⟨p2, dxa, _, rfl, ha1, rfl, ?_⟩
  refine ⟨p2, g, rfl, at2, ?_⟩
  refine wE_meth0 TX.cls_Program CM_Program_size ar (by omega) (wE_name 4 rfl ?_)
  refine ⟨p1, dxb, _, rfl, hb1, rfl, ?_⟩
  refine ⟨p1, g, rfl, at8, ?_⟩
  refine wO_neI ?_
  refine ⟨_, rfl, ?_⟩
  exact ⟨by simp, rfl⟩
  obtain ⟨rfl, rfl⟩ := hq
  refine ⟨fun hk => ?_, fun hk => ?_⟩
  refine wSs_cons (wS_ret (wE_bl ?_))
  exact nomatch hk
  refine wSs_nil ?_
  refine wSs_nil ?_
  exact ⟨_, _, rfl, s7.trans s8⟩
  obtain ⟨x7, x8, rfl, s7⟩ := hI
  refine wSs_nil ?_
  exact ⟨_, _, _, _, _, _, _, rfl, _, _, (lx6.sub s7).up (by omega)⟩
  obtain ⟨x2, x3, x4, x5, x6, x7, x8, rfl, rm, mo, lx⟩ := hI
  refine wSs_cons (wS_ret (wE_bl ?_))
  exact q _

end
end D

set_option Elab.async false
set_option linter.all false
set_option maxRecDepth 100000
set_option maxHeartbeats 4000000
namespace D
open PySem PySem.Spec PyProof.Rows L2
theorem Cal.up {P : Program} {w : World} {K : PySem.W.Frag} {mg : Str → Option Value} {base : Heap} {j k : Nat} {x : Str} {c : AC} (C : Cal P w K mg base j x c) (h : j ≤ k) : Cal P w K mg base k x c := let ⟨f, fd, ps, F, r⟩ := C.ex; ⟨f, fd, ps, F.up h, r⟩
theorem CalM.up {P : Program} {w : World} {K : PySem.W.Frag} {mg : Str → Option Value} {base : Heap} {j k : Nat} {C : Addr} {m : Str} {c : AC} (Dm : CalM P w K mg base j C m c) (h : j ≤ k) : CalM P w K mg base k C m c := let ⟨f, fd, ps, F, r⟩ := Dm.ex; ⟨f, fd, ps, F.up h, r⟩
theorem CalK.up {P : Program} {w : World} {K : PySem.W.Frag} {mg : Str → Option Value} {base : Heap} {j k : Nat} {x : Str} {C : Addr} {c : AC} (Dm : CalK P w K mg base j x C c) (h : j ≤ k) : CalK P w K mg base k x C c := let ⟨f, fd, ps, F, r⟩ := Dm.ex; ⟨f, fd, ps, F.up h, r⟩
def keyS : Value → Option Str
  | .str x _ => some x
  | _ => none
theorem keysLit_each {P : Params} {l : List DictEntry} (h : ∀ e ∈ l, ∃ x t, e.key = .str x t ∧ e.hash = PyData.keyHash P x) : PySem.W.KeysLit P l := by
  induction l with
  | nil => trivial
  | cons e r ih => exact ⟨h e (.head _), ih fun d hd => h d (.tail _ hd)⟩
theorem keysLit_mk {P : Params} {l : List DictEntry} {ks : List Str} (h : l.map (fun d => (keyS d.key, d.hash)) = ks.map (fun k => (some k, PyData.keyHash P k))) : PySem.W.KeysLit P l :=
  keysLit_each fun e he => by
    have m : (keyS e.key, e.hash) ∈ ks.map (fun k => (some k, PyData.keyHash P k)) := h ▸ List.mem_map.mpr ⟨e, he, rfl⟩
    obtain ⟨k, _, q⟩ := List.mem_map.mp m
    obtain ⟨q1, q2⟩ : some k = keyS e.key ∧ PyData.keyHash P k = e.hash := by simpa using q
    cases ek : e.key <;> simp [ek, keyS] at q1
    subst q1; exact ⟨_, _, rfl, q2.symm⟩
theorem item3 {CL : Addr} {xs : List D.A} {μ : Mu} {Q : D.A → Mu → Prop} {E : Value → Option Addr → Mu → Prop} (h : c_Looked_is_item CL 3 xs μ Q E) : c_Looked_is_item_row CL xs μ Q E := by
  rcases item_or h with h | h
  · exact h
  · obtain ⟨p, pp, t, m, Pn, T, k, b, d, rfl, lk, ht, tp, tpp, hm, hT, hlo, hts, ok, q⟩ := h
    simp only [It.ok] at ok
    omega
section
variable {P : Program} {w : World} {K : PySem.W.Frag} {mg : Str → Option Value} {base : Heap}
theorem vac_body {f : Addr} {fd : FuncData} (F : Fun K "_law_body" "_law_body" s__law_body f fd) : FnD P w K mg base CX0 1 f fd ["_law_m", "_law_told", "_law_many", "_law_deep", "_law_parts"] (c__law_body 4) :=
  fnD (k := 0) F sc__law_body (fun xs μ Q E hc => by obtain ⟨m, l, pp, c, rm, ns, T, Pn, ps, many, d, rfl, lw, hc, hTl, hT, hTn, hns, hn1, hn12, hpp, p1, p2, hps, hmany, hlo, hd, q⟩ := hc; rfl) (fun cdv Ao outer s H E xs μ Q E0 ar hc => by
    obtain ⟨m, l, pp, c, rm, ns, T, Pn, ps, many, d, rfl, lw, hc, hTl, hT, hTn, hns, hn1, hn12, hpp, p1, p2, hps, hmany, hlo, hd, q⟩ := hc
    omega)
theorem vac_bl {f : Addr} {fd : FuncData} (F : Fun K "body_lines" "body_lines" s_body_lines f fd) : FnD P w K mg base CX0 1 f fd ["body"] (c_body_lines 4) :=
  fnD (k := 0) F sc_body_lines (fun xs μ Q E hc => by obtain ⟨Pn, d, T, b, rfl, ok, hT, sm, hlo, hd3, hz, q⟩ := hc; rfl) (fun cdv Ao outer s H E xs μ Q E0 ar hc => by
    obtain ⟨Pn, d, T, b, rfl, ok, hT, sm, hlo, hd3, hz, q⟩ := hc
    omega)
theorem vac_lb {f : Addr} {fd : FuncData} (F : Fun K "_law_body_lines" "_law_body_lines" s__law_body_lines f fd) : FnD P w K mg base CX0 1 f fd ["_law_body_here"] (c__law_body_lines 4) :=
  fnD (k := 0) F sc__law_body_lines (fun xs μ Q E hc => by obtain ⟨Pn, d, T, b, rfl, ok, hT, sm, hlo, hd3, hz, q⟩ := hc; rfl) (fun cdv Ao outer s H E xs μ Q E0 ar hc => by
    obtain ⟨Pn, d, T, b, rfl, ok, hT, sm, hlo, hd3, hz, q⟩ := hc
    omega)
end
theorem all_mk {l : PySem.W.OpenLaw} {w : World} {K : PySem.W.Frag} {h : Heap} {mg : Str → Option Value} {fa CL CP CS pT f1 f2 f3 f4 f5 f6 f7 f8 f9 f10 f11 f12 f13 f14 f15 f16 f17 f18 f19 f20 f21 f22 f23 f24 f25 f26 f27 f28 f29 f30 f31 f32 f33 f34 f35 f36 f37 f38 f39 f40 f41 f42 f43 f44 f45 f46 f47 f48 f49 f50 f51 f52 f53 f54 f55 f56 f57 f58 f59 f60 f61 f62 f63 f64 f65 : Addr} (X : K.In h) (G : h.Ns mainGlobals mg) (hfa : mg "law" = some (.ref fa))
    {od1 an1 od2 an2 od3 an3 od4 an4 od5 an5 od6 an6 od7 an7 od8 an8 od9 an9 od10 an10 od11 an11 od12 an12 od13 an13 od14 an14 od15 an15 od16 an16 od17 an17 od18 an18 od19 an19 od20 an20 od21 an21 od22 an22 od23 an23 od24 an24 od25 an25 od26 an26 od27 an27 od28 an28 od29 an29 od30 an30 od31 an31 od32 an32 od33 an33 od34 an34 od35 an35 od36 an36 od37 an37 od38 an38 od39 an39 od40 an40 od41 an41 od42 an42 od43 an43 od44 an44 od45 an45 od46 an46 od47 an47 od48 an48 od49 an49 od50 an50 od51 an51 od52 an52 od53 an53 od54 an54 od55 an55 od56 an56 od57 an57 od58 an58 od59 an59 od60 an60 od61 an61 od62 an62 od63 an63 od64 an64 od65 an65 : Option Addr} {sl1 sl2 sl3 sl4 sl5 sl6 sl7 sl8 sl9 sl10 sl11 sl12 sl13 sl14 sl15 sl16 sl17 sl18 sl19 sl20 sl21 sl22 sl23 sl24 sl25 sl26 sl27 sl28 sl29 sl30 sl31 sl32 sl33 sl34 sl35 sl36 sl37 sl38 sl39 sl40 sl41 sl42 sl43 sl44 sl45 sl46 sl47 sl48 sl49 sl50 sl51 sl52 sl53 sl54 sl55 sl56 sl57 sl58 sl59 sl60 sl61 sl62 sl63 sl64 sl65 : Array (Option Value)} {oc1 kV1 dc1 pm1 cd1 ct1 oc2 kV2 dc2 pm2 cd2 ct2 oc3 kV3 dc3 pm3 cd3 ct3 oc4 kV4 dc4 pm4 cd4 ct4 oc5 kV5 dc5 pm5 cd5 ct5 oc6 kV6 dc6 pm6 cd6 ct6 oc7 kV7 dc7 pm7 cd7 ct7 oc8 kV8 dc8 pm8 cd8 ct8 oc9 kV9 dc9 pm9 cd9 ct9 oc10 kV10 dc10 pm10 cd10 ct10 oc11 kV11 dc11 pm11 cd11 ct11 oc12 kV12 dc12 pm12 cd12 ct12 oc13 kV13 dc13 pm13 cd13 ct13 oc14 kV14 dc14 pm14 cd14 ct14 oc15 kV15 dc15 pm15 cd15 ct15 oc16 kV16 dc16 pm16 cd16 ct16 oc17 kV17 dc17 pm17 cd17 ct17 oc18 kV18 dc18 pm18 cd18 ct18 oc19 kV19 dc19 pm19 cd19 ct19 oc20 kV20 dc20 pm20 cd20 ct20 oc21 kV21 dc21 pm21 cd21 ct21 oc22 kV22 dc22 pm22 cd22 ct22 oc23 kV23 dc23 pm23 cd23 ct23 oc24 kV24 dc24 pm24 cd24 ct24 oc25 kV25 dc25 pm25 cd25 ct25 oc26 kV26 dc26 pm26 cd26 ct26 oc27 kV27 dc27 pm27 cd27 ct27 oc28 kV28 dc28 pm28 cd28 ct28 oc29 kV29 dc29 pm29 cd29 ct29 oc30 kV30 dc30 pm30 cd30 ct30 oc31 kV31 dc31 pm31 cd31 ct31 oc32 kV32 dc32 pm32 cd32 ct32 oc33 kV33 dc33 pm33 cd33 ct33 oc34 kV34 dc34 pm34 cd34 ct34 oc35 kV35 dc35 pm35 cd35 ct35 oc36 kV36 dc36 pm36 cd36 ct36 oc37 kV37 dc37 pm37 cd37 ct37 oc38 kV38 dc38 pm38 cd38 ct38 oc39 kV39 dc39 pm39 cd39 ct39 oc40 kV40 dc40 pm40 cd40 ct40 oc41 kV41 dc41 pm41 cd41 ct41 oc42 kV42 dc42 pm42 cd42 ct42 oc43 kV43 dc43 pm43 cd43 ct43 oc44 kV44 dc44 pm44 cd44 ct44 oc45 kV45 dc45 pm45 cd45 ct45 oc46 kV46 dc46 pm46 cd46 ct46 oc47 kV47 dc47 pm47 cd47 ct47 oc48 kV48 dc48 pm48 cd48 ct48 oc49 kV49 dc49 pm49 cd49 ct49 oc50 kV50 dc50 pm50 cd50 ct50 oc51 kV51 dc51 pm51 cd51 ct51 oc52 kV52 dc52 pm52 cd52 ct52 oc53 kV53 dc53 pm53 cd53 ct53 oc54 kV54 dc54 pm54 cd54 ct54 oc55 kV55 dc55 pm55 cd55 ct55 oc56 kV56 dc56 pm56 cd56 ct56 oc57 kV57 dc57 pm57 cd57 ct57 oc58 kV58 dc58 pm58 cd58 ct58 oc59 kV59 dc59 pm59 cd59 ct59 oc60 kV60 dc60 pm60 cd60 ct60 oc61 kV61 dc61 pm61 cd61 ct61 oc62 kV62 dc62 pm62 cd62 ct62 oc63 kV63 dc63 pm63 cd63 ct63 oc64 kV64 dc64 pm64 cd64 ct64 oc65 kV65 dc65 pm65 cd65 ct65 : Value}
    (gCL : PySem.W.nsIn K mainGlobals "Looked" = some (some (.ref CL))) (pgCL : PySem.W.plainGet K CL Str.empty = true) (hdCL : PySem.W.hasDictIn K CL = true) (poCL : PySem.W.plainOver K CL = true) (saCL : PySem.W.findIn K (.ref CL) "__setattr__" = some (some (.builtin "object.__setattr__"))) (mkCL : PySem.W.makesIn K CL = true) (kcCL : PySem.W.keepIn K (.ref CL) = true)
    (gCP : PySem.W.nsIn K mainGlobals "Program" = some (some (.ref CP))) (pgCP : PySem.W.plainGet K CP Str.empty = true) (hdCP : PySem.W.hasDictIn K CP = true) (poCP : PySem.W.plainOver K CP = true) (saCP : PySem.W.findIn K (.ref CP) "__setattr__" = some (some (.builtin "object.__setattr__"))) (mkCP : PySem.W.makesIn K CP = true) (kcCP : PySem.W.keepIn K (.ref CP) = true)
    (gCS : PySem.W.nsIn K mainGlobals "Source" = some (some (.ref CS))) (pgCS : PySem.W.plainGet K CS Str.empty = true) (hdCS : PySem.W.hasDictIn K CS = true) (poCS : PySem.W.plainOver K CS = true) (saCS : PySem.W.findIn K (.ref CS) "__setattr__" = some (some (.builtin "object.__setattr__"))) (mkCS : PySem.W.makesIn K CS = true) (kcCS : PySem.W.keepIn K (.ref CS) = true)
    (a1 : PySem.W.nsIn K mainGlobals "_law_mixed" = some (some (.ref f1)))
    (l1 : K.lookup f1 = some ⟨oc1, od1, .func (PySem.W.fnOf "_law_mixed" "_law_mixed" (defArgs s__law_mixed) (defBody s__law_mixed) (defScope s__law_mixed) .none kV1 dc1 pm1 an1 cd1 ct1), sl1⟩) (c1 : PySem.W.codeIn K cd1 "_law_mixed" = true) (k1 : PySem.W.keepIn K (.ref f1) = true)
    (a2 : PySem.W.nsIn K mainGlobals "_law_folded" = some (some (.ref f2)))
    (l2 : K.lookup f2 = some ⟨oc2, od2, .func (PySem.W.fnOf "_law_folded" "_law_folded" (defArgs s__law_folded) (defBody s__law_folded) (defScope s__law_folded) .none kV2 dc2 pm2 an2 cd2 ct2), sl2⟩) (c2 : PySem.W.codeIn K cd2 "_law_folded" = true) (k2 : PySem.W.keepIn K (.ref f2) = true)
    (a3 : PySem.W.nsIn K mainGlobals "_law_draw" = some (some (.ref f3)))
    (l3 : K.lookup f3 = some ⟨oc3, od3, .func (PySem.W.fnOf "_law_draw" "_law_draw" (defArgs s__law_draw) (defBody s__law_draw) (defScope s__law_draw) .none kV3 dc3 pm3 an3 cd3 ct3), sl3⟩) (c3 : PySem.W.codeIn K cd3 "_law_draw" = true) (k3 : PySem.W.keepIn K (.ref f3) = true)
    (a4 : PySem.W.nsIn K mainGlobals "_law_begun" = some (some (.ref f4)))
    (l4 : K.lookup f4 = some ⟨oc4, od4, .func (PySem.W.fnOf "_law_begun" "_law_begun" (defArgs s__law_begun) (defBody s__law_begun) (defScope s__law_begun) .none kV4 dc4 pm4 an4 cd4 ct4), sl4⟩) (c4 : PySem.W.codeIn K cd4 "_law_begun" = true) (k4 : PySem.W.keepIn K (.ref f4) = true)
    (a5 : PySem.W.nsIn K mainGlobals "is_whole" = some (some (.ref f5)))
    (l5 : K.lookup f5 = some ⟨oc5, od5, .func (PySem.W.fnOf "is_whole" "is_whole" (defArgs s_is_whole) (defBody s_is_whole) (defScope s_is_whole) .none kV5 dc5 pm5 an5 cd5 ct5), sl5⟩) (c5 : PySem.W.codeIn K cd5 "is_whole" = true) (k5 : PySem.W.keepIn K (.ref f5) = true)
    (a6 : PySem.W.nsIn K mainGlobals "common" = some (some (.ref f6)))
    (l6 : K.lookup f6 = some ⟨oc6, od6, .func (PySem.W.fnOf "common" "common" (defArgs s_common) (defBody s_common) (defScope s_common) .none kV6 dc6 pm6 an6 cd6 ct6), sl6⟩) (c6 : PySem.W.codeIn K cd6 "common" = true) (k6 : PySem.W.keepIn K (.ref f6) = true)
    (a7 : PySem.W.nsIn K mainGlobals "is_fraction" = some (some (.ref f7)))
    (l7 : K.lookup f7 = some ⟨oc7, od7, .func (PySem.W.fnOf "is_fraction" "is_fraction" (defArgs s_is_fraction) (defBody s_is_fraction) (defScope s_is_fraction) .none kV7 dc7 pm7 an7 cd7 ct7), sl7⟩) (c7 : PySem.W.codeIn K cd7 "is_fraction" = true) (k7 : PySem.W.keepIn K (.ref f7) = true)
    (a8 : PySem.W.nsIn K mainGlobals "is_name" = some (some (.ref f8)))
    (l8 : K.lookup f8 = some ⟨oc8, od8, .func (PySem.W.fnOf "is_name" "is_name" (defArgs s_is_name) (defBody s_is_name) (defScope s_is_name) .none kV8 dc8 pm8 an8 cd8 ct8), sl8⟩) (c8 : PySem.W.codeIn K cd8 "is_name" = true) (k8 : PySem.W.keepIn K (.ref f8) = true)
    (a9 : PySem.W.nsIn K mainGlobals "are_names" = some (some (.ref f9)))
    (l9 : K.lookup f9 = some ⟨oc9, od9, .func (PySem.W.fnOf "are_names" "are_names" (defArgs s_are_names) (defBody s_are_names) (defScope s_are_names) .none kV9 dc9 pm9 an9 cd9 ct9), sl9⟩) (c9 : PySem.W.codeIn K cd9 "are_names" = true) (k9 : PySem.W.keepIn K (.ref f9) = true)
    (a10 : PySem.W.nsIn K mainGlobals "are_unlike" = some (some (.ref f10)))
    (l10 : K.lookup f10 = some ⟨oc10, od10, .func (PySem.W.fnOf "are_unlike" "are_unlike" (defArgs s_are_unlike) (defBody s_are_unlike) (defScope s_are_unlike) .none kV10 dc10 pm10 an10 cd10 ct10), sl10⟩) (c10 : PySem.W.codeIn K cd10 "are_unlike" = true) (k10 : PySem.W.keepIn K (.ref f10) = true)
    (a11 : PySem.W.nsIn K mainGlobals "is_among" = some (some (.ref f11)))
    (l11 : K.lookup f11 = some ⟨oc11, od11, .func (PySem.W.fnOf "is_among" "is_among" (defArgs s_is_among) (defBody s_is_among) (defScope s_is_among) .none kV11 dc11 pm11 an11 cd11 ct11), sl11⟩) (c11 : PySem.W.codeIn K cd11 "is_among" = true) (k11 : PySem.W.keepIn K (.ref f11) = true)
    (a12 : PySem.W.nsIn K mainGlobals "is_thing" = some (some (.ref f12)))
    (l12 : K.lookup f12 = some ⟨oc12, od12, .func (PySem.W.fnOf "is_thing" "is_thing" (defArgs s_is_thing) (defBody s_is_thing) (defScope s_is_thing) .none kV12 dc12 pm12 an12 cd12 ct12), sl12⟩) (c12 : PySem.W.codeIn K cd12 "is_thing" = true) (k12 : PySem.W.keepIn K (.ref f12) = true)
    (a13 : PySem.W.nsIn K mainGlobals "is_call" = some (some (.ref f13)))
    (l13 : K.lookup f13 = some ⟨oc13, od13, .func (PySem.W.fnOf "is_call" "is_call" (defArgs s_is_call) (defBody s_is_call) (defScope s_is_call) .none kV13 dc13 pm13 an13 cd13 ct13), sl13⟩) (c13 : PySem.W.codeIn K cd13 "is_call" = true) (k13 : PySem.W.keepIn K (.ref f13) = true)
    (a14 : PySem.W.nsIn K mainGlobals "is_doing" = some (some (.ref f14)))
    (l14 : K.lookup f14 = some ⟨oc14, od14, .func (PySem.W.fnOf "is_doing" "is_doing" (defArgs s_is_doing) (defBody s_is_doing) (defScope s_is_doing) .none kV14 dc14 pm14 an14 cd14 ct14), sl14⟩) (c14 : PySem.W.codeIn K cd14 "is_doing" = true) (k14 : PySem.W.keepIn K (.ref f14) = true)
    (a15 : PySem.W.findIn K (.ref CL) "__init__" = some (some (.ref f15))) (i15 : PySem.W.isFn K (.ref f15) = true)
    (l15 : K.lookup f15 = some ⟨oc15, od15, .func (PySem.W.fnOf "__init__" "Looked.__init__" (defArgs s_Looked___init__) (defBody s_Looked___init__) (defScope s_Looked___init__) .none kV15 dc15 pm15 an15 cd15 ct15), sl15⟩) (c15 : PySem.W.codeIn K cd15 "Looked.__init__" = true) (k15 : PySem.W.keepIn K (.ref f15) = true)
    (a16 : PySem.W.findIn K (.ref CL) "is_more" = some (some (.ref f16))) (i16 : PySem.W.isFn K (.ref f16) = true)
    (l16 : K.lookup f16 = some ⟨oc16, od16, .func (PySem.W.fnOf "is_more" "Looked.is_more" (defArgs s_Looked_is_more) (defBody s_Looked_is_more) (defScope s_Looked_is_more) .none kV16 dc16 pm16 an16 cd16 ct16), sl16⟩) (c16 : PySem.W.codeIn K cd16 "Looked.is_more" = true) (k16 : PySem.W.keepIn K (.ref f16) = true)
    (a17 : PySem.W.findIn K (.ref CL) "is_item" = some (some (.ref f17))) (i17 : PySem.W.isFn K (.ref f17) = true)
    (l17 : K.lookup f17 = some ⟨oc17, od17, .func (PySem.W.fnOf "is_item" "Looked.is_item" (defArgs s_Looked_is_item) (defBody s_Looked_is_item) (defScope s_Looked_is_item) .none kV17 dc17 pm17 an17 cd17 ct17), sl17⟩) (c17 : PySem.W.codeIn K cd17 "Looked.is_item" = true) (k17 : PySem.W.keepIn K (.ref f17) = true)
    (a18 : PySem.W.findIn K (.ref CL) "is_body" = some (some (.ref f18))) (i18 : PySem.W.isFn K (.ref f18) = true)
    (l18 : K.lookup f18 = some ⟨oc18, od18, .func (PySem.W.fnOf "is_body" "Looked.is_body" (defArgs s_Looked_is_body) (defBody s_Looked_is_body) (defScope s_Looked_is_body) .none kV18 dc18 pm18 an18 cd18 ct18), sl18⟩) (c18 : PySem.W.codeIn K cd18 "Looked.is_body" = true) (k18 : PySem.W.keepIn K (.ref f18) = true)
    (a19 : PySem.W.findIn K (.ref CL) "is_part" = some (some (.ref f19))) (i19 : PySem.W.isFn K (.ref f19) = true)
    (l19 : K.lookup f19 = some ⟨oc19, od19, .func (PySem.W.fnOf "is_part" "Looked.is_part" (defArgs s_Looked_is_part) (defBody s_Looked_is_part) (defScope s_Looked_is_part) .none kV19 dc19 pm19 an19 cd19 ct19), sl19⟩) (c19 : PySem.W.codeIn K cd19 "Looked.is_part" = true) (k19 : PySem.W.keepIn K (.ref f19) = true)
    (a20 : PySem.W.findIn K (.ref CL) "is_program" = some (some (.ref f20))) (i20 : PySem.W.isFn K (.ref f20) = true)
    (l20 : K.lookup f20 = some ⟨oc20, od20, .func (PySem.W.fnOf "is_program" "Looked.is_program" (defArgs s_Looked_is_program) (defBody s_Looked_is_program) (defScope s_Looked_is_program) .none kV20 dc20 pm20 an20 cd20 ct20), sl20⟩) (c20 : PySem.W.codeIn K cd20 "Looked.is_program" = true) (k20 : PySem.W.keepIn K (.ref f20) = true)
    (a21 : PySem.W.findIn K (.ref CP) "__init__" = some (some (.ref f21))) (i21 : PySem.W.isFn K (.ref f21) = true)
    (l21 : K.lookup f21 = some ⟨oc21, od21, .func (PySem.W.fnOf "__init__" "Program.__init__" (defArgs s_Program___init__) (defBody s_Program___init__) (defScope s_Program___init__) .none kV21 dc21 pm21 an21 cd21 ct21), sl21⟩) (c21 : PySem.W.codeIn K cd21 "Program.__init__" = true) (k21 : PySem.W.keepIn K (.ref f21) = true)
    (a22 : PySem.W.findIn K (.ref CP) "plain" = some (some (.ref f22))) (i22 : PySem.W.isFn K (.ref f22) = true)
    (l22 : K.lookup f22 = some ⟨oc22, od22, .func (PySem.W.fnOf "plain" "Program.plain" (defArgs s_Program_plain) (defBody s_Program_plain) (defScope s_Program_plain) .none kV22 dc22 pm22 an22 cd22 ct22), sl22⟩) (c22 : PySem.W.codeIn K cd22 "Program.plain" = true) (k22 : PySem.W.keepIn K (.ref f22) = true)
    (a23 : PySem.W.findIn K (.ref CP) "ins" = some (some (.ref f23))) (i23 : PySem.W.isFn K (.ref f23) = true)
    (l23 : K.lookup f23 = some ⟨oc23, od23, .func (PySem.W.fnOf "ins" "Program.ins" (defArgs s_Program_ins) (defBody s_Program_ins) (defScope s_Program_ins) .none kV23 dc23 pm23 an23 cd23 ct23), sl23⟩) (c23 : PySem.W.codeIn K cd23 "Program.ins" = true) (k23 : PySem.W.keepIn K (.ref f23) = true)
    (a24 : PySem.W.findIn K (.ref CP) "outs" = some (some (.ref f24))) (i24 : PySem.W.isFn K (.ref f24) = true)
    (l24 : K.lookup f24 = some ⟨oc24, od24, .func (PySem.W.fnOf "outs" "Program.outs" (defArgs s_Program_outs) (defBody s_Program_outs) (defScope s_Program_outs) .none kV24 dc24 pm24 an24 cd24 ct24), sl24⟩) (c24 : PySem.W.codeIn K cd24 "Program.outs" = true) (k24 : PySem.W.keepIn K (.ref f24) = true)
    (a25 : PySem.W.findIn K (.ref CP) "part" = some (some (.ref f25))) (i25 : PySem.W.isFn K (.ref f25) = true)
    (l25 : K.lookup f25 = some ⟨oc25, od25, .func (PySem.W.fnOf "part" "Program.part" (defArgs s_Program_part) (defBody s_Program_part) (defScope s_Program_part) .none kV25 dc25 pm25 an25 cd25 ct25), sl25⟩) (c25 : PySem.W.codeIn K cd25 "Program.part" = true) (k25 : PySem.W.keepIn K (.ref f25) = true)
    (a26 : PySem.W.findIn K (.ref CP) "size" = some (some (.ref f26))) (i26 : PySem.W.isFn K (.ref f26) = true)
    (l26 : K.lookup f26 = some ⟨oc26, od26, .func (PySem.W.fnOf "size" "Program.size" (defArgs s_Program_size) (defBody s_Program_size) (defScope s_Program_size) .none kV26 dc26 pm26 an26 cd26 ct26), sl26⟩) (c26 : PySem.W.codeIn K cd26 "Program.size" = true) (k26 : PySem.W.keepIn K (.ref f26) = true)
    (a27 : PySem.W.findIn K (.ref CP) "body" = some (some (.ref f27))) (i27 : PySem.W.isFn K (.ref f27) = true)
    (l27 : K.lookup f27 = some ⟨oc27, od27, .func (PySem.W.fnOf "body" "Program.body" (defArgs s_Program_body) (defBody s_Program_body) (defScope s_Program_body) .none kV27 dc27 pm27 an27 cd27 ct27), sl27⟩) (c27 : PySem.W.codeIn K cd27 "Program.body" = true) (k27 : PySem.W.keepIn K (.ref f27) = true)
    (a28 : PySem.W.nsIn K mainGlobals "_law_names" = some (some (.ref f28)))
    (l28 : K.lookup f28 = some ⟨oc28, od28, .func (PySem.W.fnOf "_law_names" "_law_names" (defArgs s__law_names) (defBody s__law_names) (defScope s__law_names) .none kV28 dc28 pm28 an28 cd28 ct28), sl28⟩) (c28 : PySem.W.codeIn K cd28 "_law_names" = true) (k28 : PySem.W.keepIn K (.ref f28) = true)
    (a29 : PySem.W.nsIn K mainGlobals "_law_common" = some (some (.ref f29)))
    (l29 : K.lookup f29 = some ⟨oc29, od29, .func (PySem.W.fnOf "_law_common" "_law_common" (defArgs s__law_common) (defBody s__law_common) (defScope s__law_common) .none kV29 dc29 pm29 an29 cd29 ct29), sl29⟩) (c29 : PySem.W.codeIn K cd29 "_law_common" = true) (k29 : PySem.W.keepIn K (.ref f29) = true)
    (a30 : PySem.W.nsIn K mainGlobals "_law_lowest" = some (some (.ref f30)))
    (l30 : K.lookup f30 = some ⟨oc30, od30, .func (PySem.W.fnOf "_law_lowest" "_law_lowest" (defArgs s__law_lowest) (defBody s__law_lowest) (defScope s__law_lowest) .none kV30 dc30 pm30 an30 cd30 ct30), sl30⟩) (c30 : PySem.W.codeIn K cd30 "_law_lowest" = true) (k30 : PySem.W.keepIn K (.ref f30) = true)
    (a31 : PySem.W.nsIn K mainGlobals "_law_fraction" = some (some (.ref f31)))
    (l31 : K.lookup f31 = some ⟨oc31, od31, .func (PySem.W.fnOf "_law_fraction" "_law_fraction" (defArgs s__law_fraction) (defBody s__law_fraction) (defScope s__law_fraction) .none kV31 dc31 pm31 an31 cd31 ct31), sl31⟩) (c31 : PySem.W.codeIn K cd31 "_law_fraction" = true) (k31 : PySem.W.keepIn K (.ref f31) = true)
    (a32 : PySem.W.nsIn K mainGlobals "_law_thing" = some (some (.ref f32)))
    (l32 : K.lookup f32 = some ⟨oc32, od32, .func (PySem.W.fnOf "_law_thing" "_law_thing" (defArgs s__law_thing) (defBody s__law_thing) (defScope s__law_thing) .none kV32 dc32 pm32 an32 cd32 ct32), sl32⟩) (c32 : PySem.W.codeIn K cd32 "_law_thing" = true) (k32 : PySem.W.keepIn K (.ref f32) = true)
    (a33 : PySem.W.nsIn K mainGlobals "_law_row" = some (some (.ref f33)))
    (l33 : K.lookup f33 = some ⟨oc33, od33, .func (PySem.W.fnOf "_law_row" "_law_row" (defArgs s__law_row) (defBody s__law_row) (defScope s__law_row) .none kV33 dc33 pm33 an33 cd33 ct33), sl33⟩) (c33 : PySem.W.codeIn K cd33 "_law_row" = true) (k33 : PySem.W.keepIn K (.ref f33) = true)
    (a34 : PySem.W.nsIn K mainGlobals "_law_body" = some (some (.ref f34)))
    (l34 : K.lookup f34 = some ⟨oc34, od34, .func (PySem.W.fnOf "_law_body" "_law_body" (defArgs s__law_body) (defBody s__law_body) (defScope s__law_body) .none kV34 dc34 pm34 an34 cd34 ct34), sl34⟩) (c34 : PySem.W.codeIn K cd34 "_law_body" = true) (k34 : PySem.W.keepIn K (.ref f34) = true)
    (a35 : PySem.W.nsIn K mainGlobals "_law_program" = some (some (.ref f35)))
    (l35 : K.lookup f35 = some ⟨oc35, od35, .func (PySem.W.fnOf "_law_program" "_law_program" (defArgs s__law_program) (defBody s__law_program) (defScope s__law_program) .none kV35 dc35 pm35 an35 cd35 ct35), sl35⟩) (c35 : PySem.W.codeIn K cd35 "_law_program" = true) (k35 : PySem.W.keepIn K (.ref f35) = true)
    (a36 : PySem.W.nsIn K mainGlobals "fraction" = some (some (.ref f36)))
    {T36 : Addr} {tc36 : Value} {td36 : Option Addr} {ti36 : Array Value} {tn36 : Nat} {ts36 : Array (Option Value)}
    (l36 : K.lookup f36 = some ⟨oc36, od36, .func (PySem.W.fnOf "fraction" "fraction" (defArgs s_fraction) (defBody s_fraction) (defScope s_fraction) (.ref T36) kV36 dc36 pm36 an36 cd36 ct36), sl36⟩) (c36 : PySem.W.codeIn K cd36 "fraction" = true) (k36 : PySem.W.keepIn K (.ref f36) = true)
    (lT36 : K.lookup T36 = some ⟨tc36, td36, .seq ti36 tn36, ts36⟩) (vT36 : ti36.toList.map intOf = [some 1])
    (a37 : PySem.W.nsIn K mainGlobals "text_of" = some (some (.ref f37)))
    (l37 : K.lookup f37 = some ⟨oc37, od37, .func (PySem.W.fnOf "text_of" "text_of" (defArgs s_text_of) (defBody s_text_of) (defScope s_text_of) .none kV37 dc37 pm37 an37 cd37 ct37), sl37⟩) (c37 : PySem.W.codeIn K cd37 "text_of" = true) (k37 : PySem.W.keepIn K (.ref f37) = true)
    (a38 : PySem.W.nsIn K mainGlobals "word_of" = some (some (.ref f38)))
    (l38 : K.lookup f38 = some ⟨oc38, od38, .func (PySem.W.fnOf "word_of" "word_of" (defArgs s_word_of) (defBody s_word_of) (defScope s_word_of) .none kV38 dc38 pm38 an38 cd38 ct38), sl38⟩) (c38 : PySem.W.codeIn K cd38 "word_of" = true) (k38 : PySem.W.keepIn K (.ref f38) = true)
    (a39 : PySem.W.nsIn K mainGlobals "body_lines" = some (some (.ref f39)))
    (l39 : K.lookup f39 = some ⟨oc39, od39, .func (PySem.W.fnOf "body_lines" "body_lines" (defArgs s_body_lines) (defBody s_body_lines) (defScope s_body_lines) .none kV39 dc39 pm39 an39 cd39 ct39), sl39⟩) (c39 : PySem.W.codeIn K cd39 "body_lines" = true) (k39 : PySem.W.keepIn K (.ref f39) = true)
    (a40 : PySem.W.nsIn K mainGlobals "shown" = some (some (.ref f40)))
    (l40 : K.lookup f40 = some ⟨oc40, od40, .func (PySem.W.fnOf "shown" "shown" (defArgs s_shown) (defBody s_shown) (defScope s_shown) .none kV40 dc40 pm40 an40 cd40 ct40), sl40⟩) (c40 : PySem.W.codeIn K cd40 "shown" = true) (k40 : PySem.W.keepIn K (.ref f40) = true)
    (a41 : PySem.W.nsIn K mainGlobals "_law_word" = some (some (.ref f41)))
    (l41 : K.lookup f41 = some ⟨oc41, od41, .func (PySem.W.fnOf "_law_word" "_law_word" (defArgs s__law_word) (defBody s__law_word) (defScope s__law_word) .none kV41 dc41 pm41 an41 cd41 ct41), sl41⟩) (c41 : PySem.W.codeIn K cd41 "_law_word" = true) (k41 : PySem.W.keepIn K (.ref f41) = true)
    (a42 : PySem.W.nsIn K mainGlobals "_law_body_lines" = some (some (.ref f42)))
    (l42 : K.lookup f42 = some ⟨oc42, od42, .func (PySem.W.fnOf "_law_body_lines" "_law_body_lines" (defArgs s__law_body_lines) (defBody s__law_body_lines) (defScope s__law_body_lines) .none kV42 dc42 pm42 an42 cd42 ct42), sl42⟩) (c42 : PySem.W.codeIn K cd42 "_law_body_lines" = true) (k42 : PySem.W.keepIn K (.ref f42) = true)
    (a43 : PySem.W.nsIn K mainGlobals "_law_lines" = some (some (.ref f43)))
    (l43 : K.lookup f43 = some ⟨oc43, od43, .func (PySem.W.fnOf "_law_lines" "_law_lines" (defArgs s__law_lines) (defBody s__law_lines) (defScope s__law_lines) .none kV43 dc43 pm43 an43 cd43 ct43), sl43⟩) (c43 : PySem.W.codeIn K cd43 "_law_lines" = true) (k43 : PySem.W.keepIn K (.ref f43) = true)
    (a44 : PySem.W.nsIn K mainGlobals "figures_in" = some (some (.ref f44)))
    (l44 : K.lookup f44 = some ⟨oc44, od44, .func (PySem.W.fnOf "figures_in" "figures_in" (defArgs s_figures_in) (defBody s_figures_in) (defScope s_figures_in) .none kV44 dc44 pm44 an44 cd44 ct44), sl44⟩) (c44 : PySem.W.codeIn K cd44 "figures_in" = true) (k44 : PySem.W.keepIn K (.ref f44) = true)
    (a45 : PySem.W.nsIn K mainGlobals "whole_in" = some (some (.ref f45)))
    (l45 : K.lookup f45 = some ⟨oc45, od45, .func (PySem.W.fnOf "whole_in" "whole_in" (defArgs s_whole_in) (defBody s_whole_in) (defScope s_whole_in) .none kV45 dc45 pm45 an45 cd45 ct45), sl45⟩) (c45 : PySem.W.codeIn K cd45 "whole_in" = true) (k45 : PySem.W.keepIn K (.ref f45) = true)
    (a46 : PySem.W.nsIn K mainGlobals "number_in" = some (some (.ref f46)))
    (l46 : K.lookup f46 = some ⟨oc46, od46, .func (PySem.W.fnOf "number_in" "number_in" (defArgs s_number_in) (defBody s_number_in) (defScope s_number_in) .none kV46 dc46 pm46 an46 cd46 ct46), sl46⟩) (c46 : PySem.W.codeIn K cd46 "number_in" = true) (k46 : PySem.W.keepIn K (.ref f46) = true)
    (a47 : PySem.W.nsIn K mainGlobals "words_of" = some (some (.ref f47)))
    (l47 : K.lookup f47 = some ⟨oc47, od47, .func (PySem.W.fnOf "words_of" "words_of" (defArgs s_words_of) (defBody s_words_of) (defScope s_words_of) .none kV47 dc47 pm47 an47 cd47 ct47), sl47⟩) (c47 : PySem.W.codeIn K cd47 "words_of" = true) (k47 : PySem.W.keepIn K (.ref f47) = true)
    (a48 : PySem.W.nsIn K mainGlobals "thing_in" = some (some (.ref f48)))
    (l48 : K.lookup f48 = some ⟨oc48, od48, .func (PySem.W.fnOf "thing_in" "thing_in" (defArgs s_thing_in) (defBody s_thing_in) (defScope s_thing_in) .none kV48 dc48 pm48 an48 cd48 ct48), sl48⟩) (c48 : PySem.W.codeIn K cd48 "thing_in" = true) (k48 : PySem.W.keepIn K (.ref f48) = true)
    (a49 : PySem.W.nsIn K mainGlobals "doing_in" = some (some (.ref f49)))
    (l49 : K.lookup f49 = some ⟨oc49, od49, .func (PySem.W.fnOf "doing_in" "doing_in" (defArgs s_doing_in) (defBody s_doing_in) (defScope s_doing_in) .none kV49 dc49 pm49 an49 cd49 ct49), sl49⟩) (c49 : PySem.W.codeIn K cd49 "doing_in" = true) (k49 : PySem.W.keepIn K (.ref f49) = true)
    (a50 : PySem.W.findIn K (.ref CS) "__init__" = some (some (.ref f50))) (i50 : PySem.W.isFn K (.ref f50) = true)
    (l50 : K.lookup f50 = some ⟨oc50, od50, .func (PySem.W.fnOf "__init__" "Source.__init__" (defArgs s_Source___init__) (defBody s_Source___init__) (defScope s_Source___init__) .none kV50 dc50 pm50 an50 cd50 ct50), sl50⟩) (c50 : PySem.W.codeIn K cd50 "Source.__init__" = true) (k50 : PySem.W.keepIn K (.ref f50) = true)
    (a51 : PySem.W.findIn K (.ref CS) "need" = some (some (.ref f51))) (i51 : PySem.W.isFn K (.ref f51) = true)
    (l51 : K.lookup f51 = some ⟨oc51, od51, .func (PySem.W.fnOf "need" "Source.need" (defArgs s_Source_need) (defBody s_Source_need) (defScope s_Source_need) .none kV51 dc51 pm51 an51 cd51 ct51), sl51⟩) (c51 : PySem.W.codeIn K cd51 "Source.need" = true) (k51 : PySem.W.keepIn K (.ref f51) = true)
    (a52 : PySem.W.findIn K (.ref CS) "more" = some (some (.ref f52))) (i52 : PySem.W.isFn K (.ref f52) = true)
    (l52 : K.lookup f52 = some ⟨oc52, od52, .func (PySem.W.fnOf "more" "Source.more" (defArgs s_Source_more) (defBody s_Source_more) (defScope s_Source_more) .none kV52 dc52 pm52 an52 cd52 ct52), sl52⟩) (c52 : PySem.W.codeIn K cd52 "Source.more" = true) (k52 : PySem.W.keepIn K (.ref f52) = true)
    (a53 : PySem.W.findIn K (.ref CS) "begin" = some (some (.ref f53))) (i53 : PySem.W.isFn K (.ref f53) = true)
    (l53 : K.lookup f53 = some ⟨oc53, od53, .func (PySem.W.fnOf "begin" "Source.begin" (defArgs s_Source_begin) (defBody s_Source_begin) (defScope s_Source_begin) .none kV53 dc53 pm53 an53 cd53 ct53), sl53⟩) (c53 : PySem.W.codeIn K cd53 "Source.begin" = true) (k53 : PySem.W.keepIn K (.ref f53) = true)
    (a54 : PySem.W.findIn K (.ref CS) "take_part" = some (some (.ref f54))) (i54 : PySem.W.isFn K (.ref f54) = true)
    (l54 : K.lookup f54 = some ⟨oc54, od54, .func (PySem.W.fnOf "take_part" "Source.take_part" (defArgs s_Source_take_part) (defBody s_Source_take_part) (defScope s_Source_take_part) .none kV54 dc54 pm54 an54 cd54 ct54), sl54⟩) (c54 : PySem.W.codeIn K cd54 "Source.take_part" = true) (k54 : PySem.W.keepIn K (.ref f54) = true)
    (a55 : PySem.W.findIn K (.ref CS) "take_in" = some (some (.ref f55))) (i55 : PySem.W.isFn K (.ref f55) = true)
    (l55 : K.lookup f55 = some ⟨oc55, od55, .func (PySem.W.fnOf "take_in" "Source.take_in" (defArgs s_Source_take_in) (defBody s_Source_take_in) (defScope s_Source_take_in) .none kV55 dc55 pm55 an55 cd55 ct55), sl55⟩) (c55 : PySem.W.codeIn K cd55 "Source.take_in" = true) (k55 : PySem.W.keepIn K (.ref f55) = true)
    (a56 : PySem.W.findIn K (.ref CS) "take_repeat" = some (some (.ref f56))) (i56 : PySem.W.isFn K (.ref f56) = true)
    (l56 : K.lookup f56 = some ⟨oc56, od56, .func (PySem.W.fnOf "take_repeat" "Source.take_repeat" (defArgs s_Source_take_repeat) (defBody s_Source_take_repeat) (defScope s_Source_take_repeat) .none kV56 dc56 pm56 an56 cd56 ct56), sl56⟩) (c56 : PySem.W.codeIn K cd56 "Source.take_repeat" = true) (k56 : PySem.W.keepIn K (.ref f56) = true)
    (a57 : PySem.W.findIn K (.ref CS) "take_end" = some (some (.ref f57))) (i57 : PySem.W.isFn K (.ref f57) = true)
    (l57 : K.lookup f57 = some ⟨oc57, od57, .func (PySem.W.fnOf "take_end" "Source.take_end" (defArgs s_Source_take_end) (defBody s_Source_take_end) (defScope s_Source_take_end) .none kV57 dc57 pm57 an57 cd57 ct57), sl57⟩) (c57 : PySem.W.codeIn K cd57 "Source.take_end" = true) (k57 : PySem.W.keepIn K (.ref f57) = true)
    (a58 : PySem.W.findIn K (.ref CS) "take_row" = some (some (.ref f58))) (i58 : PySem.W.isFn K (.ref f58) = true)
    (l58 : K.lookup f58 = some ⟨oc58, od58, .func (PySem.W.fnOf "take_row" "Source.take_row" (defArgs s_Source_take_row) (defBody s_Source_take_row) (defScope s_Source_take_row) .none kV58 dc58 pm58 an58 cd58 ct58), sl58⟩) (c58 : PySem.W.codeIn K cd58 "Source.take_row" = true) (k58 : PySem.W.keepIn K (.ref f58) = true)
    (a59 : PySem.W.findIn K (.ref CS) "take_give" = some (some (.ref f59))) (i59 : PySem.W.isFn K (.ref f59) = true)
    (l59 : K.lookup f59 = some ⟨oc59, od59, .func (PySem.W.fnOf "take_give" "Source.take_give" (defArgs s_Source_take_give) (defBody s_Source_take_give) (defScope s_Source_take_give) .none kV59 dc59 pm59 an59 cd59 ct59), sl59⟩) (c59 : PySem.W.codeIn K cd59 "Source.take_give" = true) (k59 : PySem.W.keepIn K (.ref f59) = true)
    (a60 : PySem.W.findIn K (.ref CS) "take_out" = some (some (.ref f60))) (i60 : PySem.W.isFn K (.ref f60) = true)
    (l60 : K.lookup f60 = some ⟨oc60, od60, .func (PySem.W.fnOf "take_out" "Source.take_out" (defArgs s_Source_take_out) (defBody s_Source_take_out) (defScope s_Source_take_out) .none kV60 dc60 pm60 an60 cd60 ct60), sl60⟩) (c60 : PySem.W.codeIn K cd60 "Source.take_out" = true) (k60 : PySem.W.keepIn K (.ref f60) = true)
    (a61 : PySem.W.findIn K (.ref CS) "take" = some (some (.ref f61))) (i61 : PySem.W.isFn K (.ref f61) = true)
    (l61 : K.lookup f61 = some ⟨oc61, od61, .func (PySem.W.fnOf "take" "Source.take" (defArgs s_Source_take) (defBody s_Source_take) (defScope s_Source_take) .none kV61 dc61 pm61 an61 cd61 ct61), sl61⟩) (c61 : PySem.W.codeIn K cd61 "Source.take" = true) (k61 : PySem.W.keepIn K (.ref f61) = true)
    (a62 : PySem.W.nsIn K mainGlobals "read" = some (some (.ref f62)))
    (l62 : K.lookup f62 = some ⟨oc62, od62, .func (PySem.W.fnOf "read" "read" (defArgs s_read) (defBody s_read) (defScope s_read) .none kV62 dc62 pm62 an62 cd62 ct62), sl62⟩) (c62 : PySem.W.codeIn K cd62 "read" = true) (k62 : PySem.W.keepIn K (.ref f62) = true)
    (a63 : PySem.W.nsIn K mainGlobals "_law_wide_word" = some (some (.ref f63)))
    (l63 : K.lookup f63 = some ⟨oc63, od63, .func (PySem.W.fnOf "_law_wide_word" "_law_wide_word" (defArgs s__law_wide_word) (defBody s__law_wide_word) (defScope s__law_wide_word) .none kV63 dc63 pm63 an63 cd63 ct63), sl63⟩) (c63 : PySem.W.codeIn K cd63 "_law_wide_word" = true) (k63 : PySem.W.keepIn K (.ref f63) = true)
    (a64 : PySem.W.nsIn K mainGlobals "_law_wide" = some (some (.ref f64)))
    (l64 : K.lookup f64 = some ⟨oc64, od64, .func (PySem.W.fnOf "_law_wide" "_law_wide" (defArgs s__law_wide) (defBody s__law_wide) (defScope s__law_wide) .none kV64 dc64 pm64 an64 cd64 ct64), sl64⟩) (c64 : PySem.W.codeIn K cd64 "_law_wide" = true) (k64 : PySem.W.keepIn K (.ref f64) = true)
    (a65 : PySem.W.nsIn K mainGlobals "law" = some (some (.ref f65)))
    (l65 : K.lookup f65 = some ⟨oc65, od65, .func (PySem.W.fnOf "law" "law" (defArgs s_law) (defBody s_law) (defScope s_law) .none kV65 dc65 pm65 an65 cd65 ct65), sl65⟩) (c65 : PySem.W.codeIn K cd65 "law" = true) (k65 : PySem.W.keepIn K (.ref f65) = true)
    (z0 : PySem.W.nsIn K mainGlobals "range" = some none)
    (z1 : PySem.W.nsIn K mainGlobals "len" = some none)
    (z2 : PySem.W.nsIn K mainGlobals "isinstance" = some none)
    (z3 : PySem.W.nsIn K mainGlobals "int" = some none)
    (z4 : PySem.W.nsIn K mainGlobals "bool" = some none)
    (z5 : PySem.W.nsIn K mainGlobals "str" = some none)
    (z6 : PySem.W.nsIn K mainGlobals "tuple" = some none)
    (z7 : PySem.W.nsIn K mainGlobals "list" = some none)
    (z8 : PySem.W.nsIn K mainGlobals "dict" = some none)
    (z9 : PySem.W.nsIn K mainGlobals "set" = some none)
    (z10 : PySem.W.nsIn K mainGlobals "all" = some none)
    (z11 : PySem.W.nsIn K mainGlobals "abs" = some none)
    (z12 : PySem.W.nsIn K mainGlobals "sum" = some none)
    (z13 : PySem.W.nsIn K mainGlobals "repr" = some none)
    (z14 : PySem.W.nsIn K mainGlobals "enumerate" = some none)
    (z15 : PySem.W.nsIn K mainGlobals "min" = some none)
    {t16 : Tok} {x16 : Str} (z16 : PySem.W.nsIn K mainGlobals "FIGURES" = some (some (.str x16 t16))) (e16 : x16 = "0123456789")
    {t17 : Tok} (z17 : PySem.W.nsIn K mainGlobals "MOST_FIGURES" = some (some (.int 4000 t17)))
    {t18 : Tok} {x18 : Str} (z18 : PySem.W.nsIn K mainGlobals "LETTERS" = some (some (.str x18 t18))) (e18 : x18 = "abcdefghijklmnopqrstuvwxyz")
    {p19 : Addr} {i_19 : Array Value} {n19 : Nat} {y19 : Array (Option Value)} {d19 : Option Addr} (z19 : PySem.W.nsIn K mainGlobals "BARRED" = some (some (.ref p19))) (w19 : K.lookup p19 = some ⟨.type "tuple", d19, .seq i_19 n19, y19⟩) (e19 : i_19.toList.map strOf = BARS.map some)
    {t20 : Tok} (z20 : PySem.W.nsIn K mainGlobals "MOST_LETTERS" = some (some (.int 8 t20)))
    {t21 : Tok} (z21 : PySem.W.nsIn K mainGlobals "MOST_POWER" = some (some (.int 8 t21)))
    {t22 : Tok} (z22 : PySem.W.nsIn K mainGlobals "MOST_TURNS" = some (some (.int 200 t22)))
    {t23 : Tok} (z23 : PySem.W.nsIn K mainGlobals "MOST_DEEP" = some (some (.int 3 t23)))
    {t24 : Tok} (z24 : PySem.W.nsIn K mainGlobals "MOST_SIZE" = some (some (.int 80 t24)))
    {t25 : Tok} (z25 : PySem.W.nsIn K mainGlobals "MOST_INS" = some (some (.int 6 t25)))
    {t26 : Tok} (z26 : PySem.W.nsIn K mainGlobals "MOST_OUTS" = some (some (.int 4 t26)))
    {t27 : Tok} (z27 : PySem.W.nsIn K mainGlobals "MOST_PARTS" = some (some (.int 6 t27)))
    {t28 : Tok} (z28 : PySem.W.nsIn K mainGlobals "MOST_PART_INS" = some (some (.int 4 t28)))
    (z29 : PySem.W.nsIn K mainGlobals "TAKEN" = some (some (.ref pT)))
    {es30 : Array DictEntry} {n30 : Nat} (z30 : K.lookup pT = some ⟨.type "dict", none, .dict es30 n30, #[]⟩) (w30 : (pT == sysModules) = false) (e30 : es30.toList.map entI = TAKENL.map some) (h30 : es30.toList.map (fun d => (keyS d.key, d.hash)) = (TAKENL.map (·.1)).map fun k => (some k, PyData.keyHash w.params k))
    (z32 : PySem.W.findIn K (.ref CL) "parts" = some none)
    (z33 : PySem.W.findIn K (.ref CL) "many" = some none)
    (z35 : PySem.W.findIn K (.ref CP) "told" = some none)
    (z36 : PySem.W.findIn K (.ref CP) "many" = some none)
    (z37 : PySem.W.findIn K (.ref CP) "rows_of_parts" = some none)
    (z39 : PySem.W.findIn K (.ref CS) "line" = some none)
    (z40 : PySem.W.findIn K (.ref CS) "many" = some none)
    (z41 : PySem.W.findIn K (.ref CS) "parts" = some none)
    (z42 : PySem.W.findIn K (.ref CS) "counts" = some none)
    (z43 : PySem.W.findIn K (.ref CS) "name" = some none)
    (z44 : PySem.W.findIn K (.ref CS) "own_ins" = some none)
    (z45 : PySem.W.findIn K (.ref CS) "known" = some none)
    (z46 : PySem.W.findIn K (.ref CS) "bodies" = some none)
    (z47 : PySem.W.findIn K (.ref CS) "whole" = some none)
    : ∃ fd : FuncData, (∀ (s : Shared) (v : Value), BindsTo s fd ⟨[v], []⟩ [("_law_script", v)]) ∧ ∀ base : Heap, K.In base → base.Ns mainGlobals mg → FnD l.prog w K mg base CX0 24 fa fd ["_law_script"] c_law := by
  have e := hfa.symm.trans (PySem.W.mg_of X G a65)
  cases e
  have T : Txt K mg w CL CP CS pT := ⟨PySem.W.mg_none_of X G z0, PySem.W.mg_none_of X G z1, PySem.W.mg_none_of X G z2, PySem.W.mg_none_of X G z3, PySem.W.mg_none_of X G z4, PySem.W.mg_none_of X G z5, PySem.W.mg_none_of X G z6, PySem.W.mg_none_of X G z7, PySem.W.mg_none_of X G z8, PySem.W.mg_none_of X G z9, PySem.W.mg_none_of X G z10, PySem.W.mg_none_of X G z11, PySem.W.mg_none_of X G z12, PySem.W.mg_none_of X G z13, PySem.W.mg_none_of X G z14, PySem.W.mg_none_of X G z15, kn_str X G z16 e16, kn_int X G z17, kn_str X G z18 e18, kn_strs X G z19 w19 e19 (by decide), kn_int X G z20, kn_int X G z21, kn_int X G z22, kn_int X G z23, kn_int X G z24, kn_int X G z25, kn_int X G z26, kn_int X G z27, kn_int X G z28, ⟨.ref pT, _, PySem.W.mg_of X G z29, rfl, fun F => rep_loc.mpr rfl⟩, ⟨⟨es30, n30, z30, keysLit_mk h30, w30, e30⟩⟩, ⟨pgCL, hdCL, poCL, saCL⟩, z32, z33, ⟨pgCP, hdCP, poCP, saCP⟩, z35, z36, z37, ⟨pgCS, hdCS, poCS, saCS⟩, z39, z40, z41, z42, z43, z44, z45, z46, z47⟩
  have F1 := fun_mk (st := s__law_mixed) l1 c1 k1
  have b1 := F1.binds (ps := ["_law_cell", "_law_k"]) fun _ _ _ _ _ _ us hl => match us, hl with | [_, _], _ => rfl
  have F2 := fun_mk (st := s__law_folded) l2 c2 k2
  have b2 := F2.binds (ps := ["_law_script"]) fun _ _ _ _ _ _ us hl => match us, hl with | [_], _ => rfl
  have F3 := fun_mk (st := s__law_draw) l3 c3 k3
  have b3 := F3.binds (ps := ["_law_m", "_law_many"]) fun _ _ _ _ _ _ us hl => match us, hl with | [_, _], _ => rfl
  have F4 := fun_mk (st := s__law_begun) l4 c4 k4
  have b4 := F4.binds (ps := ["_law_script"]) fun _ _ _ _ _ _ us hl => match us, hl with | [_], _ => rfl
  have F5 := fun_mk (st := s_is_whole) l5 c5 k5
  have b5 := F5.binds (ps := ["thing"]) fun _ _ _ _ _ _ us hl => match us, hl with | [_], _ => rfl
  have F6 := fun_mk (st := s_common) l6 c6 k6
  have b6 := F6.binds (ps := ["one", "other"]) fun _ _ _ _ _ _ us hl => match us, hl with | [_, _], _ => rfl
  have F7 := fun_mk (st := s_is_fraction) l7 c7 k7
  have b7 := F7.binds (ps := ["thing"]) fun _ _ _ _ _ _ us hl => match us, hl with | [_], _ => rfl
  have F8 := fun_mk (st := s_is_name) l8 c8 k8
  have b8 := F8.binds (ps := ["thing"]) fun _ _ _ _ _ _ us hl => match us, hl with | [_], _ => rfl
  have F9 := fun_mk (st := s_are_names) l9 c9 k9
  have b9 := F9.binds (ps := ["thing", "most"]) fun _ _ _ _ _ _ us hl => match us, hl with | [_, _], _ => rfl
  have F10 := fun_mk (st := s_are_unlike) l10 c10 k10
  have b10 := F10.binds (ps := ["names"]) fun _ _ _ _ _ _ us hl => match us, hl with | [_], _ => rfl
  have F11 := fun_mk (st := s_is_among) l11 c11 k11
  have b11 := F11.binds (ps := ["thing", "least", "most"]) fun _ _ _ _ _ _ us hl => match us, hl with | [_, _, _], _ => rfl
  have F12 := fun_mk (st := s_is_thing) l12 c12 k12
  have b12 := F12.binds (ps := ["thing", "told"]) fun _ _ _ _ _ _ us hl => match us, hl with | [_, _], _ => rfl
  have F13 := fun_mk (st := s_is_call) l13 c13 k13
  have b13 := F13.binds (ps := ["things", "told", "parts"]) fun _ _ _ _ _ _ us hl => match us, hl with | [_, _, _], _ => rfl
  have F14 := fun_mk (st := s_is_doing) l14 c14 k14
  have b14 := F14.binds (ps := ["word", "things", "told", "parts"]) fun _ _ _ _ _ _ us hl => match us, hl with | [_, _, _, _], _ => rfl
  have F15 := fun_mk (st := s_Looked___init__) l15 c15 k15
  have b15 := F15.binds (ps := ["self"]) fun _ _ _ _ _ _ us hl => match us, hl with | [_], _ => rfl
  have F16 := fun_mk (st := s_Looked_is_more) l16 c16 k16
  have b16 := F16.binds (ps := ["self", "many"]) fun _ _ _ _ _ _ us hl => match us, hl with | [_, _], _ => rfl
  have F17 := fun_mk (st := s_Looked_is_item) l17 c17 k17
  have b17 := F17.binds (ps := ["self", "thing", "told", "deep"]) fun _ _ _ _ _ _ us hl => match us, hl with | [_, _, _, _], _ => rfl
  have F18 := fun_mk (st := s_Looked_is_body) l18 c18 k18
  have b18 := F18.binds (ps := ["self", "thing", "told", "deep"]) fun _ _ _ _ _ _ us hl => match us, hl with | [_, _, _, _], _ => rfl
  have F19 := fun_mk (st := s_Looked_is_part) l19 c19 k19
  have b19 := F19.binds (ps := ["self", "thing"]) fun _ _ _ _ _ _ us hl => match us, hl with | [_, _], _ => rfl
  have F20 := fun_mk (st := s_Looked_is_program) l20 c20 k20
  have b20 := F20.binds (ps := ["self", "thing"]) fun _ _ _ _ _ _ us hl => match us, hl with | [_, _], _ => rfl
  have F21 := fun_mk (st := s_Program___init__) l21 c21 k21
  have b21 := F21.binds (ps := ["self", "plain"]) fun _ _ _ _ _ _ us hl => match us, hl with | [_, _], _ => rfl
  have F22 := fun_mk (st := s_Program_plain) l22 c22 k22
  have b22 := F22.binds (ps := ["self"]) fun _ _ _ _ _ _ us hl => match us, hl with | [_], _ => rfl
  have F23 := fun_mk (st := s_Program_ins) l23 c23 k23
  have b23 := F23.binds (ps := ["self"]) fun _ _ _ _ _ _ us hl => match us, hl with | [_], _ => rfl
  have F24 := fun_mk (st := s_Program_outs) l24 c24 k24
  have b24 := F24.binds (ps := ["self"]) fun _ _ _ _ _ _ us hl => match us, hl with | [_], _ => rfl
  have F25 := fun_mk (st := s_Program_part) l25 c25 k25
  have b25 := F25.binds (ps := ["self", "name"]) fun _ _ _ _ _ _ us hl => match us, hl with | [_, _], _ => rfl
  have F26 := fun_mk (st := s_Program_size) l26 c26 k26
  have b26 := F26.binds (ps := ["self"]) fun _ _ _ _ _ _ us hl => match us, hl with | [_], _ => rfl
  have F27 := fun_mk (st := s_Program_body) l27 c27 k27
  have b27 := F27.binds (ps := ["self"]) fun _ _ _ _ _ _ us hl => match us, hl with | [_], _ => rfl
  have F28 := fun_mk (st := s__law_names) l28 c28 k28
  have b28 := F28.binds (ps := ["_law_m", "_law_many"]) fun _ _ _ _ _ _ us hl => match us, hl with | [_, _], _ => rfl
  have F29 := fun_mk (st := s__law_common) l29 c29 k29
  have b29 := F29.binds (ps := ["_law_one", "_law_other"]) fun _ _ _ _ _ _ us hl => match us, hl with | [_, _], _ => rfl
  have F30 := fun_mk (st := s__law_lowest) l30 c30 k30
  have b30 := F30.binds (ps := ["_law_n", "_law_d"]) fun _ _ _ _ _ _ us hl => match us, hl with | [_, _], _ => rfl
  have F31 := fun_mk (st := s__law_fraction) l31 c31 k31
  have b31 := F31.binds (ps := ["_law_m"]) fun _ _ _ _ _ _ us hl => match us, hl with | [_], _ => rfl
  have F32 := fun_mk (st := s__law_thing) l32 c32 k32
  have b32 := F32.binds (ps := ["_law_m", "_law_told"]) fun _ _ _ _ _ _ us hl => match us, hl with | [_, _], _ => rfl
  have F33 := fun_mk (st := s__law_row) l33 c33 k33
  have b33 := F33.binds (ps := ["_law_m", "_law_told", "_law_parts"]) fun _ _ _ _ _ _ us hl => match us, hl with | [_, _, _], _ => rfl
  have F34 := fun_mk (st := s__law_body) l34 c34 k34
  have b34 := F34.binds (ps := ["_law_m", "_law_told", "_law_many", "_law_deep", "_law_parts"]) fun _ _ _ _ _ _ us hl => match us, hl with | [_, _, _, _, _], _ => rfl
  have F35 := fun_mk (st := s__law_program) l35 c35 k35
  have b35 := F35.binds (ps := ["_law_m", "_law_many"]) fun _ _ _ _ _ _ us hl => match us, hl with | [_, _], _ => rfl
  have F36 := fund_mk (st := s_fraction) (dvs := dvs_fraction) l36 c36 k36 lT36 (vals_nums (ws := [1]) vT36) (by simp)
  obtain ⟨dsg36, vsg36, g36⟩ := F36.binds1 (ps := ["n", "d"]) 1 0 (by simp) (by rfl) fun T kV doc pm an cdv ct us its l1 l2 => match us, its, l1, l2 with | [_], [_], _, _ => ⟨_, rfl, rfl⟩
  obtain ⟨dsb36, vsb36, b36⟩ := F36.binds1 (ps := ["n", "d"]) 2 1 (by simp) (by rfl) fun T kV doc pm an cdv ct us its l1 l2 => match us, its, l1, l2 with | [_, _], [_], _, _ => ⟨_, rfl, rfl⟩
  obtain rfl : dsb36 = [] := by cases vsb36; rfl
  have F37 := fun_mk (st := s_text_of) l37 c37 k37
  have b37 := F37.binds (ps := ["one"]) fun _ _ _ _ _ _ us hl => match us, hl with | [_], _ => rfl
  have F38 := fun_mk (st := s_word_of) l38 c38 k38
  have b38 := F38.binds (ps := ["thing"]) fun _ _ _ _ _ _ us hl => match us, hl with | [_], _ => rfl
  have F39 := fun_mk (st := s_body_lines) l39 c39 k39
  have b39 := F39.binds (ps := ["body"]) fun _ _ _ _ _ _ us hl => match us, hl with | [_], _ => rfl
  have F40 := fun_mk (st := s_shown) l40 c40 k40
  have b40 := F40.binds (ps := ["program"]) fun _ _ _ _ _ _ us hl => match us, hl with | [_], _ => rfl
  have F41 := fun_mk (st := s__law_word) l41 c41 k41
  have b41 := F41.binds (ps := ["_law_thing_here"]) fun _ _ _ _ _ _ us hl => match us, hl with | [_], _ => rfl
  have F42 := fun_mk (st := s__law_body_lines) l42 c42 k42
  have b42 := F42.binds (ps := ["_law_body_here"]) fun _ _ _ _ _ _ us hl => match us, hl with | [_], _ => rfl
  have F43 := fun_mk (st := s__law_lines) l43 c43 k43
  have b43 := F43.binds (ps := ["_law_plain"]) fun _ _ _ _ _ _ us hl => match us, hl with | [_], _ => rfl
  have F44 := fun_mk (st := s_figures_in) l44 c44 k44
  have b44 := F44.binds (ps := ["word"]) fun _ _ _ _ _ _ us hl => match us, hl with | [_], _ => rfl
  have F45 := fun_mk (st := s_whole_in) l45 c45 k45
  have b45 := F45.binds (ps := ["word"]) fun _ _ _ _ _ _ us hl => match us, hl with | [_], _ => rfl
  have F46 := fun_mk (st := s_number_in) l46 c46 k46
  have b46 := F46.binds (ps := ["word"]) fun _ _ _ _ _ _ us hl => match us, hl with | [_], _ => rfl
  have F47 := fun_mk (st := s_words_of) l47 c47 k47
  have b47 := F47.binds (ps := ["line"]) fun _ _ _ _ _ _ us hl => match us, hl with | [_], _ => rfl
  have F48 := fun_mk (st := s_thing_in) l48 c48 k48
  have b48 := F48.binds (ps := ["word"]) fun _ _ _ _ _ _ us hl => match us, hl with | [_], _ => rfl
  have F49 := fun_mk (st := s_doing_in) l49 c49 k49
  have b49 := F49.binds (ps := ["words"]) fun _ _ _ _ _ _ us hl => match us, hl with | [_], _ => rfl
  have F50 := fun_mk (st := s_Source___init__) l50 c50 k50
  have b50 := F50.binds (ps := ["self"]) fun _ _ _ _ _ _ us hl => match us, hl with | [_], _ => rfl
  have F51 := fun_mk (st := s_Source_need) l51 c51 k51
  have b51 := F51.binds (ps := ["self", "is_good"]) fun _ _ _ _ _ _ us hl => match us, hl with | [_, _], _ => rfl
  have F52 := fun_mk (st := s_Source_more) l52 c52 k52
  have b52 := F52.binds (ps := ["self", "many"]) fun _ _ _ _ _ _ us hl => match us, hl with | [_, _], _ => rfl
  have F53 := fun_mk (st := s_Source_begin) l53 c53 k53
  have b53 := F53.binds (ps := ["self", "name", "ins", "most"]) fun _ _ _ _ _ _ us hl => match us, hl with | [_, _, _, _], _ => rfl
  have F54 := fun_mk (st := s_Source_take_part) l54 c54 k54
  have b54 := F54.binds (ps := ["self", "words"]) fun _ _ _ _ _ _ us hl => match us, hl with | [_, _], _ => rfl
  have F55 := fun_mk (st := s_Source_take_in) l55 c55 k55
  have b55 := F55.binds (ps := ["self", "words"]) fun _ _ _ _ _ _ us hl => match us, hl with | [_, _], _ => rfl
  have F56 := fun_mk (st := s_Source_take_repeat) l56 c56 k56
  have b56 := F56.binds (ps := ["self", "words"]) fun _ _ _ _ _ _ us hl => match us, hl with | [_, _], _ => rfl
  have F57 := fun_mk (st := s_Source_take_end) l57 c57 k57
  have b57 := F57.binds (ps := ["self", "words"]) fun _ _ _ _ _ _ us hl => match us, hl with | [_, _], _ => rfl
  have F58 := fun_mk (st := s_Source_take_row) l58 c58 k58
  have b58 := F58.binds (ps := ["self", "words"]) fun _ _ _ _ _ _ us hl => match us, hl with | [_, _], _ => rfl
  have F59 := fun_mk (st := s_Source_take_give) l59 c59 k59
  have b59 := F59.binds (ps := ["self", "words"]) fun _ _ _ _ _ _ us hl => match us, hl with | [_, _], _ => rfl
  have F60 := fun_mk (st := s_Source_take_out) l60 c60 k60
  have b60 := F60.binds (ps := ["self", "words"]) fun _ _ _ _ _ _ us hl => match us, hl with | [_, _], _ => rfl
  have F61 := fun_mk (st := s_Source_take) l61 c61 k61
  have b61 := F61.binds (ps := ["self", "words"]) fun _ _ _ _ _ _ us hl => match us, hl with | [_, _], _ => rfl
  have F62 := fun_mk (st := s_read) l62 c62 k62
  have b62 := F62.binds (ps := ["text"]) fun _ _ _ _ _ _ us hl => match us, hl with | [_], _ => rfl
  have F63 := fun_mk (st := s__law_wide_word) l63 c63 k63
  have b63 := F63.binds (ps := ["_law_m", "_law_word_here"]) fun _ _ _ _ _ _ us hl => match us, hl with | [_, _], _ => rfl
  have F64 := fun_mk (st := s__law_wide) l64 c64 k64
  have b64 := F64.binds (ps := ["_law_m", "_law_lines_here"]) fun _ _ _ _ _ _ us hl => match us, hl with | [_, _], _ => rfl
  have F65 := fun_mk (st := s_law) l65 c65 k65
  have b65 := F65.binds (ps := ["_law_script"]) fun _ _ _ _ _ _ us hl => match us, hl with | [_], _ => rfl
  refine ⟨PySem.W.fnOf "law" "law" (defArgs s_law) (defBody s_law) (defScope s_law) .none kV65 dc65 pm65 an65 cd65 ct65, fun s v => .of_eq rfl, fun base _ _ => ?_⟩
  have Q_C__law_mixed := ok__law_mixed (P := l.prog) (base := base) (n := 0) T  F1
  have C__law_mixed : Cal l.prog w K mg base 1 "_law_mixed" (c__law_mixed) := ⟨_, _, _, Q_C__law_mixed, PySem.W.mg_of X G a1, k1, b1⟩
  have Q_C__law_folded := ok__law_folded (P := l.prog) (base := base) (n := 0) T  F2
  have C__law_folded : Cal l.prog w K mg base 1 "_law_folded" (c__law_folded) := ⟨_, _, _, Q_C__law_folded, PySem.W.mg_of X G a2, k2, b2⟩
  have Q_C__law_draw := ok__law_draw (P := l.prog) (base := base) (n := 1) T (C__law_mixed.up (by decide)) F3
  have C__law_draw : Cal l.prog w K mg base 2 "_law_draw" (c__law_draw) := ⟨_, _, _, Q_C__law_draw, PySem.W.mg_of X G a3, k3, b3⟩
  have Q_C__law_begun := ok__law_begun (P := l.prog) (base := base) (n := 1) T (C__law_folded.up (by decide)) F4
  have C__law_begun : Cal l.prog w K mg base 2 "_law_begun" (c__law_begun) := ⟨_, _, _, Q_C__law_begun, PySem.W.mg_of X G a4, k4, b4⟩
  have Q_C_is_whole := ok_is_whole (P := l.prog) (base := base) (n := 0) T  F5
  have C_is_whole : Cal l.prog w K mg base 1 "is_whole" (c_is_whole) := ⟨_, _, _, Q_C_is_whole, PySem.W.mg_of X G a5, k5, b5⟩
  have Q_C_common := ok_common (P := l.prog) (base := base) (n := 0) T  F6
  have C_common : Cal l.prog w K mg base 1 "common" (c_common) := ⟨_, _, _, Q_C_common, PySem.W.mg_of X G a6, k6, b6⟩
  have Q_C_is_fraction := ok_is_fraction (P := l.prog) (base := base) (n := 1) T (C_is_whole.up (by decide)) (C_common.up (by decide)) F7
  have C_is_fraction : Cal l.prog w K mg base 2 "is_fraction" (c_is_fraction) := ⟨_, _, _, Q_C_is_fraction, PySem.W.mg_of X G a7, k7, b7⟩
  have Q_C_is_name := ok_is_name (P := l.prog) (base := base) (n := 0) T  F8
  have C_is_name : Cal l.prog w K mg base 1 "is_name" (c_is_name) := ⟨_, _, _, Q_C_is_name, PySem.W.mg_of X G a8, k8, b8⟩
  have Q_C_are_names := ok_are_names (P := l.prog) (base := base) (n := 1) T (C_is_name.up (by decide)) F9
  have C_are_names : Cal l.prog w K mg base 2 "are_names" (c_are_names) := ⟨_, _, _, Q_C_are_names, PySem.W.mg_of X G a9, k9, b9⟩
  have Q_C_are_unlike := ok_are_unlike (P := l.prog) (base := base) (n := 0) T  F10
  have C_are_unlike : Cal l.prog w K mg base 1 "are_unlike" (c_are_unlike) := ⟨_, _, _, Q_C_are_unlike, PySem.W.mg_of X G a10, k10, b10⟩
  have Q_C_is_among := ok_is_among (P := l.prog) (base := base) (n := 1) T (C_is_whole.up (by decide)) F11
  have C_is_among : Cal l.prog w K mg base 2 "is_among" (c_is_among) := ⟨_, _, _, Q_C_is_among, PySem.W.mg_of X G a11, k11, b11⟩
  have Q_C_is_thing := ok_is_thing (P := l.prog) (base := base) (n := 2) T (C_is_fraction.up (by decide)) F12
  have C_is_thing : Cal l.prog w K mg base 3 "is_thing" (c_is_thing) := ⟨_, _, _, Q_C_is_thing, PySem.W.mg_of X G a12, k12, b12⟩
  have Q_C_is_call := ok_is_call (P := l.prog) (base := base) (n := 3) T (C_is_thing.up (by decide)) F13
  have C_is_call : Cal l.prog w K mg base 4 "is_call" (c_is_call) := ⟨_, _, _, Q_C_is_call, PySem.W.mg_of X G a13, k13, b13⟩
  have Q_C_is_doing := ok_is_doing (P := l.prog) (base := base) (n := 4) T (C_is_call.up (by decide)) (C_is_thing.up (by decide)) (C_is_among.up (by decide)) F14
  have C_is_doing : Cal l.prog w K mg base 5 "is_doing" (c_is_doing) := ⟨_, _, _, Q_C_is_doing, PySem.W.mg_of X G a14, k14, b14⟩
  have Q_CK_Looked := ok_Looked___init__ (P := l.prog) (base := base) (n := 0) T  F15
  have CK_Looked : CalK l.prog w K mg base 1 "Looked" CL ((c_Looked___init__ CL)) := ⟨_, _, _, Q_CK_Looked, ⟨mkCL, a15, i15, kcCL⟩, PySem.W.mg_of X G gCL, b15⟩
  have Q_CM_Looked_is_more := ok_Looked_is_more (P := l.prog) (base := base) (n := 0) T  F16
  have CM_Looked_is_more : CalM l.prog w K mg base 1 CL "is_more" ((c_Looked_is_more CL)) := ⟨_, _, _, Q_CM_Looked_is_more, ⟨a16, i16, k16⟩, b16⟩
  have Q_CM_row := ok_Looked_is_item_row (P := l.prog) (base := base) (n := 5) T (C_is_name.up (by decide)) (C_is_doing.up (by decide)) (CM_Looked_is_more.up (by decide)) F17
  have CM_item3 : CalM l.prog w K mg base 9 CL "is_item" (c_Looked_is_item CL 3) := ⟨_, _, _, ((Q_CM_row.up (by decide)).imp fun _ _ _ _ h => item3 h), ⟨a17, i17, k17⟩, b17⟩
  have Q_CM_body3 := ok_Looked_is_body (P := l.prog) (base := base) (n := 9) (lo := 3) T (CM_item3.up (by decide)) F18
  have CM_body3 : CalM l.prog w K mg base 10 CL "is_body" ((c_Looked_is_body CL 3)) := ⟨_, _, _, Q_CM_body3, ⟨a18, i18, k18⟩, b18⟩
  have Q_CM_rep2 := ok_Looked_is_item_rep (P := l.prog) (base := base) (n := 10) (lo := 2) T (C_is_among.up (by decide)) (CM_Looked_is_more.up (by decide)) (CM_body3.up (by decide)) F17
  have CM_item2 : CalM l.prog w K mg base 11 CL "is_item" (c_Looked_is_item CL 2) := ⟨_, _, _, ((FnD.or (Q_CM_row.up (by decide)) (Q_CM_rep2.up (by decide))).imp fun _ _ _ _ h => item_or h), ⟨a17, i17, k17⟩, b17⟩
  have Q_CM_body2 := ok_Looked_is_body (P := l.prog) (base := base) (n := 11) (lo := 2) T (CM_item2.up (by decide)) F18
  have CM_body2 : CalM l.prog w K mg base 12 CL "is_body" ((c_Looked_is_body CL 2)) := ⟨_, _, _, Q_CM_body2, ⟨a18, i18, k18⟩, b18⟩
  have Q_CM_rep1 := ok_Looked_is_item_rep (P := l.prog) (base := base) (n := 12) (lo := 1) T (C_is_among.up (by decide)) (CM_Looked_is_more.up (by decide)) (CM_body2.up (by decide)) F17
  have CM_item1 : CalM l.prog w K mg base 13 CL "is_item" (c_Looked_is_item CL 1) := ⟨_, _, _, ((FnD.or (Q_CM_row.up (by decide)) (Q_CM_rep1.up (by decide))).imp fun _ _ _ _ h => item_or h), ⟨a17, i17, k17⟩, b17⟩
  have Q_CM_body1 := ok_Looked_is_body (P := l.prog) (base := base) (n := 13) (lo := 1) T (CM_item1.up (by decide)) F18
  have CM_body1 : CalM l.prog w K mg base 14 CL "is_body" ((c_Looked_is_body CL 1)) := ⟨_, _, _, Q_CM_body1, ⟨a18, i18, k18⟩, b18⟩
  have Q_CM_rep0 := ok_Looked_is_item_rep (P := l.prog) (base := base) (n := 14) (lo := 0) T (C_is_among.up (by decide)) (CM_Looked_is_more.up (by decide)) (CM_body1.up (by decide)) F17
  have CM_item0 : CalM l.prog w K mg base 15 CL "is_item" (c_Looked_is_item CL 0) := ⟨_, _, _, ((FnD.or (Q_CM_row.up (by decide)) (Q_CM_rep0.up (by decide))).imp fun _ _ _ _ h => item_or h), ⟨a17, i17, k17⟩, b17⟩
  have Q_CM_Looked_is_body := ok_Looked_is_body (P := l.prog) (base := base) (n := 15) (lo := 0) T (CM_item0.up (by decide)) F18
  have CM_Looked_is_body : CalM l.prog w K mg base 16 CL "is_body" ((c_Looked_is_body CL 0)) := ⟨_, _, _, Q_CM_Looked_is_body, ⟨a18, i18, k18⟩, b18⟩
  have Q_CM_Looked_is_part := ok_Looked_is_part (P := l.prog) (base := base) (n := 16) T (C_is_name.up (by decide)) (C_are_names.up (by decide)) (C_are_unlike.up (by decide)) (CM_Looked_is_more.up (by decide)) (CM_Looked_is_body.up (by decide)) F19
  have CM_Looked_is_part : CalM l.prog w K mg base 17 CL "is_part" ((c_Looked_is_part CL)) := ⟨_, _, _, Q_CM_Looked_is_part, ⟨a19, i19, k19⟩, b19⟩
  have Q_CM_Looked_is_program := ok_Looked_is_program (P := l.prog) (base := base) (n := 17) T (C_are_names.up (by decide)) (C_are_unlike.up (by decide)) (CM_Looked_is_part.up (by decide)) (CM_Looked_is_more.up (by decide)) (CM_Looked_is_body.up (by decide)) F20
  have CM_Looked_is_program : CalM l.prog w K mg base 18 CL "is_program" ((c_Looked_is_program CL)) := ⟨_, _, _, Q_CM_Looked_is_program, ⟨a20, i20, k20⟩, b20⟩
  have Q_CK_Program := ok_Program___init__ (P := l.prog) (base := base) (n := 18) T (CK_Looked.up (by decide)) (CM_Looked_is_program.up (by decide)) F21
  have CK_Program : CalK l.prog w K mg base 20 "Program" CP ((c_Program___init__ CP)) := ⟨_, _, _, Q_CK_Program, ⟨mkCP, a21, i21, kcCP⟩, PySem.W.mg_of X G gCP, b21⟩
  have Q_CM_Program_plain := ok_Program_plain (P := l.prog) (base := base) (n := 0) T  F22
  have CM_Program_plain : CalM l.prog w K mg base 1 CP "plain" ((c_Program_plain CP)) := ⟨_, _, _, Q_CM_Program_plain, ⟨a22, i22, k22⟩, b22⟩
  have Q_CM_Program_ins := ok_Program_ins (P := l.prog) (base := base) (n := 0) T  F23
  have CM_Program_ins : CalM l.prog w K mg base 1 CP "ins" ((c_Program_ins CP)) := ⟨_, _, _, Q_CM_Program_ins, ⟨a23, i23, k23⟩, b23⟩
  have Q_CM_Program_outs := ok_Program_outs (P := l.prog) (base := base) (n := 0) T  F24
  have CM_Program_outs : CalM l.prog w K mg base 1 CP "outs" ((c_Program_outs CP)) := ⟨_, _, _, Q_CM_Program_outs, ⟨a24, i24, k24⟩, b24⟩
  have Q_CM_Program_part := ok_Program_part (P := l.prog) (base := base) (n := 0) T  F25
  have CM_Program_part : CalM l.prog w K mg base 1 CP "part" ((c_Program_part CP)) := ⟨_, _, _, Q_CM_Program_part, ⟨a25, i25, k25⟩, b25⟩
  have Q_CM_Program_size := ok_Program_size (P := l.prog) (base := base) (n := 0) T  F26
  have CM_Program_size : CalM l.prog w K mg base 1 CP "size" ((c_Program_size CP)) := ⟨_, _, _, Q_CM_Program_size, ⟨a26, i26, k26⟩, b26⟩
  have Q_CM_Program_body := ok_Program_body (P := l.prog) (base := base) (n := 0) T  F27
  have CM_Program_body : CalM l.prog w K mg base 1 CP "body" ((c_Program_body CP)) := ⟨_, _, _, Q_CM_Program_body, ⟨a27, i27, k27⟩, b27⟩
  have Q_C__law_names := ok__law_names (P := l.prog) (base := base) (n := 2) T (C__law_draw.up (by decide)) F28
  have C__law_names : Cal l.prog w K mg base 3 "_law_names" (c__law_names) := ⟨_, _, _, Q_C__law_names, PySem.W.mg_of X G a28, k28, b28⟩
  have Q_C__law_common := ok__law_common (P := l.prog) (base := base) (n := 0) T  F29
  have C__law_common : Cal l.prog w K mg base 1 "_law_common" (c__law_common) := ⟨_, _, _, Q_C__law_common, PySem.W.mg_of X G a29, k29, b29⟩
  have Q_C__law_lowest := ok__law_lowest (P := l.prog) (base := base) (n := 1) T (C__law_common.up (by decide)) F30
  have C__law_lowest : Cal l.prog w K mg base 2 "_law_lowest" (c__law_lowest) := ⟨_, _, _, Q_C__law_lowest, PySem.W.mg_of X G a30, k30, b30⟩
  have Q_C__law_fraction := ok__law_fraction (P := l.prog) (base := base) (n := 2) T (C__law_draw.up (by decide)) (C__law_lowest.up (by decide)) F31
  have C__law_fraction : Cal l.prog w K mg base 3 "_law_fraction" (c__law_fraction) := ⟨_, _, _, Q_C__law_fraction, PySem.W.mg_of X G a31, k31, b31⟩
  have Q_C__law_thing := ok__law_thing (P := l.prog) (base := base) (n := 3) T (C__law_draw.up (by decide)) (C__law_fraction.up (by decide)) F32
  have C__law_thing : Cal l.prog w K mg base 4 "_law_thing" (c__law_thing) := ⟨_, _, _, Q_C__law_thing, PySem.W.mg_of X G a32, k32, b32⟩
  have Q_C__law_row := ok__law_row (P := l.prog) (base := base) (n := 4) T (C__law_draw.up (by decide)) (C__law_thing.up (by decide)) F33
  have C__law_row : Cal l.prog w K mg base 5 "_law_row" (c__law_row) := ⟨_, _, _, Q_C__law_row, PySem.W.mg_of X G a33, k33, b33⟩
  have C_body4 : Cal l.prog w K mg base 1 "_law_body" (c__law_body 4) := ⟨_, _, _, (vac_body F34), PySem.W.mg_of X G a34, k34, b34⟩
  have Q_C_body3 := ok__law_body (P := l.prog) (base := base) (n := 5) (lo := 3) T (C__law_draw.up (by decide)) (C_body4.up (by decide)) (C__law_row.up (by decide)) F34
  have C_body3 : Cal l.prog w K mg base 6 "_law_body" ((c__law_body 3)) := ⟨_, _, _, Q_C_body3, PySem.W.mg_of X G a34, k34, b34⟩
  have Q_C_body2 := ok__law_body (P := l.prog) (base := base) (n := 6) (lo := 2) T (C__law_draw.up (by decide)) (C_body3.up (by decide)) (C__law_row.up (by decide)) F34
  have C_body2 : Cal l.prog w K mg base 7 "_law_body" ((c__law_body 2)) := ⟨_, _, _, Q_C_body2, PySem.W.mg_of X G a34, k34, b34⟩
  have Q_C_body1 := ok__law_body (P := l.prog) (base := base) (n := 7) (lo := 1) T (C__law_draw.up (by decide)) (C_body2.up (by decide)) (C__law_row.up (by decide)) F34
  have C_body1 : Cal l.prog w K mg base 8 "_law_body" ((c__law_body 1)) := ⟨_, _, _, Q_C_body1, PySem.W.mg_of X G a34, k34, b34⟩
  have Q_C__law_body := ok__law_body (P := l.prog) (base := base) (n := 8) (lo := 0) T (C__law_draw.up (by decide)) (C_body1.up (by decide)) (C__law_row.up (by decide)) F34
  have C__law_body : Cal l.prog w K mg base 9 "_law_body" ((c__law_body 0)) := ⟨_, _, _, Q_C__law_body, PySem.W.mg_of X G a34, k34, b34⟩
  have Q_C__law_program := ok__law_program (P := l.prog) (base := base) (n := 9) T (C__law_names.up (by decide)) (C__law_draw.up (by decide)) (C__law_body.up (by decide)) F35
  have C__law_program : Cal l.prog w K mg base 10 "_law_program" (c__law_program) := ⟨_, _, _, Q_C__law_program, PySem.W.mg_of X G a35, k35, b35⟩
  have Q_C_fraction := ok_fraction (P := l.prog) (base := base) (n := 1) T (C_common.up (by decide)) F36
  have C_fraction : Cal l.prog w K mg base 2 "fraction" (c_fraction) := ⟨_, _, _, Q_C_fraction, PySem.W.mg_of X G a36, k36, b36⟩
  have Q_C_text_of := ok_text_of (P := l.prog) (base := base) (n := 0) T  F37
  have C_text_of : Cal l.prog w K mg base 1 "text_of" (c_text_of) := ⟨_, _, _, Q_C_text_of, PySem.W.mg_of X G a37, k37, b37⟩
  have Q_C_word_of := ok_word_of (P := l.prog) (base := base) (n := 2) T (C_is_fraction.up (by decide)) (C_text_of.up (by decide)) F38
  have C_word_of : Cal l.prog w K mg base 3 "word_of" (c_word_of) := ⟨_, _, _, Q_C_word_of, PySem.W.mg_of X G a38, k38, b38⟩
  have C_bl4 : Cal l.prog w K mg base 1 "body_lines" (c_body_lines 4) := ⟨_, _, _, (vac_bl F39), PySem.W.mg_of X G a39, k39, b39⟩
  have Q_C_bl3 := ok_body_lines (P := l.prog) (base := base) (n := 3) (lo := 3) T (C_bl4.up (by decide)) (C_word_of.up (by decide)) F39
  have C_bl3 : Cal l.prog w K mg base 4 "body_lines" ((c_body_lines 3)) := ⟨_, _, _, Q_C_bl3, PySem.W.mg_of X G a39, k39, b39⟩
  have Q_C_bl2 := ok_body_lines (P := l.prog) (base := base) (n := 4) (lo := 2) T (C_bl3.up (by decide)) (C_word_of.up (by decide)) F39
  have C_bl2 : Cal l.prog w K mg base 5 "body_lines" ((c_body_lines 2)) := ⟨_, _, _, Q_C_bl2, PySem.W.mg_of X G a39, k39, b39⟩
  have Q_C_bl1 := ok_body_lines (P := l.prog) (base := base) (n := 5) (lo := 1) T (C_bl2.up (by decide)) (C_word_of.up (by decide)) F39
  have C_bl1 : Cal l.prog w K mg base 6 "body_lines" ((c_body_lines 1)) := ⟨_, _, _, Q_C_bl1, PySem.W.mg_of X G a39, k39, b39⟩
  have Q_C_body_lines := ok_body_lines (P := l.prog) (base := base) (n := 6) (lo := 0) T (C_bl1.up (by decide)) (C_word_of.up (by decide)) F39
  have C_body_lines : Cal l.prog w K mg base 7 "body_lines" ((c_body_lines 0)) := ⟨_, _, _, Q_C_body_lines, PySem.W.mg_of X G a39, k39, b39⟩
  have Q_C_shown := ok_shown (P := l.prog) (base := base) (n := 7) T (C_body_lines.up (by decide)) (CM_Program_plain.up (by decide)) F40
  have C_shown : Cal l.prog w K mg base 8 "shown" ((c_shown CP)) := ⟨_, _, _, Q_C_shown, PySem.W.mg_of X G a40, k40, b40⟩
  have Q_C__law_word := ok__law_word (P := l.prog) (base := base) (n := 0) T  F41
  have C__law_word : Cal l.prog w K mg base 1 "_law_word" (c__law_word) := ⟨_, _, _, Q_C__law_word, PySem.W.mg_of X G a41, k41, b41⟩
  have C_lb4 : Cal l.prog w K mg base 1 "_law_body_lines" (c__law_body_lines 4) := ⟨_, _, _, (vac_lb F42), PySem.W.mg_of X G a42, k42, b42⟩
  have Q_C_lb3 := ok__law_body_lines (P := l.prog) (base := base) (n := 1) (lo := 3) T (C_lb4.up (by decide)) (C__law_word.up (by decide)) F42
  have C_lb3 : Cal l.prog w K mg base 2 "_law_body_lines" ((c__law_body_lines 3)) := ⟨_, _, _, Q_C_lb3, PySem.W.mg_of X G a42, k42, b42⟩
  have Q_C_lb2 := ok__law_body_lines (P := l.prog) (base := base) (n := 2) (lo := 2) T (C_lb3.up (by decide)) (C__law_word.up (by decide)) F42
  have C_lb2 : Cal l.prog w K mg base 3 "_law_body_lines" ((c__law_body_lines 2)) := ⟨_, _, _, Q_C_lb2, PySem.W.mg_of X G a42, k42, b42⟩
  have Q_C_lb1 := ok__law_body_lines (P := l.prog) (base := base) (n := 3) (lo := 1) T (C_lb2.up (by decide)) (C__law_word.up (by decide)) F42
  have C_lb1 : Cal l.prog w K mg base 4 "_law_body_lines" ((c__law_body_lines 1)) := ⟨_, _, _, Q_C_lb1, PySem.W.mg_of X G a42, k42, b42⟩
  have Q_C__law_body_lines := ok__law_body_lines (P := l.prog) (base := base) (n := 4) (lo := 0) T (C_lb1.up (by decide)) (C__law_word.up (by decide)) F42
  have C__law_body_lines : Cal l.prog w K mg base 5 "_law_body_lines" ((c__law_body_lines 0)) := ⟨_, _, _, Q_C__law_body_lines, PySem.W.mg_of X G a42, k42, b42⟩
  have Q_C__law_lines := ok__law_lines (P := l.prog) (base := base) (n := 5) T (C__law_body_lines.up (by decide)) F43
  have C__law_lines : Cal l.prog w K mg base 6 "_law_lines" ((c__law_lines)) := ⟨_, _, _, Q_C__law_lines, PySem.W.mg_of X G a43, k43, b43⟩
  have Q_C_figures_in := ok_figures_in (P := l.prog) (base := base) (n := 0) T  F44
  have C_figures_in : Cal l.prog w K mg base 1 "figures_in" (c_figures_in) := ⟨_, _, _, Q_C_figures_in, PySem.W.mg_of X G a44, k44, b44⟩
  have Q_C_whole_in := ok_whole_in (P := l.prog) (base := base) (n := 1) T (C_figures_in.up (by decide)) F45
  have C_whole_in : Cal l.prog w K mg base 2 "whole_in" (c_whole_in) := ⟨_, _, _, Q_C_whole_in, PySem.W.mg_of X G a45, k45, b45⟩
  have Q_C_number_in := ok_number_in (P := l.prog) (base := base) (n := 2) T (C_whole_in.up (by decide)) (C_figures_in.up (by decide)) (C_fraction.up (by decide)) F46
  have C_number_in : Cal l.prog w K mg base 3 "number_in" (c_number_in) := ⟨_, _, _, Q_C_number_in, PySem.W.mg_of X G a46, k46, b46⟩
  have Q_C_words_of := ok_words_of (P := l.prog) (base := base) (n := 0) T  F47
  have C_words_of : Cal l.prog w K mg base 1 "words_of" (c_words_of) := ⟨_, _, _, Q_C_words_of, PySem.W.mg_of X G a47, k47, b47⟩
  have Q_C_thing_in := ok_thing_in (P := l.prog) (base := base) (n := 3) T (C_is_name.up (by decide)) (C_number_in.up (by decide)) F48
  have C_thing_in : Cal l.prog w K mg base 4 "thing_in" (c_thing_in) := ⟨_, _, _, Q_C_thing_in, PySem.W.mg_of X G a48, k48, b48⟩
  have Q_C_doing_in := ok_doing_in (P := l.prog) (base := base) (n := 4) T (C_thing_in.up (by decide)) (C_whole_in.up (by decide)) F49
  have C_doing_in : Cal l.prog w K mg base 5 "doing_in" (c_doing_in) := ⟨_, _, _, Q_C_doing_in, PySem.W.mg_of X G a49, k49, b49⟩
  have Q_C_unlikeL := ok_are_unlike_l (P := l.prog) (base := base) (n := 0) T  F10
  have C_unlikeL : Cal l.prog w K mg base 1 "are_unlike" (c_are_unlike_l) := ⟨_, _, _, Q_C_unlikeL, PySem.W.mg_of X G a10, k10, b10⟩
  have Q_CK_Source := ok_Source___init__ (P := l.prog) (base := base) (n := 0) T  F50
  have CK_Source : CalK l.prog w K mg base 1 "Source" CS ((c_Source___init__ CS)) := ⟨_, _, _, Q_CK_Source, ⟨mkCS, a50, i50, kcCS⟩, PySem.W.mg_of X G gCS, b50⟩
  have Q_CM_Source_need := ok_Source_need (P := l.prog) (base := base) (n := 0) T  F51
  have CM_Source_need : CalM l.prog w K mg base 1 CS "need" ((c_Source_need CS)) := ⟨_, _, _, Q_CM_Source_need, ⟨a51, i51, k51⟩, b51⟩
  have Q_CM_Source_more := ok_Source_more (P := l.prog) (base := base) (n := 1) T (CM_Source_need.up (by decide)) F52
  have CM_Source_more : CalM l.prog w K mg base 2 CS "more" ((c_Source_more CS)) := ⟨_, _, _, Q_CM_Source_more, ⟨a52, i52, k52⟩, b52⟩
  have Q_CM_Source_begin := ok_Source_begin (P := l.prog) (base := base) (n := 2) T (C_are_names.up (by decide)) (C_unlikeL.up (by decide)) (CM_Source_need.up (by decide)) (CM_Source_more.up (by decide)) F53
  have CM_Source_begin : CalM l.prog w K mg base 3 CS "begin" ((c_Source_begin CS)) := ⟨_, _, _, Q_CM_Source_begin, ⟨a53, i53, k53⟩, b53⟩
  have Q_CM_Source_take_part := ok_Source_take_part (P := l.prog) (base := base) (n := 3) T (C_is_name.up (by decide)) (CM_Source_need.up (by decide)) (CM_Source_more.up (by decide)) (CM_Source_begin.up (by decide)) F54
  have CM_Source_take_part : CalM l.prog w K mg base 4 CS "take_part" ((c_Source_take_part CS)) := ⟨_, _, _, Q_CM_Source_take_part, ⟨a54, i54, k54⟩, b54⟩
  have Q_CM_Source_take_in := ok_Source_take_in (P := l.prog) (base := base) (n := 3) T (CM_Source_need.up (by decide)) (CM_Source_begin.up (by decide)) F55
  have CM_Source_take_in : CalM l.prog w K mg base 4 CS "take_in" ((c_Source_take_in CS)) := ⟨_, _, _, Q_CM_Source_take_in, ⟨a55, i55, k55⟩, b55⟩
  have Q_CM_Source_take_repeat := ok_Source_take_repeat (P := l.prog) (base := base) (n := 2) T (C_whole_in.up (by decide)) (C_is_among.up (by decide)) (CM_Source_need.up (by decide)) (CM_Source_more.up (by decide)) F56
  have CM_Source_take_repeat : CalM l.prog w K mg base 3 CS "take_repeat" ((c_Source_take_repeat CS)) := ⟨_, _, _, Q_CM_Source_take_repeat, ⟨a56, i56, k56⟩, b56⟩
  have Q_CM_Source_take_end := ok_Source_take_end (P := l.prog) (base := base) (n := 1) T (CM_Source_need.up (by decide)) F57
  have CM_Source_take_end : CalM l.prog w K mg base 2 CS "take_end" ((c_Source_take_end CS)) := ⟨_, _, _, Q_CM_Source_take_end, ⟨a57, i57, k57⟩, b57⟩
  have Q_CM_Source_take_row := ok_Source_take_row (P := l.prog) (base := base) (n := 5) T (C_is_name.up (by decide)) (C_doing_in.up (by decide)) (C_is_doing.up (by decide)) (CM_Source_need.up (by decide)) (CM_Source_more.up (by decide)) F58
  have CM_Source_take_row : CalM l.prog w K mg base 6 CS "take_row" ((c_Source_take_row CS)) := ⟨_, _, _, Q_CM_Source_take_row, ⟨a58, i58, k58⟩, b58⟩
  have Q_CM_Source_take_give := ok_Source_take_give (P := l.prog) (base := base) (n := 2) T (CM_Source_need.up (by decide)) (CM_Source_more.up (by decide)) F59
  have CM_Source_take_give : CalM l.prog w K mg base 3 CS "take_give" ((c_Source_take_give CS)) := ⟨_, _, _, Q_CM_Source_take_give, ⟨a59, i59, k59⟩, b59⟩
  have Q_CM_Source_take_out := ok_Source_take_out (P := l.prog) (base := base) (n := 2) T (C_are_names.up (by decide)) (CM_Source_need.up (by decide)) (CM_Source_more.up (by decide)) F60
  have CM_Source_take_out : CalM l.prog w K mg base 3 CS "take_out" ((c_Source_take_out CS)) := ⟨_, _, _, Q_CM_Source_take_out, ⟨a60, i60, k60⟩, b60⟩
  have Q_CM_Source_take := ok_Source_take (P := l.prog) (base := base) (n := 6) T (CM_Source_need.up (by decide)) (CM_Source_take_part.up (by decide)) (CM_Source_take_in.up (by decide)) (CM_Source_take_repeat.up (by decide)) (CM_Source_take_end.up (by decide)) (CM_Source_take_give.up (by decide)) (CM_Source_take_out.up (by decide)) (CM_Source_take_row.up (by decide)) F61
  have CM_Source_take : CalM l.prog w K mg base 7 CS "take" ((c_Source_take CS)) := ⟨_, _, _, Q_CM_Source_take, ⟨a61, i61, k61⟩, b61⟩
  have Q_C_read := ok_read (P := l.prog) (base := base) (n := 20) T (C_words_of.up (by decide)) (CK_Source.up (by decide)) (CM_Source_need.up (by decide)) (CM_Source_take.up (by decide)) (CK_Program.up (by decide)) F62
  have C_read : Cal l.prog w K mg base 22 "read" ((c_read CP)) := ⟨_, _, _, Q_C_read, PySem.W.mg_of X G a62, k62, b62⟩
  have Q_C__law_wide_word := ok__law_wide_word (P := l.prog) (base := base) (n := 2) T (C__law_draw.up (by decide)) F63
  have C__law_wide_word : Cal l.prog w K mg base 3 "_law_wide_word" (c__law_wide_word) := ⟨_, _, _, Q_C__law_wide_word, PySem.W.mg_of X G a63, k63, b63⟩
  have Q_C__law_wide := ok__law_wide (P := l.prog) (base := base) (n := 3) T (C__law_wide_word.up (by decide)) (C__law_draw.up (by decide)) F64
  have C__law_wide : Cal l.prog w K mg base 4 "_law_wide" (c__law_wide) := ⟨_, _, _, Q_C__law_wide, PySem.W.mg_of X G a64, k64, b64⟩
  exact ok_law (n := 22) T (C__law_begun.up (by decide)) (C__law_program.up (by decide)) (C__law_lines.up (by decide)) (C_shown.up (by decide)) (C__law_wide.up (by decide)) (C_read.up (by decide)) (CK_Program.up (by decide)) (CM_Program_plain.up (by decide)) (CM_Program_size.up (by decide)) F65
end D
open PySem PySem.W PyProof.Rows
set_option maxHeartbeats 0 in
theorem PySem.Challenge.cw_slopehouse_k04_shown_and_read_holds : PySem.Challenge.rw_slopehouse_k04_shown_and_read.Holds := by
  w_on; o_law; k_head; (case hw => w_witness2)
  k_fill
  refine D.walk_end (l := PySem.Challenge.rw_slopehouse_k04_shown_and_read) (k := 24) (x := "_law_script") (c := fun _ => D.c_law) rfl rfl ⟨rfl, by decide, by decide⟩ (fun w h Y => PySem.W.kIn_of Y) ?F (fun _ ns hl => ⟨ns, rfl, hl, fun _ => rfl⟩)
  case F =>
    intro w mg fa h KX G hmg
    refine' D.all_mk KX G hmg ?gCL ?pgCL ?hdCL ?poCL ?saCL ?mkCL ?kcCL ?gCP ?pgCP ?hdCP ?poCP ?saCP ?mkCP ?kcCP ?gCS ?pgCS ?hdCS ?poCS ?saCS ?mkCS ?kcCS ?a1 ?l1 ?c1 ?k1 ?a2 ?l2 ?c2 ?k2 ?a3 ?l3 ?c3 ?k3 ?a4 ?l4 ?c4 ?k4 ?a5 ?l5 ?c5 ?k5 ?a6 ?l6 ?c6 ?k6 ?a7 ?l7 ?c7 ?k7 ?a8 ?l8 ?c8 ?k8 ?a9 ?l9 ?c9 ?k9 ?a10 ?l10 ?c10 ?k10 ?a11 ?l11 ?c11 ?k11 ?a12 ?l12 ?c12 ?k12 ?a13 ?l13 ?c13 ?k13 ?a14 ?l14 ?c14 ?k14 ?a15 ?i15 ?l15 ?c15 ?k15 ?a16 ?i16 ?l16 ?c16 ?k16 ?a17 ?i17 ?l17 ?c17 ?k17 ?a18 ?i18 ?l18 ?c18 ?k18 ?a19 ?i19 ?l19 ?c19 ?k19 ?a20 ?i20 ?l20 ?c20 ?k20 ?a21 ?i21 ?l21 ?c21 ?k21 ?a22 ?i22 ?l22 ?c22 ?k22 ?a23 ?i23 ?l23 ?c23 ?k23 ?a24 ?i24 ?l24 ?c24 ?k24 ?a25 ?i25 ?l25 ?c25 ?k25 ?a26 ?i26 ?l26 ?c26 ?k26 ?a27 ?i27 ?l27 ?c27 ?k27 ?a28 ?l28 ?c28 ?k28 ?a29 ?l29 ?c29 ?k29 ?a30 ?l30 ?c30 ?k30 ?a31 ?l31 ?c31 ?k31 ?a32 ?l32 ?c32 ?k32 ?a33 ?l33 ?c33 ?k33 ?a34 ?l34 ?c34 ?k34 ?a35 ?l35 ?c35 ?k35 ?a36 ?l36 ?c36 ?k36 ?lT36 ?vT36 ?a37 ?l37 ?c37 ?k37 ?a38 ?l38 ?c38 ?k38 ?a39 ?l39 ?c39 ?k39 ?a40 ?l40 ?c40 ?k40 ?a41 ?l41 ?c41 ?k41 ?a42 ?l42 ?c42 ?k42 ?a43 ?l43 ?c43 ?k43 ?a44 ?l44 ?c44 ?k44 ?a45 ?l45 ?c45 ?k45 ?a46 ?l46 ?c46 ?k46 ?a47 ?l47 ?c47 ?k47 ?a48 ?l48 ?c48 ?k48 ?a49 ?l49 ?c49 ?k49 ?a50 ?i50 ?l50 ?c50 ?k50 ?a51 ?i51 ?l51 ?c51 ?k51 ?a52 ?i52 ?l52 ?c52 ?k52 ?a53 ?i53 ?l53 ?c53 ?k53 ?a54 ?i54 ?l54 ?c54 ?k54 ?a55 ?i55 ?l55 ?c55 ?k55 ?a56 ?i56 ?l56 ?c56 ?k56 ?a57 ?i57 ?l57 ?c57 ?k57 ?a58 ?i58 ?l58 ?c58 ?k58 ?a59 ?i59 ?l59 ?c59 ?k59 ?a60 ?i60 ?l60 ?c60 ?k60 ?a61 ?i61 ?l61 ?c61 ?k61 ?a62 ?l62 ?c62 ?k62 ?a63 ?l63 ?c63 ?k63 ?a64 ?l64 ?c64 ?k64 ?a65 ?l65 ?c65 ?k65 ?z0 ?z1 ?z2 ?z3 ?z4 ?z5 ?z6 ?z7 ?z8 ?z9 ?z10 ?z11 ?z12 ?z13 ?z14 ?z15 ?z16 ?e16 ?z17 ?z18 ?e18 ?z19 ?w19 ?e19 ?z20 ?z21 ?z22 ?z23 ?z24 ?z25 ?z26 ?z27 ?z28 ?z29 ?z30 ?w30 ?e30 ?h30 ?z32 ?z33 ?z35 ?z36 ?z37 ?z39 ?z40 ?z41 ?z42 ?z43 ?z44 ?z45 ?z46 ?z47
    (case gCL => k_is)
    (case pgCL => k_is)
    (case hdCL => k_is)
    (case poCL => k_is)
    (case saCL => k_is)
    (case mkCL => k_is)
    (case kcCL => k_is)
    (case gCP => k_is)
    (case pgCP => k_is)
    (case hdCP => k_is)
    (case poCP => k_is)
    (case saCP => k_is)
    (case mkCP => k_is)
    (case kcCP => k_is)
    (case gCS => k_is)
    (case pgCS => k_is)
    (case hdCS => k_is)
    (case poCS => k_is)
    (case saCS => k_is)
    (case mkCS => k_is)
    (case kcCS => k_is)
    (case a1 => k_is)
    (case l1 => k_is)
    (case c1 => k_is)
    (case k1 => k_is)
    (case a2 => k_is)
    (case l2 => k_is)
    (case c2 => k_is)
    (case k2 => k_is)
    (case a3 => k_is)
    (case l3 => k_is)
    (case c3 => k_is)
    (case k3 => k_is)
    (case a4 => k_is)
    (case l4 => k_is)
    (case c4 => k_is)
    (case k4 => k_is)
    (case a5 => k_is)
    (case l5 => k_is)
    (case c5 => k_is)
    (case k5 => k_is)
    (case a6 => k_is)
    (case l6 => k_is)
    (case c6 => k_is)
    (case k6 => k_is)
    (case a7 => k_is)
    (case l7 => k_is)
    (case c7 => k_is)
    (case k7 => k_is)
    (case a8 => k_is)
    (case l8 => k_is)
    (case c8 => k_is)
    (case k8 => k_is)
    (case a9 => k_is)
    (case l9 => k_is)
    (case c9 => k_is)
    (case k9 => k_is)
    (case a10 => k_is)
    (case l10 => k_is)
    (case c10 => k_is)
    (case k10 => k_is)
    (case a11 => k_is)
    (case l11 => k_is)
    (case c11 => k_is)
    (case k11 => k_is)
    (case a12 => k_is)
    (case l12 => k_is)
    (case c12 => k_is)
    (case k12 => k_is)
    (case a13 => k_is)
    (case l13 => k_is)
    (case c13 => k_is)
    (case k13 => k_is)
    (case a14 => k_is)
    (case l14 => k_is)
    (case c14 => k_is)
    (case k14 => k_is)
    (case a15 => k_is)
    (case i15 => k_is)
    (case l15 => k_is)
    (case c15 => k_is)
    (case k15 => k_is)
    (case a16 => k_is)
    (case i16 => k_is)
    (case l16 => k_is)
    (case c16 => k_is)
    (case k16 => k_is)
    (case a17 => k_is)
    (case i17 => k_is)
    (case l17 => k_is)
    (case c17 => k_is)
    (case k17 => k_is)
    (case a18 => k_is)
    (case i18 => k_is)
    (case l18 => k_is)
    (case c18 => k_is)
    (case k18 => k_is)
    (case a19 => k_is)
    (case i19 => k_is)
    (case l19 => k_is)
    (case c19 => k_is)
    (case k19 => k_is)
    (case a20 => k_is)
    (case i20 => k_is)
    (case l20 => k_is)
    (case c20 => k_is)
    (case k20 => k_is)
    (case a21 => k_is)
    (case i21 => k_is)
    (case l21 => k_is)
    (case c21 => k_is)
    (case k21 => k_is)
    (case a22 => k_is)
    (case i22 => k_is)
    (case l22 => k_is)
    (case c22 => k_is)
    (case k22 => k_is)
    (case a23 => k_is)
    (case i23 => k_is)
    (case l23 => k_is)
    (case c23 => k_is)
    (case k23 => k_is)
    (case a24 => k_is)
    (case i24 => k_is)
    (case l24 => k_is)
    (case c24 => k_is)
    (case k24 => k_is)
    (case a25 => k_is)
    (case i25 => k_is)
    (case l25 => k_is)
    (case c25 => k_is)
    (case k25 => k_is)
    (case a26 => k_is)
    (case i26 => k_is)
    (case l26 => k_is)
    (case c26 => k_is)
    (case k26 => k_is)
    (case a27 => k_is)
    (case i27 => k_is)
    (case l27 => k_is)
    (case c27 => k_is)
    (case k27 => k_is)
    (case a28 => k_is)
    (case l28 => k_is)
    (case c28 => k_is)
    (case k28 => k_is)
    (case a29 => k_is)
    (case l29 => k_is)
    (case c29 => k_is)
    (case k29 => k_is)
    (case a30 => k_is)
    (case l30 => k_is)
    (case c30 => k_is)
    (case k30 => k_is)
    (case a31 => k_is)
    (case l31 => k_is)
    (case c31 => k_is)
    (case k31 => k_is)
    (case a32 => k_is)
    (case l32 => k_is)
    (case c32 => k_is)
    (case k32 => k_is)
    (case a33 => k_is)
    (case l33 => k_is)
    (case c33 => k_is)
    (case k33 => k_is)
    (case a34 => k_is)
    (case l34 => k_is)
    (case c34 => k_is)
    (case k34 => k_is)
    (case a35 => k_is)
    (case l35 => k_is)
    (case c35 => k_is)
    (case k35 => k_is)
    (case a36 => k_is)
    (case l36 => k_is)
    (case c36 => k_is)
    (case k36 => k_is)
    (case lT36 => k_is)
    (case vT36 => decide +kernel)
    (case a37 => k_is)
    (case l37 => k_is)
    (case c37 => k_is)
    (case k37 => k_is)
    (case a38 => k_is)
    (case l38 => k_is)
    (case c38 => k_is)
    (case k38 => k_is)
    (case a39 => k_is)
    (case l39 => k_is)
    (case c39 => k_is)
    (case k39 => k_is)
    (case a40 => k_is)
    (case l40 => k_is)
    (case c40 => k_is)
    (case k40 => k_is)
    (case a41 => k_is)
    (case l41 => k_is)
    (case c41 => k_is)
    (case k41 => k_is)
    (case a42 => k_is)
    (case l42 => k_is)
    (case c42 => k_is)
    (case k42 => k_is)
    (case a43 => k_is)
    (case l43 => k_is)
    (case c43 => k_is)
    (case k43 => k_is)
    (case a44 => k_is)
    (case l44 => k_is)
    (case c44 => k_is)
    (case k44 => k_is)
    (case a45 => k_is)
    (case l45 => k_is)
    (case c45 => k_is)
    (case k45 => k_is)
    (case a46 => k_is)
    (case l46 => k_is)
    (case c46 => k_is)
    (case k46 => k_is)
    (case a47 => k_is)
    (case l47 => k_is)
    (case c47 => k_is)
    (case k47 => k_is)
    (case a48 => k_is)
    (case l48 => k_is)
    (case c48 => k_is)
    (case k48 => k_is)
    (case a49 => k_is)
    (case l49 => k_is)
    (case c49 => k_is)
    (case k49 => k_is)
    (case a50 => k_is)
    (case i50 => k_is)
    (case l50 => k_is)
    (case c50 => k_is)
    (case k50 => k_is)
    (case a51 => k_is)
    (case i51 => k_is)
    (case l51 => k_is)
    (case c51 => k_is)
    (case k51 => k_is)
    (case a52 => k_is)
    (case i52 => k_is)
    (case l52 => k_is)
    (case c52 => k_is)
    (case k52 => k_is)
    (case a53 => k_is)
    (case i53 => k_is)
    (case l53 => k_is)
    (case c53 => k_is)
    (case k53 => k_is)
    (case a54 => k_is)
    (case i54 => k_is)
    (case l54 => k_is)
    (case c54 => k_is)
    (case k54 => k_is)
    (case a55 => k_is)
    (case i55 => k_is)
    (case l55 => k_is)
    (case c55 => k_is)
    (case k55 => k_is)
    (case a56 => k_is)
    (case i56 => k_is)
    (case l56 => k_is)
    (case c56 => k_is)
    (case k56 => k_is)
    (case a57 => k_is)
    (case i57 => k_is)
    (case l57 => k_is)
    (case c57 => k_is)
    (case k57 => k_is)
    (case a58 => k_is)
    (case i58 => k_is)
    (case l58 => k_is)
    (case c58 => k_is)
    (case k58 => k_is)
    (case a59 => k_is)
    (case i59 => k_is)
    (case l59 => k_is)
    (case c59 => k_is)
    (case k59 => k_is)
    (case a60 => k_is)
    (case i60 => k_is)
    (case l60 => k_is)
    (case c60 => k_is)
    (case k60 => k_is)
    (case a61 => k_is)
    (case i61 => k_is)
    (case l61 => k_is)
    (case c61 => k_is)
    (case k61 => k_is)
    (case a62 => k_is)
    (case l62 => k_is)
    (case c62 => k_is)
    (case k62 => k_is)
    (case a63 => k_is)
    (case l63 => k_is)
    (case c63 => k_is)
    (case k63 => k_is)
    (case a64 => k_is)
    (case l64 => k_is)
    (case c64 => k_is)
    (case k64 => k_is)
    (case a65 => k_is)
    (case l65 => k_is)
    (case c65 => k_is)
    (case k65 => k_is)
    (case z0 => k_is)
    (case z1 => k_is)
    (case z2 => k_is)
    (case z3 => k_is)
    (case z4 => k_is)
    (case z5 => k_is)
    (case z6 => k_is)
    (case z7 => k_is)
    (case z8 => k_is)
    (case z9 => k_is)
    (case z10 => k_is)
    (case z11 => k_is)
    (case z12 => k_is)
    (case z13 => k_is)
    (case z14 => k_is)
    (case z15 => k_is)
    (case z16 => k_is)
    (case e16 => decide +kernel)
    (case z17 => k_is)
    (case z18 => k_is)
    (case e18 => decide +kernel)
    (case z19 => k_is)
    (case w19 => k_is)
    (case e19 => decide +kernel)
    (case z20 => k_is)
    (case z21 => k_is)
    (case z22 => k_is)
    (case z23 => k_is)
    (case z24 => k_is)
    (case z25 => k_is)
    (case z26 => k_is)
    (case z27 => k_is)
    (case z28 => k_is)
    (case z29 => k_is)
    (case z30 => k_is)
    (case w30 => rfl)
    (case e30 => rfl)
    (case h30 => rfl)
    (case z32 => k_is)
    (case z33 => k_is)
    (case z35 => k_is)
    (case z36 => k_is)
    (case z37 => k_is)
    (case z39 => k_is)
    (case z40 => k_is)
    (case z41 => k_is)
    (case z42 => k_is)
    (case z43 => k_is)
    (case z44 => k_is)
    (case z45 => k_is)
    (case z46 => k_is)
    (case z47 => k_is)

