import PyProof.Rows.All
import HandS.Lambda
import Wide.All
import OpenK.AllK
import Wide.FinOn
import HandS.ForMost
import HandS.Wide
import HandS.IsInst
import HandS.Zip
import HandS.TupAny
import HandS.TupMul
import HandS.Style
import HandS.Walk
import PyProof.ReprRoads
import PyProof.ReprLen
import PyProof.CallFns
import HandS.SetFor
import HandS.Remove
import HandS.Text
import KE.IntBitsLaws
import HandS.Defaults
import HandS.Codes
import HandS.Strs
import KE.IntTextLaws
import PyProof.Rows.RegStrFacts
import PyProof.StrLawsRepr
import PyProof.Rows.StrOr
import HandS.Exc
import HandS.ExcOwn
import HandS.ExcIs
import HandS.TryOnly
import HandS.EndTab
import KE.GoesMore
import KE.GoesEnum
import KE.KAsSuite
import KE.KDictZip
import HandS.NoneIn
import PySem.Challenge.RW_slopehouse_k15_names_copies_and_calls
set_option Elab.async false
set_option linter.all false
set_option maxRecDepth 100000
set_option maxHeartbeats 4000000
/-! D1: values as data, a state of what may change, the judgements over it. -/
namespace D
open PySem PySem.Spec PyProof.Rows L2

/-! ### data -/
inductive A where
  | non | bl (b : Bool) | int (i : Int) | str (x : Str) | ty (n : String) | loc (p : Addr)
  | tup (xs : List A) | lst (xs : List A) | fls (xs : List A)
instance : Inhabited A := ⟨.non⟩

/-- Ex: all that stood stands -/
def Ex (H H' : Hp) : Prop := ∀ p u, H p = some u → H' p = some u
theorem Ex.refl (H : Hp) : Ex H H := by intro p u h; exact h
theorem Ex.trans {H H1 H2 : Hp} (f : Ex H H1) (g : Ex H1 H2) : Ex H H2 := by intro p u h; exact g p u (f p u h)
theorem Ex.rd {H H' : Hp} {a : Addr} {u : HO} (e : Ex H H') (h : Rd H a u) : Rd H' a u := by
  exact h.imp (e a _) fun q => q.imp fun o => e a _
theorem Ex.l {K : PySem.W.Frag} {H H' : Hp} {a : Addr} {xs : List V} (e : Ex H H') (h : SqL K H a xs) : SqL K H' a xs := h.elim (fun h => .inl (e.rd h)) .inr
theorem Ex.t {K : PySem.W.Frag} {H H' : Hp} {a : Addr} {xs : List V} (e : Ex H H') (h : SqT K H a xs) : SqT K H' a xs := h.elim (fun h => .inl (e.rd h)) .inr
theorem Ex.new {H : Hp} {p : Addr} {o : HO} (nl : H p = none) : Ex H (upd H p o) := by
  intro q u e
  exact (upd_ne (ne_of_none e nl)).trans e
theorem Ex.none {H H' : Hp} {p : Addr} (e : Ex H H') (h : H' p = Option.none) : H p = Option.none := by
  cases q : H p with
  | none => rfl
  | some o => rw [e p o q] at h; cases h

mutual
def Rep (K : PySem.W.Frag) (H : Hp) : A → V → Prop
  | .non, v => v = .non
  | .bl b, v => v = .bl b
  | .int i, v => v = .int i
  | .str x, v => v = .str x
  | .ty n, v => v = .ty n
  | .loc p, v => v = .ref p
  | .tup xs, v => ∃ a vs, v = .ref a ∧ SqT K H a vs ∧ RepL K H xs vs
  | .lst xs, v => ∃ a vs, v = .ref a ∧ H a = some (.lst vs) ∧ RepL K H xs vs
  | .fls xs, v => ∃ a vs, v = .ref a ∧ SqL K H a vs ∧ RepL K H xs vs
def RepL (K : PySem.W.Frag) (H : Hp) : List A → List V → Prop
  | [], vs => vs = []
  | x :: xs, vs => ∃ v r, vs = v :: r ∧ Rep K H x v ∧ RepL K H xs r
end
section
variable {K : PySem.W.Frag} {H H' : Hp}
mutual
theorem Rep.mono (e : Ex H H') : ∀ {x : A} {v : V}, Rep K H x v → Rep K H' x v
  | .non, _, h => by simp only [Rep] at h ⊢; exact h
  | .bl _, _, h => by simp only [Rep] at h ⊢; exact h
  | .int _, _, h => by simp only [Rep] at h ⊢; exact h
  | .str _, _, h => by simp only [Rep] at h ⊢; exact h
  | .ty _, _, h => by simp only [Rep] at h ⊢; exact h
  | .loc _, _, h => by simp only [Rep] at h ⊢; exact h
  | .tup xs, _, h => by
    simp only [Rep] at h ⊢
    obtain ⟨a, vs, h1, h2, h3⟩ := h
    exact ⟨a, vs, h1, e.t h2, RepL.mono e h3⟩
  | .lst xs, _, h => by
    simp only [Rep] at h ⊢
    obtain ⟨a, vs, h1, h2, h3⟩ := h
    exact ⟨a, vs, h1, e _ _ h2, RepL.mono e h3⟩
  | .fls xs, _, h => by
    simp only [Rep] at h ⊢
    obtain ⟨a, vs, h1, h2, h3⟩ := h
    exact ⟨a, vs, h1, e.l h2, RepL.mono e h3⟩
theorem RepL.mono (e : Ex H H') : ∀ {xs : List A} {vs : List V}, RepL K H xs vs → RepL K H' xs vs
  | [], _, h => by simp only [RepL] at h ⊢; exact h
  | x :: xs, _, h => by
    simp only [RepL] at h ⊢
    obtain ⟨v, r, h1, h2, h3⟩ := h
    exact ⟨v, r, h1, Rep.mono e h2, RepL.mono e h3⟩
end
theorem RepL.nil : RepL K H [] [] := by simp only [RepL]
theorem RepL.cons {x : A} {xs : List A} {v : V} {vs : List V} (h : Rep K H x v) (t : RepL K H xs vs) : RepL K H (x :: xs) (v :: vs) := by
  simp only [RepL]; exact ⟨v, vs, rfl, h, t⟩
theorem RepL.len : ∀ {xs : List A} {vs : List V}, RepL K H xs vs → vs.length = xs.length
  | [], _, h => by simp only [RepL] at h; rw [h]; rfl
  | x :: xs, _, h => by
    simp only [RepL] at h
    obtain ⟨v, r, rfl, _, h3⟩ := h
    simp [RepL.len h3]
theorem RepL.get : ∀ {xs : List A} {vs : List V} {i : Nat} {x : A}, RepL K H xs vs → xs[i]? = some x → ∃ v, vs[i]? = some v ∧ Rep K H x v
  | [], _, _, _, _, e => by simp at e
  | y :: xs, _, 0, x, h, e => by
    simp only [RepL] at h
    obtain ⟨v, r, rfl, h1, h3⟩ := h
    simp at e; subst e
    exact ⟨v, rfl, h1⟩
  | y :: xs, _, i + 1, x, h, e => by
    simp only [RepL] at h
    obtain ⟨v, r, rfl, h1, h3⟩ := h
    obtain ⟨w, e1, e2⟩ := RepL.get (i := i) h3 (by simpa using e)
    exact ⟨w, by simpa using e1, e2⟩
theorem RepL.rev {xs : List A} {vs : List V} {i : Nat} {v : V} (h : RepL K H xs vs) (e : vs[i]? = some v) : ∃ x, xs[i]? = some x ∧ Rep K H x v := by
  have hl : i < xs.length := by rw [← h.len]; exact (List.getElem?_eq_some_iff.mp e).1
  obtain ⟨w, e1, e2⟩ := h.get (List.getElem?_eq_getElem hl)
  rw [e1] at e; cases e
  exact ⟨_, List.getElem?_eq_getElem hl, e2⟩
theorem RepL.of {xs : List A} : ∀ {vs : List V}, vs.length = xs.length → (∀ (i : Nat) (x : A) (v : V), xs[i]? = some x → vs[i]? = some v → Rep K H x v) → RepL K H xs vs := by
  induction xs with
  | nil => intro vs hl _; cases vs with
    | nil => exact .nil
    | cons v vs => simp at hl
  | cons x xs ih => intro vs hl h; cases vs with
    | nil => simp at hl
    | cons v vs => exact .cons (h 0 x v rfl rfl) (ih (by simpa using hl) fun i y w e1 e2 => h (i + 1) y w (by simpa using e1) (by simpa using e2))
theorem RepL.append {xs ys : List A} {vs ws : List V} (h : RepL K H xs vs) (g : RepL K H ys ws) : RepL K H (xs ++ ys) (vs ++ ws) := by
  induction xs generalizing vs with
  | nil => simp only [RepL] at h; rw [h]; exact g
  | cons x xs ih =>
    simp only [RepL] at h
    obtain ⟨v, r, rfl, h1, h3⟩ := h
    exact .cons h1 (ih h3)
theorem RepL.snoc {xs : List A} {y : A} {vs : List V} {w : V} (h : RepL K H xs vs) (g : Rep K H y w) : RepL K H (xs ++ [y]) (vs ++ [w]) := h.append (.cons g .nil)
theorem RepL.take {xs : List A} {vs : List V} (n : Nat) (h : RepL K H xs vs) : RepL K H (xs.take n) (vs.take n) := by
  refine .of (by simp [h.len]) fun i x v e1 e2 => ?_
  rw [List.getElem?_take] at e1 e2
  split at e1
  · rename_i hi
    rw [if_pos hi] at e2
    obtain ⟨w, e3, r⟩ := h.get e1
    rw [e3] at e2; cases e2; exact r
  · cases e1
theorem RepL.drop {xs : List A} {vs : List V} (n : Nat) (h : RepL K H xs vs) : RepL K H (xs.drop n) (vs.drop n) := by
  refine .of (by simp [h.len]) fun i x v e1 e2 => ?_
  rw [List.getElem?_drop] at e1 e2
  obtain ⟨w, e3, r⟩ := h.get e1
  rw [e3] at e2; cases e2; exact r
theorem RepL.set {xs : List A} {vs : List V} {y : A} {w : V} (n : Nat) (h : RepL K H xs vs) (g : Rep K H y w) : RepL K H (xs.set n y) (vs.set n w) := by
  refine .of (by simp [h.len]) fun i x v e1 e2 => ?_
  rw [List.getElem?_set] at e1 e2
  split at e1
  · rename_i hi
    rw [if_pos hi] at e2
    split at e1
    · split at e2
      · cases e1; cases e2; exact g
      · cases e2
    · cases e1
  · rename_i hi
    rw [if_neg hi] at e2
    obtain ⟨w, e3, r⟩ := h.get e1
    rw [e3] at e2; cases e2; exact r
theorem RepL.reverse {xs : List A} {vs : List V} (h : RepL K H xs vs) : RepL K H xs.reverse vs.reverse := by
  induction xs generalizing vs with
  | nil => simp only [RepL] at h; subst h; exact .nil
  | cons x xs ih =>
    simp only [RepL] at h
    obtain ⟨v, r, rfl, h1, h3⟩ := h
    simp only [List.reverse_cons]
    exact (ih h3).snoc h1
theorem RepL.map {α : Type} {f : α → A} {g : α → V} (h : ∀ a, Rep K H (f a) (g a)) : ∀ l : List α, RepL K H (l.map f) (l.map g)
  | [] => .nil
  | a :: l => .cons (h a) (RepL.map h l)
theorem rep_int {i : Int} {v : V} : Rep K H (.int i) v ↔ v = .int i := by simp only [Rep]
theorem rep_bl {i : Bool} {v : V} : Rep K H (.bl i) v ↔ v = .bl i := by simp only [Rep]
theorem rep_str {i : Str} {v : V} : Rep K H (.str i) v ↔ v = .str i := by simp only [Rep]
theorem rep_non {v : V} : Rep K H .non v ↔ v = .non := by simp only [Rep]
theorem rep_ty {n : String} {v : V} : Rep K H (.ty n) v ↔ v = .ty n := by simp only [Rep]
theorem rep_loc {p : Addr} {v : V} : Rep K H (.loc p) v ↔ v = .ref p := by simp only [Rep]
theorem rep_tup {xs : List A} {v : V} : Rep K H (.tup xs) v ↔ ∃ a vs, v = .ref a ∧ SqT K H a vs ∧ RepL K H xs vs := by simp only [Rep]
theorem rep_lst {xs : List A} {v : V} : Rep K H (.lst xs) v ↔ ∃ a vs, v = .ref a ∧ H a = some (.lst vs) ∧ RepL K H xs vs := by simp only [Rep]
theorem rep_fls {xs : List A} {v : V} : Rep K H (.fls xs) v ↔ ∃ a vs, v = .ref a ∧ SqL K H a vs ∧ RepL K H xs vs := by simp only [Rep]
theorem repL_ints : ∀ {ns : List Int} {vs : List V}, RepL K H (ns.map A.int) vs → vs = ns.map V.int
  | [], _, h => by simp only [List.map_nil, RepL] at h; rw [h]; rfl
  | n :: ns, _, h => by
    simp only [List.map_cons, RepL] at h
    obtain ⟨v, r, rfl, h1, h3⟩ := h
    rw [rep_int] at h1
    rw [h1, repL_ints h3]; rfl
theorem repL_bls : ∀ {ns : List Bool} {vs : List V}, RepL K H (ns.map A.bl) vs → vs = ns.map V.bl
  | [], _, h => by simp only [List.map_nil, RepL] at h; rw [h]; rfl
  | n :: ns, _, h => by
    simp only [List.map_cons, RepL] at h
    obtain ⟨v, r, rfl, h1, h3⟩ := h
    rw [rep_bl] at h1
    rw [h1, repL_bls h3]; rfl
theorem repL_strs : ∀ {ns : List Str} {vs : List V}, RepL K H (ns.map A.str) vs → vs = ns.map V.str
  | [], _, h => by simp only [List.map_nil, RepL] at h; rw [h]; rfl
  | n :: ns, _, h => by
    simp only [List.map_cons, RepL] at h
    obtain ⟨v, r, rfl, h1, h3⟩ := h
    rw [rep_str] at h1
    rw [h1, repL_strs h3]; rfl
end

/-! ### what may change -/
inductive MO where
  | lst (xs : List A)
  | dic (kvs : List (Key × A))
  | ins (C dx : Addr) (fs : List (Str × A))
  | xd (fs : List (Str × A))
  | exc (a : Addr) (cls : Value) (d : Option Addr)
  | tbl (q : Str)
/-- a caught exception, kept -/
def XO (a : Addr) (cls : Value) (d : Option Addr) : HO := .ext fun h => ∃ (oe : Obj) (vs : Array Value), h.get? a = some oe ∧ (oe.cls = cls ∧ oe.dict = d) ∧ oe.data = .fields vs
abbrev Mu := Addr → Option MO
def Mu.upd (μ : Mu) (p : Addr) (m : MO) : Mu := fun b => if b = p then some m else μ b
def Mu.del (μ : Mu) (p : Addr) : Mu := fun b => if b = p then none else μ b
theorem Mu.upd_same {μ : Mu} {p : Addr} {m : MO} : μ.upd p m p = some m := by unfold Mu.upd; rw [if_pos rfl]
theorem Mu.upd_ne {μ : Mu} {p q : Addr} {m : MO} (h : q ≠ p) : μ.upd p m q = μ q := by unfold Mu.upd; rw [if_neg h]
theorem Mu.del_ne {μ : Mu} {p q : Addr} (h : q ≠ p) : μ.del p q = μ q := by unfold Mu.del; rw [if_neg h]
theorem Mu.del_same {μ : Mu} {p : Addr} : μ.del p p = none := by unfold Mu.del; rw [if_pos rfl]
theorem Mu.del_upd {μ : Mu} {p : Addr} {m : MO} (h : μ p = none) : (μ.upd p m).del p = μ := by
  funext b; unfold Mu.del Mu.upd; split
  · rename_i e; rw [e, h]
  · rfl
theorem Mu.upd_upd {μ : Mu} {p : Addr} {m n : MO} : (μ.upd p m).upd p n = μ.upd p n := by
  funext b; unfold Mu.upd; split <;> rfl
/-- KV pairs -/
def RepK (K : PySem.W.Frag) (H : Hp) {κ : Type} : List (κ × A) → List (κ × V) → Prop
  | [], ws => ws = []
  | (k, x) :: r, ws => ∃ v t, ws = (k, v) :: t ∧ Rep K H x v ∧ RepK K H r t
def RepO (K : PySem.W.Frag) (F : Hp) : MO → HO → Prop
  | .lst xs, o => ∃ vs, o = .lst vs ∧ RepL K F xs vs
  | .dic kvs, o => ∃ ws, o = .dK ws ∧ RepK K F kvs ws
  | .ins C dx fs, o => ∃ ws, o = .ins C dx ws ∧ RepK K F fs ws
  | .xd fs, o => ∃ ws, o = .xd ws ∧ RepK K F fs ws
  | .exc a cls d, o => o = XO a cls d
  | .tbl q, o => ∃ ps : Array Value, o = .tbl ps ∧ TriplesOk ps.toList ∧ ∀ (pos : Pos) (cv : Value), codeAmong pos ps.toList = some cv → ∃ c, cv = .ref c ∧ F c = some (LamX.CodeO c q)
section
variable {K : PySem.W.Frag} {H H' : Hp} {κ : Type}
theorem RepK.mono (e : Ex H H') : ∀ {kvs : List (κ × A)} {ws : List (κ × V)}, RepK K H kvs ws → RepK K H' kvs ws
  | [], _, h => h
  | (k, x) :: r, _, ⟨v, t, h1, h2, h3⟩ => ⟨v, t, h1, h2.mono e, RepK.mono e h3⟩
theorem RepO.mono (e : Ex H H') : ∀ {m : MO} {o : HO}, RepO K H m o → RepO K H' m o
  | .lst _, _, ⟨vs, h1, h2⟩ => ⟨vs, h1, h2.mono e⟩
  | .dic _, _, ⟨vs, h1, h2⟩ => ⟨vs, h1, h2.mono e⟩
  | .ins _ _ _, _, ⟨vs, h1, h2⟩ => ⟨vs, h1, h2.mono e⟩
  | .xd _, _, ⟨vs, h1, h2⟩ => ⟨vs, h1, h2.mono e⟩
  | .exc _ _ _, _, h => h
  | .tbl _, _, ⟨ps, h1, h2, h3⟩ => ⟨ps, h1, h2, fun pos cv q => let ⟨c, a, b⟩ := h3 pos cv q; ⟨c, a, e _ _ b⟩⟩
theorem RepK.len : ∀ {kvs : List (κ × A)} {ws : List (κ × V)}, RepK K H kvs ws → ws.length = kvs.length
  | [], _, h => by rw [show _ = [] from h]; rfl
  | (k, x) :: r, _, ⟨v, t, h1, h2, h3⟩ => by rw [h1]; simp [RepK.len h3]
end

/-- the state: F what stands for good, μ what may change, M what others own -/
structure Rel (K : PySem.W.Frag) (μ : Mu) (M F H : Hp) : Prop where
  sub : Ex F H
  own : ∀ p m, μ p = some m → F p = none ∧ ∃ o, H p = some o ∧ RepO K F m o
  frm : ∀ p o, M p = some o → F p = none ∧ μ p = none ∧ H p = some o
abbrev G := List (Option A)
structure RelS (K : PySem.W.Frag) (Γ : G) (F : Hp) (σ : L2.St) : Prop where
  len : Γ.length = σ.length
  at_ : ∀ (i : Nat) (x : A), Γ[i]? = some (some x) → ∃ v, σ[i]? = some (some v) ∧ Rep K F x v
section
variable {K : PySem.W.Frag} {μ μ' : Mu} {M F F' H H' : Hp} {Γ : G} {σ : L2.St}
theorem RelS.mono (e : Ex F F') (h : RelS K Γ F σ) : RelS K Γ F' σ := ⟨h.len, fun i x q => let ⟨v, h1, h2⟩ := h.at_ i x q; ⟨v, h1, h2.mono e⟩⟩
theorem RelS.set {i : Nat} {x : A} {v : V} (h : RelS K Γ F σ) (r : Rep K F x v) : RelS K (Γ.set i (some x)) F (σ.set i (some v)) := by
  refine ⟨by simp [h.len], fun j y q => ?_⟩
  rw [List.getElem?_set] at q ⊢
  split at q
  · rename_i e
    rw [if_pos e]
    split at q
    · rename_i hi
      rw [if_pos (by rw [← h.len]; exact hi)]
      cases q; exact ⟨v, rfl, r⟩
    · cases q
  · rename_i e
    rw [if_neg e]
    exact h.at_ j y q
theorem RelS.weak {Γ' : G} (h : RelS K Γ F σ) (hl : Γ'.length = Γ.length) (w : ∀ (i : Nat) x, Γ'[i]? = some (some x) → Γ[i]? = some (some x)) : RelS K Γ' F σ :=
  ⟨hl.trans h.len, fun i x q => h.at_ i x (w i x q)⟩
/-- fewer things known -/
theorem Rel.weak (h : Rel K μ M F H) (w : ∀ p m, μ' p = some m → μ p = some m) : Rel K μ' M F H := by
  refine ⟨h.sub, fun p m e => h.own p m (w p m e), fun p o e => ?_⟩
  obtain ⟨h1, h2, h3⟩ := h.frm p o e
  refine ⟨h1, ?_, h3⟩
  cases q : μ' p with
  | none => rfl
  | some m => rw [w p m q] at h2; cases h2
/-- a list stands for good from now on -/
theorem Rel.freeze {p : Addr} {xs : List A} (h : Rel K μ M F H) (e : μ p = some (.lst xs)) : ∃ F', Ex F F' ∧ Rel K (μ.del p) M F' H ∧ Rep K F' (.lst xs) (.ref p) := by
  obtain ⟨h1, o, h2, vs, rfl, h3⟩ := h.own p _ e
  have ex : Ex F (upd F p (.lst vs)) := .new h1
  refine ⟨upd F p (.lst vs), ex, ⟨fun a o q => ?_, fun q m e' => ?_, fun q o e' => ?_⟩, ?_⟩
  · by_cases ha : a = p
    · subst ha; rw [upd_same] at q; cases q; exact h2
    · rw [upd_ne ha] at q; exact h.sub a o q
  · have hq : q ≠ p := fun z => by rw [z, Mu.del_same] at e'; cases e'
    rw [Mu.del_ne hq] at e'
    obtain ⟨g1, o', g2, g3⟩ := h.own q m e'
    exact ⟨by rw [upd_ne hq]; exact g1, o', g2, g3.mono ex⟩
  · obtain ⟨g1, g2, g3⟩ := h.frm q o e'
    have hq : q ≠ p := fun z => by rw [z, e] at g2; cases g2
    exact ⟨by rw [upd_ne hq]; exact g1, by rw [Mu.del_ne hq]; exact g2, g3⟩
  · rw [rep_lst]; exact ⟨p, vs, rfl, upd_same, h3.mono ex⟩
/-- a new object that is ours -/
theorem Rel.new {p : Addr} {m : MO} {o : HO} (h : Rel K μ M F H) (n : H p = none) (r : RepO K F m o) : μ p = none ∧ Rel K (μ.upd p m) M F (upd H p o) := by
  have hF : F p = none := h.sub.none n
  have hμ : μ p = none := by
    cases q : μ p with
    | none => rfl
    | some m => obtain ⟨_, o, e, _⟩ := h.own p m q; rw [n] at e; cases e
  refine ⟨hμ, h.sub.trans (.new n), fun q m' e => ?_, fun q o' e => ?_⟩
  · by_cases hq : q = p
    · subst hq; rw [Mu.upd_same] at e; cases e
      exact ⟨hF, o, upd_same, r⟩
    · rw [Mu.upd_ne hq] at e
      obtain ⟨g1, o', g2, g3⟩ := h.own q m' e
      exact ⟨g1, o', by rw [upd_ne hq]; exact g2, g3⟩
  · obtain ⟨g1, g2, g3⟩ := h.frm q o' e
    have hq : q ≠ p := fun z => by rw [z, n] at g3; cases g3
    exact ⟨g1, by rw [Mu.upd_ne hq]; exact g2, by rw [upd_ne hq]; exact g3⟩
/-- a new object that stands for good -/
theorem Rel.newF {p : Addr} {o : HO} (h : Rel K μ M F H) (n : H p = none) : Ex F (upd F p o) ∧ Rel K μ M (upd F p o) (upd H p o) := by
  have hF : F p = none := h.sub.none n
  refine ⟨.new hF, fun a u q => ?_, fun q m' e => ?_, fun q o' e => ?_⟩
  · by_cases ha : a = p
    · subst ha; rw [upd_same] at q ⊢; exact q
    · rw [upd_ne ha] at q ⊢; exact h.sub a u q
  · obtain ⟨g1, o', g2, g3⟩ := h.own q m' e
    have hq : q ≠ p := fun z => by rw [z, n] at g2; cases g2
    exact ⟨by rw [upd_ne hq]; exact g1, o', by rw [upd_ne hq]; exact g2, g3.mono (.new hF)⟩
  · obtain ⟨g1, g2, g3⟩ := h.frm q o' e
    have hq : q ≠ p := fun z => by rw [z, n] at g3; cases g3
    exact ⟨by rw [upd_ne hq]; exact g1, g2, by rw [upd_ne hq]; exact g3⟩
/-- what is ours changes -/
theorem Rel.write {p : Addr} {m m' : MO} {o : HO} (h : Rel K μ M F H) (e : μ p = some m) (r : RepO K F m' o) : Rel K (μ.upd p m') M F (upd H p o) := by
  obtain ⟨h1, o0, h2, h3⟩ := h.own p _ e
  refine ⟨fun a u q => ?_, fun q m1 e1 => ?_, fun q o' e' => ?_⟩
  · have ha : a ≠ p := fun z => by rw [z, h1] at q; cases q
    rw [upd_ne ha]; exact h.sub a u q
  · by_cases hq : q = p
    · subst hq; rw [Mu.upd_same] at e1; cases e1
      exact ⟨h1, o, upd_same, r⟩
    · rw [Mu.upd_ne hq] at e1
      obtain ⟨g1, o', g2, g3⟩ := h.own q m1 e1
      exact ⟨g1, o', by rw [upd_ne hq]; exact g2, g3⟩
  · obtain ⟨g1, g2, g3⟩ := h.frm q o' e'
    have hq : q ≠ p := fun z => by rw [z, e] at g2; cases g2
    exact ⟨g1, by rw [Mu.upd_ne hq]; exact g2, by rw [upd_ne hq]; exact g3⟩
end

/-! ### readings by what runs -/
/-- a wrapped proposition: nothing looks through it unasked -/
structure Bx (p : Prop) : Prop where
  o : p
def rdE (X : Cx) (e : Expr) : TE := fun σ H Q => Bx (∀ (pins : List (Addr × Obj)) (s : Shared), Inv X pins σ H s → wpAny (model X.prog X.w) X.A (eval e X.env) (EP X pins σ Q) X.xe s)
theorem pe_rd {X : Cx} {e : Expr} : PE X e (rdE X e) := ⟨fun pins s _ _ _ I h => h.o pins s I⟩
theorem rd_pe {X : Cx} {e : Expr} {t : TE} (h : PE X e t) {σ : L2.St} {H : Hp} {Q : VK} (q : t σ H Q) : rdE X e σ H Q := ⟨fun pins s I => h.run pins s σ H Q I q⟩
theorem rdE_mono {X : Cx} {e : Expr} {σ : L2.St} {H : Hp} {Q Q' : VK} (h : rdE X e σ H Q) (w : ∀ v H', Q v H' → Q' v H') : rdE X e σ H Q' :=
  ⟨fun pins s I => thn (h.o pins s I) fun _ _ ⟨v, H', I', r, q⟩ => ⟨v, H', I', r, w v H' q⟩⟩
def rdT (X : Cx) (e : Expr) : TT := fun σ H Q => Bx (∀ (pins : List (Addr × Obj)) (s : Shared), Inv X pins σ H s → wpAny (model X.prog X.w) X.A (isTrue e X.env (eval e X.env)) (TP X pins σ Q) X.xe s)
theorem pt_rd {X : Cx} {e : Expr} : PT X e (rdT X e) := ⟨fun pins s _ _ _ I h => h.o pins s I⟩
theorem rd_pt {X : Cx} {e : Expr} {t : TT} (h : PT X e t) {σ : L2.St} {H : Hp} {Q : Bool → Hp → Prop} (q : t σ H Q) : rdT X e σ H Q := ⟨fun pins s I => h.run pins s σ H Q I q⟩
def rdA (X : Cx) (es : List Expr) : TA := fun σ H Q => Bx (∀ (pos : Pos) (pins : List (Addr × Obj)) (s : Shared), Inv X pins σ H s → wpAny (model X.prog X.w) X.A (spliced (backTo pos (starEach es X.env))) (AP X pins σ Q) X.xe s)
theorem pa_rd {X : Cx} {es : List Expr} : PA X es (rdA X es) := ⟨fun pos pins s _ _ _ I h => h.o pos pins s I⟩
theorem rd_pa {X : Cx} {es : List Expr} {t : TA} (h : PA X es t) {σ : L2.St} {H : Hp} {Q : List V → Hp → Prop} (q : t σ H Q) : rdA X es σ H Q := ⟨fun pos pins s I => h.run pos pins s σ H Q I q⟩
def rdS (X : Cx) (st : Stmt) : TS := fun D σ H => Bx (∀ (pins : List (Addr × Obj)) (s : Shared), Inv X pins σ H s → wpAny (model X.prog X.w) X.A (exec st X.env) (SP X pins D) X.xe s)
theorem ps_rd {X : Cx} {st : Stmt} : PS X st (rdS X st) := ⟨fun pins s _ _ _ I h => h.o pins s I⟩
theorem rd_ps {X : Cx} {st : Stmt} {t : TS} (h : PS X st t) {σ : L2.St} {H : Hp} {D : Ends} (q : t D σ H) : rdS X st D σ H := ⟨fun pins s I => h.run pins s σ H D I q⟩
def rdSs (X : Cx) (st : List Stmt) : TS := fun D σ H => Bx (∀ (pins : List (Addr × Obj)) (s : Shared), Inv X pins σ H s → wpAny (model X.prog X.w) X.A (execs st X.env) (SP X pins D) X.xe s)
theorem pss_rd {X : Cx} {st : List Stmt} : PSs X st (rdSs X st) := ⟨fun pins s _ _ _ I h => h.o pins s I⟩
theorem rd_pss {X : Cx} {st : List Stmt} {t : TS} (h : PSs X st t) {σ : L2.St} {H : Hp} {D : Ends} (q : t D σ H) : rdSs X st D σ H := ⟨fun pins s I => h.run pins s σ H D I q⟩
def rdG (X : Cx) (tg : Expr) : TG := fun v σ H Q => Bx (∀ (pins : List (Addr × Obj)) (s : Shared) (u : Value), Inv X pins σ H s → RelV v u →
    wpAny (model X.prog X.w) X.A (assign tg X.env u) (fun _ s' => ∃ σ' H', Inv X pins σ' H' s' ∧ Q σ' H') X.xe s)
theorem pg_rd {X : Cx} {e : Expr} : PG X e (rdG X e) := ⟨fun pins s _ _ _ u _ I r h => h.o pins s u I r⟩
theorem rd_pg {X : Cx} {e : Expr} {t : TG} (h : PG X e t) {v : V} {σ : L2.St} {H : Hp} {Q : L2.St → Hp → Prop} (q : t v σ H Q) : rdG X e v σ H Q := ⟨fun pins s u I r => h.run pins s σ H v u Q I r q⟩
/-- an operator, a call, by values -/
def rdOp (X : Cx) (f : Value → Value → Sem Value) : R2 := fun x y H Q => Bx (∀ (pins : List (Addr × Obj)) (s : Shared) (σ : L2.St) (v u : Value), Inv X pins σ H s → RelV x v → RelV y u → wpAny (model X.prog X.w) X.A (f v u) (EP X pins σ Q) X.xe s)
theorem opr_rd {X : Cx} {f : Value → Value → Sem Value} : OpR X f (rdOp X f) := fun pins s σ H x y v u Q I r1 r2 h => h.o pins s σ v u I r1 r2
theorem rd_opr {X : Cx} {f : Value → Value → Sem Value} {r : R2} (h : OpR X f r) {x y : V} {H : Hp} {Q : VK} (q : r x y H Q) : rdOp X f x y H Q := ⟨fun pins s σ v u I r1 r2 => h pins s σ H x y v u Q I r1 r2 q⟩

/-! ### the judgements -/
/-- what stood at a def's entry: others' things, what stands for good -/
structure Bs where
  M : Hp
  F : Hp
/-- still so -/
structure Bs.ok (B : Bs) (M F : Hp) : Prop where
  m : Ex B.M M
  f : Ex B.F F
theorem Bs.ok.mono {B : Bs} {M F F' : Hp} (h : B.ok M F) (e : Ex F F') : B.ok M F' := ⟨h.m, h.f.trans e⟩
theorem Bs.ok.up {B : Bs} {M M' F : Hp} (h : B.ok M F) (e : Ex M M') : B.ok M' F := ⟨h.m.trans e, h.f⟩
theorem Bs.ok.own (M F : Hp) : Bs.ok ⟨M, F⟩ M F := ⟨.refl _, .refl _⟩
def QE (K : PySem.W.Frag) (M F : Hp) (Q : A → Mu → Prop) : VK := fun v H' => ∃ x F' μ', Ex F F' ∧ Rel K μ' M F' H' ∧ Rep K F' x v ∧ Q x μ'
def wE (B : Bs) (X : Cx) (e : Expr) (Γ : G) (μ : Mu) (Q : A → Mu → Prop) : Prop := ∀ σ M F H, B.ok M F → RelS X.K Γ F σ → Rel X.K μ M F H → rdE X e σ H (QE X.K M F Q)
def QT (K : PySem.W.Frag) (M F : Hp) (Q : Bool → Mu → Prop) : Bool → Hp → Prop := fun b H' => ∃ F' μ', Ex F F' ∧ Rel K μ' M F' H' ∧ Q b μ'
def wT (B : Bs) (X : Cx) (e : Expr) (Γ : G) (μ : Mu) (Q : Bool → Mu → Prop) : Prop := ∀ σ M F H, B.ok M F → RelS X.K Γ F σ → Rel X.K μ M F H → rdT X e σ H (QT X.K M F Q)
def QA (K : PySem.W.Frag) (M F : Hp) (Q : List A → Mu → Prop) : List V → Hp → Prop := fun vs H' => ∃ xs F' μ', Ex F F' ∧ Rel K μ' M F' H' ∧ RepL K F' xs vs ∧ Q xs μ'
def wA (B : Bs) (X : Cx) (es : List Expr) (Γ : G) (μ : Mu) (Q : List A → Mu → Prop) : Prop := ∀ σ M F H, B.ok M F → RelS X.K Γ F σ → Rel X.K μ M F H → rdA X es σ H (QA X.K M F Q)
structure AD where
  nx : G → Mu → Prop
  rt : A → Mu → Prop
  bk : G → Mu → Prop := fun _ _ => False
  ct : G → Mu → Prop := fun _ _ => False
def QS (K : PySem.W.Frag) (M F : Hp) (Q : G → Mu → Prop) : L2.St → Hp → Prop := fun σ' H' => ∃ Γ' F' μ', Ex F F' ∧ RelS K Γ' F' σ' ∧ Rel K μ' M F' H' ∧ Q Γ' μ'
def ends (K : PySem.W.Frag) (M F : Hp) (D : AD) : Ends := { nx := QS K M F D.nx, rt := QE K M F D.rt, bk := QS K M F D.bk, ct := QS K M F D.ct }
def wS (B : Bs) (X : Cx) (st : Stmt) (Γ : G) (μ : Mu) (D : AD) : Prop := ∀ σ M F H, B.ok M F → RelS X.K Γ F σ → Rel X.K μ M F H → rdS X st (ends X.K M F D) σ H
def wSs (B : Bs) (X : Cx) (st : List Stmt) (Γ : G) (μ : Mu) (D : AD) : Prop := ∀ σ M F H, B.ok M F → RelS X.K Γ F σ → Rel X.K μ M F H → rdSs X st (ends X.K M F D) σ H
def wG (B : Bs) (X : Cx) (tg : Expr) (x : A) (Γ : G) (μ : Mu) (Q : G → Mu → Prop) : Prop := ∀ σ M F H v, B.ok M F → RelS X.K Γ F σ → Rel X.K μ M F H → Rep X.K F x v → rdG X tg v σ H (QS X.K M F Q)
/-- operators by values -/
def wO (X : Cx) (f : Value → Value → Sem Value) (x y : A) (μ : Mu) (Q : A → Mu → Prop) : Prop := ∀ M F H v w, Rel X.K μ M F H → Rep X.K F x v → Rep X.K F y w → rdOp X f v w H (QE X.K M F Q)

section
variable {B : Bs} {X : Cx} {Γ : G} {μ : Mu}
theorem QE.mono {K : PySem.W.Frag} {M F F1 : Hp} {Q : A → Mu → Prop} (e : Ex F F1) {v : V} {H : Hp} (h : QE K M F1 Q v H) : QE K M F Q v H :=
  let ⟨x, F', μ', h1, h2⟩ := h; ⟨x, F', μ', e.trans h1, h2⟩
theorem QT.mono {K : PySem.W.Frag} {M F F1 : Hp} {Q : Bool → Mu → Prop} (e : Ex F F1) {v : Bool} {H : Hp} (h : QT K M F1 Q v H) : QT K M F Q v H :=
  let ⟨F', μ', h1, h2⟩ := h; ⟨F', μ', e.trans h1, h2⟩
theorem QA.mono {K : PySem.W.Frag} {M F F1 : Hp} {Q : List A → Mu → Prop} (e : Ex F F1) {v : List V} {H : Hp} (h : QA K M F1 Q v H) : QA K M F Q v H :=
  let ⟨x, F', μ', h1, h2⟩ := h; ⟨x, F', μ', e.trans h1, h2⟩
theorem QS.mono {K : PySem.W.Frag} {M F F1 : Hp} {Q : G → Mu → Prop} (e : Ex F F1) {σ : L2.St} {H : Hp} (h : QS K M F1 Q σ H) : QS K M F Q σ H :=
  let ⟨x, F', μ', h1, h2⟩ := h; ⟨x, F', μ', e.trans h1, h2⟩
/-- what is wanted is weakened -/
theorem rdE.imp {e : Expr} {σ : L2.St} {H : Hp} {Q Q' : VK} (h : rdE X e σ H Q) (w : ∀ v H', Q v H' → Q' v H') : rdE X e σ H Q' := rdE_mono h w
theorem rdS.imp {e : Stmt} {σ : L2.St} {H : Hp} {D D' : Ends} (h : rdS X e D σ H) (w1 : ∀ σ H, D.nx σ H → D'.nx σ H) (w2 : ∀ v H, D.rt v H → D'.rt v H) (w3 : ∀ σ H, D.bk σ H → D'.bk σ H) (w4 : ∀ σ H, D.ct σ H → D'.ct σ H) : rdS X e D' σ H := ⟨fun pins s I => thn (h.o pins s I) fun f s' q => by
  cases f with
  | next => obtain ⟨a, b, c, d⟩ := q; exact ⟨a, b, c, w1 _ _ d⟩
  | brk => obtain ⟨a, b, c, d⟩ := q; exact ⟨a, b, c, w3 _ _ d⟩
  | cont => obtain ⟨a, b, c, d⟩ := q; exact ⟨a, b, c, w4 _ _ d⟩
  | ret u => obtain ⟨v, a, b, c, r, d⟩ := q; exact ⟨v, a, b, c, r, w2 _ _ d⟩⟩
theorem rdSs.imp {e : List Stmt} {σ : L2.St} {H : Hp} {D D' : Ends} (h : rdSs X e D σ H) (w1 : ∀ σ H, D.nx σ H → D'.nx σ H) (w2 : ∀ v H, D.rt v H → D'.rt v H) (w3 : ∀ σ H, D.bk σ H → D'.bk σ H) (w4 : ∀ σ H, D.ct σ H → D'.ct σ H) : rdSs X e D' σ H := ⟨fun pins s I => thn (h.o pins s I) fun f s' q => by
  cases f with
  | next => obtain ⟨a, b, c, d⟩ := q; exact ⟨a, b, c, w1 _ _ d⟩
  | brk => obtain ⟨a, b, c, d⟩ := q; exact ⟨a, b, c, w3 _ _ d⟩
  | cont => obtain ⟨a, b, c, d⟩ := q; exact ⟨a, b, c, w4 _ _ d⟩
  | ret u => obtain ⟨v, a, b, c, r, d⟩ := q; exact ⟨v, a, b, c, r, w2 _ _ d⟩⟩
theorem ends_mono {e : List Stmt} {σ : L2.St} {H M F F1 : Hp} {D : AD} (ex : Ex F F1) (h : rdSs X e (ends X.K M F1 D) σ H) : rdSs X e (ends X.K M F D) σ H :=
  h.imp (fun _ _ q => QS.mono ex q) (fun _ _ q => QE.mono ex q) (fun _ _ q => QS.mono ex q) (fun _ _ q => QS.mono ex q)
theorem ends_mono1 {e : Stmt} {σ : L2.St} {H M F F1 : Hp} {D : AD} (ex : Ex F F1) (h : rdS X e (ends X.K M F1 D) σ H) : rdS X e (ends X.K M F D) σ H :=
  h.imp (fun _ _ q => QS.mono ex q) (fun _ _ q => QE.mono ex q) (fun _ _ q => QS.mono ex q) (fun _ _ q => QS.mono ex q)
/-- the end of a pure step -/
theorem QE.pure {K : PySem.W.Frag} {M F H : Hp} {Q : A → Mu → Prop} {x : A} {v : V} (r : Rel K μ M F H) (h : Rep K F x v) (q : Q x μ) : QE K M F Q v H := ⟨x, F, μ, .refl _, r, h, q⟩
end
end D

set_option Elab.async false
set_option linter.all false
set_option maxRecDepth 100000
set_option maxHeartbeats 4000000
/-! D2: the rules over data: expressions, tests, arguments, statements. -/
namespace D
open PySem PySem.Spec PyProof.Rows L2

/-- a call, a method's call, a subscript by values -/
def rdC (X : Cx) (f : Value) : List V → Hp → VK → Prop := fun xs H Q => Bx (∀ (pins : List (Addr × Obj)) (s : Shared) (σ : L2.St) (us : List Value), Inv X pins σ H s → Vals xs us → wpAny (model X.prog X.w) X.A (call f us) (EP X pins σ Q) X.xe s)
def wC (X : Cx) (f : Value) (xs : List A) (μ : Mu) (Q : A → Mu → Prop) : Prop := ∀ M F H vs, Rel X.K μ M F H → RepL X.K F xs vs → rdC X f vs H (QE X.K M F Q)

section
variable {B : Bs} {X : Cx} {Γ : G} {μ : Mu} {Q : A → Mu → Prop} {a b c e : Expr} {es : List Expr} {pos : Pos}

/-! ### weakening -/
theorem wE.imp {Q' : A → Mu → Prop} (h : wE B X e Γ μ Q) (w : ∀ x μ', Q x μ' → Q' x μ') : wE B X e Γ μ Q' := fun σ M F H bo rs r =>
  (h σ M F H bo rs r).imp fun v H' ⟨x, F', μ', h1, h2, h3, h4⟩ => ⟨x, F', μ', h1, h2, h3, w _ _ h4⟩
/-- a value that is a list of ours stands for good -/
theorem wE_frz (h : wE B X e Γ μ fun x μ' => ∃ p xs, x = .loc p ∧ μ' p = some (.lst xs) ∧ Q (.lst xs) (μ'.del p)) : wE B X e Γ μ Q := fun σ M F H bo rs r =>
  (h σ M F H bo rs r).imp fun v H' ⟨x, F', μ', h1, h2, h3, p, xs, h4, h5, h6⟩ => by
    subst h4
    rw [rep_loc] at h3
    obtain ⟨F2, e2, r2, q2⟩ := h2.freeze h5
    exact ⟨_, F2, _, h1.trans e2, r2, by rw [h3]; exact q2, h6⟩
/-- less is known of what may change -/
theorem wE_weak {μ' : Mu} (w : ∀ p m, μ' p = some m → μ p = some m) (h : wE B X e Γ μ' Q) : wE B X e Γ μ Q := fun σ M F H bo rs r => h σ M F H bo rs (r.weak w)
theorem wE_of {t : TE} (h : PE X e t) (q : ∀ σ M F H, B.ok M F → RelS X.K Γ F σ → Rel X.K μ M F H → t σ H (QE X.K M F Q)) : wE B X e Γ μ Q := fun σ M F H bo rs r => rd_pe h (q σ M F H bo rs r)

/-! names, and what is written out -/
theorem wE_name (i : Nat) {x : Str} {y : A} (hi : Γ[i]? = some (some y) := by rfl) (q : Q y μ) (hN : X.N[i]? = some x := by rfl)
    (hv : Vis X.env.scope x := by first | exact Or.inl rfl | exact Or.inr (Or.inl rfl) | exact Or.inr (Or.inr rfl)) (hd : (x == ("__debug__" : Str)) = false := by decide) (hcd : (x == ("__classdict__" : Str)) = false := by decide) :
    wE B X (.Name x pos) Γ μ Q := wE_of (pe_var hN hv hd hcd) fun σ M F H bo rs r => by
  obtain ⟨v, h1, h2⟩ := rs.at_ i y hi
  exact ⟨v, h1, .pure r h2 q⟩
theorem wE_int {i : Int} {j} (q : Q (.int i) μ) : wE B X (.Constant (.int i) j pos) Γ μ Q := wE_of pe_int fun σ M F H bo rs r => .pure r (rep_int.mpr rfl) q
theorem wE_bl {i : Bool} {j} (q : Q (.bl i) μ) : wE B X (.Constant (.bool i) j pos) Γ μ Q := wE_of pe_bl fun σ M F H bo rs r => .pure r (rep_bl.mpr rfl) q
theorem wE_non {j} (q : Q .non μ) : wE B X (.Constant .none j pos) Γ μ Q := wE_of pe_non fun σ M F H bo rs r => .pure r (rep_non.mpr rfl) q
theorem wE_str {x : Str} {j} (q : Q (.str x) μ) : wE B X (.Constant (.str x) j pos) Γ μ Q := wE_of pe_str fun σ M F H bo rs r => .pure r (rep_str.mpr rfl) q
/-- what the module's name holds, for good -/
structure Kn (K : PySem.W.Frag) (mg : Str → Option Value) (x : Str) (y : A) : Prop where
  ex : ∃ v u, mg x = some u ∧ RelV v u ∧ ∀ F, Rep K F y v
theorem wE_glob {x : Str} {y : A} (k : Kn X.K X.mg x y) (q : Q y μ) (hg : Gl X x := by rfl) (hd : (x == ("__debug__" : Str)) = false := by decide) : wE B X (.Name x pos) Γ μ Q := by
  obtain ⟨v, u, h1, h2, h3⟩ := k.ex
  exact wE_of (pe_glob hg h1 h2 hd) fun σ M F H bo rs r => .pure r (h3 F) q
/-- a built-in class as a value -/
theorem wE_type {x : Str} {n : String} (hm : X.mg x = none) (hv : bootBuiltins x = some (.type n)) (q : Q (.ty n) μ) (hg : Gl X x := by rfl) (hn : x ≠ "__name__" := by decide) (hd : (x == ("__debug__" : Str)) = false := by decide) : wE B X (.Name x pos) Γ μ Q :=
  wE_of (pe_bltn (v := .ty n) hg hm hv rfl hn hd) fun σ M F H bo rs r => .pure r (rep_ty.mpr rfl) q

/-! ### operators -/
theorem wO_of {f : Value → Value → Sem Value} {r : R2} {x y : A} (h : OpR X f r) (q : ∀ M F H v w, Rel X.K μ M F H → Rep X.K F x v → Rep X.K F y w → r v w H (QE X.K M F Q)) : wO X f x y μ Q :=
  fun M F H v w rl r1 r2 => rd_opr h (q M F H v w rl r1 r2)
theorem wE_bin {op : Operator} (h : wE B X a Γ μ fun x μ1 => wE B X b Γ μ1 fun y μ2 => wO X (binaryOp op) x y μ2 Q) : wE B X (.BinOp a op b pos) Γ μ Q := wE_of (pe_op opr_rd pe_rd pe_rd) fun σ M F H bo rs r => by
  refine (h σ M F H bo rs r).imp fun v H1 ⟨x, F1, μ1, e1, r1, p1, q1⟩ => ?_
  refine (q1 σ M F1 H1 (bo.mono e1) (rs.mono e1) r1).imp fun w H2 ⟨y, F2, μ2, e2, r2, p2, q2⟩ => ?_
  exact ⟨fun pins s σ' v' u' I hv hw => thn ((q2 M F2 H2 v w r2 (p1.mono e2) p2).o pins s σ' v' u' I hv hw) fun _ _ ⟨z, H3, I3, r3, q3⟩ => ⟨z, H3, I3, r3, q3.mono (e1.trans e2)⟩⟩
theorem wE_cmp {op : CmpOp} (h : wE B X a Γ μ fun x μ1 => wE B X b Γ μ1 fun y μ2 => wO X (compareOp op) x y μ2 Q) (hm : behindInMarks op b = false := by first | exact nomark _ | rfl) : wE B X (.Compare a [op] [b] pos) Γ μ Q := wE_of (pe_cmpR opr_rd pe_rd pe_rd hm) fun σ M F H bo rs r => by
  refine (h σ M F H bo rs r).imp fun v H1 ⟨x, F1, μ1, e1, r1, p1, q1⟩ => ?_
  refine (q1 σ M F1 H1 (bo.mono e1) (rs.mono e1) r1).imp fun w H2 ⟨y, F2, μ2, e2, r2, p2, q2⟩ => ?_
  exact ⟨fun pins s σ' v' u' I hv hw => thn ((q2 M F2 H2 v w r2 (p1.mono e2) p2).o pins s σ' v' u' I hv hw) fun _ _ ⟨z, H3, I3, r3, q3⟩ => ⟨z, H3, I3, r3, q3.mono (e1.trans e2)⟩⟩
theorem wE_un {op : UnaryOp} {r : V → Hp → VK → Prop} (ho : UnR X (unaryOp op) r) (h : wE B X a Γ μ fun x μ1 => ∀ M F H v, Rel X.K μ1 M F H → Rep X.K F x v → r v H (QE X.K M F Q))
    (mono : ∀ v H Q Q', (∀ z H', Q z H' → Q' z H') → r v H Q → r v H Q') : wE B X (.UnaryOp op a pos) Γ μ Q := wE_of (pe_un ho pe_rd) fun σ M F H bo rs r => by
  refine (h σ M F H bo rs r).imp fun v H1 ⟨x, F1, μ1, e1, r1, p1, q1⟩ => ?_
  exact mono _ _ _ _ (fun _ _ q => q.mono e1) (q1 M F1 H1 v r1 p1)
theorem wE_neg (h : wE B X a Γ μ fun x μ1 => ∃ i, x = .int i ∧ Q (.int (-i)) μ1) : wE B X (.UnaryOp .USub a pos) Γ μ Q :=
  wE_un un_neg (h.imp fun x μ1 ⟨i, e, q⟩ M F H v rl rp => by
    subst e; rw [rep_int] at rp
    exact ⟨i, rp, .pure rl (rep_int.mpr rfl) q⟩) fun v H Q Q' w ⟨i, e, q⟩ => ⟨i, e, w _ _ q⟩
/-- not a, as a value -/
theorem wE_not (h : wE B X a Γ μ fun x μ1 => ∃ k, x = .bl k ∧ Q (.bl (!k)) μ1) : wE B X (.UnaryOp .Not a pos) Γ μ Q := wE_of (pe_not pe_rd) fun σ M F H bo rs r => by
  refine (h σ M F H bo rs r).imp fun v H1 ⟨x, F1, μ1, e1, r1, p1, k, ek, q1⟩ => ?_
  subst ek; rw [rep_bl] at p1
  exact ⟨k, p1, _, F1, μ1, e1, r1, rep_bl.mpr rfl, q1⟩
theorem wE_one {op} (h : wE B X a Γ μ Q) : wE B X (.BoolOp op [a] pos) Γ μ Q := wE_of (pe_one pe_rd) fun σ M F H bo rs r => h σ M F H bo rs r
theorem wE_and (h : wE B X a Γ μ fun x μ1 => ∃ k, x = .bl k ∧ (k = true → wE B X (.BoolOp .And (b :: es) pos) Γ μ1 Q) ∧ (k = false → Q (.bl false) μ1)) : wE B X (.BoolOp .And (a :: b :: es) pos) Γ μ Q := wE_of (pe_and pe_rd pe_rd) fun σ M F H bo rs r => by
  refine (h σ M F H bo rs r).imp fun v H1 ⟨x, F1, μ1, e1, r1, p1, k, ek, q1, q2⟩ => ?_
  subst ek; rw [rep_bl] at p1
  refine ⟨k, p1, ?_⟩
  cases k with
  | true => exact iteT ((q1 rfl σ M F1 H1 (bo.mono e1) (rs.mono e1) r1).imp fun _ _ q => q.mono e1)
  | false => exact iteF ⟨_, F1, μ1, e1, r1, rep_bl.mpr rfl, q2 rfl⟩
theorem wE_or (h : wE B X a Γ μ fun x μ1 => ∃ k, x = .bl k ∧ (k = true → Q (.bl true) μ1) ∧ (k = false → wE B X (.BoolOp .Or (b :: es) pos) Γ μ1 Q)) : wE B X (.BoolOp .Or (a :: b :: es) pos) Γ μ Q := wE_of (pe_or pe_rd pe_rd) fun σ M F H bo rs r => by
  refine (h σ M F H bo rs r).imp fun v H1 ⟨x, F1, μ1, e1, r1, p1, k, ek, q1, q2⟩ => ?_
  subst ek; rw [rep_bl] at p1
  refine ⟨k, p1, ?_⟩
  cases k with
  | true => exact iteT ⟨_, F1, μ1, e1, r1, rep_bl.mpr rfl, q1 rfl⟩
  | false => exact iteF ((q2 rfl σ M F1 H1 (bo.mono e1) (rs.mono e1) r1).imp fun _ _ q => q.mono e1)

/-! ### tests -/
theorem rdT.imp {σ : L2.St} {H : Hp} {Q Q' : Bool → Hp → Prop} (h : rdT X e σ H Q) (w : ∀ v H', Q v H' → Q' v H') : rdT X e σ H Q' :=
  ⟨fun pins s I => thn (h.o pins s I) fun _ _ ⟨H', I', q⟩ => ⟨H', I', w _ _ q⟩⟩
variable {QB : Bool → Mu → Prop}
theorem wT.imp {Q' : Bool → Mu → Prop} (h : wT B X e Γ μ QB) (w : ∀ x μ', QB x μ' → Q' x μ') : wT B X e Γ μ Q' := fun σ M F H bo rs r =>
  (h σ M F H bo rs r).imp fun v H' ⟨F', μ', h1, h2, h4⟩ => ⟨F', μ', h1, h2, w _ _ h4⟩
theorem wT_of {t : TT} (h : PT X e t) (q : ∀ σ M F H, B.ok M F → RelS X.K Γ F σ → Rel X.K μ M F H → t σ H (QT X.K M F QB)) : wT B X e Γ μ QB := fun σ M F H bo rs r => rd_pt h (q σ M F H bo rs r)
theorem wT_val (h : wE B X e Γ μ fun x μ1 => ∃ k, x = .bl k ∧ QB k μ1) (he : ∀ whole, isTrue e X.env whole = (do let v ← whole; standAt e.pos; holding [v] (truthy v)) := by intro _; rfl) : wT B X e Γ μ QB := wT_of (pt_val pe_rd he) fun σ M F H bo rs r => by
  refine (h σ M F H bo rs r).imp fun v H1 ⟨x, F1, μ1, e1, r1, p1, k, ek, q1⟩ => ?_
  subst ek; rw [rep_bl] at p1
  exact ⟨k, p1, F1, μ1, e1, r1, q1⟩
theorem wT_cmp {op : CmpOp} (h : wE B X a Γ μ fun x μ1 => wE B X b Γ μ1 fun y μ2 => wO X (compareOp op) x y μ2 fun z μ3 => ∃ k, z = .bl k ∧ QB k μ3) (hm : behindInMarks op b = false := by first | exact nomark _ | rfl) : wT B X (.Compare a [op] [b] pos) Γ μ QB := wT_of (pt_cmpR opr_rd pe_rd pe_rd hm) fun σ M F H bo rs r => by
  refine (h σ M F H bo rs r).imp fun v H1 ⟨x, F1, μ1, e1, r1, p1, q1⟩ => ?_
  refine (q1 σ M F1 H1 (bo.mono e1) (rs.mono e1) r1).imp fun w H2 ⟨y, F2, μ2, e2, r2, p2, q2⟩ => ?_
  exact ⟨fun pins s σ' v' u' I hv hw => thn ((q2 M F2 H2 v w r2 (p1.mono e2) p2).o pins s σ' v' u' I hv hw) fun _ _ ⟨z, H3, I3, r3, x3, F3, μ3, e3, rl3, p3, k, ek, q3⟩ => by
    subst ek; rw [rep_bl] at p3
    exact ⟨z, H3, I3, r3, k, p3, F3, μ3, (e1.trans e2).trans e3, rl3, q3⟩⟩
theorem wT_not (h : wT B X a Γ μ fun k μ1 => QB (!k) μ1) : wT B X (.UnaryOp .Not a pos) Γ μ QB := wT_of (pt_not pt_rd) fun σ M F H bo rs r =>
  (h σ M F H bo rs r).imp fun k H1 ⟨F1, μ1, e1, r1, q1⟩ => ⟨F1, μ1, e1, r1, q1⟩
/-- a test in a chain of and, or -/
def rdW (X : Cx) (e : Expr) : TT := fun σ H Q => Bx (∀ (whole : Sem Value) (pins : List (Addr × Obj)) (s : Shared), Inv X pins σ H s → wpAny (model X.prog X.w) X.A (isTrue e X.env whole) (TP X pins σ Q) X.xe s)
theorem pw_rd : PW X e (rdW X e) := ⟨fun wh pins s _ _ _ I h => h.o wh pins s I⟩
theorem rd_pw {t : TT} (h : PW X e t) {σ : L2.St} {H : Hp} {Q : Bool → Hp → Prop} (q : t σ H Q) : rdW X e σ H Q := ⟨fun wh pins s I => h.run wh pins s σ H Q I q⟩
theorem rdW.imp {σ : L2.St} {H : Hp} {Q Q' : Bool → Hp → Prop} (h : rdW X e σ H Q) (w : ∀ v H', Q v H' → Q' v H') : rdW X e σ H Q' :=
  ⟨fun wh pins s I => thn (h.o wh pins s I) fun _ _ ⟨H', I', q⟩ => ⟨H', I', w _ _ q⟩⟩
def wW (B : Bs) (X : Cx) (e : Expr) (Γ : G) (μ : Mu) (Q : Bool → Mu → Prop) : Prop := ∀ σ M F H, B.ok M F → RelS X.K Γ F σ → Rel X.K μ M F H → rdW X e σ H (QT X.K M F Q)
theorem wT_chain (h : wW B X e Γ μ QB) : wT B X e Γ μ QB := wT_of (PW.pt pw_rd) h
theorem wW_and1 (h : wT B X a Γ μ QB) : wW B X (.BoolOp .And [a] pos) Γ μ QB := fun σ M F H bo rs r => rd_pw (pw_and1 pt_rd) (h σ M F H bo rs r)
theorem wW_or1 (h : wT B X a Γ μ QB) : wW B X (.BoolOp .Or [a] pos) Γ μ QB := fun σ M F H bo rs r => rd_pw (pw_or1 pt_rd) (h σ M F H bo rs r)
theorem wW_and (h : wT B X a Γ μ fun k μ1 => (k = true → wW B X (.BoolOp .And (b :: es) pos) Γ μ1 QB) ∧ (k = false → QB false μ1)) : wW B X (.BoolOp .And (a :: b :: es) pos) Γ μ QB := fun σ M F H bo rs r => rd_pw (pw_and pt_rd pw_rd) (by
  refine (h σ M F H bo rs r).imp fun k H1 ⟨F1, μ1, e1, r1, q1, q2⟩ => ?_
  cases k with
  | true => exact iteT ((q1 rfl σ M F1 H1 (bo.mono e1) (rs.mono e1) r1).imp fun _ _ q => q.mono e1)
  | false => exact iteF ⟨F1, μ1, e1, r1, q2 rfl⟩)
theorem wW_or (h : wT B X a Γ μ fun k μ1 => (k = true → QB true μ1) ∧ (k = false → wW B X (.BoolOp .Or (b :: es) pos) Γ μ1 QB)) : wW B X (.BoolOp .Or (a :: b :: es) pos) Γ μ QB := fun σ M F H bo rs r => rd_pw (pw_or pt_rd pw_rd) (by
  refine (h σ M F H bo rs r).imp fun k H1 ⟨F1, μ1, e1, r1, q1, q2⟩ => ?_
  cases k with
  | true => exact iteT ⟨F1, μ1, e1, r1, q1 rfl⟩
  | false => exact iteF ((q2 rfl σ M F1 H1 (bo.mono e1) (rs.mono e1) r1).imp fun _ _ q => q.mono e1))
/-- a if t else b -/
theorem wE_if (h : wT B X c Γ μ fun k μ1 => (k = true → wE B X a Γ μ1 Q) ∧ (k = false → wE B X b Γ μ1 Q)) : wE B X (.IfExp c a b pos) Γ μ Q := wE_of (pe_ifExp pt_rd pe_rd pe_rd) fun σ M F H bo rs r => by
  refine (h σ M F H bo rs r).imp fun k H1 ⟨F1, μ1, e1, r1, q1, q2⟩ => ?_
  cases k with
  | true => exact iteT ((q1 rfl σ M F1 H1 (bo.mono e1) (rs.mono e1) r1).imp fun _ _ q => q.mono e1)
  | false => exact iteF ((q2 rfl σ M F1 H1 (bo.mono e1) (rs.mono e1) r1).imp fun _ _ q => q.mono e1)

/-! ### argument lists, displays -/
theorem rdA.imp {σ : L2.St} {H : Hp} {Q Q' : List V → Hp → Prop} (h : rdA X es σ H Q) (w : ∀ v H', Q v H' → Q' v H') : rdA X es σ H Q' :=
  ⟨fun pos pins s I => thn (h.o pos pins s I) fun _ _ ⟨v, H', I', r, q⟩ => ⟨v, H', I', r, w v H' q⟩⟩
variable {QL : List A → Mu → Prop}
theorem wA_nil (q : QL [] μ) : wA B X [] Γ μ QL := fun σ M F H bo rs r => rd_pa pa_nil ⟨[], F, μ, .refl _, r, .nil, q⟩
theorem wA_cons (h : wE B X e Γ μ fun x μ1 => wA B X es Γ μ1 fun xs μ2 => QL (x :: xs) μ2) (hs : starEach (e :: es) X.env = (false, eval e X.env) :: starEach es X.env := by rfl) : wA B X (e :: es) Γ μ QL := fun σ M F H bo rs r => rd_pa (pa_cons pe_rd pa_rd hs) (by
  refine (h σ M F H bo rs r).imp fun v H1 ⟨x, F1, μ1, e1, r1, p1, q1⟩ => ?_
  refine (q1 σ M F1 H1 (bo.mono e1) (rs.mono e1) r1).imp fun vs H2 ⟨xs, F2, μ2, e2, r2, p2, q2⟩ => ?_
  exact ⟨x :: xs, F2, μ2, e1.trans e2, r2, .cons (p1.mono e2) p2, q2⟩)
theorem wE_tup {k : Nat} (h : wA B X es Γ μ fun xs μ1 => xs.length ≤ sizeLine ∧ Q (.tup xs) μ1) : wE B X (.Tuple es k pos) Γ μ Q := wE_of (pe_tup pa_rd) fun σ M F H bo rs r => by
  refine (h σ M F H bo rs r).imp fun vs H1 ⟨xs, F1, μ1, e1, r1, p1, z, q1⟩ => ⟨by rw [p1.len]; exact z, fun p np => ?_⟩
  obtain ⟨ex, rl⟩ := r1.newF (o := .tup vs) np
  exact ⟨_, _, μ1, e1.trans ex, rl, rep_tup.mpr ⟨p, vs, rfl, .inl (.inl upd_same), p1.mono ex⟩, q1⟩
/-- a list that is ours -/
theorem wE_lst (h : wA B X es Γ μ fun xs μ1 => xs.length ≤ sizeLine ∧ ∀ p, μ1 p = none → Q (.loc p) (μ1.upd p (.lst xs))) : wE B X (.List es pos) Γ μ Q := wE_of (pe_lst pa_rd) fun σ M F H bo rs r => by
  refine (h σ M F H bo rs r).imp fun vs H1 ⟨xs, F1, μ1, e1, r1, p1, z, q1⟩ => ⟨by rw [p1.len]; exact z, fun p np => ?_⟩
  obtain ⟨nμ, rl⟩ := r1.new (m := .lst xs) (o := .lst vs) np ⟨vs, rfl, p1⟩
  exact ⟨_, _, _, e1, rl, rep_loc.mpr rfl, q1 p nμ⟩
/-- a list that stands for good -/
theorem wE_lstF (h : wA B X es Γ μ fun xs μ1 => xs.length ≤ sizeLine ∧ Q (.lst xs) μ1) : wE B X (.List es pos) Γ μ Q := wE_of (pe_lst pa_rd) fun σ M F H bo rs r => by
  refine (h σ M F H bo rs r).imp fun vs H1 ⟨xs, F1, μ1, e1, r1, p1, z, q1⟩ => ⟨by rw [p1.len]; exact z, fun p np => ?_⟩
  obtain ⟨ex, rl⟩ := r1.newF (o := .lst vs) np
  exact ⟨_, _, μ1, e1.trans ex, rl, rep_lst.mpr ⟨p, vs, rfl, upd_same, p1.mono ex⟩, q1⟩

/-! ### subscripts, slices -/
def rdIx (X : Cx) : R2 := fun x y H Q => Bx (∀ (value slice : Expr) (pins : List (Addr × Obj)) (s : Shared) (σ : L2.St) (v u : Value), Inv X pins σ H s → RelV x v → RelV y u → subscripted slice false v u = operate [v, u] (getItem v u) → wpAny (model X.prog X.w) X.A (subscriptTail value slice v u) (EP X pins σ Q) X.xe s)
theorem ixr_rd : IxR X (rdIx X) := fun value slice pins s σ H x y v u Q I r1 r2 h hs => h.o value slice pins s σ v u I r1 r2 hs
theorem rd_ixr {r : R2} (h : IxR X r) {x y : V} {H : Hp} {Q : VK} (q : r x y H Q) : rdIx X x y H Q := ⟨fun value slice pins s σ v u I r1 r2 hs => h value slice pins s σ H x y v u Q I r1 r2 q hs⟩
def wI (X : Cx) (x y : A) (μ : Mu) (Q : A → Mu → Prop) : Prop := ∀ M F H v w, Rel X.K μ M F H → Rep X.K F x v → Rep X.K F y w → rdIx X v w H (QE X.K M F Q)
theorem wE_ix (h : wE B X a Γ μ fun x μ1 => wE B X b Γ μ1 fun y μ2 => wI X x y μ2 Q) (hs : PlainIx b := by exact fun _ _ => rfl) : wE B X (.Subscript a b pos) Γ μ Q := wE_of (pe_ix ixr_rd pe_rd pe_rd hs) fun σ M F H bo rs r => by
  refine (h σ M F H bo rs r).imp fun v H1 ⟨x, F1, μ1, e1, r1, p1, q1⟩ => ?_
  refine (q1 σ M F1 H1 (bo.mono e1) (rs.mono e1) r1).imp fun w H2 ⟨y, F2, μ2, e2, r2, p2, q2⟩ => ?_
  exact ⟨fun value slice pins s σ' v' u' I hv hw hs => thn ((q2 M F2 H2 v w r2 (p1.mono e2) p2).o value slice pins s σ' v' u' I hv hw hs) fun _ _ ⟨z, H3, I3, r3, q3⟩ => ⟨z, H3, I3, r3, q3.mono (e1.trans e2)⟩⟩
theorem atI_rep {K : PySem.W.Frag} {F : Hp} {xs : List A} {vs : List V} {i : Int} {y : A} (h : RepL K F xs vs) (e : atI xs i = some y) : ∃ v, atI vs i = some v ∧ Rep K F y v := by
  unfold atI at e ⊢
  rw [h.len]
  cases q : ixN xs.length i with
  | none => simp [q] at e
  | some j => rw [q] at e; exact h.get e
theorem wI_tup {xs : List A} {i : Int} {y : A} (e : atI xs i = some y) (q : Q y μ) : wI X (.tup xs) (.int i) μ Q := fun M F H v w rl r1 r2 => rd_ixr ix_tup (by
  rw [rep_tup] at r1; rw [rep_int] at r2
  obtain ⟨p, vs, rfl, h1, h2⟩ := r1
  obtain ⟨z, e1, e2⟩ := atI_rep h2 e
  exact ⟨p, vs, i, z, rfl, r2, rl.sub.t h1, e1, .pure rl e2 q⟩)
theorem wI_lst {xs : List A} {i : Int} {y : A} (e : atI xs i = some y) (q : Q y μ) : wI X (.lst xs) (.int i) μ Q := fun M F H v w rl r1 r2 => rd_ixr ix_list (by
  rw [rep_lst] at r1; rw [rep_int] at r2
  obtain ⟨p, vs, rfl, h1, h2⟩ := r1
  obtain ⟨z, e1, e2⟩ := atI_rep h2 e
  exact ⟨p, vs, i, z, rfl, r2, .inl (.inl (rl.sub _ _ h1)), e1, .pure rl e2 q⟩)
theorem wI_fls {xs : List A} {i : Int} {y : A} (e : atI xs i = some y) (q : Q y μ) : wI X (.fls xs) (.int i) μ Q := fun M F H v w rl r1 r2 => rd_ixr ix_list (by
  rw [rep_fls] at r1; rw [rep_int] at r2
  obtain ⟨p, vs, rfl, h1, h2⟩ := r1
  obtain ⟨z, e1, e2⟩ := atI_rep h2 e
  exact ⟨p, vs, i, z, rfl, r2, rl.sub.l h1, e1, .pure rl e2 q⟩)
theorem wI_loc {p : Addr} {xs : List A} {i : Int} {y : A} (hp : μ p = some (.lst xs)) (e : atI xs i = some y) (q : Q y μ) : wI X (.loc p) (.int i) μ Q := fun M F H v w rl r1 r2 => rd_ixr ix_list (by
  rw [rep_loc] at r1; rw [rep_int] at r2
  obtain ⟨_, o, h1, vs, rfl, h2⟩ := rl.own p _ hp
  obtain ⟨z, e1, e2⟩ := atI_rep h2 e
  exact ⟨p, vs, i, z, r1, r2, .inl (.inl h1), e1, .pure rl e2 q⟩)
theorem wI_str {x : Str} {i : Int} {ch : Nat} (hz : x.length ≤ sizeLine) (e : atI x.cps.toList i = some ch) (q : Q (.str ⟨#[ch]⟩) μ) : wI X (.str x) (.int i) μ Q := fun M F H v w rl r1 r2 => rd_ixr ix_str (by
  rw [rep_str] at r1; rw [rep_int] at r2
  exact ⟨x, i, ch, r1, r2, hz, e, .pure rl (rep_str.mpr rfl) q⟩)

def wP (B : Bs) (X : Cx) (e : Option Expr) (Γ : G) (μ : Mu) (Q : Option Int → Mu → Prop) : Prop := match e with
  | none => Q none μ
  | some e => wE B X e Γ μ fun x μ1 => ∃ i, x = .int i ∧ Q (some i) μ1
def cutA (xs : List A) (lo hi : Option Int) : List A := (xs.drop (HT.sIx xs.length 0 lo)).take (HT.sIx xs.length xs.length hi - HT.sIx xs.length 0 lo)
theorem cut_rep {K : PySem.W.Frag} {F : Hp} {xs : List A} {vs : List V} {lo hi : Option Int} (h : RepL K F xs vs) : RepL K F (cutA xs lo hi) (cutV vs lo hi) := by
  unfold cutA cutV; rw [h.len]; exact (h.drop _).take _
def rdSl (X : Cx) : V → Option Int → Option Int → Hp → VK → Prop := fun x lo hi H Q => Bx (∀ (pins : List (Addr × Obj)) (s : Shared) (σ : L2.St) (v vl vu : Value) (sl : Addr), Inv X pins σ H s → RelV x v → s.heap.IsSliceOf sl vl vu .none → IsPart vl lo → IsPart vu hi →
    ∃ T id, typeLookup (.type T) "__getitem__" = pure (some (.builtin id)) ∧ s.TypeIs v T ∧ wpAny (model X.prog X.w) X.A (getItem v (.ref sl)) (EP X pins σ Q) X.xe s)
theorem slr_rd : SlR X (rdSl X) := fun pins s σ H x v vl vu lo hi sl Q I rx hs pl pu h => h.o pins s σ v vl vu sl I rx hs pl pu
theorem rd_slr {r : V → Option Int → Option Int → Hp → VK → Prop} (h : SlR X r) {x : V} {lo hi : Option Int} {H : Hp} {Q : VK} (q : r x lo hi H Q) : rdSl X x lo hi H Q := ⟨fun pins s σ v vl vu sl I rx hs pl pu => h pins s σ H x v vl vu lo hi sl Q I rx hs pl pu q⟩
def wSl (X : Cx) (x : A) (lo hi : Option Int) (μ : Mu) (Q : A → Mu → Prop) : Prop := ∀ M F H v, Rel X.K μ M F H → Rep X.K F x v → rdSl X v lo hi H (QE X.K M F Q)
def toP (X : Cx) (e : Option Expr) : TO := match e with
  | none => tNoPart
  | some e => tPart (rdE X e)
theorem po_rd : ∀ {e : Option Expr}, PO X e (toP X e)
  | none => po_none
  | some _ => po_some pe_rd
theorem toP_of {o : Option Expr} {Q0 : Option Int → Mu → Prop} (h : wP B X o Γ μ Q0) {σ : L2.St} {M F H : Hp} {R : Option Int → Hp → Prop} (bo : B.ok M F) (rs : RelS X.K Γ F σ) (r : Rel X.K μ M F H)
    (w : ∀ i F' μ' H', Ex F F' → Rel X.K μ' M F' H' → Q0 i μ' → R i H') : toP X o σ H R := by
  cases o with
  | none => exact w none F μ H (.refl _) r h
  | some e =>
    refine (show wE B X e Γ μ _ from h) σ M F H bo rs r |>.imp fun v H' ⟨x, F', μ', e1, r1, p1, i, ei, q1⟩ => ?_
    subst ei; rw [rep_int] at p1
    exact ⟨i, p1, w _ F' μ' H' e1 r1 q1⟩
theorem wE_slice {lo hi : Option Expr} {p2 : Pos} (h : wE B X a Γ μ fun x μ1 => wP B X lo Γ μ1 fun l μ2 => wP B X hi Γ μ2 fun u μ3 => wSl X x l u μ3 Q) : wE B X (.Subscript a (.Slice lo hi none p2) pos) Γ μ Q := wE_of (pe_slice slr_rd pe_rd po_rd po_rd) fun σ M F H bo rs r => by
  refine (h σ M F H bo rs r).imp fun v H1 ⟨x, F1, μ1, e1, r1, p1, q1⟩ => ?_
  refine toP_of q1 (bo.mono e1) (rs.mono e1) r1 fun l F2 μ2 H2 e2 r2 q2 => ?_
  refine toP_of q2 (bo.mono (e1.trans e2)) (rs.mono (e1.trans e2)) r2 fun u F3 μ3 H3 e3 r3 q3 => ?_
  refine ⟨fun pins s σ' v' vl vu sl I rx hs pl pu => ?_⟩
  obtain ⟨T, id, h1, h2, h3⟩ := (q3 M F3 H3 v r3 (p1.mono (e2.trans e3))).o pins s σ' v' vl vu sl I rx hs pl pu
  exact ⟨T, id, h1, h2, thn h3 fun _ _ ⟨z, H4, I4, r4, q4⟩ => ⟨z, H4, I4, r4, q4.mono ((e1.trans e2).trans e3)⟩⟩
theorem wSl_lst {xs : List A} {lo hi : Option Int} (q : ∀ p, μ p = none → Q (.loc p) (μ.upd p (.lst (cutA xs lo hi)))) : wSl X (.lst xs) lo hi μ Q := fun M F H v rl r1 => rd_slr sl_list (by
  rw [rep_lst] at r1
  obtain ⟨a, vs, rfl, h1, h2⟩ := r1
  refine ⟨a, vs, rfl, .inl (.inl (rl.sub _ _ h1)), fun p np => ?_⟩
  obtain ⟨nμ, rl'⟩ := rl.new (m := .lst (cutA xs lo hi)) np ⟨_, rfl, cut_rep h2⟩
  exact ⟨_, _, _, .refl _, rl', rep_loc.mpr rfl, q p nμ⟩)
theorem wSl_lstF {xs : List A} {lo hi : Option Int} (q : Q (.lst (cutA xs lo hi)) μ) : wSl X (.lst xs) lo hi μ Q := fun M F H v rl r1 => rd_slr sl_list (by
  rw [rep_lst] at r1
  obtain ⟨a, vs, rfl, h1, h2⟩ := r1
  refine ⟨a, vs, rfl, .inl (.inl (rl.sub _ _ h1)), fun p np => ?_⟩
  obtain ⟨ex, rl'⟩ := rl.newF (o := .lst (cutV vs lo hi)) np
  exact ⟨_, _, _, ex, rl', rep_lst.mpr ⟨p, _, rfl, upd_same, (cut_rep h2).mono ex⟩, q⟩)
theorem wSl_locF {p0 : Addr} {xs : List A} {lo hi : Option Int} (hp : μ p0 = some (.lst xs)) (q : Q (.lst (cutA xs lo hi)) μ) : wSl X (.loc p0) lo hi μ Q := fun M F H v rl r1 => rd_slr sl_list (by
  rw [rep_loc] at r1
  obtain ⟨_, o, h1, vs, rfl, h2⟩ := rl.own p0 _ hp
  refine ⟨p0, vs, r1, .inl (.inl h1), fun p np => ?_⟩
  obtain ⟨ex, rl'⟩ := rl.newF (o := .lst (cutV vs lo hi)) np
  exact ⟨_, _, _, ex, rl', rep_lst.mpr ⟨p, _, rfl, upd_same, (cut_rep h2).mono ex⟩, q⟩)
theorem wSl_str {x : Str} {lo hi : Option Int} (hz : x.length ≤ sizeLine) (q : Q (.str (cutS x lo hi)) μ) : wSl X (.str x) lo hi μ Q := fun M F H v rl r1 => rd_slr sl_str (by
  rw [rep_str] at r1
  exact ⟨x, r1, hz, .pure rl (rep_str.mpr rfl) q⟩)
end
end D

set_option Elab.async false
set_option linter.all false
set_option maxRecDepth 100000
set_option maxHeartbeats 4000000
/-! D3: operators, calls of built-ins, methods, by data; statements, loops, comprehensions; a def's promise over data. -/
namespace D
open PySem PySem.Spec PyProof.Rows L2

section
variable {B : Bs} {X : Cx} {Γ : G} {μ : Mu} {Q : A → Mu → Prop} {a b c e : Expr} {es : List Expr} {pos : Pos}

/-! ### whole numbers -/
theorem op_mulG : OpR X (binaryOp .Mult) (rI IntMulOk fun i j => .int (i * j)) := opI fun _ _ _ _ _ _ _ hc q => mul_int q hc
def DivOk (i j : Int) : Prop := j ≠ 0 ∧ Builtin.divisionGoesByPylong i j = false
theorem op_fdivG : OpR X (binaryOp .FloorDiv) (rI DivOk fun i j => .int (i.fdiv j)) := opI fun _ _ _ _ _ _ _ hc q => floordiv_int hc.1 q (.inl hc.2)
theorem wO_I {f : Value → Value → Sem Value} {C : Int → Int → Prop} {g : Int → Int → Int} (h : OpR X f (rI C fun i j => .int (g i j))) {i j : Int} (hc : C i j) (q : Q (.int (g i j)) μ) : wO X f (.int i) (.int j) μ Q :=
  wO_of h fun M F H v w rl r1 r2 => ⟨i, j, rep_int.mp r1, rep_int.mp r2, hc, .pure rl (rep_int.mpr rfl) q⟩
theorem wO_I0 {f : Value → Value → Sem Value} {g : Int → Int → Int} (h : OpR X f (rI0 fun i j => .int (g i j))) {i j : Int} (q : Q (.int (g i j)) μ) : wO X f (.int i) (.int j) μ Q :=
  wO_of h fun M F H v w rl r1 r2 => ⟨i, j, rep_int.mp r1, rep_int.mp r2, .pure rl (rep_int.mpr rfl) q⟩
theorem wO_B0 {f : Value → Value → Sem Value} {g : Int → Int → Bool} (h : OpR X f (rI0 fun i j => .bl (g i j))) {i j : Int} (q : Q (.bl (g i j)) μ) : wO X f (.int i) (.int j) μ Q :=
  wO_of h fun M F H v w rl r1 r2 => ⟨i, j, rep_int.mp r1, rep_int.mp r2, .pure rl (rep_bl.mpr rfl) q⟩
theorem wO_add {i j : Int} (q : Q (.int (i + j)) μ) : wO X (binaryOp .Add) (.int i) (.int j) μ Q := wO_I0 op_add q
theorem wO_sub {i j : Int} (q : Q (.int (i - j)) μ) : wO X (binaryOp .Sub) (.int i) (.int j) μ Q := wO_I0 op_sub q
theorem wO_mul {i j : Int} (hc : IntMulOk i j) (q : Q (.int (i * j)) μ) : wO X (binaryOp .Mult) (.int i) (.int j) μ Q := wO_I op_mulG hc q
/-- one factor below 2 ^ 64 -/
theorem mulR {i j : Int} (h1 : -(2 ^ 64) < j) (h2 : j < 2 ^ 64) : IntMulOk i j := .of_right (intBits_le_64 h1 h2)
theorem mulL {i j : Int} (h1 : -(2 ^ 64) < i) (h2 : i < 2 ^ 64) : IntMulOk i j := .of_left (intBits_le_64 h1 h2)
theorem wO_fdiv {i j : Int} (h0 : 0 < j) (hc : Builtin.divisionGoesByPylong i j = false) (q : Q (.int (i / j)) μ) : wO X (binaryOp .FloorDiv) (.int i) (.int j) μ Q :=
  wO_I op_fdivG ⟨by omega, hc⟩ (by rw [Int.fdiv_eq_ediv_of_nonneg i (by omega)]; exact q)
theorem wO_fdivN {i j : Int} (h0 : j ≠ 0) (hc : Builtin.divisionGoesByPylong i j = false) (q : Q (.int (i.fdiv j)) μ) : wO X (binaryOp .FloorDiv) (.int i) (.int j) μ Q := wO_I op_fdivG ⟨h0, hc⟩ q
theorem divS {i j : Int} (h : j.natAbs < 1073741824) : Builtin.divisionGoesByPylong i j = false := PyProof.noPylong_small h
theorem wO_mod {i j : Int} (h0 : 0 < j) (q : Q (.int (i % j)) μ) : wO X (binaryOp .Mod) (.int i) (.int j) μ Q := wO_I (C := fun _ j => 0 < j) op_mod h0 q
theorem wO_pow {i j : Int} (hc : 0 ≤ j ∧ j ≤ 1000000 ∧ i.natAbs < 2 ^ 64) (q : Q (.int (i ^ j.toNat)) μ) : wO X (binaryOp .Pow) (.int i) (.int j) μ Q := wO_I op_pow hc q
theorem wO_lt {i j : Int} (q : Q (.bl (decide (i < j))) μ) : wO X (compareOp .Lt) (.int i) (.int j) μ Q := wO_B0 (g := fun i j => decide (i < j)) op_lt q
theorem wO_le {i j : Int} (q : Q (.bl (decide (i ≤ j))) μ) : wO X (compareOp .LtE) (.int i) (.int j) μ Q := wO_B0 (g := fun i j => decide (i ≤ j)) op_le q
theorem wO_gt {i j : Int} (q : Q (.bl (decide (j < i))) μ) : wO X (compareOp .Gt) (.int i) (.int j) μ Q := wO_B0 (g := fun i j => decide (j < i)) op_gt q
theorem wO_ge {i j : Int} (q : Q (.bl (decide (j ≤ i))) μ) : wO X (compareOp .GtE) (.int i) (.int j) μ Q := wO_B0 (g := fun i j => decide (j ≤ i)) op_ge q

/-! ### == of data -/
mutual
def toD : A → PyData
  | .non => .none
  | .bl b => .bool b
  | .int i => .int i
  | .str x => .str x
  | .ty _ => .none
  | .loc _ => .none
  | .tup xs => .tuple (toDs xs)
  | .lst xs => .list (toDs xs)
  | .fls xs => .list (toDs xs)
def toDs : List A → List PyData
  | [] => []
  | x :: xs => toD x :: toDs xs
end
mutual
def isD : A → Bool
  | .non | .bl _ | .int _ => true
  | .str x => PyData.strOk x
  | .ty _ => false
  | .loc _ => false
  | .tup xs => isDs xs
  | .lst xs => isDs xs
  | .fls xs => isDs xs
def isDs : List A → Bool
  | [] => true
  | x :: xs => isD x && isDs xs
end
section
variable {K : PySem.W.Frag} {H : Hp}
mutual
theorem dp_of : ∀ {x : A} {v : V}, isD x = true → Rep K H x v → Dp K H v (toD x)
  | .non, _, _, h => by rw [rep_non] at h; subst h; exact .non
  | .bl b, _, _, h => by rw [rep_bl] at h; subst h; exact .bl b
  | .int i, _, _, h => by rw [rep_int] at h; subst h; exact .int i
  | .str x, _, _, h => by rw [rep_str] at h; subst h; exact .str x
  | .ty _, _, h, _ => by simp [isD] at h
  | .loc _, _, h, _ => by simp [isD] at h
  | .tup xs, _, hd, h => by
    rw [rep_tup] at h; obtain ⟨a, vs, rfl, h1, h2⟩ := h
    simp only [toD]
    exact .tup h1 (dps_of (by simpa [isD] using hd) h2)
  | .lst xs, _, hd, h => by
    rw [rep_lst] at h; obtain ⟨a, vs, rfl, h1, h2⟩ := h
    simp only [toD]
    exact .lst (.inl (.inl h1)) (dps_of (by simpa [isD] using hd) h2)
  | .fls xs, _, hd, h => by
    rw [rep_fls] at h; obtain ⟨a, vs, rfl, h1, h2⟩ := h
    simp only [toD]
    exact .lst h1 (dps_of (by simpa [isD] using hd) h2)
theorem dps_of : ∀ {xs : List A} {vs : List V}, isDs xs = true → RepL K H xs vs → DpAll K H vs (toDs xs)
  | [], _, _, h => by simp only [RepL] at h; subst h; exact .nil
  | x :: xs, _, hd, h => by
    simp only [RepL] at h
    obtain ⟨v, r, rfl, h1, h2⟩ := h
    simp only [isDs, Bool.and_eq_true] at hd
    simp only [toDs]
    exact .cons (dp_of hd.1 h1) (dps_of hd.2 h2)
end
end
mutual
theorem canLay_of : ∀ x : A, isD x = true → (toD x).canLay0 = true
  | .non, _ => by simp only [toD, PyData.canLay0]
  | .bl _, _ => by simp only [toD, PyData.canLay0]
  | .int _, _ => by simp only [toD, PyData.canLay0]
  | .str x, h => by simpa only [toD, PyData.canLay0, isD] using h
  | .ty _, h => by simp [isD] at h
  | .loc _, h => by simp [isD] at h
  | .tup xs, h => by simp only [toD, PyData.canLay0]; exact canLays_of xs (by simpa [isD] using h)
  | .lst xs, h => by simp only [toD, PyData.canLay0]; exact canLays_of xs (by simpa [isD] using h)
  | .fls xs, h => by simp only [toD, PyData.canLay0]; exact canLays_of xs (by simpa [isD] using h)
theorem canLays_of : ∀ xs : List A, isDs xs = true → PyData.canLayAll0 (toDs xs) = true
  | [], _ => by simp only [toDs, PyData.canLayAll0]
  | x :: xs, h => by
    simp only [isDs, Bool.and_eq_true] at h
    simp only [toDs, PyData.canLayAll0, canLay_of x h.1, canLays_of xs h.2, Bool.and_self]
end
theorem toDs_map {α : Type} (f : α → A) : ∀ l : List α, toDs (l.map f) = l.map fun a => toD (f a)
  | [] => rfl
  | a :: l => by simp only [List.map_cons, toDs, toDs_map f l]
theorem toDs_eq : ∀ l : List A, toDs l = l.map toD
  | [] => rfl
  | a :: l => by simp only [List.map_cons, toDs, toDs_eq l]
theorem isDs_map {α : Type} {f : α → A} (h : ∀ a, isD (f a) = true) : ∀ l : List α, isDs (l.map f) = true
  | [] => rfl
  | a :: l => by simp only [List.map_cons, isDs, h a, isDs_map h l, Bool.and_self]
theorem isDs_all {l : List A} (h : ∀ a ∈ l, isD a = true) : isDs l = true := by
  induction l with
  | nil => rfl
  | cons a l ih => simp only [isDs, h a List.mem_cons_self, ih fun b hb => h b (List.mem_cons_of_mem _ hb), Bool.and_self]
theorem isDs_mem {l : List A} (h : isDs l = true) : ∀ a ∈ l, isD a = true := by
  induction l with
  | nil => simp
  | cons a l ih =>
    simp only [isDs, Bool.and_eq_true] at h
    exact List.forall_mem_cons.mpr ⟨h.1, ih h.2⟩
/-! depths -/
mutual
def deep : A → Nat
  | .tup xs => deeps xs + 1
  | .lst xs => deeps xs + 1
  | .fls xs => deeps xs + 1
  | _ => 0
def deeps : List A → Nat
  | [] => 0
  | x :: xs => max (deep x) (deeps xs)
end
mutual
theorem depth_of : ∀ x : A, (toD x).depth ≤ deep x
  | .non => by simp [toD, PyData.depth]
  | .bl _ => by simp [toD, PyData.depth]
  | .int _ => by simp [toD, PyData.depth]
  | .str _ => by simp [toD, PyData.depth]
  | .ty _ => by simp [toD, PyData.depth]
  | .loc _ => by simp [toD, PyData.depth]
  | .tup xs => by simp only [toD, PyData.depth, deep]; have := depths_of xs; omega
  | .lst xs => by simp only [toD, PyData.depth, deep]; have := depths_of xs; omega
  | .fls xs => by simp only [toD, PyData.depth, deep]; have := depths_of xs; omega
theorem depths_of : ∀ xs : List A, PyData.depthAll (toDs xs) ≤ deeps xs
  | [] => by simp [toDs, PyData.depthAll]
  | x :: xs => by simp only [toDs, PyData.depthAll, deeps]; have := depth_of x; have := depths_of xs; omega
end
theorem deeps_le {l : List A} {n : Nat} (h : ∀ a ∈ l, deep a ≤ n) : deeps l ≤ n := by
  induction l with
  | nil => exact Nat.zero_le _
  | cons a l ih =>
    have h1 := h a List.mem_cons_self
    have h2 := ih fun b hb => h b (List.mem_cons_of_mem _ hb)
    simp only [deeps]; omega
/-- data that is compared, shown -/
def DatOk (x : A) : Prop := isD x = true ∧ deep x ≤ 60
theorem DatOk.shaped {x : A} (h : DatOk x) : SeqAt.shaped (toD x) = true := by
  unfold SeqAt.shaped
  rw [canLay_of x h.1]
  have := depth_of x
  have h2 := h.2
  simp only [Bool.true_and, decide_eq_true_eq]
  omega
theorem wO_eqD {x y : A} (hu : X.A.units + 64 < cLine) (hx : DatOk x) (hy : DatOk y) (q : Q (.bl (PyData.eqv (toD x) (toD y))) μ) : wO X (compareOp .Eq) x y μ Q :=
  wO_of (op_eqD hu) fun M F H v w rl r1 r2 => ⟨_, _, dp_of hx.1 (r1.mono rl.sub), dp_of hy.1 (r2.mono rl.sub), hx.shaped, hy.shaped, .pure rl (rep_bl.mpr rfl) q⟩
theorem wO_neD {x y : A} (hu : X.A.units + 64 < cLine) (hx : DatOk x) (hy : DatOk y) (q : Q (.bl (!PyData.eqv (toD x) (toD y))) μ) : wO X (compareOp .NotEq) x y μ Q :=
  wO_of (op_neD hu) fun M F H v w rl r1 r2 => ⟨_, _, dp_of hx.1 (r1.mono rl.sub), dp_of hy.1 (r2.mono rl.sub), hx.shaped, hy.shaped, .pure rl (rep_bl.mpr rfl) q⟩
/-- == of ints, of texts -/
theorem wO_eqI {i j : Int} (q : Q (.bl (decide (i = j))) μ) : wO X (compareOp .Eq) (.int i) (.int j) μ Q :=
  wO_of op_eq fun M F H v w rl r1 r2 => by
    rw [rep_int] at r1 r2; subst r1; subst r2
    exact ⟨rfl, .pure rl (rep_bl.mpr (by simp)) q⟩
theorem wO_neI {i j : Int} (q : Q (.bl (!decide (i = j))) μ) : wO X (compareOp .NotEq) (.int i) (.int j) μ Q :=
  wO_of op_ne fun M F H v w rl r1 r2 => by
    rw [rep_int] at r1 r2; subst r1; subst r2
    exact ⟨rfl, .pure rl (rep_bl.mpr (by simp)) q⟩
theorem wO_eqS {i j : Str} (q : Q (.bl (decide (i = j))) μ) : wO X (compareOp .Eq) (.str i) (.str j) μ Q :=
  wO_of op_eq fun M F H v w rl r1 r2 => by
    rw [rep_str] at r1 r2; subst r1; subst r2
    exact ⟨rfl, .pure rl (rep_bl.mpr (by simp)) q⟩
theorem wO_neS {i j : Str} (q : Q (.bl (!decide (i = j))) μ) : wO X (compareOp .NotEq) (.str i) (.str j) μ Q :=
  wO_of op_ne fun M F H v w rl r1 r2 => by
    rw [rep_str] at r1 r2; subst r1; subst r2
    exact ⟨rfl, .pure rl (rep_bl.mpr (by simp)) q⟩
/-- is None -/
def isNon : A → Bool
  | .non => true
  | _ => false
theorem isNon_rep {K : PySem.W.Frag} {F : Hp} {x : A} {v : V} (h : Rep K F x v) : decide (v = .non) = isNon x := by
  cases x with
  | non => rw [rep_non] at h; subst h; rfl
  | bl b => rw [rep_bl] at h; subst h; rfl
  | int i => rw [rep_int] at h; subst h; rfl
  | str i => rw [rep_str] at h; subst h; rfl
  | ty i => rw [rep_ty] at h; subst h; rfl
  | loc i => rw [rep_loc] at h; subst h; rfl
  | tup i => rw [rep_tup] at h; obtain ⟨_, _, rfl, _⟩ := h; rfl
  | lst i => rw [rep_lst] at h; obtain ⟨_, _, rfl, _⟩ := h; rfl
  | fls i => rw [rep_fls] at h; obtain ⟨_, _, rfl, _⟩ := h; rfl
theorem wO_isN {x : A} (q : Q (.bl (isNon x)) μ) : wO X (compareOp .Is) x .non μ Q :=
  wO_of op_isN fun M F H v w rl r1 r2 => ⟨rep_non.mp r2, .pure rl (rep_bl.mpr (by rw [isNon_rep r1])) q⟩
theorem wO_notN {x : A} (q : Q (.bl (!isNon x)) μ) : wO X (compareOp .IsNot) x .non μ Q :=
  wO_of op_notN fun M F H v w rl r1 r2 => ⟨rep_non.mp r2, .pure rl (rep_bl.mpr (by rw [isNon_rep r1])) q⟩
theorem wO_isB {i j : Bool} (q : Q (.bl (decide (i = j))) μ) : wO X (compareOp .Is) (.bl i) (.bl j) μ Q :=
  wO_of op_isBl fun M F H v w rl r1 r2 => ⟨i, j, rep_bl.mp r1, rep_bl.mp r2, .pure rl (rep_bl.mpr rfl) q⟩
theorem wO_notB {i j : Bool} (q : Q (.bl (!decide (i = j))) μ) : wO X (compareOp .IsNot) (.bl i) (.bl j) μ Q :=
  wO_of op_notBl fun M F H v w rl r1 r2 => ⟨i, j, rep_bl.mp r1, rep_bl.mp r2, .pure rl (rep_bl.mpr rfl) q⟩
/-! ### sequences -/
theorem wO_addS {x y : Str} (hz : x.length + y.length ≤ sizeLine) (q : Q (.str (x ++ y)) μ) : wO X (binaryOp .Add) (.str x) (.str y) μ Q :=
  wO_of op_add_str fun M F H v w rl r1 r2 => ⟨x, y, rep_str.mp r1, rep_str.mp r2, hz, .pure rl (rep_str.mpr rfl) q⟩
theorem wO_catT {xs ys : List A} (hz : xs.length + ys.length ≤ sizeLine) (q : Q (.tup (xs ++ ys)) μ) : wO X (binaryOp .Add) (.tup xs) (.tup ys) μ Q :=
  wO_of op_catA fun M F H v w rl r1 r2 => by
    rw [rep_tup] at r1 r2
    obtain ⟨a, vs, rfl, h1, h2⟩ := r1
    obtain ⟨b, ws, rfl, g1, g2⟩ := r2
    refine ⟨a, b, vs, ws, rfl, rfl, rl.sub.t h1, rl.sub.t g1, by rw [h2.len, g2.len]; exact hz, fun e => ?_, fun _ e => ?_, fun _ _ p np => ?_⟩
    · have e1 : xs = [] := by have := h2.len; rw [e] at this; exact List.length_eq_zero_iff.mp this.symm
      subst e1
      exact .pure rl (rep_tup.mpr ⟨b, ws, rfl, g1, by simpa using g2⟩) q
    · have e1 : ys = [] := by have := g2.len; rw [e] at this; exact List.length_eq_zero_iff.mp this.symm
      subst e1
      exact .pure rl (rep_tup.mpr ⟨a, vs, rfl, h1, by simpa using h2⟩) q
    · obtain ⟨ex, rl'⟩ := rl.newF (o := .tup (vs ++ ws)) np
      exact ⟨_, _, μ, ex, rl', rep_tup.mpr ⟨p, _, rfl, .inl (.inl upd_same), (h2.append g2).mono ex⟩, q⟩
/-- what a list reads as -/
inductive IsL (μ : Mu) : A → List A → Prop
  | lst (xs) : IsL μ (.lst xs) xs
  | loc {p xs} (h : μ p = some (.lst xs)) : IsL μ (.loc p) xs
theorem IsL.rep {K : PySem.W.Frag} {M F H : Hp} {x : A} {xs : List A} {v : V} (h : IsL μ x xs) (rl : Rel K μ M F H) (r : Rep K F x v) : ∃ p vs, v = .ref p ∧ H p = some (.lst vs) ∧ RepL K F xs vs := by
  cases h with
  | lst => rw [rep_lst] at r; obtain ⟨a, vs, h1, h2, h3⟩ := r; exact ⟨a, vs, h1, rl.sub _ _ h2, h3⟩
  | loc h => rw [rep_loc] at r; obtain ⟨_, o, h1, vs, rfl, h2⟩ := rl.own _ _ h; exact ⟨_, vs, r, h1, h2⟩
theorem wO_cat {x y : A} {xs ys : List A} (hx : IsL μ x xs) (hy : IsL μ y ys) (hz : xs.length + ys.length ≤ sizeLine) (q : ∀ p, μ p = none → Q (.loc p) (μ.upd p (.lst (xs ++ ys)))) : wO X (binaryOp .Add) x y μ Q :=
  wO_of op_cat fun M F H v w rl r1 r2 => by
    obtain ⟨a, vs, e1, h1, h2⟩ := hx.rep rl r1
    obtain ⟨b, ws, e2, g1, g2⟩ := hy.rep rl r2
    refine ⟨a, b, vs, ws, e1, e2, h1, g1, by rw [h2.len, g2.len]; exact hz, fun p np => ?_⟩
    obtain ⟨nμ, rl'⟩ := rl.new (m := .lst (xs ++ ys)) np ⟨_, rfl, h2.append g2⟩
    exact ⟨_, _, _, .refl _, rl', rep_loc.mpr rfl, q p nμ⟩
theorem wO_catF {x y : A} {xs ys : List A} (hx : IsL μ x xs) (hy : IsL μ y ys) (hz : xs.length + ys.length ≤ sizeLine) (q : Q (.lst (xs ++ ys)) μ) : wO X (binaryOp .Add) x y μ Q :=
  wO_of op_cat fun M F H v w rl r1 r2 => by
    obtain ⟨a, vs, e1, h1, h2⟩ := hx.rep rl r1
    obtain ⟨b, ws, e2, g1, g2⟩ := hy.rep rl r2
    refine ⟨a, b, vs, ws, e1, e2, h1, g1, by rw [h2.len, g2.len]; exact hz, fun p np => ?_⟩
    obtain ⟨ex, rl'⟩ := rl.newF (o := .lst (vs ++ ws)) np
    exact ⟨_, _, _, ex, rl', rep_lst.mpr ⟨p, _, rfl, upd_same, (h2.append g2).mono ex⟩, q⟩
theorem rep_flat {K : PySem.W.Frag} {F : Hp} {xs : List A} {vs : List V} (h : RepL K F xs vs) : ∀ n : Nat, RepL K F (List.replicate n xs).flatten (List.replicate n vs).flatten
  | 0 => .nil
  | n + 1 => by rw [List.replicate_succ, List.replicate_succ, List.flatten_cons, List.flatten_cons]; exact h.append (rep_flat h n)
theorem wO_repF {x : A} {xs : List A} {k : Int} (hx : IsL μ x xs) (h1 : -(2 ^ 63) ≤ k) (h2 : k < 2 ^ 63) (hz : xs.length * k.toNat ≤ sizeLine) (q : Q (.lst (List.replicate k.toNat xs).flatten) μ) : wO X (binaryOp .Mult) x (.int k) μ Q :=
  wO_of op_rep fun M F H v w rl r1 r2 => by
    obtain ⟨a, vs, e1, g1, g2⟩ := hx.rep rl r1
    refine ⟨a, k, vs, e1, rep_int.mp r2, g1, h1, h2, by rw [g2.len]; exact hz, fun p np => ?_⟩
    obtain ⟨ex, rl'⟩ := rl.newF (o := .lst (List.replicate k.toNat vs).flatten) np
    exact ⟨_, _, _, ex, rl', rep_lst.mpr ⟨p, _, rfl, upd_same, (rep_flat g2 _).mono ex⟩, q⟩
theorem wSl_tup {xs : List A} {lo hi : Option Int} (q : Q (.tup (cutA xs lo hi)) μ) : wSl X (.tup xs) lo hi μ Q := fun M F H v rl r1 => rd_slr sl_tupA (by
  rw [rep_tup] at r1
  obtain ⟨a, vs, rfl, h1, h2⟩ := r1
  refine ⟨a, vs, rfl, rl.sub.t h1, fun e => ?_, fun _ p np => ?_⟩
  · refine .pure rl (rep_tup.mpr ⟨a, vs, rfl, h1, ?_⟩) q
    have e2 : cutA xs lo hi = xs := by
      unfold cutA
      rw [h2.len] at e
      rw [e.1, e.2]; simp
    rw [e2]; exact h2
  · obtain ⟨ex, rl'⟩ := rl.newF (o := .tup (cutV vs lo hi)) np
    exact ⟨_, _, _, ex, rl', rep_tup.mpr ⟨p, _, rfl, .inl (.inl upd_same), (cut_rep h2).mono ex⟩, q⟩)
/-! x in a list, x in a tuple -/
def flatA : A → Bool
  | .non | .bl _ | .int _ | .str _ => true
  | .ty _ | .loc _ | .tup _ | .lst _ | .fls _ => false
/-- a bool as a number -/
def numB (b : Bool) : Int := if b then 1 else 0
def isNon0 : A → Bool
  | .non => true
  | _ => false
def eqA : A → A → Bool
  | .str x, .str y => x == y
  | .int i, .int j => i == j
  | .bl s, .bl t => s == t
  | .bl s, .int j => numB s == j
  | .int i, .bl t => i == numB t
  | .non, y => isNon0 y
  | _, _ => false
def inA (x : A) (xs : List A) : Bool := xs.any fun y => eqA y x
theorem flat_rep {K : PySem.W.Frag} {F : Hp} {x : A} {v : V} (h : Rep K F x v) (f : flatA x = true) : flatV v = true := by
  cases x <;> simp [flatA] at f <;> simp only [Rep] at h <;> subst h <;> rfl
theorem eq_rep {K : PySem.W.Frag} {F : Hp} {x y : A} {v w : V} (h : Rep K F x v) (g : Rep K F y w) (f : flatA x = true) (f' : flatA y = true) : eqV v w = eqA x y := by
  cases x <;> simp [flatA] at f <;> cases y <;> simp [flatA] at f' <;> simp only [Rep] at h g <;> subst h <;> subst g <;> rfl
theorem flats_rep {K : PySem.W.Frag} {F : Hp} : ∀ {xs : List A} {vs : List V}, RepL K F xs vs → xs.all flatA = true → vs.all flatV = true
  | [], _, h, _ => by simp only [RepL] at h; subst h; rfl
  | x :: xs, _, h, f => by
    simp only [RepL] at h; obtain ⟨v, r, rfl, h1, h2⟩ := h
    rw [List.all_cons, Bool.and_eq_true] at f ⊢
    exact ⟨flat_rep h1 f.1, flats_rep h2 f.2⟩
theorem in_rep {K : PySem.W.Frag} {F : Hp} {y : A} {w : V} (g : Rep K F y w) (f' : flatA y = true) : ∀ {xs : List A} {vs : List V}, RepL K F xs vs → xs.all flatA = true → inV w vs = inA y xs
  | [], _, h, _ => by simp only [RepL] at h; subst h; rfl
  | x :: xs, _, h, f => by
    simp only [RepL] at h; obtain ⟨v, r, rfl, h1, h2⟩ := h
    obtain ⟨f1, f2⟩ := Bool.and_eq_true_iff.mp (List.all_cons ▸ f)
    have ih := in_rep g f' h2 f2
    unfold inV inA at ih ⊢
    rw [List.any_cons, List.any_cons, eq_rep h1 g f1 f', ih]
inductive IsQ (μ : Mu) : A → List A → Prop
  | lst (xs) : IsQ μ (.lst xs) xs
  | fls (xs) : IsQ μ (.fls xs) xs
  | tup (xs) : IsQ μ (.tup xs) xs
  | loc {p xs} (h : μ p = some (.lst xs)) : IsQ μ (.loc p) xs
theorem IsQ.rep {K : PySem.W.Frag} {M F H : Hp} {x : A} {xs : List A} {v : V} (h : IsQ μ x xs) (rl : Rel K μ M F H) (r : Rep K F x v) : ∃ p vs, v = .ref p ∧ (SqL K H p vs ∨ SqT K H p vs) ∧ RepL K F xs vs := by
  cases h with
  | lst => rw [rep_lst] at r; obtain ⟨a, vs, h1, h2, h3⟩ := r; exact ⟨a, vs, h1, .inl (.inl (.inl (rl.sub _ _ h2))), h3⟩
  | fls => rw [rep_fls] at r; obtain ⟨a, vs, h1, h2, h3⟩ := r; exact ⟨a, vs, h1, .inl (rl.sub.l h2), h3⟩
  | tup => rw [rep_tup] at r; obtain ⟨a, vs, h1, h2, h3⟩ := r; exact ⟨a, vs, h1, .inr (rl.sub.t h2), h3⟩
  | loc h => rw [rep_loc] at r; obtain ⟨_, o, h1, vs, rfl, h2⟩ := rl.own _ _ h; exact ⟨_, vs, r, .inl (.inl (.inl h1)), h2⟩
theorem wO_in {x y : A} {xs : List A} (hy : IsQ μ y xs) (hx : flatA x = true) (hs : xs.all flatA = true) (q : Q (.bl (inA x xs)) μ) : wO X (compareOp .In) x y μ Q :=
  wO_of op_in_seq fun M F H v w rl r1 r2 => by
    obtain ⟨p, vs, e, h1, h2⟩ := hy.rep rl r2
    refine ⟨p, vs, e, h1, flat_rep r1 hx, flats_rep h2 hs, .pure rl (rep_bl.mpr ?_) q⟩
    rw [in_rep r1 hx h2 hs]; simp
theorem wO_notIn {x y : A} {xs : List A} (hy : IsQ μ y xs) (hx : flatA x = true) (hs : xs.all flatA = true) (q : Q (.bl (!inA x xs)) μ) : wO X (compareOp .NotIn) x y μ Q :=
  wO_of op_notIn_seq fun M F H v w rl r1 r2 => by
    obtain ⟨p, vs, e, h1, h2⟩ := hy.rep rl r2
    refine ⟨p, vs, e, h1, flat_rep r1 hx, flats_rep h2 hs, .pure rl (rep_bl.mpr ?_) q⟩
    rw [in_rep r1 hx h2 hs]; simp
theorem wO_inSign {ch : Nat} {z : Str} (q : Q (.bl (decide (ch ∈ z.cps.toList))) μ) : wO X (compareOp .In) (.str ⟨#[ch]⟩) (.str z) μ Q :=
  wO_of op_in_sign fun M F H v w rl r1 r2 => ⟨ch, z, rep_str.mp r1, rep_str.mp r2, .pure rl (rep_bl.mpr rfl) q⟩

/-! ### calls of built-ins -/
theorem wC_of {f : Value} {r : List V → Hp → VK → Prop} {xs : List A} (h : CallR X f r) (q : ∀ M F H vs, Rel X.K μ M F H → RepL X.K F xs vs → r vs H (QE X.K M F Q)) : wC X f xs μ Q :=
  fun M F H vs rl r1 => ⟨fun pins s σ us I rv => h pins s σ H vs us _ I rv (q M F H vs rl r1)⟩
theorem callr_rd {f : Value} : CallR X f (rdC X f) := fun pins s σ H xs us Q I r h => h.o pins s σ us I r
theorem wE_callB {x : Str} {p : Pos} {id : String} (hm : X.mg x = none) (hv : bootBuiltins x = some (.builtin id)) (h : wA B X (e :: es) Γ μ fun xs μ1 => wC X (.builtin id) xs μ1 Q) (hg : Gl X x := by rfl) (hn : x ≠ "__name__" := by decide) (hdb : (x == ("__debug__" : Str)) = false := by decide)
    (he : starEach (e :: es) X.env = (false, eval e X.env) :: starEach es X.env := by rfl) (hpl : (backTo pos (starEach es X.env)).any (·.1) = false := by rfl) : wE B X (.Call (.Name x p) (e :: es) [] pos) Γ μ Q := wE_of (pe_callB callr_rd hg hm hv pa_rd hn hdb he hpl) fun σ M F H bo rs r => by
  refine (h σ M F H bo rs r).imp fun vs H1 ⟨xs, F1, μ1, e1, r1, p1, q1⟩ => ?_
  exact ⟨fun pins s σ' us I rv => thn ((q1 M F1 H1 vs r1 p1).o pins s σ' us I rv) fun _ _ ⟨z, H3, I3, r3, q3⟩ => ⟨z, H3, I3, r3, q3.mono e1⟩⟩
theorem wE_callTy {x : Str} {p : Pos} {T : String} (hm : X.mg x = none) (hv : bootBuiltins x = some (.type T)) (h : wA B X (e :: es) Γ μ fun xs μ1 => wC X (.type T) xs μ1 Q) (hg : Gl X x := by rfl) (hn : x ≠ "__name__" := by decide) (hdb : (x == ("__debug__" : Str)) = false := by decide)
    (he : starEach (e :: es) X.env = (false, eval e X.env) :: starEach es X.env := by rfl) (hpl : (backTo pos (starEach es X.env)).any (·.1) = false := by rfl) : wE B X (.Call (.Name x p) (e :: es) [] pos) Γ μ Q := wE_of (pe_callTy callr_rd hg hm hv pa_rd hn hdb he hpl) fun σ M F H bo rs r => by
  refine (h σ M F H bo rs r).imp fun vs H1 ⟨xs, F1, μ1, e1, r1, p1, q1⟩ => ?_
  exact ⟨fun pins s σ' us I rv => thn ((q1 M F1 H1 vs r1 p1).o pins s σ' us I rv) fun _ _ ⟨z, H3, I3, r3, q3⟩ => ⟨z, H3, I3, r3, q3.mono e1⟩⟩
theorem RepL.one {K : PySem.W.Frag} {F : Hp} {x : A} {vs : List V} (h : RepL K F [x] vs) : ∃ v, vs = [v] ∧ Rep K F x v := by
  simp only [RepL] at h; obtain ⟨v, r, rfl, h1, rfl⟩ := h; exact ⟨v, rfl, h1⟩
theorem RepL.two {K : PySem.W.Frag} {F : Hp} {x y : A} {vs : List V} (h : RepL K F [x, y] vs) : ∃ v w, vs = [v, w] ∧ Rep K F x v ∧ Rep K F y w := by
  simp only [RepL] at h; obtain ⟨v, r, rfl, h1, w, r', rfl, h2, rfl⟩ := h; exact ⟨v, w, rfl, h1, h2⟩
theorem wC_abs {i : Int} (q : Q (.int (if i < 0 then -i else i)) μ) : wC X (.builtin "abs") [.int i] μ Q := wC_of call_abs fun M F H vs rl r => by
  obtain ⟨v, rfl, h⟩ := r.one; rw [rep_int] at h; subst h
  exact ⟨i, rfl, .pure rl (rep_int.mpr rfl) q⟩
theorem wC_max2 {i j : Int} (hc : X.calm = true) (q : Q (.int (if j > i then j else i)) μ) : wC X (.builtin "max") [.int i, .int j] μ Q := wC_of (call_max2 hc) fun M F H vs rl r => by
  obtain ⟨v, w, rfl, h, h'⟩ := r.two; rw [rep_int] at h h'; subst h; subst h'
  exact ⟨i, j, rfl, .pure rl (rep_int.mpr rfl) q⟩
theorem wC_min2 {i j : Int} (hc : X.calm = true) (q : Q (.int (if j < i then j else i)) μ) : wC X (.builtin "min") [.int i, .int j] μ Q := wC_of (call_min2 hc) fun M F H vs rl r => by
  obtain ⟨v, w, rfl, h, h'⟩ := r.two; rw [rep_int] at h h'; subst h; subst h'
  exact ⟨i, j, rfl, .pure rl (rep_int.mpr rfl) q⟩
theorem wC_len {x : A} {xs : List A} (hx : IsQ μ x xs) (q : Q (.int xs.length) μ) : wC X (.builtin "len") [x] μ Q := wC_of call_len_seq fun M F H vs rl r => by
  obtain ⟨v, rfl, h⟩ := r.one
  obtain ⟨p, ws, e, h1, h2⟩ := hx.rep rl h
  exact ⟨p, ws, by rw [e], h1, .pure rl (rep_int.mpr (by rw [h2.len])) q⟩
theorem wC_lenS {x : Str} (hz : x.length ≤ sizeLine) (q : Q (.int x.length) μ) : wC X (.builtin "len") [.str x] μ Q := wC_of call_len_str fun M F H vs rl r => by
  obtain ⟨v, rfl, h⟩ := r.one; rw [rep_str] at h; subst h
  exact ⟨x, rfl, hz, .pure rl (rep_int.mpr rfl) q⟩
theorem wC_list {x : A} {xs : List A} (hx : IsQ μ x xs) (q : ∀ p, μ p = none → Q (.loc p) (μ.upd p (.lst xs))) : wC X (.type "list") [x] μ Q := wC_of call_list_of fun M F H vs rl r => by
  obtain ⟨v, rfl, h⟩ := r.one
  obtain ⟨p, ws, e, h1, h2⟩ := hx.rep rl h
  refine ⟨p, ws, by rw [e], h1, fun l nl => ?_⟩
  obtain ⟨nμ, rl'⟩ := rl.new (m := .lst xs) nl ⟨_, rfl, h2⟩
  exact ⟨_, _, _, .refl _, rl', rep_loc.mpr rfl, q l nμ⟩
theorem wC_listF {x : A} {xs : List A} (hx : IsQ μ x xs) (q : Q (.lst xs) μ) : wC X (.type "list") [x] μ Q := wC_of call_list_of fun M F H vs rl r => by
  obtain ⟨v, rfl, h⟩ := r.one
  obtain ⟨p, ws, e, h1, h2⟩ := hx.rep rl h
  refine ⟨p, ws, by rw [e], h1, fun l nl => ?_⟩
  obtain ⟨ex, rl'⟩ := rl.newF (o := .lst ws) nl
  exact ⟨_, _, _, ex, rl', rep_lst.mpr ⟨l, _, rfl, upd_same, h2.mono ex⟩, q⟩
theorem wC_tuple {x : A} {xs : List A} (hx : IsL μ x xs) (q : Q (.tup xs) μ) : wC X (.type "tuple") [x] μ Q := wC_of call_tuple_of fun M F H vs rl r => by
  obtain ⟨v, rfl, h⟩ := r.one
  obtain ⟨p, ws, e, h1, h2⟩ := hx.rep rl h
  refine ⟨p, ws, by rw [e], .inl ⟨.inl (.inl h1), fun l nl => ?_⟩⟩
  obtain ⟨ex, rl'⟩ := rl.newF (o := .tup ws) nl
  exact ⟨_, _, _, ex, rl', rep_tup.mpr ⟨l, _, rfl, .inl (.inl upd_same), h2.mono ex⟩, q⟩
theorem wC_tupleT {xs : List A} (q : Q (.tup xs) μ) : wC X (.type "tuple") [.tup xs] μ Q := wC_of call_tupleT fun M F H vs rl r => by
  obtain ⟨v, rfl, h⟩ := r.one
  have h0 := h
  rw [rep_tup] at h
  obtain ⟨p, ws, rfl, h1, h2⟩ := h
  exact ⟨p, ws, rfl, rl.sub.t h1, .pure rl h0 q⟩
theorem IsL.q {x : A} {xs : List A} (h : IsL μ x xs) : IsQ μ x xs := by
  cases h with
  | lst => exact .lst _
  | loc h => exact .loc h
/-! sums, greatest, least, all -/
theorem repL_int' {K : PySem.W.Frag} {F : Hp} {ns : List Int} {vs : List V} (h : RepL K F (ns.map A.int) vs) : vs = ns.map V.int := repL_ints h
theorem wC_min {x : A} {ns : List Int} (hc : X.calm = true) (hx : IsL μ x (ns.map A.int)) (hn : 0 < ns.length) (q : ∀ m, m ∈ ns → (∀ y, y ∈ ns → m ≤ y) → Q (.int m) μ) : wC X (.builtin "min") [x] μ Q := wC_of (cr_min hc) fun M F H vs rl r => by
  obtain ⟨v, rfl, h⟩ := r.one
  obtain ⟨p, ws, e, h1, h2⟩ := hx.rep rl h
  rw [repL_ints h2] at h1
  exact ⟨p, ns, by rw [e], .inl (.inl h1), hn, fun m h3 h4 => .pure rl (rep_int.mpr rfl) (q m h3 h4)⟩
theorem wC_max {x : A} {ns : List Int} (hc : X.calm = true) (hx : IsL μ x (ns.map A.int)) (hn : 0 < ns.length) (q : ∀ m, m ∈ ns → (∀ y, y ∈ ns → y ≤ m) → Q (.int m) μ) : wC X (.builtin "max") [x] μ Q := wC_of (cr_max hc) fun M F H vs rl r => by
  obtain ⟨v, rfl, h⟩ := r.one
  obtain ⟨p, ws, e, h1, h2⟩ := hx.rep rl h
  rw [repL_ints h2] at h1
  exact ⟨p, ns, by rw [e], .inl (.inl h1), hn, fun m h3 h4 => .pure rl (rep_int.mpr rfl) (q m h3 h4)⟩
theorem wC_sum {x : A} {ns : List Int} (hc : X.calm = true) (hx : IsL μ x (ns.map A.int)) (q : Q (.int ns.sum) μ) : wC X (.builtin "sum") [x] μ Q := wC_of (cr_sum hc) fun M F H vs rl r => by
  obtain ⟨v, rfl, h⟩ := r.one
  obtain ⟨p, ws, e, h1, h2⟩ := hx.rep rl h
  rw [repL_ints h2] at h1
  exact ⟨p, ns, by rw [e], .inl (.inl h1), .pure rl (rep_int.mpr rfl) q⟩
theorem wC_all {x : A} {ns : List Bool} (hc : X.calm = true) (hx : IsL μ x (ns.map A.bl)) (q : Q (.bl (ns.all id)) μ) : wC X (.builtin "all") [x] μ Q := wC_of (cr_all hc) fun M F H vs rl r => by
  obtain ⟨v, rfl, h⟩ := r.one
  obtain ⟨p, ws, e, h1, h2⟩ := hx.rep rl h
  rw [repL_bls h2] at h1
  exact ⟨p, ns, by rw [e], .inl (.inl h1), .pure rl (rep_bl.mpr rfl) q⟩
theorem wC_any {x : A} {ns : List Bool} (hc : X.calm = true) (hx : IsL μ x (ns.map A.bl)) (q : Q (.bl (ns.any id)) μ) : wC X (.builtin "any") [x] μ Q := wC_of (cr_any hc) fun M F H vs rl r => by
  obtain ⟨v, rfl, h⟩ := r.one
  obtain ⟨p, ws, e, h1, h2⟩ := hx.rep rl h
  rw [repL_bls h2] at h1
  exact ⟨p, ns, by rw [e], .inl (.inl h1), .pure rl (rep_bl.mpr rfl) q⟩
theorem wC_intI {i : Int} (q : Q (.int i) μ) : wC X (.type "int") [.int i] μ Q := wC_of call_int1 fun M F H vs rl r => by
  obtain ⟨v, rfl, h⟩ := r.one; rw [rep_int] at h; subst h
  exact .inl ⟨i, rfl, .pure rl (rep_int.mpr rfl) q⟩
theorem wC_intB {i : Bool} (q : Q (.int (if i then 1 else 0)) μ) : wC X (.type "int") [.bl i] μ Q := wC_of call_int1 fun M F H vs rl r => by
  obtain ⟨v, rfl, h⟩ := r.one; rw [rep_bl] at h; subst h
  exact .inr ⟨i, rfl, .pure rl (rep_int.mpr rfl) q⟩
theorem wC_boolI {i : Int} (q : Q (.bl (i != 0)) μ) : wC X (.type "bool") [.int i] μ Q := wC_of call_bool1 fun M F H vs rl r => by
  obtain ⟨v, rfl, h⟩ := r.one; rw [rep_int] at h; subst h
  exact .inl ⟨i, rfl, .pure rl (rep_bl.mpr rfl) q⟩
theorem wC_strI {i : Int} (hz : i.natAbs.log2 < 1920) (q : Q (.str (toString i)) μ) : wC X (.type "str") [.int i] μ Q := wC_of call_str_int fun M F H vs rl r => by
  obtain ⟨v, rfl, h⟩ := r.one; rw [rep_int] at h; subst h
  exact ⟨i, rfl, hz, .pure rl (rep_str.mpr rfl) q⟩
/-! isinstance with a built-in class -/
def tyN (μ : Mu) : A → Option String
  | .non => some "NoneType" | .bl _ => some "bool" | .int _ => some "int" | .str _ => some "str" | .tup _ => some "tuple" | .lst _ => some "list"
  | .loc p => (match μ p with | some (.lst _) => some "list" | some (.dic _) => some "dict" | _ => none)
  | _ => none
theorem tyX_of {K : PySem.W.Frag} {M F H : Hp} {x : A} {n : String} {v : V} (rl : Rel K μ M F H) (r : Rep K F x v) (h : tyN μ x = some n) : TyX K H v (.type n) := by
  cases x with
  | non => rw [rep_non] at r; subst r; cases h; exact .base .non
  | bl b => rw [rep_bl] at r; subst r; cases h; exact .base (.bl b)
  | int i => rw [rep_int] at r; subst r; cases h; exact .base (.int i)
  | str i => rw [rep_str] at r; subst r; cases h; exact .base (.str i)
  | ty i => cases h
  | fls i => cases h
  | tup i =>
    rw [rep_tup] at r; obtain ⟨a, vs, rfl, g1, g2⟩ := r; cases h
    rcases rl.sub.t g1 with (g | ⟨o, g⟩) | ⟨o, its, n, g, gc, _⟩
    · exact .base (.tup g)
    · exact .fTuple g
    · exact .kTuple g gc
  | lst i => rw [rep_lst] at r; obtain ⟨a, vs, rfl, g1, g2⟩ := r; cases h; exact .base (.lst (rl.sub _ _ g1))
  | loc p =>
    rw [rep_loc] at r; subst r
    simp only [tyN] at h
    split at h
    · rename_i xs e; cases h; obtain ⟨_, o, g1, vs, rfl, _⟩ := rl.own _ _ e; exact .base (.lst g1)
    · rename_i xs e; cases h; obtain ⟨_, o, g1, vs, rfl, _⟩ := rl.own _ _ e; exact .base (.dK g1)
    · cases h
theorem wC_isi {x : A} {n m : String} {k : Bool} (hx : tyN μ x = some n) (hk : kitB n m = some k) (q : Q (.bl k) μ) : wC X (.builtin "isinstance") [x, .ty m] μ Q := wC_of call_isi fun M F H vs rl r => by
  obtain ⟨v, w, rfl, h, h'⟩ := r.two
  rw [rep_ty] at h'; subst h'
  exact ⟨v, _, _, _, k, rfl, .ty m, tyX_of rl h hx, kit_ty hk, .pure rl (rep_bl.mpr rfl) q⟩
end
end D

set_option Elab.async false
set_option linter.all false
set_option maxRecDepth 100000
set_option maxHeartbeats 4000000
/-! D4: a def's promise over data, its call, its body; the law's own end. What is known of the runs around: room, and that nothing is being shown. -/
namespace D
open PySem PySem.Spec PyProof.Rows L2

/-- a promise over data: the arguments, what may change, what is wanted of the answer, what is wanted of an exception -/
abbrev AC := List A → Mu → (A → Mu → Prop) → (Value → Option Addr → Mu → Prop) → Prop
def spOf (K : PySem.W.Frag) (c : AC) : Sp := fun vs H Q E => ∃ (xs : List A) (F M : Hp) (μ : Mu) (Q0 : A → Mu → Prop) (E0 : Value → Option Addr → Mu → Prop), RepL K F xs vs ∧ Rel K μ M F H ∧ c xs μ Q0 E0 ∧
  (∀ y μ' F' H' v, Q0 y μ' → Ex F F' → Rel K μ' M F' H' → Rep K F' y v → Q v H') ∧ (∀ cls d μ' F' H', E0 cls d μ' → Ex F F' → Rel K μ' M F' H' → E cls d H')

structure FnD (P : Program) (w : World) (K : PySem.W.Frag) (mg : Str → Option Value) (base : Heap) (CX : CXT) (k : Nat) (f : Addr) (fd : FuncData) (ps : List Str) (c : AC) : Prop where
  len : ∀ xs μ Q E, c xs μ Q E → xs.length = ps.length
  run : ∀ (A : Around) (outer : List Env) (s : Shared) (H : Hp) (args : Args) (us : List Value) (vs : List V) (Q : VK) (E : XK), Room k A → A.guards = some [] → Env0 P w K mg base A outer s H → BindsTo s fd args (ps.zip us) → Vals vs us →
    spOf K c vs H Q E → codeAny (model P w) A (.call (.ref f) args) (CR CX outer P w H s Q E) s
section
variable {P : Program} {w : World} {mg : Str → Option Value} {base : Heap} {K : PySem.W.Frag} {CX : CXT} {k : Nat} {f : Addr} {fd : FuncData} {ps : List Str} {c : AC}
theorem FnD.up {j : Nat} (F : FnD P w K mg base CX j f fd ps c) (h : j ≤ k) : FnD P w K mg base CX k f fd ps c := { len := F.len, run := fun A outer s H args us vs Q E hr => F.run A outer s H args us vs Q E (hr.mono h) }
theorem FnD.imp {c' : AC} (F : FnD P w K mg base CX k f fd ps c) (h : ∀ xs μ Q E, c' xs μ Q E → c xs μ Q E) : FnD P w K mg base CX k f fd ps c' :=
  { len := fun xs μ Q E q => F.len xs μ Q E (h xs μ Q E q)
    run := fun A outer s H args us vs Q E hr hg e0 hb hv ⟨xs, F1, M, μ, Q0, E0, h1, h2, h3, h4⟩ => F.run A outer s H args us vs Q E hr hg e0 hb hv ⟨xs, F1, M, μ, Q0, E0, h1, h2, h xs μ Q0 E0 h3, h4⟩ }
theorem spOf.len {vs : List V} {H : Hp} {Q : VK} {E : XK} (hl : ∀ xs μ Q E, c xs μ Q E → xs.length = ps.length) (h : spOf K c vs H Q E) : vs.length = ps.length := by
  obtain ⟨xs, F, M, μ, Q0, E0, h1, _, h3, _⟩ := h
  rw [h1.len]; exact hl _ _ _ _ h3
end

/-- what is known around a body -/
structure Ar (X : Cx) (k : Nat) : Prop where
  room : Room k X.A
  show0 : X.A.guards = some []
theorem Ar.mono {X : Cx} {j k : Nat} (h : Ar X k) (hj : j ≤ k) : Ar X j := ⟨h.room.mono hj, h.show0⟩
theorem Ar.u64 {X : Cx} {k : Nat} (h : Ar X k) : X.A.units + 64 < cLine := h.room.units
theorem Ar.u1 {X : Cx} {k : Nat} (h : Ar X k) : X.A.units + 1 < cLine := hu_of h.room

/-! ### the call -/
section
variable {B : Bs} {X : Cx} {CX : CXT} {k : Nat} {f : Addr} {fd : FuncData} {ps : List Str} {c : AC} {Γ : G} {μ : Mu} {Q : A → Mu → Prop} {e : Expr} {es : List Expr} {pos p : Pos} {x : Str} {E : XK}
theorem runD {pins : List (Addr × Obj)} {σ : L2.St} {H : Hp} {s : Shared} {R : VK} {us ds : List Value} {vs dvs : List V} (F : FnD X.prog X.w X.K X.mg X.base CX k f fd ps c) (ar : Ar X k) (bi : Binds X.K fd ps ds) (dv : Vals dvs ds) (pa : Passes CX X E)
    (I : Inv X pins σ H s) (rv : Vals vs us) (sp : spOf X.K c (vs ++ dvs) H R E) : wpAny (model X.prog X.w) X.A (call (.ref f) us) (EP X pins σ R) X.xe s := by
  have all := rv.append dv
  have many : (us ++ ds).length = ps.length := all.length.symm.trans (spOf.len F.len sp)
  have go := F.run X.A X.stack s H ⟨us, []⟩ (us ++ ds) (vs ++ dvs) R E ar.room ar.show0 I.env0 (bi s us I.kIn many) all sp
  refine wpAny_call (codeAny_mono go fun res s2 end2 => ?_)
  match res, end2 with
  | .error e2, end2 => exact pa pins σ H s e2 s2 I end2
  | .ok (.ret u), end2 => exact I.after end2
  | .ok .next, end2 => exact end2.elim
  | .ok .brk, end2 => exact end2.elim
  | .ok .cont, end2 => exact end2.elim
/-- how a def is found by its name, and bound: what a caller needs besides the promise -/
structure At (X : Cx) (x : Str) (f : Addr) (fd : FuncData) (ps : List Str) (ds : List Value) : Prop where
  mg : X.mg x = some (.ref f)
  kp : PySem.W.keepIn X.K (.ref f) = true
  bi : Binds X.K fd ps ds
theorem wE_callX {ds : List Value} {dvs : List V} {das : List A} {E0 : Value → Option Addr → Mu → Prop} (F : FnD X.prog X.w X.K X.mg X.base CX k f fd ps c) (at0 : At X x f fd ps ds) (ar : Ar X k) (dv : Vals dvs ds) (da : ∀ F, RepL X.K F das dvs)
    (pa : ∀ M F, Passes CX X (fun cls d H' => ∃ F' μ', Ex F F' ∧ Rel X.K μ' M F' H' ∧ E0 cls d μ'))
    (h : wA B X (e :: es) Γ μ fun xs μ1 => c (xs ++ das) μ1 Q E0) (hg : Gl X x := by rfl) (hdb : (x == ("__debug__" : Str)) = false := by decide)
    (he : starEach (e :: es) X.env = (false, eval e X.env) :: starEach es X.env := by rfl) (hpl : (backTo pos (starEach es X.env)).any (·.1) = false := by rfl) : wE B X (.Call (.Name x p) (e :: es) [] pos) Γ μ Q := by
  intro σ M F0 H bo rs rl
  refine ⟨fun pins s I => ?_⟩
  refine wpAny_Call_Name_kw (ld_glob I hg at0.mg ?_ hdb)
  refine PySem.W.callWith_K (h₀ := X.base) I.ok.mod.kin at0.kp (thn ((h σ M F0 H bo rs rl).o pos pins s I) fun us s1 got => ?_) he hpl
  obtain ⟨vs, H1, I1, rv, xs, F1, μ1, ex, rl1, rp, hc⟩ := got
  refine ⟨I1.kIn, runD F ar at0.bi dv (pa M F0) I1 rv ⟨xs ++ das, F1, M, μ1, Q, E0, rp.append (da F1), rl1, hc, fun y μ' F' H' v q e1 r1 p1 => ?_, fun cls d μ' F' H' q e1 r1 => ?_⟩⟩
  · exact ⟨y, F', μ', ex.trans e1, r1, p1, q⟩
  · exact ⟨F', μ', ex.trans e1, r1, q⟩
/-- f(e, ..) where nothing is raised -/
theorem wE_call (F : FnD X.prog X.w X.K X.mg X.base CX0 k f fd ps c) (at0 : At X x f fd ps []) (ar : Ar X k) (h : wA B X (e :: es) Γ μ fun xs μ1 => c xs μ1 Q fun _ _ _ => False) (hg : Gl X x := by rfl) (hdb : (x == ("__debug__" : Str)) = false := by decide)
    (he : starEach (e :: es) X.env = (false, eval e X.env) :: starEach es X.env := by rfl) (hpl : (backTo pos (starEach es X.env)).any (·.1) = false := by rfl) : wE B X (.Call (.Name x p) (e :: es) [] pos) Γ μ Q :=
  wE_callX (das := []) (dvs := []) F at0 ar .nil (fun _ => .nil) (fun _ _ _ _ _ _ _ _ _ z => z.elim) (by simpa only [List.append_nil] using h) hg hdb he hpl
/-- .. where defaults fill up -/
theorem wE_callD {ds : List Value} {dvs : List V} (das : List A) (F : FnD X.prog X.w X.K X.mg X.base CX0 k f fd ps c) (at0 : At X x f fd ps ds) (ar : Ar X k) (dv : Vals dvs ds) (da : ∀ F, RepL X.K F das dvs) (h : wA B X (e :: es) Γ μ fun xs μ1 => c (xs ++ das) μ1 Q fun _ _ _ => False) (hg : Gl X x := by rfl) (hdb : (x == ("__debug__" : Str)) = false := by decide)
    (he : starEach (e :: es) X.env = (false, eval e X.env) :: starEach es X.env := by rfl) (hpl : (backTo pos (starEach es X.env)).any (·.1) = false := by rfl) : wE B X (.Call (.Name x p) (e :: es) [] pos) Γ μ Q :=
  wE_callX F at0 ar dv da (fun _ _ _ _ _ _ _ _ _ z => z.elim) h hg hdb he hpl
/-- f() -/
theorem wE_call0 (F : FnD X.prog X.w X.K X.mg X.base CX0 k f fd ps c) (at0 : At X x f fd ps []) (ar : Ar X k) (h : c [] μ Q fun _ _ _ => False) (hg : Gl X x := by rfl) (hdb : (x == ("__debug__" : Str)) = false := by decide) : wE B X (.Call (.Name x p) [] [] pos) Γ μ Q := by
  intro σ M F0 H bo rs rl
  refine ⟨fun pins s I => ?_⟩
  refine wpAny_Call_Name_kw (ld_glob I hg at0.mg ?_ hdb)
  refine PySem.W.callWith_K0 I.kIn at0.kp (runD (us := []) (vs := []) (dvs := []) (E := fun _ _ _ => False) F ar at0.bi .nil (fun _ _ _ _ _ _ _ z => z.elim) I .nil ⟨[], F0, M, μ, Q, _, .nil, rl, h, fun y μ' F' H' v q e1 r1 p1 => ?_, fun cls d μ' F' H' q e1 r1 => q⟩)
  exact ⟨y, F', μ', e1, r1, p1, q⟩
end

/-! ### the body -/
/-- the names' data at the entry -/
def startA (N : List Str) (xs : List A) : G := xs.map some ++ List.replicate (N.length - xs.length) none
theorem relS_start {K : PySem.W.Frag} {F : Hp} {xs : List A} {vs : List V} (N : List Str) (h : RepL K F xs vs) : RelS K (startA N xs) F (L2.start N vs) := by
  unfold startA L2.start
  have hl := h.len
  refine ⟨by simp [hl], fun i x q => ?_⟩
  by_cases hi : i < xs.length
  · rw [List.getElem?_append_left (by simpa using hi), List.getElem?_map] at q
    cases e : xs[i]? with
    | none => rw [e] at q; cases q
    | some y =>
      rw [e] at q; cases q
      obtain ⟨v, h1, h2⟩ := h.get e
      refine ⟨v, ?_, h2⟩
      rw [List.getElem?_append_left (by rw [List.length_map, hl]; exact hi), List.getElem?_map, h1]; rfl
  · rw [List.getElem?_append_right (by simpa using hi), List.getElem?_replicate] at q
    split at q <;> cases q

section
variable {P : Program} {w : World} {mg : Str → Option Value} {base : Heap} {K : PySem.W.Frag}
/-- the context of a def's body that lets nothing out -/
abbrev cx0 (P : Program) (w : World) (K : PySem.W.Frag) (mg : Str → Option Value) (base : Heap) (N : List Str) (qual : Str) (sc : Scope) (f : Addr) (cdv : Value) (A : Around) (outer : List Env) (s : Shared) (H : Hp) (E : XK) : Cx := (cxOf CX0 P w K mg base N qual sc f cdv A outer s H E).nox
theorem FnD.body {CX : CXT} {k : Nat} {f : Addr} {name qual : Str} {params : Arguments} {body : List Stmt} {scope : Scope} {dV kV doc pm cdv ct oc : Value} {an od : Option Addr} {osl : Array (Option Value)} {N ps : List Str} {c : AC}
    (lk : K.lookup f = some ⟨oc, od, .func (PySem.W.fnOf name qual params body scope dV kV doc pm an cdv ct), osl⟩) (hcd : PySem.W.codeIn K cdv qual = true) (S : FnScope N ps scope) (len : ∀ xs μ Q E, c xs μ Q E → xs.length = ps.length)
    (go : ∀ (A : Around) (outer : List Env) (s : Shared) (H : Hp) (vs : List V) (Q : VK) (E : XK), Room k (A.deeper (envOfC qual scope s.heap.objs.size f cdv)) → A.guards = some [] → spOf K c vs H Q E →
      rdSs (cxOf CX P w K mg base N qual scope f cdv A outer s H E) body { nx := fun _ H' => Q .non H', rt := Q } (L2.start N vs) H) : FnD P w K mg base CX (k + 1) f (PySem.W.fnOf name qual params body scope dV kV doc pm an cdv ct) ps c := by
  refine { len := len, run := fun A outer s H args us vs Q E room sh e0 bound rv sp => ?_ }
  have many : vs.length = ps.length := spOf.len len sp
  have inK : K.In s.heap := e0.mod.kin.keeps fun b o z => (e0.bs b o z).1
  have noLim : s.heap.NoLimit := e0.mod.nolimit.keeps fun b o z => (e0.bs b o z).1
  have kinds : ∀ y ∈ ps.zip us, scope.names.lookup y.1 = some .local ∨ (scope.names.lookup y.1 = some .cell ∧ ((cellsFrom (s.heap.objs.size + 1) scope.names []).lookup y.1).isSome = true) := by
    intro y hy
    obtain ⟨n, v⟩ := y
    have hn := S.par n (List.of_mem_zip hy).1
    exact hn.elim .inl fun z => .inr ⟨z, PySem.W.cellsFrom_some _ _ _ (.inl z)⟩
  refine codeAny_call_function room.depth (inK _ _ lk) rfl S.co S.gen rfl (PySem.W.codeRec_of inK hcd) (bound _ _ _ _ ?_)
  refine wpAny_newFunctionEnv_cells S.kind kinds fun env he s1 new => ?_
  subst he
  refine ⟨noLim.keeps new.toInCall.keep, codeAny_func ?_⟩
  have I := inv_start (CX := CX) (P := P) (w := w) (mg := mg) (base := base) (N := N) (outer := outer) (E := E) S room.hd e0 many rv new
  refine wpAny_mono ((go A outer s H vs Q E (room.deeper _) sh sp).o [] s1 I) (fun fl s2 q => ?_) fun e2 s2 q => q
  have fin : ∀ {σ2 : L2.St} {H2 : Hp} {v : V} {u : Value}, Inv (cxOf CX P w K mg base N qual scope f cdv A outer s H E) [] σ2 H2 s2 → RelV v u → Q v H2 → CE outer P w H s Q u s2 :=
    fun {σ2 H2 v u} J r q => ⟨v, H2, J.os, J.bare, J.base, J.hok, r, q⟩
  match fl, q with
  | .ret u, ⟨v, σ2, H2, J, r, q⟩ => exact fin J r q
  | .next, ⟨σ2, H2, J, q⟩ => exact fin (v := V.non) (u := Value.none) J rfl q
  | .brk, ⟨_, _, _, q⟩ => exact q.elim
  | .cont, ⟨_, _, _, q⟩ => exact q.elim
theorem rdSs_nox {X : Cx} {st : List Stmt} {D : Ends} {σ : L2.St} {H : Hp} (h : rdSs X.nox st D σ H) : rdSs X st D σ H := rd_pss (PSs.nox pss_rd) h
/-- THE RULE for a def that lets nothing out: its body over data -/
theorem fnD {x qual : Str} {st : Stmt} {f : Addr} {fd : FuncData} {N ps : List Str} {k : Nat} {c : AC} (F : Fun K x qual st f fd) (S : FnScope N ps (defScope st)) (len : ∀ xs μ Q E, c xs μ Q E → xs.length = ps.length)
    (go : ∀ {B : Bs} (cdv : Value) (A : Around) (outer : List Env) (s : Shared) (H : Hp) (E : XK) (xs : List D.A) (μ : Mu) (Q : D.A → Mu → Prop) (E0 : Value → Option Addr → Mu → Prop), Ar (cx0 P w K mg base N qual (defScope st) f cdv A outer s H E) k → c xs μ Q E0 →
      wSs B (cx0 P w K mg base N qual (defScope st) f cdv A outer s H E) (defBody st) (startA N xs) μ { nx := fun _ μ' => Q .non μ', rt := Q }) : FnD P w K mg base CX0 (k + 1) f fd ps c := by
  obtain ⟨oc, od, kV, doc, pm, an, cdv, ct, osl, rfl, lk, hcd⟩ := F.ex
  refine FnD.body lk hcd S len fun A outer s H vs Q E room sh sp => rdSs_nox ?_
  obtain ⟨xs, F0, M, μ, Q0, E0, rp, rl, hc, hq, he⟩ := sp
  refine (go cdv A outer s H E xs μ Q0 E0 ⟨room, sh⟩ hc (L2.start N vs) M F0 H (Bs.ok.own M F0) (relS_start N rp) rl).imp (fun σ2 H2 q => ?_) (fun v H2 q => ?_) (fun σ2 H2 q => ?_) (fun σ2 H2 q => ?_)
  · obtain ⟨Γ', F', μ', ex, _, rl', q⟩ := q
    exact hq .non μ' F' H2 .non q ex rl' (rep_non.mpr rfl)
  · obtain ⟨y, F', μ', ex, rl', rp', q⟩ := q
    exact hq y μ' F' H2 v q ex rl' rp'
  · obtain ⟨_, _, _, _, _, _, q⟩ := q; exact q
  · obtain ⟨_, _, _, _, _, _, q⟩ := q; exact q
end

/-! ### the law's end -/
theorem law_end {P : Program} {w : World} {K : PySem.W.Frag} {mg mb : Str → Option Value} {CX : CXT} {k : Nat} {fa a : Addr} {fd : FuncData} {x : Str} {c : AC} {s1 : Shared} {vs : List Value} {ns : List Int}
    (inK : K.In s1.heap) (gl : s1.heap.Ns mainGlobals mg) (bl : s1.heap.Ns builtinsNs mb) (bl2 : ∀ x : Str, x ≠ "__name__" → mb x = bootBuiltins x) (lim : s1.heap.NoLimit) (gens : s1.gens = #[])
    (obj : s1.heap.get? a = some { cls := .type "list", data := .seq vs.toArray }) (hints : IntsAre vs ns) (len : ns.length ≤ sizeLine) (room : Room k callerA)
    (F : ∀ base : Heap, K.In base → base.Ns mainGlobals mg → FnD P w K mg base CX k fa fd [x] c) (bind : ∀ (s : Shared) (u : Value), BindsTo s fd ⟨[u], []⟩ [(x, u)])
    (hc : c [.fls (ns.map A.int)] (fun _ => none) (fun y _ => y = .bl true) fun _ _ _ => False) (hCX : ∀ H e s', CX [] H s1 (fun _ _ _ => False) e s' → False) :
    codeAny (model P w) callerA (.call (.ref fa) ⟨[.ref a], []⟩) (fun r s' => r = .ok (.ret (.bool true)) ∧ OldK s1.heap s'.heap ∧ s'.os = s1.os ∧ AllBare s'.gens) s1 := by
  have rv := vals_ints hints
  have many := hints.length
  have main : ∀ H : Hp, Only H → SqL K H a (ns.map V.int) → HOk P w H s1.heap → (∀ b, H b ≠ none → b = a) → (H a ≠ none → K.lookup a = none) →
      codeAny (model P w) callerA (.call (.ref fa) ⟨[.ref a], []⟩) (fun r s' => r = .ok (.ret (.bool true)) ∧ OldK s1.heap s'.heap ∧ s'.os = s1.os ∧ AllBare s'.gens) s1 := by
    intro H only sq hok isA notK
    have off : ∀ {b : Addr} {o : Obj} {es : Array DictEntry} {ep : Nat}, s1.heap.get? b = some o → o.data = .dict es ep → H b = none := by
      intro b o es ep e d
      match q : H b with
      | none => rfl
      | some u =>
        obtain rfl : b = a := isA b (by rw [q]; exact fun z => nomatch z)
        rw [obj] at e
        cases e
        exact nomatch d
    have ns' : ∀ {b : Addr} {m : Str → Option Value}, s1.heap.Ns b m → (hidT s1.heap H).Ns b m := by
      intro b m h
      obtain ⟨o, es, ep, e, d, r⟩ := h
      exact ⟨o, es, ep, hidT_get e (off e d), d, r⟩
    have inKb : K.In (hidT s1.heap H) := by
      intro b o e
      refine hidT_get (inK b o e) ?_
      match q : H b with
      | none => rfl
      | some u =>
        obtain rfl : b = a := isA b (by rw [q]; exact fun z => nomatch z)
        rw [notK (by rw [q]; exact fun z => nomatch z)] at e
        cases e
    obtain ⟨mc, l1, l2⟩ := lim
    have e0 : Env0 P w K mg (hidT s1.heap H) callerA [] s1 H :=
      { frames := rfl, mod := ⟨inKb, ns' gl, ⟨mb, ns' bl, bl2⟩, ⟨mc, ns' l1, l2⟩⟩, bs := fun b o e => of_hidT e, bsz := Nat.le_of_eq (hidT_size _ _), funs := trivial, frf := fun b hb => (List.not_mem_nil hb).elim, hok := hok, bare := .of_eq gens }
    have rl : Rel K (fun _ => none) (fun _ => none) H H := ⟨.refl _, fun _ _ z => (nomatch z), fun _ _ z => (nomatch z)⟩
    have sp : spOf K c [.ref a] H (fun v _ => v = .bl true) (fun _ _ _ => False) :=
      ⟨[.fls (ns.map A.int)], H, fun _ => none, fun _ => none, _, _, .cons (rep_fls.mpr ⟨a, _, rfl, sq, .map (fun i => rep_int.mpr rfl) ns⟩) .nil, rl, hc, fun y μ' F' H' v q _ _ r => by rw [q, rep_bl] at r; exact r, fun _ _ _ _ _ z _ _ => z⟩
    refine codeAny_mono ((F _ inKb (ns' gl)).run callerA [] s1 H ⟨[.ref a], []⟩ [.ref a] [.ref a] _ _ room rfl e0 (bind s1 (.ref a)) (.cons rfl .nil) sp) fun r s2 h => ?_
    match r, h with
    | .error e, h => exact (hCX H e s2 h).elim
    | .ok .next, h => exact h.elim
    | .ok .brk, h => exact h.elim
    | .ok .cont, h => exact h.elim
    | .ok (.ret u), ⟨v, H2, os, bare, un, hok2, rv2, q⟩ =>
      have q2 : v = .bl true := q
      subst q2
      obtain rfl : u = Value.bool true := rv2
      suffices keep : ∀ b o, s1.heap.get? b = some o → s2.heap.get? b = some o from ⟨rfl, OldK.of_keep keep, os, bare⟩
      intro b o e
      match q3 : H b with
      | none => exact un.keep b o e q3 List.not_mem_nil List.not_mem_nil
      | some u3 =>
        rcases only b with z | ⟨ob, xs, z⟩
        · rw [z] at q3; cases q3
        · obtain ⟨g1, _⟩ := hok b _ z
          obtain ⟨g2, _⟩ := hok2 b _ (un.frzs b ob _ z)
          rw [g1] at e; cases e
          exact g2
  match hk : K.lookup a with
  | some o =>
    have e := inK a o hk
    rw [obj] at e
    cases e
    exact main (fun _ => none) (fun _ => .inl rfl) (.inr ⟨_, vs.toArray, _, hk, rfl, rfl, rfl, by rw [List.size_toArray, many]; exact len, by simpa using rv⟩) (fun _ _ z => nomatch z) (fun _ z => absurd rfl z) fun z => absurd rfl z
  | none =>
    refine main (upd (fun _ => none) a (.frz { cls := .type "list", data := .seq vs.toArray } (.lst (ns.map V.int)))) (fun b => ?_) (.inl (.inr ⟨_, upd_same⟩)) (fun b u z => ?_) (fun b z => ?_) fun _ => hk
    · by_cases hb : b = a
      · subst hb; exact .inr ⟨_, _, upd_same⟩
      · exact .inl (upd_ne hb)
    · by_cases hb : b = a
      · subst hb
        rw [upd_same] at z; cases z
        exact ⟨obj, by rw [List.length_map]; exact len, vs, _, rv, obj⟩
      · rw [upd_ne hb] at z; cases z
    · exact Classical.byContradiction fun hb => z (upd_ne hb)
/-- the goal that k_head leaves, by the law's promise over data -/
theorem walk_end {l : PySem.W.OpenLaw} {k : Nat} {q : Program} {loose : List Str} {XP : (Str → Option Value) → Heap → Prop} {YP : World → Heap → Prop} {d : DefRec} {K : Params → PySem.W.Frag} {c : World → AC} {x : Str}
    (hn : l.most = some 63) (hdf : d.params.defaults = []) (room : Room k callerA) (hY : ∀ (w : World) (h : Heap), YP w h → (K w.params).In h)
    (F : ∀ (w : World) (mg : Str → Option Value) (fa : Addr) (g : Heap), (K w.params).In g → g.Ns mainGlobals mg →
      mg d.name = some (.ref fa) → ∃ fd : FuncData, (∀ (s : Shared) (u : Value), BindsTo s fd ⟨[u], []⟩ [(x, u)]) ∧ ∀ base : Heap, (K w.params).In base → base.Ns mainGlobals mg → FnD l.prog w (K w.params) mg base CX0 k fa fd [x] (c w))
    (hc : ∀ (w : World) (ns : List Int), ns.length ≤ 63 → c w [.fls (ns.map A.int)] (fun _ => none) (fun y _ => y = .bl true) fun _ _ _ => False) : PySem.W.WalkO q loose XP YP l.row.toRowW d [] (fun f vs => PySem.call f vs) := by
  refine Att.attach_call hn hdf ?_
  intro w s0 s1 mg mb fa o pm cd doc a vs ns gr Y ho hd hcd hmg hobj hints hlen hg
  have inK := hY w _ Y
  obtain ⟨fd, hb, hF⟩ := F w mg fa _ inK gr.T.g hmg
  exact law_end inK gr.T.g gr.T.b gr.T.builtins gr.T.nolimit hg hobj hints (Nat.le_trans hlen (by decide)) room hF hb (hc w ns hlen) fun _ _ _ z => z
end D

set_option Elab.async false
set_option linter.all false
set_option maxRecDepth 100000
set_option maxHeartbeats 4000000
/-! D5: targets, statements, loops, comprehensions, methods, dicts, repr. -/
namespace D
open PySem PySem.Spec PyProof.Rows L2

section
variable {B : Bs} {X : Cx} {Γ : G} {μ : Mu} {Q : A → Mu → Prop} {Z : AD} {a b c e : Expr} {es : List Expr} {pos : Pos} {st : Stmt} {rest : List Stmt}

/-! ### targets -/
theorem rdG.imp {tg : Expr} {v : V} {σ : L2.St} {H : Hp} {R R' : L2.St → Hp → Prop} (h : rdG X tg v σ H R) (w : ∀ σ H, R σ H → R' σ H) : rdG X tg v σ H R' :=
  ⟨fun pins s u I r => thn (h.o pins s u I r) fun _ _ ⟨σ', H', I', q⟩ => ⟨σ', H', I', w _ _ q⟩⟩
variable {QG : G → Mu → Prop}
theorem wG_name (i : Nat) {x : Str} {y : A} (q : QG (Γ.set i (some y)) μ) (hN : X.N.Nodup) (hi : X.N[i]? = some x := by rfl) (hx : Loc X.env.scope x := by first | exact Or.inl rfl | exact Or.inr rfl)
    (hf : X.fn x = true ∨ X.env.scope.names.lookup x = some .local := by first | exact .inl rfl | exact .inr rfl) : wG B X (.Name x pos) y Γ μ QG := fun σ M F H v bo rs rl rp =>
  rd_pg (pg_name hN hi hx hf) (show QS X.K M F QG (σ.set i (some v)) H from ⟨_, F, μ, .refl _, rs.set rp, rl, q⟩)
/-- several names, from a tuple's items -/
def rdGs (X : Cx) (ts : List Expr) : TGs := fun vs σ H Q => Bx (∀ (pins : List (Addr × Obj)) (s : Shared) (us : List Value), Inv X pins σ H s → Vals vs us →
    wpAny (model X.prog X.w) X.A (assignInOrder ((assignEach ts X.env).map (·.2)) us) (fun _ s' => ∃ σ' H', Inv X pins σ' H' s' ∧ Q σ' H') X.xe s)
def wGs (B : Bs) (X : Cx) (ts : List Expr) (ys : List A) (Γ : G) (μ : Mu) (Q : G → Mu → Prop) : Prop := ∀ σ M F H vs, B.ok M F → RelS X.K Γ F σ → Rel X.K μ M F H → RepL X.K F ys vs → rdGs X ts vs σ H (QS X.K M F Q)
theorem pgs_rd {ts : List Expr} : PGs X ts (rdGs X ts) := ⟨fun pins s _ _ _ us _ I r h => h.o pins s us I r⟩
theorem rd_pgs {ts : List Expr} {t : TGs} (h : PGs X ts t) {vs : List V} {σ : L2.St} {H : Hp} {R : L2.St → Hp → Prop} (q : t vs σ H R) : rdGs X ts vs σ H R := ⟨fun pins s us I r => h.run pins s σ H vs us R I r q⟩
theorem wGs_nil (q : QG Γ μ) : wGs B X [] [] Γ μ QG := fun σ M F H vs bo rs rl rp => by
  simp only [RepL] at rp; subst rp
  exact rd_pgs pgs_nil (show gNil [] σ H (QS X.K M F QG) from ⟨rfl, Γ, F, μ, .refl _, rs, rl, q⟩)
theorem wGs_cons {t : Expr} {ts : List Expr} {y : A} {ys : List A} (h : wG B X t y Γ μ fun Γ1 μ1 => wGs B X ts ys Γ1 μ1 QG) (hs : (assignEach (t :: ts) X.env).map (·.2) = assign t X.env :: (assignEach ts X.env).map (·.2) := by rfl) : wGs B X (t :: ts) (y :: ys) Γ μ QG := fun σ M F H vs bo rs rl rp => by
  simp only [RepL] at rp
  obtain ⟨v, r, rfl, h1, h2⟩ := rp
  refine rd_pgs (pgs_cons pg_rd pgs_rd hs) ⟨v, r, rfl, (h σ M F H v bo rs rl h1).imp fun σ' H' q => ?_⟩
  obtain ⟨Γ', F', μ', ex, rs', rl', q⟩ := q
  refine ⟨fun pins s us I rv => ?_⟩
  refine thn ((q σ' M F' H' r (bo.mono ex) rs' rl' (h2.mono ex)).o pins s us I rv) fun _ _ ⟨σ2, H2, I2, q2⟩ => ⟨σ2, H2, I2, q2.mono ex⟩
theorem wG_tup {ts : List Expr} {k : Nat} {ys : List A} (h : wGs B X ts ys Γ μ QG) (hc : X.calm = true := by rfl) (hn : (assignEach ts X.env).length = ys.length := by rfl) (hst : (assignEach ts X.env).findIdx? (·.1) = none := by rfl) : wG B X (.Tuple ts k pos) (.tup ys) Γ μ QG := fun σ M F H v bo rs rl rp => by
  rw [rep_tup] at rp
  obtain ⟨p, vs, rfl, h1, h2⟩ := rp
  exact rd_pg (pg_tup (n := ys.length) hc pgs_rd hn hst) ⟨p, vs, rfl, rl.sub.t h1, h2.len, h σ M F H vs bo rs rl h2⟩
/-- o[i] = .., a list of ours -/
theorem wG_sub {o i : Expr} {y : A} (h : wE B X o Γ μ fun x μ1 => wE B X i Γ μ1 fun z μ2 => ∃ p xs k j, x = .loc p ∧ z = .int k ∧ μ2 p = some (.lst xs) ∧ ixN xs.length k = some j ∧ QG Γ (μ2.upd p (.lst (xs.set j y))))
    (ha : ∀ v, assign (.Subscript o i pos) X.env v = (holding [v] (eval o X.env) >>= fun a => holding [v, a] (eval i X.env) >>= fun b => (standAt pos >>= fun _ => (holding [v, a, b] (setItem a b v) >>= fun _ => release [v, a, b] []))) := by intro _; rfl) : wG B X (.Subscript o i pos) y Γ μ QG := fun σ M F H v bo rs rl rp =>
  rd_pg (pg_sub pe_rd pe_rd set_list ha) (by
    refine (h σ M F H bo rs rl).imp fun ov H1 ⟨x, F1, μ1, e1, r1, p1, q1⟩ => ?_
    refine (q1 σ M F1 H1 (bo.mono e1) (rs.mono e1) r1).imp fun iv H2 ⟨z, F2, μ2, e2, r2, p2, p, xs, k, j, ex, ez, hp, hj, q2⟩ => ?_
    subst ex; subst ez
    rw [rep_loc] at p1; rw [rep_int] at p2
    obtain ⟨_, ob, g1, vs, rfl, g2⟩ := r2.own p _ hp
    refine ⟨p, vs, k, j, p1, p2, g1, by rw [g2.len]; exact hj, Γ, F2, _, e1.trans e2, rs.mono (e1.trans e2), r2.write hp (m' := .lst (xs.set j y)) ⟨_, rfl, g2.set j (rp.mono (e1.trans e2))⟩, q2⟩)

/-! blocks; the small statements -/
theorem wSs.weak {μ' : Mu} (w : ∀ p m, μ' p = some m → μ p = some m) (h : wSs B X rest Γ μ' Z) : wSs B X rest Γ μ Z := fun σ M F H bo rs r => h σ M F H bo rs (r.weak w)
/-- a list in a slot stands for good from here on -/
theorem wSs_frz (i : Nat) {p : Addr} {xs : List A} (hp : μ p = some (.lst xs)) (hi : Γ[i]? = some (some (.loc p))) (h : wSs B X rest (Γ.set i (some (.lst xs))) (μ.del p) Z) : wSs B X rest Γ μ Z := fun σ M F H bo rs r => by
  obtain ⟨F', ex, rl', rp⟩ := r.freeze hp
  refine ends_mono ex (h σ M F' H (bo.mono ex) ?_ rl')
  have r2 := rs.mono ex
  refine ⟨by rw [List.length_set]; exact rs.len, fun j x q => ?_⟩
  rw [List.getElem?_set] at q
  split at q
  · rename_i e
    subst e
    split at q
    · cases q
      obtain ⟨v, h1, h2⟩ := rs.at_ _ _ hi
      rw [rep_loc] at h2; subst h2
      exact ⟨_, h1, rp⟩
    · cases q
  · exact r2.at_ j x q
theorem wSs_nil (q : Z.nx Γ μ) : wSs B X [] Γ μ Z := fun σ M F H bo rs r => rd_pss pss_nil (show QS X.K M F Z.nx σ H from ⟨Γ, F, μ, .refl _, rs, r, q⟩)
theorem wSs_cons (h : wS B X st Γ μ { Z with nx := fun Γ' μ' => wSs B X rest Γ' μ' Z }) : wSs B X (st :: rest) Γ μ Z := fun σ M F H bo rs r => rd_pss (pss_cons ps_rd pss_rd) (by
  refine (h σ M F H bo rs r).imp (fun σ' H' q => ?_) (fun _ _ q => q) (fun _ _ q => q) (fun _ _ q => q)
  obtain ⟨Γ', F', μ', ex, rs', r', q⟩ := q
  exact ends_mono ex (q σ' M F' H' (bo.mono ex) rs' r'))
theorem wS_of {t : TS} (h : PS X st t) (q : ∀ σ M F H, B.ok M F → RelS X.K Γ F σ → Rel X.K μ M F H → t (ends X.K M F Z) σ H) : wS B X st Γ μ Z := fun σ M F H bo rs r => rd_ps h (q σ M F H bo rs r)
theorem wS_pass (q : Z.nx Γ μ) : wS B X (.Pass pos) Γ μ Z := wS_of ps_pass fun σ M F H bo rs r => (show QS X.K M F Z.nx σ H from ⟨Γ, F, μ, .refl _, rs, r, q⟩)
theorem wS_break (q : Z.bk Γ μ) : wS B X (.Break pos) Γ μ Z := wS_of ps_break fun σ M F H bo rs r => (show QS X.K M F Z.bk σ H from ⟨Γ, F, μ, .refl _, rs, r, q⟩)
theorem wS_continue (q : Z.ct Γ μ) : wS B X (.Continue pos) Γ μ Z := wS_of ps_continue fun σ M F H bo rs r => (show QS X.K M F Z.ct σ H from ⟨Γ, F, μ, .refl _, rs, r, q⟩)
theorem wS_expr (h : wE B X e Γ μ fun _ μ' => Z.nx Γ μ') (hs : swapsWith e none pos.line X.env = pure false := by rfl) : wS B X (.Expr e pos) Γ μ Z := wS_of (ps_expr pe_rd hs) fun σ M F H bo rs r =>
  (h σ M F H bo rs r).imp fun v H' ⟨x, F', μ', e1, r1, _, q⟩ => ⟨Γ, F', μ', e1, rs.mono e1, r1, q⟩
theorem wS_ret (h : wE B X e Γ μ Z.rt) : wS B X (.Return (some e) pos) Γ μ Z := wS_of (ps_ret pe_rd) fun σ M F H bo rs r => h σ M F H bo rs r
theorem wS_retN (h : Z.rt .non μ) : wS B X (.Return none pos) Γ μ Z := wS_of ps_retN fun σ M F H bo rs r => (show QE X.K M F Z.rt .non H from .pure r (rep_non.mpr rfl) h)
theorem wS_if {s1 s2 : List Stmt} (h : wT B X c Γ μ fun k μ1 => (k = true → wSs B X s1 Γ μ1 Z) ∧ (k = false → wSs B X s2 Γ μ1 Z)) : wS B X (.If c s1 s2 pos) Γ μ Z := wS_of (ps_if pt_rd pss_rd pss_rd) fun σ M F H bo rs r => by
  refine (h σ M F H bo rs r).imp fun k H1 ⟨F1, μ1, e1, r1, q1, q2⟩ => ?_
  cases k with
  | true => exact iteT (ends_mono e1 (q1 rfl σ M F1 H1 (bo.mono e1) (rs.mono e1) r1))
  | false => exact iteF (ends_mono e1 (q2 rfl σ M F1 H1 (bo.mono e1) (rs.mono e1) r1))
/-- name = e -/
theorem wS_set (i : Nat) {x : Str} {pos' : Pos} (h : wE B X e Γ μ fun y μ1 => Z.nx (Γ.set i (some y)) μ1) (hN : X.N.Nodup) (hi : X.N[i]? = some x := by rfl) (hx : Loc X.env.scope x := by first | exact Or.inl rfl | exact Or.inr rfl)
    (hs : swapsWith e (some (.Name x pos')) pos.line X.env = pure false := by rfl) (hf : X.fn x = true ∨ X.env.scope.names.lookup x = some .local := by first | exact .inl rfl | exact .inr rfl) : wS B X (.Assign [.Name x pos'] e pos) Γ μ Z :=
  wS_of (ps_set hN hi hx pe_rd hs hf) fun σ M F H bo rs r => (h σ M F H bo rs r).imp fun v H1 ⟨y, F1, μ1, e1, r1, p1, q1⟩ =>
    (show QS X.K M F Z.nx (σ.set i (some v)) H1 from ⟨_, F1, μ1, e1, (rs.mono e1).set p1, r1, q1⟩)
/-- target = e -/
theorem wS_asg {tg : Expr} (h : wE B X e Γ μ fun y μ1 => wG B X tg y Γ μ1 Z.nx) (hs : swapsWithSole [tg] e pos.line X.env = pure false := by rfl) (hw : swappedStores [tg] e X.env = pure none := by rfl) (h1 : (assignEach [tg] X.env).map (·.2) = [assign tg X.env] := by rfl) : wS B X (.Assign [tg] e pos) Γ μ Z :=
  wS_of (ps_asg pe_rd pg_rd hs hw h1) fun σ M F H bo rs r => (h σ M F H bo rs r).imp fun v H1 ⟨y, F1, μ1, e1, r1, p1, q1⟩ =>
    (q1 σ M F1 H1 v (bo.mono e1) (rs.mono e1) r1 p1).imp fun σ' H' q => q.mono e1
/-- a, b = e1, e2 -/
theorem wS_par (i j : Nat) {x y : Str} {px py pt pt2 : Pos} {kt k2 : Nat} (h : wA B X [a, b] Γ μ fun xs μ1 => ∃ u w, xs = [u, w] ∧ Z.nx ((Γ.set i (some u)).set j (some w)) μ1) (hN : X.N.Nodup) (hc : X.calm = true := by rfl) (hi : X.N[i]? = some x := by rfl) (hj : X.N[j]? = some y := by rfl) (hij : i ≠ j := by decide)
    (hx : X.env.scope.names.lookup x = some .local := by rfl) (hy : X.env.scope.names.lookup y = some .local := by rfl)
    (hw : swappedStores [.Tuple [.Name x px, .Name y py] kt pt] (.Tuple [a, b] k2 pt2) X.env = pure (some [x, y]) := by rfl)
    (hs : swapsWithSole [.Tuple [.Name x px, .Name y py] kt pt] (.Tuple [a, b] k2 pt2) pos.line X.env = pure false := by rfl) : wS B X (.Assign [.Tuple [.Name x px, .Name y py] kt pt] (.Tuple [a, b] k2 pt2) pos) Γ μ Z :=
  wS_of (ps_par hc hN hi hj hij hx hy pa_rd hw hs) fun σ M F H bo rs r => (h σ M F H bo rs r).imp fun vs H1 ⟨xs, F1, μ1, e1, r1, p1, u, w, ex, q1⟩ => by
    subst ex
    obtain ⟨v1, v2, rfl, g1, g2⟩ := p1.two
    exact ⟨v1, v2, rfl, _, F1, μ1, e1, ((rs.mono e1).set g1).set g2, r1, q1⟩

/-! ### while -/
theorem wS_while {body : List Stmt} (W : Nat → G → Mu → Prop) (m0 : Nat) (h0 : W m0 Γ μ)
    (turn : ∀ m Γ μ, W m Γ μ → wT B X c Γ μ fun k μ1 => (k = true → wSs B X body Γ μ1 { nx := fun Γ' μ' => ∃ m', m' < m ∧ W m' Γ' μ', rt := Z.rt, ct := fun Γ' μ' => ∃ m', m' < m ∧ W m' Γ' μ', bk := Z.nx }) ∧ (k = false → Z.nx Γ μ1))
    (hp : PassesOwn (model X.prog X.w) X.A X.env X.xe := by first | exact PassesOwn.never | assumption) : wS B X (.While c body [] pos) Γ μ Z := wS_of (ps_while hp pt_rd pss_rd) fun σ M F H bo rs r => by
  refine ⟨fun m σ' H' => ∃ Γ' F' μ', Ex F F' ∧ RelS X.K Γ' F' σ' ∧ Rel X.K μ' M F' H' ∧ W m Γ' μ', ⟨m0, Γ, F, μ, .refl _, rs, r, h0⟩, fun m σ' H' ⟨Γ', F', μ', e1, rs1, r1, w1⟩ => ?_⟩
  refine (turn m Γ' μ' w1 σ' M F' H' (bo.mono e1) rs1 r1).imp fun k H1 ⟨F2, μ2, e2, r2, q1, q2⟩ => ?_
  cases k with
  | true =>
    refine iteT ⟨fun σ2 H2 => ∃ m', m' < m ∧ ∃ Γ' F' μ', Ex F F' ∧ RelS X.K Γ' F' σ2 ∧ Rel X.K μ' M F' H2 ∧ W m' Γ' μ', fun _ _ z => z, ?_⟩
    refine (q1 rfl σ' M F2 H1 (bo.mono (e1.trans e2)) (rs1.mono e2) r2).imp (fun σ3 H3 q => ?_) (fun v H3 q => q.mono (e1.trans e2)) (fun σ3 H3 q => q.mono (e1.trans e2)) (fun σ3 H3 q => ?_)
    · obtain ⟨Γ3, F3, μ3, e3, rs3, r3, m', hm, w3⟩ := q
      exact ⟨m', hm, Γ3, F3, μ3, (e1.trans e2).trans e3, rs3, r3, w3⟩
    · obtain ⟨Γ3, F3, μ3, e3, rs3, r3, m', hm, w3⟩ := q
      exact ⟨m', hm, Γ3, F3, μ3, (e1.trans e2).trans e3, rs3, r3, w3⟩
  | false => exact iteF ⟨Γ', F2, μ2, e1.trans e2, rs1.mono e2, r2, q2 rfl⟩

/-! ### what is walked -/
/-- n turns; while F stands the i-th gives the i-th of ys -/
structure WkA (K : PySem.W.Frag) (F : Hp) (J : It) (ys : List A) : Prop where
  goes : ∀ i H, i < ys.length → Ex F H → J.go i H
  stops : ∀ H, Ex F H → J.stop ys.length H
  yields : ∀ i H x H' M F1 μ, i < ys.length → Ex F F1 → Rel K μ M F1 H → J.yld i H x H' → ∃ F2 y, Ex F1 F2 ∧ Rel K μ M F2 H' ∧ ys[i]? = some y ∧ Rep K F2 y x
def rdI (X : Cx) (tg iter : Expr) : TI := fun σ H R => Bx (∀ (pins : List (Addr × Obj)) (s : Shared), Inv X pins σ H s → wpAny (model X.prog X.w) X.A (eval iter X.env) (fun v s1 => wpAny (model X.prog X.w) X.A (pyIter v) (PIE X pins σ tg R) X.xe s1) X.xe s)
theorem pi_rd {tg iter : Expr} : PI X tg iter (rdI X tg iter) := ⟨fun pins s _ _ _ I h => h.o pins s I⟩
theorem rd_pi {tg iter : Expr} {wi : TI} (h : PI X tg iter wi) {σ : L2.St} {H : Hp} {R : It → Hp → Prop} (q : wi σ H R) : rdI X tg iter σ H R := ⟨fun pins s I => h.run pins s σ H R I q⟩
def wIt (B : Bs) (X : Cx) (tg iter : Expr) (Γ : G) (μ : Mu) (R : List A → Mu → Prop) : Prop := ∀ σ M F H, B.ok M F → RelS X.K Γ F σ → Rel X.K μ M F H → rdI X tg iter σ H fun J H' => ∃ ys F' μ', Ex F F' ∧ Rel X.K μ' M F' H' ∧ WkA X.K F' J ys ∧ R ys μ'
variable {R : List A → Mu → Prop} {tg : Expr} {body : List Stmt}
theorem wS_for (h : wIt B X tg a Γ μ fun ys μ1 => ∃ I : Nat → G → Mu → Prop, I 0 Γ μ1 ∧
      (∀ (i : Nat) y Γ' μ', ys[i]? = some y → I i Γ' μ' → wG B X tg y Γ' μ' fun Γ2 μ2 => wSs B X body Γ2 μ2 { nx := I (i + 1), rt := Z.rt, ct := I (i + 1), bk := Z.nx }) ∧ (∀ Γ' μ', I ys.length Γ' μ' → Z.nx Γ' μ'))
    (hp : PassesOwn (model X.prog X.w) X.A X.env X.xe := by first | exact PassesOwn.never | assumption) (hc : X.calm = true := by rfl) (hs : ∀ x, foldedSetIterable a X.env x = pure x := by intro _; rfl) : wS B X (.For tg a body [] pos) Γ μ Z :=
  wS_of (ps_for hp hc pi_rd pg_rd pss_rd hs) fun σ M F H bo rs r => by
  refine ⟨fun pins s I0 => ?_⟩
  refine thn ((h σ M F H bo rs r).o pins s I0) fun v s1 h1 => thn h1 fun itv s2 h2 => ?_
  obtain ⟨it, fp, tn, J, H2, g1, g2, g3, g4, g5, ys, F1, μ1, e1, r1, wk, I, i0, turn, done⟩ := h2
  refine ⟨it, fp, tn, J, H2, g1, g2, g3, g4, g5, fun i m σ' H' => m = ys.length - i ∧ i ≤ ys.length ∧ QS X.K M F1 (I i) σ' H', ⟨ys.length, by simp, Nat.zero_le _, Γ, F1, μ1, .refl _, rs.mono e1, r1, i0⟩, ?_⟩
  rintro i m σ' H' ⟨rfl, hi, Γ', F', μ', e2, rs2, r2, q⟩
  by_cases lt : i < ys.length
  · refine .inr ⟨wk.goes i H' lt (e2.trans r2.sub), fun σ3 H3 => QS X.K M F1 (I (i + 1)) σ3 H3, fun σ3 H3 q3 => ⟨ys.length - (i + 1), by omega, rfl, lt, q3⟩, fun x H3 yl => ?_⟩
    obtain ⟨F2, y, e3, r3, hy, rp⟩ := wk.yields i H' x H3 M F' μ' lt e2 r2 yl
    refine (turn i y Γ' μ' hy q σ' M F2 H3 x (bo.mono (e1.trans (e2.trans e3))) (rs2.mono e3) r3 rp).imp fun σ4 H4 q4 => ?_
    obtain ⟨Γ4, F4, μ4, e4, rs4, r4, q4⟩ := q4
    have eF : Ex F1 F4 := (e2.trans e3).trans e4
    exact (q4 σ4 M F4 H4 (bo.mono (e1.trans eF)) rs4 r4).imp (fun _ _ q => q.mono eF) (fun _ _ q => q.mono (e1.trans eF)) (fun _ _ q => q.mono (e1.trans eF)) (fun _ _ q => q.mono eF)
  · obtain rfl : i = ys.length := by omega
    exact .inl ⟨wk.stops H' (e2.trans r2.sub), Γ', F', μ', e1.trans e2, rs2, r2, done Γ' μ' q⟩

theorem wk_list {K : PySem.W.Frag} {F : Hp} {p : Addr} {ys : List A} {vs : List V} (h : SqL K F p vs) (r : RepL K F ys vs) : WkA K F (Itl K p) ys :=
  { goes := fun i H hi e => ⟨vs, vs[i]'(by rw [r.len]; exact hi), e.l h, by simp [r.len, hi]⟩
    stops := fun H e => ⟨vs, e.l h, by rw [r.len]; exact Nat.le_refl _⟩
    yields := fun i H x H' M F1 μ hi e rl yl => by
      obtain ⟨rfl, g⟩ := yl
      obtain ⟨v, h1, h2⟩ := r.get (List.getElem?_eq_getElem hi)
      have := g vs ((e.trans rl.sub).l h)
      rw [h1] at this; cases this
      exact ⟨F1, _, .refl _, rl, List.getElem?_eq_getElem hi, h2.mono e⟩ }
theorem wk_tup {K : PySem.W.Frag} {F : Hp} {p : Addr} {ys : List A} {vs : List V} (h : SqT K F p vs) (r : RepL K F ys vs) : WkA K F (Itt K p) ys :=
  { goes := fun i H hi e => ⟨vs, vs[i]'(by rw [r.len]; exact hi), e.t h, by simp [r.len, hi]⟩
    stops := fun H e => ⟨vs, e.t h, by rw [r.len]; exact Nat.le_refl _⟩
    yields := fun i H x H' M F1 μ hi e rl yl => by
      obtain ⟨rfl, g⟩ := yl
      obtain ⟨v, h1, h2⟩ := r.get (List.getElem?_eq_getElem hi)
      have := g vs ((e.trans rl.sub).t h)
      rw [h1] at this; cases this
      exact ⟨F1, _, .refl _, rl, List.getElem?_eq_getElem hi, h2.mono e⟩ }
/-- for .. in a list that stands for good -/
theorem wIt_list (h : wE B X a Γ μ fun x μ1 => ∃ ys, x = .lst ys ∧ R ys μ1) : wIt B X tg a Γ μ R := fun σ M F H bo rs rl => rd_pi (pi_list pe_rd) (by
  refine (h σ M F H bo rs rl).imp fun v H1 ⟨x, F1, μ1, e1, r1, p1, ys, ex, q1⟩ => ?_
  subst ex; rw [rep_lst] at p1
  obtain ⟨p, vs, rfl, h1, h2⟩ := p1
  exact ⟨p, rfl, ⟨vs, .inl (.inl (r1.sub _ _ h1))⟩, ys, F1, μ1, e1, r1, wk_list (.inl (.inl h1)) h2, q1⟩)
theorem wIt_fls (h : wE B X a Γ μ fun x μ1 => ∃ ys, x = .fls ys ∧ R ys μ1) : wIt B X tg a Γ μ R := fun σ M F H bo rs rl => rd_pi (pi_list pe_rd) (by
  refine (h σ M F H bo rs rl).imp fun v H1 ⟨x, F1, μ1, e1, r1, p1, ys, ex, q1⟩ => ?_
  subst ex; rw [rep_fls] at p1
  obtain ⟨p, vs, rfl, h1, h2⟩ := p1
  exact ⟨p, rfl, ⟨vs, r1.sub.l h1⟩, ys, F1, μ1, e1, r1, wk_list h1 h2, q1⟩)
theorem wIt_tup (h : wE B X a Γ μ fun x μ1 => ∃ ys, x = .tup ys ∧ R ys μ1) : wIt B X tg a Γ μ R := fun σ M F H bo rs rl => rd_pi (pi_tup pe_rd) (by
  refine (h σ M F H bo rs rl).imp fun v H1 ⟨x, F1, μ1, e1, r1, p1, ys, ex, q1⟩ => ?_
  subst ex; rw [rep_tup] at p1
  obtain ⟨p, vs, rfl, h1, h2⟩ := p1
  exact ⟨p, rfl, ⟨vs, r1.sub.t h1⟩, ys, F1, μ1, e1, r1, wk_tup h1 h2, q1⟩)
/-- the ints lo, lo + 1, .. -/
def rgA (lo : Int) (n : Nat) : List A := (List.range n).map fun i => A.int (lo + (i : Nat))
theorem rgA_len (lo : Int) (n : Nat) : (rgA lo n).length = n := by simp [rgA]
theorem rgA_get {lo : Int} {n i : Nat} (h : i < n) : (rgA lo n)[i]? = some (.int (lo + (i : Nat))) := by simp [rgA, h]
theorem wk_range {K : PySem.W.Frag} {F : Hp} {lo : Int} {n : Nat} : WkA K F (Itr lo n) (rgA lo n) :=
  { goes := fun i H hi _ => by rw [rgA_len] at hi; exact hi
    stops := fun H _ => by rw [rgA_len]; exact Nat.le_refl _
    yields := fun i H x H' M F1 μ hi e rl yl => by
      obtain ⟨rfl, rfl⟩ := yl
      rw [rgA_len] at hi
      exact ⟨F1, _, .refl _, rl, rgA_get hi, rep_int.mpr rfl⟩ }
theorem wIt_range1 {p : Pos} (hm : X.mg "range" = none) (h : wA B X [a] Γ μ fun xs μ1 => ∃ n : Int, xs = [.int n] ∧ -(2 ^ 62) ≤ n ∧ n < 2 ^ 62 ∧ R (rgA 0 n.toNat) μ1) (hg : Gl X "range" := by rfl) (hs : starEach [a] X.env = [(false, eval a X.env)] := by rfl) :
    wIt B X tg (.Call (.Name "range" p) [a] [] pos) Γ μ R := fun σ M F H bo rs rl => rd_pi (pi_range1 hg hm pa_rd hs) (by
  refine (h σ M F H bo rs rl).imp fun vs H1 ⟨xs, F1, μ1, e1, r1, p1, n, ex, n1, n2, q1⟩ => ?_
  subst ex
  obtain ⟨v, rfl, h1⟩ := p1.one
  rw [rep_int] at h1; subst h1
  exact ⟨n, rfl, n1, n2, _, F1, μ1, e1, r1, wk_range, q1⟩)
theorem wIt_range2 {p : Pos} (hm : X.mg "range" = none) (h : wA B X [a, b] Γ μ fun xs μ1 => ∃ i j : Int, xs = [.int i, .int j] ∧ (-(2 ^ 62) ≤ i ∧ i < 2 ^ 62 ∧ -(2 ^ 62) ≤ j ∧ j < 2 ^ 62) ∧ R (rgA i (j - i).toNat) μ1) (hg : Gl X "range" := by rfl)
    (hs : starEach [a, b] X.env = [(false, eval a X.env), (false, eval b X.env)] := by rfl) (hs2 : starEach [b] X.env = [(false, eval b X.env)] := by rfl) :
    wIt B X tg (.Call (.Name "range" p) [a, b] [] pos) Γ μ R := fun σ M F H bo rs rl => rd_pi (pi_range2 hg hm pa_rd hs hs2) (by
  refine (h σ M F H bo rs rl).imp fun vs H1 ⟨xs, F1, μ1, e1, r1, p1, i, j, ex, n1, q1⟩ => ?_
  subst ex
  obtain ⟨v, w, rfl, h1, h2⟩ := p1.two
  rw [rep_int] at h1 h2; subst h1; subst h2
  exact ⟨i, j, rfl, n1, _, F1, μ1, e1, r1, wk_range, q1⟩)
/-- lo, lo + c, .. -/
def rgC (lo c : Int) (n : Nat) : List A := (List.range n).map fun i => A.int (lo + (i : Nat) * c)
theorem rgC_len (lo c : Int) (n : Nat) : (rgC lo c n).length = n := by simp [rgC]
theorem rgC_get {lo c : Int} {n i : Nat} (h : i < n) : (rgC lo c n)[i]? = some (.int (lo + (i : Nat) * c)) := by simp [rgC, h]
theorem wIt_range3 {p : Pos} (hm : X.mg "range" = none) (h : wA B X [a, b, c] Γ μ fun xs μ1 => ∃ (i j k : Int) (n : Nat), xs = [.int i, .int j, .int k] ∧ RgC i j k n ∧ R (rgC i k n) μ1) (hg : Gl X "range" := by rfl)
    (hs : starEach [a, b, c] X.env = (false, eval a X.env) :: starEach [b, c] X.env := by rfl) (hpl : (backTo pos (starEach [b, c] X.env)).any (·.1) = false := by rfl) :
    wIt B X tg (.Call (.Name "range" p) [a, b, c] [] pos) Γ μ R := fun σ M F H bo rs rl => rd_pi (pi_range3 hg hm pa_rd hs hpl) (by
  refine (h σ M F H bo rs rl).imp fun vs H1 ⟨xs, F1, μ1, e1, r1, p1, i, j, k, n, ex, n1, q1⟩ => ?_
  subst ex
  simp only [RepL] at p1
  obtain ⟨v, r, rfl, h1, v2, r', rfl, h2, v3, r'', rfl, h3, rfl⟩ := p1
  rw [rep_int] at h1 h2 h3; subst h1; subst h2; subst h3
  refine ⟨i, j, k, n, rfl, n1, _, F1, μ1, e1, r1, ?_, q1⟩
  exact { goes := fun i H hi _ => by rw [rgC_len] at hi; exact hi
          stops := fun H _ => by rw [rgC_len]; exact Nat.le_refl _
          yields := fun i H x H' M F1 μ hi e rl yl => by
            obtain ⟨rfl, rfl⟩ := yl
            rw [rgC_len] at hi
            exact ⟨F1, _, .refl _, rl, rgC_get hi, rep_int.mpr rfl⟩ })
/-- the pairs of two lists -/
def pairsA (f g : Nat → Option A) : Nat → List A
  | 0 => []
  | n + 1 => pairsA f g n ++ [.tup [(f n).getD .non, (g n).getD .non]]
def zipA : List A → List A → List A
  | x :: xs, y :: ys => .tup [x, y] :: zipA xs ys
  | _, _ => []
theorem zipA_len : ∀ xs ys : List A, (zipA xs ys).length = min xs.length ys.length
  | [], _ => by simp [zipA]
  | _ :: _, [] => by simp [zipA]
  | x :: xs, y :: ys => by simp only [zipA, List.length_cons, zipA_len xs ys]; omega
theorem zipA_get : ∀ {xs ys : List A} {i : Nat} {x y : A}, xs[i]? = some x → ys[i]? = some y → (zipA xs ys)[i]? = some (.tup [x, y])
  | [], _, _, _, _, h, _ => by simp at h
  | _ :: _, [], _, _, _, _, h => by simp at h
  | x :: xs, y :: ys, 0, _, _, h, h' => by simp at h h'; subst h; subst h'; rfl
  | x :: xs, y :: ys, i + 1, _, _, h, h' => by
    simp only [zipA, List.getElem?_cons_succ] at h h' ⊢
    exact zipA_get h h'
theorem zipA_map {α β : Type} (f : α → A) (g : β → A) : ∀ (l : List α) (m : List β), zipA (l.map f) (m.map g) = (l.zip m).map fun p => A.tup [f p.1, g p.2]
  | [], _ => by simp [zipA]
  | _ :: _, [] => by simp [zipA]
  | a :: l, b :: m => by simp only [List.map_cons, zipA, List.zip_cons_cons, zipA_map f g l m]
theorem pair_new {K : PySem.W.Frag} {μ : Mu} {M F H : Hp} {T : Addr} {x y : A} {v w : V} (rl : Rel K μ M F H) (n : H T = none) (h1 : Rep K F x v) (h2 : Rep K F y w) : ∃ F2, Ex F F2 ∧ Rel K μ M F2 (upd H T (.tup [v, w])) ∧ Rep K F2 (.tup [x, y]) (.ref T) := by
  obtain ⟨ex, rl'⟩ := rl.newF (o := .tup [v, w]) n
  exact ⟨_, ex, rl', rep_tup.mpr ⟨T, _, rfl, .inl (.inl upd_same), .cons (h1.mono ex) (.cons (h2.mono ex) .nil)⟩⟩
theorem wk_zip {K : PySem.W.Frag} {F : Hp} {p q : Addr} {xs ys : List A} {vs ws : List V} (h : SqL K F p vs) (r : RepL K F xs vs) (g : SqL K F q ws) (r' : RepL K F ys ws) : WkA K F (Itz K p q) (zipA xs ys) :=
  { goes := fun i H hi e => by
      rw [zipA_len] at hi
      have h1 : i < vs.length := by rw [r.len]; omega
      have h2 : i < ws.length := by rw [r'.len]; omega
      exact ⟨vs, ws, vs[i], ws[i], e.l h, e.l g, by simp [h1], by simp [h2]⟩
    stops := fun H e => ⟨vs, ws, e.l h, e.l g, by rw [zipA_len, r.len, r'.len]; omega⟩
    yields := fun i H x H' M F1 μ hi e rl yl => by
      rw [zipA_len] at hi
      obtain ⟨T, v, w, rfl, nT, rfl, g1, g2⟩ := yl
      have h1 := g1 vs ((e.trans rl.sub).l h)
      have h2 := g2 ws ((e.trans rl.sub).l g)
      obtain ⟨x1, k1, k2⟩ := r.rev h1
      obtain ⟨y1, k3, k4⟩ := r'.rev h2
      obtain ⟨F2, ex, rl', rp⟩ := pair_new rl nT (k2.mono e) (k4.mono e)
      exact ⟨F2, _, ex, rl', zipA_get k1 k3, rp⟩ }
theorem wk_zipT {K : PySem.W.Frag} {F : Hp} {p q : Addr} {xs ys : List A} {vs ws : List V} (h : SqT K F p vs) (r : RepL K F xs vs) (g : SqT K F q ws) (r' : RepL K F ys ws) : WkA K F (RZ.ItzT K p q) (zipA xs ys) :=
  { goes := fun i H hi e => by
      rw [zipA_len] at hi
      have h1 : i < vs.length := by rw [r.len]; omega
      have h2 : i < ws.length := by rw [r'.len]; omega
      exact ⟨vs, ws, vs[i], ws[i], e.t h, e.t g, by simp [h1], by simp [h2]⟩
    stops := fun H e => ⟨vs, ws, e.t h, e.t g, by rw [zipA_len, r.len, r'.len]; omega⟩
    yields := fun i H x H' M F1 μ hi e rl yl => by
      rw [zipA_len] at hi
      obtain ⟨T, v, w, rfl, nT, rfl, g1, g2⟩ := yl
      have h1 := g1 vs ((e.trans rl.sub).t h)
      have h2 := g2 ws ((e.trans rl.sub).t g)
      obtain ⟨x1, k1, k2⟩ := r.rev h1
      obtain ⟨y1, k3, k4⟩ := r'.rev h2
      obtain ⟨F2, ex, rl', rp⟩ := pair_new rl nT (k2.mono e) (k4.mono e)
      exact ⟨F2, _, ex, rl', zipA_get k1 k3, rp⟩ }
theorem wIt_zip {e2 : Expr} {p tpos : Pos} {elts : List Expr} {kk : Nat} (hm : X.mg "zip" = none) (h : wA B X [e, e2] Γ μ fun zs μ1 => ∃ xs ys, (zs = [.lst xs, .lst ys] ∨ zs = [.tup xs, .tup ys]) ∧ R (zipA xs ys) μ1) (hg : Gl X "zip" := by rfl)
    (hs : starEach [e, e2] X.env = (false, eval e X.env) :: starEach [e2] X.env := by rfl) (hpl : (backTo pos (starEach [e2] X.env)).any (·.1) = false := by rfl) : wIt B X (.Tuple elts kk tpos) (.Call (.Name "zip" p) [e, e2] [] pos) Γ μ R := fun σ M F H bo rs rl =>
  rd_pi (RZ.pi_zipA hg hm pa_rd hs hpl) (by
  refine (h σ M F H bo rs rl).imp fun us H1 ⟨zs, F1, μ1, e1, r1, p1, xs, ys, ez, q1⟩ => ?_
  rcases ez with ez | ez
  · subst ez
    obtain ⟨v, w, rfl, h1, h2⟩ := p1.two
    rw [rep_lst] at h1 h2
    obtain ⟨p, vs, rfl, g1, g2⟩ := h1
    obtain ⟨q, ws, rfl, k1, k2⟩ := h2
    exact ⟨p, q, vs, ws, rfl, .inl ⟨.inl (.inl (r1.sub _ _ g1)), .inl (.inl (r1.sub _ _ k1)), _, F1, μ1, e1, r1, wk_zip (.inl (.inl g1)) g2 (.inl (.inl k1)) k2, q1⟩⟩
  · subst ez
    obtain ⟨v, w, rfl, h1, h2⟩ := p1.two
    rw [rep_tup] at h1 h2
    obtain ⟨p, vs, rfl, g1, g2⟩ := h1
    obtain ⟨q, ws, rfl, k1, k2⟩ := h2
    exact ⟨p, q, vs, ws, rfl, .inr ⟨r1.sub.t g1, r1.sub.t k1, _, F1, μ1, e1, r1, wk_zipT g1 g2 k1 k2, q1⟩⟩)
/-- 0, x; 1, y; .. -/
def enumA : Nat → List A → List A
  | _, [] => []
  | n, x :: xs => .tup [.int (n : Nat), x] :: enumA (n + 1) xs
theorem enumA_len : ∀ (n : Nat) (xs : List A), (enumA n xs).length = xs.length
  | _, [] => rfl
  | n, x :: xs => by simp only [enumA, List.length_cons, enumA_len (n + 1) xs]
theorem enumA_get : ∀ {n : Nat} {xs : List A} {i : Nat} {x : A}, xs[i]? = some x → (enumA n xs)[i]? = some (.tup [.int ((n + i : Nat) : Int), x])
  | _, [], _, _, h => by simp at h
  | n, y :: xs, 0, _, h => by simp at h; subst h; simp [enumA]
  | n, y :: xs, i + 1, _, h => by
    simp only [enumA, List.getElem?_cons_succ] at h ⊢
    rw [enumA_get h, show n + 1 + i = n + (i + 1) by omega]
theorem wk_enum {K : PySem.W.Frag} {F : Hp} {p : Addr} {xs : List A} {vs : List V} (h : SqL K F p vs) (r : RepL K F xs vs) : WkA K F (Ite K p) (enumA 0 xs) :=
  { goes := fun i H hi e => by
      rw [enumA_len] at hi
      have h1 : i < vs.length := by rw [r.len]; omega
      exact ⟨vs, vs[i], e.l h, by simp [h1]⟩
    stops := fun H e => ⟨vs, e.l h, by rw [enumA_len, r.len]; exact Nat.le_refl _⟩
    yields := fun i H x H' M F1 μ hi e rl yl => by
      obtain ⟨T, v, rfl, nT, rfl, g1⟩ := yl
      have h1 := g1 vs ((e.trans rl.sub).l h)
      obtain ⟨x1, k1, k2⟩ := r.rev h1
      obtain ⟨F2, ex, rl', rp⟩ := pair_new (x := .int (i : Nat)) rl nT (rep_int.mpr rfl) (k2.mono e)
      exact ⟨F2, _, ex, rl', by rw [enumA_get k1]; simp, rp⟩ }
theorem wIt_enum {p tpos : Pos} {elts : List Expr} {kk : Nat} (hm : X.mg "enumerate" = none) (h : wA B X [e] Γ μ fun zs μ1 => ∃ xs, (zs = [.lst xs] ∨ zs = [.fls xs]) ∧ R (enumA 0 xs) μ1) (hg : Gl X "enumerate" := by rfl) (hs : starEach [e] X.env = [(false, eval e X.env)] := by rfl) :
    wIt B X (.Tuple elts kk tpos) (.Call (.Name "enumerate" p) [e] [] pos) Γ μ R := fun σ M F H bo rs rl => rd_pi (pi_enum hg hm pa_rd hs) (by
  refine (h σ M F H bo rs rl).imp fun us H1 ⟨zs, F1, μ1, e1, r1, p1, xs, ez, q1⟩ => ?_
  rcases ez with ez | ez
  · subst ez
    obtain ⟨v, rfl, h1⟩ := p1.one
    rw [rep_lst] at h1
    obtain ⟨p, vs, rfl, g1, g2⟩ := h1
    exact ⟨p, vs, rfl, .inl (.inl (r1.sub _ _ g1)), _, F1, μ1, e1, r1, wk_enum (.inl (.inl g1)) g2, q1⟩
  · subst ez
    obtain ⟨v, rfl, h1⟩ := p1.one
    rw [rep_fls] at h1
    obtain ⟨p, vs, rfl, g1, g2⟩ := h1
    exact ⟨p, vs, rfl, r1.sub.l g1, _, F1, μ1, e1, r1, wk_enum g1 g2, q1⟩)
/-- a text, sign by sign -/
def signsA (x : Str) : List A := x.cps.toList.map fun ch => A.str ⟨#[ch]⟩
theorem wIt_str (h : wE B X a Γ μ fun y μ1 => ∃ x, y = .str x ∧ R (signsA x) μ1) : wIt B X tg a Γ μ R := fun σ M F H bo rs rl => rd_pi (pi_str pe_rd) (by
  refine (h σ M F H bo rs rl).imp fun v H1 ⟨y, F1, μ1, e1, r1, p1, x, ex, q1⟩ => ?_
  subst ex; rw [rep_str] at p1; subst p1
  have hl : (signsA x).length = x.cps.size := by simp [signsA]
  refine ⟨x, rfl, _, F1, μ1, e1, r1, ?_, q1⟩
  exact { goes := fun i H hi _ => by rw [hl] at hi; exact hi
          stops := fun H _ => by rw [hl]; exact Nat.le_refl _
          yields := fun i H z H' M F1 μ hi e rl yl => by
            obtain ⟨rfl, ch, hc, rfl⟩ := yl
            refine ⟨F1, .str ⟨#[ch]⟩, .refl _, rl, ?_, rep_str.mpr rfl⟩
            simp only [signsA, List.getElem?_map, Array.getElem?_toList, hc, Option.map_some] })
end
end D

set_option Elab.async false
set_option linter.all false
set_option maxRecDepth 100000
set_option maxHeartbeats 4000000
/-! D6: comprehensions, methods, dicts, repr. -/
namespace D
open PySem PySem.Spec PyProof.Rows L2

/-! ### comprehensions -/
def wipeA (Γ : G) : List Nat → G
  | [] => Γ
  | v :: vs => (wipeA Γ vs).set v none
theorem wipeA_len (Γ : G) : ∀ vs, (wipeA Γ vs).length = Γ.length
  | [] => rfl
  | v :: vs => by unfold wipeA; rw [List.length_set, wipeA_len Γ vs]
theorem wipeA_rel {K : PySem.W.Frag} {Γ : G} {F : Hp} {σ : L2.St} (h : RelS K Γ F σ) : ∀ vs, RelS K (wipeA Γ vs) F (wipe σ vs)
  | [] => h
  | v :: vs => by
    have ih := wipeA_rel h vs
    unfold wipeA wipe
    refine ⟨by rw [List.length_set, List.length_set]; exact ih.len, fun i x q => ?_⟩
    rw [List.getElem?_set] at q ⊢
    split at q
    · split at q <;> cases q
    · rename_i e
      rw [if_neg e]
      exact ih.at_ i x q
theorem wipe_set_out {σ : L2.St} {i : Nat} {o : Option V} : ∀ vs : List Nat, (wipe (σ.set i o) vs).set i none = (wipe σ vs).set i none
  | [] => by show (σ.set i o).set i none = σ.set i none; rw [List.set_set]
  | v :: vs => by
    have ih := wipe_set_out (σ := σ) (i := i) (o := o) vs
    show ((wipe (σ.set i o) vs).set v none).set i none = ((wipe σ vs).set v none).set i none
    by_cases e : v = i
    · subst e; rw [ih]
    · rw [List.set_comm _ _ e, List.set_comm _ _ e, ih]
theorem wipe_set {σ : L2.St} {i : Nat} {o : Option V} : ∀ {vs : List Nat}, i ∈ vs → wipe (σ.set i o) vs = wipe σ vs
  | v :: vs, h => by
    show (wipe (σ.set i o) vs).set v none = (wipe σ vs).set v none
    by_cases e : i = v
    · subst e; exact wipe_set_out vs
    · rw [wipe_set (List.mem_of_ne_of_mem e h)]
theorem wipe_wipe {σ : L2.St} {vs : List Nat} : ∀ us : List Nat, (∀ u ∈ us, u ∈ vs) → wipe (wipe σ us) vs = wipe σ vs
  | [], _ => rfl
  | u :: us, h => by
    show wipe ((wipe σ us).set u none) vs = wipe σ vs
    rw [wipe_set (h u List.mem_cons_self), wipe_wipe us fun v hv => h v (List.mem_cons_of_mem _ hv)]

section
variable {K : PySem.W.Frag} {μ : Mu} {M F H : Hp} {p : Addr} {m : MO} {o : HO}
theorem Rel.frmNew (h : Rel K μ M F H) (n : H p = none) : M p = none ∧ Rel K μ (upd M p o) F (upd H p o) := by
  have hF : F p = none := h.sub.none n
  have hμ : μ p = none := by
    cases q : μ p with
    | none => rfl
    | some m => obtain ⟨_, o, e, _⟩ := h.own p m q; rw [n] at e; cases e
  have hM : M p = none := by
    cases q : M p with
    | none => rfl
    | some m => obtain ⟨_, _, e⟩ := h.frm p m q; rw [n] at e; cases e
  refine ⟨hM, h.sub.trans (.new n), fun q m' e => ?_, fun q o' e => ?_⟩
  · obtain ⟨g1, o', g2, g3⟩ := h.own q m' e
    have hq : q ≠ p := fun z => by rw [z, n] at g2; cases g2
    exact ⟨g1, o', by rw [upd_ne hq]; exact g2, g3⟩
  · by_cases hq : q = p
    · subst hq; rw [upd_same] at e; cases e
      exact ⟨hF, hμ, upd_same⟩
    · rw [upd_ne hq] at e
      obtain ⟨g1, g2, g3⟩ := h.frm q o' e
      exact ⟨g1, g2, by rw [upd_ne hq]; exact g3⟩
theorem Rel.frmWrite {o' : HO} (h : Rel K μ (upd M p o) F H) : Rel K μ (upd M p o') F (upd H p o') := by
  obtain ⟨hF, hμ, hH⟩ := h.frm p o upd_same
  refine ⟨fun a u q => ?_, fun q m' e => ?_, fun q u e => ?_⟩
  · have ha : a ≠ p := fun z => by rw [z, hF] at q; cases q
    rw [upd_ne ha]; exact h.sub a u q
  · obtain ⟨g1, o1, g2, g3⟩ := h.own q m' e
    have hq : q ≠ p := fun z => by rw [z, hμ] at e; cases e
    exact ⟨g1, o1, by rw [upd_ne hq]; exact g2, g3⟩
  · by_cases hq : q = p
    · subst hq; rw [upd_same] at e; cases e
      exact ⟨hF, hμ, upd_same⟩
    · rw [upd_ne hq] at e
      obtain ⟨g1, g2, g3⟩ := h.frm q u (by rw [upd_ne hq]; exact e)
      exact ⟨g1, g2, by rw [upd_ne hq]; exact g3⟩
theorem Rel.frmOut (h : Rel K μ (upd M p o) F H) (n : M p = none) (r : RepO K F m o) : μ p = none ∧ Rel K (μ.upd p m) M F H := by
  obtain ⟨hF, hμ, hH⟩ := h.frm p o upd_same
  refine ⟨hμ, h.sub, fun q m' e => ?_, fun q u e => ?_⟩
  · by_cases hq : q = p
    · subst hq; rw [Mu.upd_same] at e; cases e
      exact ⟨hF, o, hH, r⟩
    · rw [Mu.upd_ne hq] at e; exact h.own q m' e
  · have hq : q ≠ p := fun z => by rw [z, n] at e; cases e
    obtain ⟨g1, g2, g3⟩ := h.frm q u (by rw [upd_ne hq]; exact e)
    exact ⟨g1, by rw [Mu.upd_ne hq]; exact g2, g3⟩
end

section
variable {B : Bs} {X : Cx} {Γ : G} {μ : Mu} {Q : A → Mu → Prop} {Z : AD} {e : Expr} {pos : Pos} {QG : G → Mu → Prop}
/-- a target within a comprehension: only the comprehension's own slots vs change -/
def wGw (B : Bs) (X : Cx) (tg : Expr) (vs : List Nat) (y : A) (Γ : G) (μ : Mu) (Q : G → Mu → Prop) : Prop := ∀ σ M F H v, B.ok M F → RelS X.K Γ F σ → Rel X.K μ M F H → Rep X.K F y v → rdG X tg v σ H fun σ' H' => wipe σ' vs = wipe σ vs ∧ QS X.K M F Q σ' H'
theorem wGw_name (i : Nat) {x : Str} {vs : List Nat} {y : A} (q : QG (Γ.set i (some y)) μ) (hN : X.N.Nodup) (hv : i ∈ vs := by decide) (hi : X.N[i]? = some x := by rfl) (hx : Loc X.env.scope x := by first | exact Or.inl rfl | exact Or.inr rfl)
    (hf : X.fn x = true ∨ X.env.scope.names.lookup x = some .local := by first | exact .inl rfl | exact .inr rfl) : wGw B X (.Name x pos) vs y Γ μ QG := fun σ M F H v bo rs rl rp =>
  rd_pg (pg_name hN hi hx hf) (show _ ∧ QS X.K M F QG (σ.set i (some v)) H from ⟨wipe_set hv, _, F, μ, .refl _, rs.set rp, rl, q⟩)
theorem wGw_tup2 (i j : Nat) {x x' : Str} {p1 p2 : Pos} {kk : Nat} {vs : List Nat} {y z : A} (q : QG ((Γ.set i (some y)).set j (some z)) μ) (hN : X.N.Nodup) (hc : X.calm = true := by rfl) (hv : i ∈ vs := by decide) (hv' : j ∈ vs := by decide) (hi : X.N[i]? = some x := by rfl) (hj : X.N[j]? = some x' := by rfl)
    (hx : Loc X.env.scope x := by first | exact Or.inl rfl | exact Or.inr rfl) (hx' : Loc X.env.scope x' := by first | exact Or.inl rfl | exact Or.inr rfl)
    (hf : X.fn x = true ∨ X.env.scope.names.lookup x = some .local := by first | exact .inl rfl | exact .inr rfl) (hf' : X.fn x' = true ∨ X.env.scope.names.lookup x' = some .local := by first | exact .inl rfl | exact .inr rfl) : wGw B X (.Tuple [.Name x p1, .Name x' p2] kk pos) vs (.tup [y, z]) Γ μ QG := fun σ M F H v bo rs rl rp => by
  rw [rep_tup] at rp
  obtain ⟨p, ws, rfl, h1, h2⟩ := rp
  obtain ⟨v1, v2, rfl, g1, g2⟩ := h2.two
  refine rd_pg (pg_tup (n := 2) hc (pgs_cons (pg_name hN hi hx hf) (pgs_cons (pg_name hN hj hx' hf') pgs_nil))) ⟨p, [v1, v2], rfl, rl.sub.t h1, rfl, v1, [v2], rfl, v2, [], rfl, rfl, ?_⟩
  exact ⟨by rw [wipe_set hv', wipe_set hv], _, F, μ, .refl _, (rs.set g1).set g2, rl, q⟩
/-- the block of a comprehension -/
abbrev bk (X : Cx) (scope : Scope) (s0 : Shared) (H0 : Hp) (C : Addr) (cl : List (Str × Addr)) (fp : List Addr) : Cx := X.blk s0 H0 scope (compEnvC scope cl C X.env) fp
variable {elt tg iter c : Expr} {scope : Scope} {own : List (Str × Nat)}
/-- what a comprehension's turns ask: J by the turn, the list so far, what may change -/
def lcTurns (B : Bs) (X : Cx) (scope : Scope) (tg elt : Expr) (ifs : List Expr) (vs : List Nat) (Γ : G) (ys : List A) (J : Nat → List A → Mu → Prop) : Prop :=
  ∀ (i : Nat) y acc μ', ys[i]? = some y → J i acc μ' → ∀ s0 H0 C cl fp, wGw B (bk X scope s0 H0 C cl fp) tg vs y (wipeA Γ vs) μ' fun Γ2 μ2 =>
    match ifs with
    | [] => ∀ s0 H0 C cl fp, wE B (bk X scope s0 H0 C cl fp) elt Γ2 μ2 fun z μ4 => J (i + 1) (acc ++ [z]) μ4
    | [c] => ∀ s0 H0 C cl fp, wT B (bk X scope s0 H0 C cl fp) c Γ2 μ2 fun k μ3 => (k = true → ∀ s0 H0 C cl fp, wE B (bk X scope s0 H0 C cl fp) elt Γ2 μ3 fun z μ4 => J (i + 1) (acc ++ [z]) μ4) ∧ (k = false → J (i + 1) acc μ3)
    | _ => False
def lcAsk (B : Bs) (X : Cx) (scope : Scope) (tg iter elt : Expr) (ifs : List Expr) (vs : List Nat) (Γ : G) (μ : Mu) (Q : A → Mu → Prop) : Prop :=
  wIt B X tg iter Γ μ fun ys μ1 => ys.length ≤ sizeLine ∧ ∃ J : Nat → List A → Mu → Prop, J 0 [] μ1 ∧ lcTurns B X scope tg elt ifs vs Γ ys J ∧ ∀ acc μ', J ys.length acc μ' → ∀ p, μ' p = none → Q (.loc p) (μ'.upd p (.lst acc))
def bkG (X : Cx) (scope : Scope) (tg : Expr) : TG := fun v σ H Q => ∀ s0 H0 C cl fp, rdG (bk X scope s0 H0 C cl fp) tg v σ H Q
def bkE (X : Cx) (scope : Scope) (e : Expr) : TE := fun σ H Q => ∀ s0 H0 C cl fp, rdE (bk X scope s0 H0 C cl fp) e σ H Q
def bkT (X : Cx) (scope : Scope) (ifs : List Expr) : TT := match ifs with
  | [c] => fun σ H Q => ∀ s0 H0 C cl fp, rdT (bk X scope s0 H0 C cl fp) c σ H Q
  | _ => tYes
theorem lc_core_ask {ifs : List Expr} (hi : ifs = [] ∨ ∃ c, ifs = [c]) (h : lcAsk B X scope tg iter elt ifs (own.map (·.2)) Γ μ Q) {σ : L2.St} {M F H : Hp} (bo : B.ok M F) (rs : RelS X.K Γ F σ) (r : Rel X.K μ M F H) :
    tLc (rdI X tg iter) (bkG X scope tg) (bkT X scope ifs) (bkE X scope elt) (own.map (·.2)) σ H (QE X.K M F Q) := by
  generalize hvs : own.map (·.2) = vs at h
  refine ⟨fun pins s I0 => ?_⟩
  refine thn ((h σ M F H bo rs r).o pins s I0) fun v s1 h1 => thn h1 fun itv s2 h2 => ?_
  obtain ⟨it, fp, tn, J0, H2, g1, g2, g3, g4, g5, ys, F1, μ1, e1, r1, wk, hz, J, j0, turn, done⟩ := h2
  refine ⟨it, fp, tn, J0, H2, g1, g2, g3, g4, g5, fun p np => ?_⟩
  obtain ⟨hM, rN⟩ := r1.frmNew (o := .lst []) np
  refine ⟨fun i m H' => m = ys.length - i ∧ i ≤ ys.length ∧ ∃ F' μ' acc ws, Ex F1 F' ∧ Rel X.K μ' (upd M p (.lst ws)) F' H' ∧ RepL X.K F' acc ws ∧ acc.length ≤ i ∧ J i acc μ', ⟨ys.length, by simp, Nat.zero_le _, F1, μ1, [], [], .refl _, rN, .nil, Nat.le_refl _, j0⟩, ?_⟩
  rintro i m H' ⟨rfl, hi', F', μ', acc, ws, e2, r2, ra, hl, q⟩
  have rs' : RelS X.K (wipeA Γ vs) F' (wipe σ vs) := (wipeA_rel rs vs).mono (e1.trans e2)
  have bo' : B.ok (upd M p (.lst ws)) F' := (bo.up (.new hM)).mono (e1.trans e2)
  by_cases lt : i < ys.length
  · refine .inr ⟨wk.goes i H' lt (e2.trans r2.sub), fun H3 => ∃ F' μ' acc ws, Ex F1 F' ∧ Rel X.K μ' (upd M p (.lst ws)) F' H3 ∧ RepL X.K F' acc ws ∧ acc.length ≤ i + 1 ∧ J (i + 1) acc μ', fun H3 q3 => ⟨ys.length - (i + 1), by omega, rfl, lt, q3⟩, fun x H3 yl => ?_⟩
    obtain ⟨F2, y, e3, r3, hy, rp⟩ := wk.yields i H' x H3 _ F' μ' lt e2 r2 yl
    intro s0 H0 C cl fp'
    refine (turn i y acc μ' hy q s0 H0 C cl fp' (wipe σ vs) _ F2 H3 x (bo'.mono e3) (rs'.mono e3) r3 rp).imp fun σ4 H4 q4 => ?_
    obtain ⟨w4, Γ4, F4, μ4, e4, rs4, r4, q4⟩ := q4
    rw [hvs] at *
    have w5 : wipe σ4 vs = wipe σ vs := w4.trans (wipe_wipe vs fun _ h => h)
    refine ⟨w5, ?_⟩
    have elem : ∀ {F5 : Hp} {μ5 : Mu} {H5 : Hp}, Ex F4 F5 → Rel X.K μ5 (upd M p (.lst ws)) F5 H5 → (∀ s0 H0 C cl fp, wE B (bk X scope s0 H0 C cl fp) elt Γ4 μ5 fun z μ6 => J (i + 1) (acc ++ [z]) μ6) →
        bkE X scope elt σ4 H5 fun y H6 => ∃ acc', H6 p = some (.lst acc') ∧ acc'.length < sizeLine ∧ ∃ F' μ' acc ws, Ex F1 F' ∧ Rel X.K μ' (upd M p (.lst ws)) F' (upd H6 p (.lst (acc' ++ [y]))) ∧ RepL X.K F' acc ws ∧ acc.length ≤ i + 1 ∧ J (i + 1) acc μ' := by
      intro F5 μ5 H5 e5 r5 hE s0 H0 C cl fp6
      refine (hE s0 H0 C cl fp6 σ4 _ F5 H5 (bo'.mono ((e3.trans e4).trans e5)) (rs4.mono e5) r5).imp fun z6 H6 ⟨z, F6, μ6, e6, r6, p6, q6⟩ => ?_
      obtain ⟨_, _, hp6⟩ := r6.frm p _ upd_same
      have ex := ((e3.trans e4).trans e5).trans e6
      refine ⟨ws, hp6, by rw [ra.len]; omega, F6, μ6, acc ++ [z], ws ++ [z6], e2.trans ex, r6.frmWrite, (ra.mono ex).snoc p6, by simp; omega, q6⟩
    rcases hi with rfl | ⟨c, rfl⟩
    · have k := elem (.refl _) r4 q4
      simp only [bkT, tYes, if_true]
      exact k
    · intro s0 H0 C cl fp6
      refine (q4 s0 H0 C cl fp6 σ4 _ F4 H4 (bo'.mono (e3.trans e4)) rs4 r4).imp fun k H5 ⟨F5, μ5, e5, r5, k1, k2⟩ => ?_
      cases k with
      | true => exact iteT (elem e5 r5 (k1 rfl))
      | false => exact iteF ⟨F5, μ5, acc, ws, (e2.trans (e3.trans e4)).trans e5, r5, ra.mono ((e3.trans e4).trans e5), by omega, k2 rfl⟩
  · obtain rfl : i = ys.length := by omega
    obtain ⟨nμ, rO⟩ := r2.frmOut (m := .lst acc) hM ⟨ws, rfl, ra⟩
    exact .inl ⟨wk.stops H' (e2.trans r2.sub), .loc p, F', _, e1.trans e2, rO, rep_loc.mpr rfl, done acc μ' q p nμ⟩
end
end D

set_option Elab.async false
set_option linter.all false
set_option maxRecDepth 100000
set_option maxHeartbeats 4000000
/-! D7: comprehensions as they are used, methods, dicts, repr. -/
namespace D
open PySem PySem.Spec PyProof.Rows L2
section
variable {B : Bs} {X : Cx} {Γ : G} {μ : Mu} {Q : A → Mu → Prop} {Z : AD} {e o i : Expr} {pos apos cpos : Pos}
variable {elt tg iter c : Expr} {scope : Scope} {own : List (Str × Nat)} {ifs : List Expr}
theorem bk_pts (hi : ifs = [] ∨ ∃ c, ifs = [c]) : ∀ (s0 : Shared) (H0 : Hp) (C : Addr) (cl : List (Str × Addr)) (fp : List Addr), PTs (X.blk s0 H0 scope (compEnvC scope cl C X.env) fp) ifs (bkT X scope ifs) := by
  rcases hi with rfl | ⟨c, rfl⟩
  · exact fun _ _ _ _ _ => pts_nil
  · exact fun s0 H0 C cl fp => pts_one ⟨fun pins s σ H Q I h => (h s0 H0 C cl fp).o pins s I⟩
theorem bkG_pg (s0 : Shared) (H0 : Hp) (C : Addr) (cl : List (Str × Addr)) (fp : List Addr) : PG (X.blk s0 H0 scope (compEnvC scope cl C X.env) fp) tg (bkG X scope tg) := ⟨fun pins s _ _ _ u _ I r h => (h s0 H0 C cl fp).o pins s u I r⟩
theorem bkE_pe (s0 : Shared) (H0 : Hp) (C : Addr) (cl : List (Str × Addr)) (fp : List Addr) : PE (X.blk s0 H0 scope (compEnvC scope cl C X.env) fp) elt (bkE X scope elt) := ⟨fun pins s _ _ _ I h => (h s0 H0 C cl fp).o pins s I⟩
/-- a comprehension: a list that is ours -/
theorem wE_lc (own : List (Str × Nat)) (h : lcAsk B X scope tg iter elt ifs (own.map (·.2)) Γ μ Q) (hN : X.N.Nodup) (ok : BlkOk X.N X.env.scope scope own) (hi : ifs = [] ∨ ∃ c, ifs = [c] := by first | exact .inl rfl | exact .inr ⟨_, rfl⟩) (hc : X.calm = true := by rfl) (hs : ∀ x, foldedSetIterable iter X.env x = pure x := by intro _; rfl) :
    wE B X (.ListComp elt [⟨tg, iter, ifs, 0⟩] scope pos) Γ μ Q :=
  wE_of (pe_lc (own := own) hc hN pi_rd ok (fun s0 H0 C cl fp => bkG_pg s0 H0 C cl fp) (bk_pts hi) (fun s0 H0 C cl fp => bkE_pe s0 H0 C cl fp) hs) fun σ M F H bo rs r => lc_core_ask hi h bo rs r
/-- name = a comprehension -/
theorem wS_setLc (own : List (Str × Nat)) (i : Nat) {y : Str} {py spos : Pos} (h : lcAsk B X scope tg iter elt ifs (own.map (·.2)) Γ μ fun z μ1 => Z.nx (Γ.set i (some z)) μ1) (hN : X.N.Nodup) (ok : BlkOk X.N X.env.scope scope own)
    (hsw : swapsWith (.ListComp elt [⟨tg, iter, ifs, 0⟩] scope pos) (some (.Name y py)) spos.line X.env = pure true)
    (hi : ifs = [] ∨ ∃ c, ifs = [c] := by first | exact .inl rfl | exact .inr ⟨_, rfl⟩) (hc : X.calm = true := by rfl) (hy : X.N[i]? = some y := by rfl) (hyl : X.env.scope.names.lookup y = some .local := by rfl) (hs : ∀ x, foldedSetIterable iter X.env x = pure x := by intro _; rfl) :
    wS B X (.Assign [.Name y py] (.ListComp elt [⟨tg, iter, ifs, 0⟩] scope pos) spos) Γ μ Z :=
  wS_of (ps_setLc (own := own) hc hN hy hyl hsw pi_rd ok (fun s0 H0 C cl fp => bkG_pg s0 H0 C cl fp) (bk_pts hi) (fun s0 H0 C cl fp => bkE_pe s0 H0 C cl fp) hs) fun σ M F H bo rs r => by
  have k := lc_core_ask hi h bo rs r
  obtain ⟨K0⟩ : Nonempty Unit := ⟨()⟩
  refine ⟨fun pins s I => ?_⟩
  refine thn (k.o pins s I) fun v s1 h1 => thn h1 fun itv s2 h2 => ?_
  obtain ⟨it, fp, tn, J0, H2, g1, g2, g3, g4, g5, q⟩ := h2
  refine ⟨it, fp, tn, J0, H2, g1, g2, g3, g4, g5, fun p np => ?_⟩
  obtain ⟨W, w0, turn⟩ := q p np
  refine ⟨W, w0, fun i' m H' w => ?_⟩
  rcases turn i' m H' w with ⟨st, q⟩ | q
  · refine .inl ⟨st, ?_⟩
    obtain ⟨x, F', μ', ex, rl, rp, q⟩ := q
    exact ⟨_, F', μ', ex, (rs.mono ex).set rp, rl, q⟩
  · exact .inr q

/-! ### comprehensions whose turns change nothing: the list of the answers -/
def Sub (μ μ' : Mu) : Prop := ∀ p m, μ p = some m → μ' p = some m
theorem Sub.refl (μ : Mu) : Sub μ μ := fun _ _ h => h
theorem Sub.trans {μ μ1 μ2 : Mu} (a : Sub μ μ1) (b : Sub μ1 μ2) : Sub μ μ2 := fun p m h => b p m (a p m h)
theorem Sub.new {μ : Mu} {p : Addr} {m : MO} (h : μ p = none) : Sub μ (μ.upd p m) := fun q n e => by
  have hq : q ≠ p := fun z => by rw [z, h] at e; cases e
  rw [Mu.upd_ne hq]; exact e
theorem Sub.none {μ μ' : Mu} {p : Addr} (a : Sub μ μ') (h : μ' p = Option.none) : μ p = Option.none := by
  cases q : μ p with
  | none => rfl
  | some m => rw [a p m q] at h; cases h
/-- what is not ours any more is forgotten -/
theorem wE_sub (h : wE B X e Γ μ fun x μ' => ∃ μ2, Sub μ2 μ' ∧ Q x μ2) : wE B X e Γ μ Q := fun σ M F H bo rs r =>
  (h σ M F H bo rs r).imp fun v H' ⟨x, F', μ', h1, h2, h3, μ2, h4, h5⟩ => ⟨x, F', μ2, h1, h2.weak h4, h3, h5⟩
/-- an expression that comes to z and leaves what is ours -/
def vE (B : Bs) (X : Cx) (e : Expr) (Γ : G) (μ : Mu) (z : A) : Prop := wE B X e Γ μ fun z' μ' => z' = z ∧ Sub μ μ'
theorem vE.use {z : A} (h : vE B X e Γ μ z) (q : Q z μ) : wE B X e Γ μ Q := wE_sub (wE.imp h fun x μ' ⟨e1, s1⟩ => ⟨μ, s1, by rw [e1]; exact q⟩)
theorem lcMap {vs : List Nat} (h : wIt B X tg iter Γ μ fun ys μ1 => ys.length ≤ sizeLine ∧ ∃ zs : List A, zs.length = ys.length ∧
      (∀ (i : Nat) y z, ys[i]? = some y → zs[i]? = some z → ∀ s0 H0 C cl fp, wGw B (bk X scope s0 H0 C cl fp) tg vs y (wipeA Γ vs) μ1 fun Γ2 μ2 => μ2 = μ1 ∧ ∀ s0 H0 C cl fp, vE B (bk X scope s0 H0 C cl fp) elt Γ2 μ1 z) ∧
      ∀ p : Addr, μ1 p = none → Q (.loc p) (μ1.upd p (.lst zs))) : lcAsk B X scope tg iter elt [] vs Γ μ Q := fun σ M F H bo rs r => by
  refine ⟨fun pins s I => ?_⟩
  refine thn ((h σ M F H bo rs r).o pins s I) fun v s1 h1 => thn h1 fun itv s2 h2 => ?_
  obtain ⟨it, fp, tn, J0, H2, g1, g2, g3, g4, g5, ys, F1, μ1, e1, r1, wk, hz, zs, hl, turn, done⟩ := h2
  refine ⟨it, fp, tn, J0, H2, g1, g2, g3, g4, g5, ys, F1, μ1, e1, r1, wk, hz, fun i acc μ' => acc = zs.take i ∧ μ' = μ1, ⟨by simp, rfl⟩, ?_, ?_⟩
  · rintro i y acc _ hy ⟨ea, rfl⟩ s0 H0 C cl fp'
    have hi : i < zs.length := by rw [hl]; exact (List.getElem?_eq_some_iff.mp hy).1
    have t := turn i y zs[i] hy (List.getElem?_eq_getElem hi) s0 H0 C cl fp'
    intro σ3 M3 F3 H3 v3 bo3 rs3 r3 rp3
    refine (t σ3 M3 F3 H3 v3 bo3 rs3 r3 rp3).imp fun σ4 H4 ⟨w4, Γ4, F4, μ4, e4, rs4, r4, em, q4⟩ => ⟨w4, Γ4, F4, μ4, e4, rs4, r4, ?_⟩
    subst em
    intro s0 H0 C cl fp6
    refine (q4 s0 H0 C cl fp6).use ⟨?_, rfl⟩
    rw [ea, List.take_succ, List.getElem?_eq_getElem hi]; rfl
  · rintro acc _ ⟨ea, rfl⟩ p np
    rw [ea, ← hl, List.take_length]
    exact done p np
/-- .. with a test: ks tells which are taken -/
def pickA : List Bool → List A → List A
  | k :: ks, z :: zs => if k then z :: pickA ks zs else pickA ks zs
  | _, _ => []
theorem pickA_snoc : ∀ (ks : List Bool) (zs : List A) (k : Bool) (z : A), ks.length = zs.length → pickA (ks ++ [k]) (zs ++ [z]) = pickA ks zs ++ (if k then [z] else [])
  | [], [], k, z, _ => by cases k <;> simp [pickA]
  | k' :: ks, z' :: zs, k, z, h => by
    have ih := pickA_snoc ks zs k z (by simpa using h)
    simp only [List.cons_append, pickA, ih]
    cases k' <;> simp
  | [], _ :: _, _, _, h => by simp at h
  | _ :: _, [], _, _, h => by simp at h
theorem pickA_map {α : Type} (p : α → Bool) (f : α → A) : ∀ l : List α, pickA (l.map p) (l.map f) = (l.filter p).map f
  | [] => rfl
  | a :: l => by
    simp only [List.map_cons, pickA, pickA_map p f l, List.filter_cons]
    cases p a <;> simp
/-- a test that comes to k and leaves what is ours -/
def vT (B : Bs) (X : Cx) (e : Expr) (Γ : G) (μ : Mu) (k : Bool) : Prop := wT B X e Γ μ fun k' μ' => k' = k ∧ Sub μ μ'
theorem wT_sub {QB : Bool → Mu → Prop} (h : wT B X e Γ μ fun x μ' => ∃ μ2, Sub μ2 μ' ∧ QB x μ2) : wT B X e Γ μ QB := fun σ M F H bo rs r =>
  (h σ M F H bo rs r).imp fun v H' ⟨F', μ', h1, h2, μ2, h4, h5⟩ => ⟨F', μ2, h1, h2.weak h4, h5⟩
theorem vT.use {k : Bool} {QB : Bool → Mu → Prop} (h : vT B X e Γ μ k) (q : QB k μ) : wT B X e Γ μ QB := wT_sub (wT.imp h fun x μ' ⟨e1, s1⟩ => ⟨μ, s1, by rw [e1]; exact q⟩)
theorem lcPick {vs : List Nat} (h : wIt B X tg iter Γ μ fun ys μ1 => ys.length ≤ sizeLine ∧ ∃ (ks : List Bool) (zs : List A), ks.length = ys.length ∧ zs.length = ys.length ∧
      (∀ (i : Nat) y k z, ys[i]? = some y → ks[i]? = some k → zs[i]? = some z → ∀ s0 H0 C cl fp, wGw B (bk X scope s0 H0 C cl fp) tg vs y (wipeA Γ vs) μ1 fun Γ2 μ2 => μ2 = μ1 ∧ (∀ s0 H0 C cl fp, vT B (bk X scope s0 H0 C cl fp) c Γ2 μ1 k) ∧ (k = true → ∀ s0 H0 C cl fp, vE B (bk X scope s0 H0 C cl fp) elt Γ2 μ1 z)) ∧
      ∀ p : Addr, μ1 p = none → Q (.loc p) (μ1.upd p (.lst (pickA ks zs)))) : lcAsk B X scope tg iter elt [c] vs Γ μ Q := fun σ M F H bo rs r => by
  refine ⟨fun pins s I => ?_⟩
  refine thn ((h σ M F H bo rs r).o pins s I) fun v s1 h1 => thn h1 fun itv s2 h2 => ?_
  obtain ⟨it, fp, tn, J0, H2, g1, g2, g3, g4, g5, ys, F1, μ1, e1, r1, wk, hz, ks, zs, hk, hl, turn, done⟩ := h2
  refine ⟨it, fp, tn, J0, H2, g1, g2, g3, g4, g5, ys, F1, μ1, e1, r1, wk, hz, fun i acc μ' => acc = pickA (ks.take i) (zs.take i) ∧ μ' = μ1, ⟨by simp [pickA], rfl⟩, ?_, ?_⟩
  · rintro i y acc _ hy ⟨ea, rfl⟩ s0 H0 C cl fp'
    have hy' := (List.getElem?_eq_some_iff.mp hy).1
    have hi : i < zs.length := by rw [hl]; exact hy'
    have hi' : i < ks.length := by rw [hk]; exact hy'
    have t := turn i y ks[i] zs[i] hy (List.getElem?_eq_getElem hi') (List.getElem?_eq_getElem hi) s0 H0 C cl fp'
    have en : pickA (ks.take (i + 1)) (zs.take (i + 1)) = acc ++ (if ks[i] then [zs[i]] else []) := by
      rw [ea, List.take_succ, List.take_succ, List.getElem?_eq_getElem hi, List.getElem?_eq_getElem hi']
      exact pickA_snoc _ _ _ _ (by simp; omega)
    intro σ3 M3 F3 H3 v3 bo3 rs3 r3 rp3
    refine (t σ3 M3 F3 H3 v3 bo3 rs3 r3 rp3).imp fun σ4 H4 ⟨w4, Γ4, F4, μ4, e4, rs4, r4, em, q4, q5⟩ => ⟨w4, Γ4, F4, μ4, e4, rs4, r4, ?_⟩
    subst em
    intro s0 H0 C cl fp6
    refine (q4 s0 H0 C cl fp6).use ⟨fun kt s0 H0 C cl fp7 => (q5 kt s0 H0 C cl fp7).use ⟨?_, rfl⟩, fun kf => ⟨?_, rfl⟩⟩
    · rw [en, kt]; rfl
    · rw [en, kf]; simp
  · rintro acc _ ⟨ea, rfl⟩ p np
    rw [ea, ← hl, List.take_length, hl, ← hk, List.take_length]
    exact done p np

/-! ### methods of lists -/
theorem wE_append (h : wE B X o Γ μ fun x μ1 => ∃ p ys0, x = .loc p ∧ μ1 p = some (.lst ys0) ∧ wE B X e Γ μ1 fun y μ2 => ∃ ys, μ2 p = some (.lst ys) ∧ ys.length < sizeLine ∧ Q .non (μ2.upd p (.lst (ys ++ [y]))))
    (hbase : attributeBase o "append" X.env (eval o X.env) = eval o X.env := by rfl)
    (hfew : ((backTo cpos (starEach [e] X.env)).all (fun x => !x.1) && (backToKw cpos (keywordEach [] X.env)).all (fun x => x.1.isSome) && decide (([e] : List Expr).length + ([] : List Keyword).length + (if ([] : List Keyword).isEmpty then 0 else 1) < 30)) = true := by rfl)
    (hline : (apos.endLine == cpos.line) = true := by rfl) (hs : starEach [e] X.env = (false, eval e X.env) :: starEach [] X.env := by rfl) (hplain : (backTo cpos (starEach [] X.env)).any (·.1) = false := by rfl) : wE B X (.Call (.Attribute o "append" apos) [e] [] cpos) Γ μ Q :=
  wE_of (pe_bm PySem.F.plainAttrs_list PySem.F.slot_list_append PySem.F.type_list_append mt_append pe_rd (pa_cons pe_rd pa_nil hs) hbase hfew hline hs hplain) fun σ M F H bo rs r => by
  refine (h σ M F H bo rs r).imp fun v H1 ⟨x, F1, μ1, e1, r1, p1, p, ys0, ex, hp, q1⟩ => ?_
  subst ex; rw [rep_loc] at p1
  obtain ⟨_, ob, k1, vs, rfl, k2⟩ := r1.own p _ hp
  refine ⟨by rw [p1]; exact .inl ⟨rfl, _, .inl (.inl k1)⟩, ?_⟩
  refine (q1 σ M F1 H1 (bo.mono e1) (rs.mono e1) r1).imp fun w H2 ⟨y, F2, μ2, e2, r2, p2, ys, hq, hz, q2⟩ => ?_
  obtain ⟨_, ob, k3, ws, rfl, k4⟩ := r2.own p _ hq
  exact ⟨p, ws, w, p1, rfl, k3, by rw [k4.len]; exact hz, _, F2, _, e1.trans e2, r2.write hq (m' := .lst (ys ++ [y])) ⟨_, rfl, k4.snoc p2⟩, rep_non.mpr rfl, q2⟩

/-! ### dicts -/
def kA : Key → A
  | .inl i => .int i
  | .inr x => .str x
theorem kA_rep {K : PySem.W.Frag} {F : Hp} {k : Key} {v : V} (h : Rep K F (kA k) v) : v = kV k := by
  cases k with
  | inl i => exact rep_int.mp h
  | inr x => exact rep_str.mp h
def valA (kvs : List (Key × A)) (k : Key) : Option A := (kvs.find? fun kv => decide (kv.1 = k)).map (·.2)
def putA (kvs : List (Key × A)) (k : Key) (v : A) : List (Key × A) := if (kvs.any fun kv => decide (kv.1 = k)) = true then kvs.map (fun kv => if kv.1 = k then (kv.1, v) else kv) else kvs ++ [(k, v)]
theorem valA_rep {K : PySem.W.Frag} {F : Hp} : ∀ {kvs : List (Key × A)} {ws : List (Key × V)} (k : Key), RepK K F kvs ws → (valA kvs k = none ∧ valV ws k = none) ∨ ∃ z v, valA kvs k = some z ∧ valV ws k = some v ∧ Rep K F z v
  | [], _, k, h => by rw [show _ = [] from h]; exact .inl ⟨rfl, rfl⟩
  | (k', x) :: r, _, k, ⟨v, t, e, h1, h2⟩ => by
    subst e
    by_cases ek : k' = k
    · exact .inr ⟨x, v, by simp [valA, ek], by simp [valV, ek], h1⟩
    · rcases valA_rep k h2 with h | ⟨z, w, h3, h4, h5⟩
      · refine .inl ⟨?_, ?_⟩
        · have := h.1; simp only [valA, List.find?_cons, ek, decide_false] at this ⊢; exact this
        · have := h.2; simp only [valV, List.find?_cons, ek, decide_false] at this ⊢; exact this
      · refine .inr ⟨z, w, ?_, ?_, h5⟩
        · simp only [valA, List.find?_cons, ek, decide_false] at h3 ⊢; exact h3
        · simp only [valV, List.find?_cons, ek, decide_false] at h4 ⊢; exact h4
theorem any_rep {K : PySem.W.Frag} {F : Hp} (k : Key) : ∀ {kvs : List (Key × A)} {ws : List (Key × V)}, RepK K F kvs ws → (ws.any fun kv => decide (kv.1 = k)) = kvs.any fun kv => decide (kv.1 = k)
  | [], _, h => by rw [show _ = [] from h]; rfl
  | (k', x) :: r, _, ⟨v, t, e, h1, h2⟩ => by subst e; simp only [List.any_cons, any_rep k h2]
theorem mapK_rep {K : PySem.W.Frag} {F : Hp} {k : Key} {z : A} {w : V} (g : Rep K F z w) : ∀ {kvs : List (Key × A)} {ws : List (Key × V)}, RepK K F kvs ws → RepK K F (kvs.map fun kv => if kv.1 = k then (kv.1, z) else kv) (ws.map fun kv => if kv.1 = k then (kv.1, w) else kv)
  | [], _, h => by rw [show _ = [] from h]; rfl
  | (k', x) :: r, _, ⟨v, t, e, h1, h2⟩ => by
    subst e
    simp only [List.map_cons]
    by_cases ek : k' = k
    · rw [if_pos ek, if_pos ek]; exact ⟨w, _, rfl, g, mapK_rep g h2⟩
    · rw [if_neg ek, if_neg ek]; exact ⟨v, _, rfl, h1, mapK_rep g h2⟩
theorem snocK_rep {K : PySem.W.Frag} {F : Hp} {k : Key} {z : A} {w : V} (g : Rep K F z w) : ∀ {kvs : List (Key × A)} {ws : List (Key × V)}, RepK K F kvs ws → RepK K F (kvs ++ [(k, z)]) (ws ++ [(k, w)])
  | [], _, h => by rw [show _ = [] from h]; exact ⟨w, [], rfl, g, rfl⟩
  | (k', x) :: r, _, ⟨v, t, e, h1, h2⟩ => by subst e; exact ⟨v, _, rfl, h1, snocK_rep g h2⟩
theorem putA_rep {K : PySem.W.Frag} {F : Hp} {k : Key} {z : A} {w : V} (g : Rep K F z w) {kvs : List (Key × A)} {ws : List (Key × V)} (h : RepK K F kvs ws) : RepK K F (putA kvs k z) (putK ws k w) := by
  unfold putA putK
  rw [any_rep k h]
  split
  · exact mapK_rep g h
  · exact snocK_rep g h
theorem wE_dget {k : Nat} (ar : Ar X k) (h : wE B X o Γ μ fun x μ1 => wE B X i Γ μ1 fun y μ2 => ∃ p kvs k z, x = .loc p ∧ μ2 p = some (.dic kvs) ∧ y = kA k ∧ valA kvs k = some z ∧ Q z μ2) (hs : NoSl i := by exact fun _ _ => rfl) : wE B X (.Subscript o i pos) Γ μ Q :=
  wE_of (pe_dget ar.u1 pe_rd pe_rd hs) fun σ M F H bo rs r => by
  refine (h σ M F H bo rs r).imp fun v H1 ⟨x, F1, μ1, e1, r1, p1, q1⟩ => ?_
  refine (q1 σ M F1 H1 (bo.mono e1) (rs.mono e1) r1).imp fun w H2 ⟨y, F2, μ2, e2, r2, p2, p, kvs, k, z, ex, hp, ey, hv, q2⟩ => ?_
  subst ex; subst ey
  rw [rep_loc] at p1
  obtain ⟨_, ob, k1, ws, rfl, k2⟩ := r2.own p _ hp
  rcases valA_rep k k2 with ⟨h1, _⟩ | ⟨z', v', h1, h2, h3⟩
  · rw [h1] at hv; cases hv
  · rw [hv] at h1; cases h1
    refine ⟨p, v', p1, ?_, z, F2, μ2, e1.trans e2, r2, h3, q2⟩
    rw [kA_rep p2, ← h2]
    exact DGet.k k1
theorem wS_dput {k : Nat} {pos' : Pos} (ar : Ar X k) (h : wE B X e Γ μ fun z μ1 => wE B X o Γ μ1 fun x μ2 => wE B X i Γ μ2 fun y μ3 => ∃ p kvs k, x = .loc p ∧ μ3 p = some (.dic kvs) ∧ y = kA k ∧ kvs.length < sizeLine ∧ Z.nx Γ (μ3.upd p (.dic (putA kvs k z))))
    (hs : swapsWith e (some (.Subscript o i pos')) pos.line X.env = pure false := by rfl) : wS B X (.Assign [.Subscript o i pos'] e pos) Γ μ Z := wS_of (ps_dput ar.u1 pe_rd pe_rd pe_rd hs) fun σ M F H bo rs r => by
  refine (h σ M F H bo rs r).imp fun u H0 ⟨z, F0, μ0, e0, r0, p0, q0⟩ => ?_
  refine (q0 σ M F0 H0 (bo.mono e0) (rs.mono e0) r0).imp fun v H1 ⟨x, F1, μ1, e1, r1, p1, q1⟩ => ?_
  refine (q1 σ M F1 H1 (bo.mono (e0.trans e1)) (rs.mono (e0.trans e1)) r1).imp fun w H2 ⟨y, F2, μ2, e2, r2, p2, p, kvs, k, ex, hp, ey, hl, q2⟩ => ?_
  subst ex; subst ey
  rw [rep_loc] at p1
  obtain ⟨_, ob, k1, ws, rfl, k2⟩ := r2.own p _ hp
  refine ⟨p, upd H2 p (.dK (putK ws k u)), p1, ?_, Γ, F2, _, (e0.trans e1).trans e2, rs.mono ((e0.trans e1).trans e2), r2.write hp (m' := .dic (putA kvs k z)) ⟨_, rfl, putA_rep (p0.mono (e1.trans e2)) k2⟩, q2⟩
  rw [kA_rep p2]
  exact DPut.k k1 (by rw [k2.len]; exact hl)
/-- {} -/
theorem wE_dnew (q : ∀ p, μ p = none → Q (.loc p) (μ.upd p (.dic []))) : wE B X (.Dict [] [] pos) Γ μ Q := wE_of pe_dnewK fun σ M F H bo rs r p np => by
  obtain ⟨nμ, rl'⟩ := r.new (m := .dic []) (o := .dK []) np ⟨[], rfl, rfl⟩
  exact ⟨_, _, _, .refl _, rl', rep_loc.mpr rfl, q p nμ⟩
end
end D

set_option Elab.async false
set_option linter.all false
set_option maxRecDepth 100000
set_option maxHeartbeats 4000000
/-! D8: dict displays, repr. -/
namespace D
open PySem PySem.Spec PyProof.Rows L2
section
variable {B : Bs} {X : Cx} {Γ : G} {μ : Mu} {Q : A → Mu → Prop} {Z : AD} {e o i : Expr} {pos apos cpos : Pos}
/-! ### a written dict -/
def rdPs (X : Cx) : List (Option Expr) → List Expr → List (TE × TE)
  | some k :: ks, v :: vs => (rdE X k, rdE X v) :: rdPs X ks vs
  | _, _ => []
def okPs : List (Option Expr) → List Expr → Bool
  | [], [] => true
  | some _ :: ks, _ :: vs => okPs ks vs
  | _, _ => false
theorem pps_rd : ∀ {ks : List (Option Expr)} {vs : List Expr}, okPs ks vs = true → PPs X pos ks vs (rdPs X ks vs)
  | [], [], _ => pps_nil
  | some _ :: _, _ :: _, h => pps_cons pe_rd pe_rd (pps_rd (by simpa [okPs] using h))
  | [], _ :: _, h => by simp [okPs] at h
  | none :: _, _, h => by simp [okPs] at h
  | some _ :: _, [], h => by simp [okPs] at h
def wPs (B : Bs) (X : Cx) : List (Option Expr) → List Expr → G → Mu → (List (A × A) → Mu → Prop) → Prop
  | some k :: ks, v :: vs, Γ, μ, R => wE B X k Γ μ fun x μ1 => wE B X v Γ μ1 fun y μ2 => wPs B X ks vs Γ μ2 fun ps μ3 => R ((x, y) :: ps) μ3
  | _, _, _, μ, R => R [] μ
def RepP (K : PySem.W.Frag) (F : Hp) : List (A × A) → List (V × V) → Prop
  | [], vs => vs = []
  | (x, y) :: r, vs => ∃ v w t, vs = (v, w) :: t ∧ Rep K F x v ∧ Rep K F y w ∧ RepP K F r t
theorem RepP.mono {K : PySem.W.Frag} {F F' : Hp} (e : Ex F F') : ∀ {ps : List (A × A)} {vs : List (V × V)}, RepP K F ps vs → RepP K F' ps vs
  | [], _, h => h
  | (x, y) :: r, _, ⟨v, w, t, h1, h2, h3, h4⟩ => ⟨v, w, t, h1, h2.mono e, h3.mono e, RepP.mono e h4⟩
theorem pairs_run {M : Hp} : ∀ {ks : List (Option Expr)} {vs : List Expr} {μ : Mu} {R : List (A × A) → Mu → Prop} {σ : L2.St} {F H : Hp}, wPs B X ks vs Γ μ R → B.ok M F → RelS X.K Γ F σ → Rel X.K μ M F H → tPairs (rdPs X ks vs) σ H fun ps H' => ∃ qs F' μ', Ex F F' ∧ Rel X.K μ' M F' H' ∧ RepP X.K F' qs ps ∧ R qs μ'
  | [], [], μ, R, σ, F, H, h, bo, rs, r => ⟨[], F, μ, .refl _, r, rfl, h⟩
  | [], _ :: _, μ, R, σ, F, H, h, bo, rs, r => ⟨[], F, μ, .refl _, r, rfl, h⟩
  | none :: _, _, μ, R, σ, F, H, h, bo, rs, r => ⟨[], F, μ, .refl _, r, rfl, h⟩
  | some _ :: _, [], μ, R, σ, F, H, h, bo, rs, r => ⟨[], F, μ, .refl _, r, rfl, h⟩
  | some k :: ks, v :: vs, μ, R, σ, F, H, h, bo, rs, r => by
    refine (show wE B X k Γ μ _ from h) σ M F H bo rs r |>.imp fun a H1 ⟨x, F1, μ1, e1, r1, p1, q1⟩ => ?_
    refine (q1 σ M F1 H1 (bo.mono e1) (rs.mono e1) r1).imp fun b H2 ⟨y, F2, μ2, e2, r2, p2, q2⟩ => ?_
    have k := pairs_run q2 (bo.mono (e1.trans e2)) (rs.mono (e1.trans e2)) r2
    have mono : ∀ (trs : List (TE × TE)), (∀ p ∈ trs, ∃ e1 e2, p = (rdE X e1, rdE X e2)) → ∀ (σ : L2.St) (H : Hp) (P P' : List (V × V) → Hp → Prop), (∀ ps H, P ps H → P' ps H) → tPairs trs σ H P → tPairs trs σ H P' := by
      intro trs
      induction trs with
      | nil => intro _ σ H P P' w h; exact w _ _ h
      | cons p r ih =>
        intro hp σ H P P' w h
        obtain ⟨a1, a2, rfl⟩ := hp _ List.mem_cons_self
        exact rdE_mono h fun x H1 h1 => rdE_mono h1 fun y H2 h2 => ih (fun q hq => hp q (List.mem_cons_of_mem _ hq)) σ H2 _ _ (fun ps H3 q => w _ _ q) h2
    have shape : ∀ (ks : List (Option Expr)) (vs : List Expr), ∀ p ∈ rdPs X ks vs, ∃ e1 e2, p = (rdE X e1, rdE X e2) := by
      intro ks
      induction ks with
      | nil => intro vs p hp; simp [rdPs] at hp
      | cons k ks ih =>
        intro vs p hp
        cases k with
        | none => simp [rdPs] at hp
        | some k => cases vs with
          | nil => simp [rdPs] at hp
          | cons v vs =>
            simp only [rdPs, List.mem_cons] at hp
            rcases hp with rfl | hp
            · exact ⟨_, _, rfl⟩
            · exact ih vs p hp
    refine mono _ (shape ks vs) _ _ _ _ (fun ps H3 q => ?_) k
    obtain ⟨qs, F3, μ3, e3, r3, p3, q3⟩ := q
    exact ⟨(x, y) :: qs, F3, μ3, (e1.trans e2).trans e3, r3, ⟨a, b, ps, rfl, p1.mono (e2.trans e3), p2.mono e3, p3⟩, q3⟩
def mergeA (kvs more : List (Key × A)) : List (Key × A) := more.foldl (fun acc kv => putA acc kv.1 kv.2) kvs
theorem merge_rep {K : PySem.W.Frag} {F : Hp} : ∀ {more : List (Key × A)} {ms : List (Key × V)} {kvs : List (Key × A)} {ws : List (Key × V)}, RepK K F more ms → RepK K F kvs ws → RepK K F (mergeA kvs more) (mergeK ws ms)
  | [], _, _, _, h, g => by rw [show _ = [] from h]; exact g
  | (k, x) :: r, _, kvs, ws, ⟨v, t, e, h1, h2⟩, g => by subst e; exact merge_rep (kvs := putA kvs k x) (ws := putK ws k v) h2 (putA_rep h1 g)
theorem keys_rep {K : PySem.W.Frag} {F : Hp} : ∀ {kvs : List (Key × A)} {ps : List (V × V)}, RepP K F (kvs.map fun kv => (kA kv.1, kv.2)) ps → ∃ ws : List (Key × V), ps = ws.map (fun kv => (kV kv.1, kv.2)) ∧ RepK K F kvs ws
  | [], _, h => ⟨[], h, rfl⟩
  | (k, x) :: r, _, h => by
    obtain ⟨v, w, t, rfl, h1, h2, h3⟩ := h
    obtain ⟨ws, rfl, h4⟩ := keys_rep (kvs := r) h3
    exact ⟨(k, w) :: ws, by rw [kA_rep h1]; rfl, w, ws, rfl, h2, h4⟩
theorem wE_disp {ks : List (Option Expr)} {vs : List Expr} (h : wPs B X ks vs Γ μ fun ps μ1 => ∃ kvs : List (Key × A), ps = kvs.map (fun kv => (kA kv.1, kv.2)) ∧ kvs.length ≤ 15 ∧ ∀ p : Addr, μ1 p = none → Q (.loc p) (μ1.upd p (.dic (mergeA [] kvs))))
    (ok : okPs ks vs = true := by rfl) (h0 : ks ≠ [] := by exact fun z => nomatch z) (hall : ks.all (·.isSome) = true := by rfl) (hl : ks.length = vs.length := by rfl) (h15 : ks.length ≤ 15 := by decide) : wE B X (.Dict ks vs pos) Γ μ Q :=
  wE_of (pe_disp (pps_rd ok) hall hl h0 h15) fun σ M F H bo rs r p np => by
  obtain ⟨hM, rN⟩ := r.frmNew (o := .dK []) np
  have k := pairs_run h (bo.up (.new hM)) rs rN
  have mono : ∀ (trs : List (TE × TE)), (∀ p ∈ trs, ∃ e1 e2, p = (rdE X e1, rdE X e2)) → ∀ (σ : L2.St) (H : Hp) (P P' : List (V × V) → Hp → Prop), (∀ ps H, P ps H → P' ps H) → tPairs trs σ H P → tPairs trs σ H P' := by
    intro trs
    induction trs with
    | nil => intro _ σ H P P' w h; exact w _ _ h
    | cons p r ih =>
      intro hp σ H P P' w h
      obtain ⟨a1, a2, rfl⟩ := hp _ List.mem_cons_self
      exact rdE_mono h fun x H1 h1 => rdE_mono h1 fun y H2 h2 => ih (fun q hq => hp q (List.mem_cons_of_mem _ hq)) σ H2 _ _ (fun ps H3 q => w _ _ q) h2
  have shape : ∀ (ks : List (Option Expr)) (vs : List Expr), ∀ p ∈ rdPs X ks vs, ∃ e1 e2, p = (rdE X e1, rdE X e2) := by
    intro ks
    induction ks with
    | nil => intro vs p hp; simp [rdPs] at hp
    | cons k ks ih =>
      intro vs p hp
      cases k with
      | none => simp [rdPs] at hp
      | some k => cases vs with
        | nil => simp [rdPs] at hp
        | cons v vs =>
          simp only [rdPs, List.mem_cons] at hp
          rcases hp with rfl | hp
          · exact ⟨_, _, rfl⟩
          · exact ih vs p hp
  refine mono _ (shape ks vs) _ _ _ _ (fun ps H2 q => ?_) k
  obtain ⟨qs, F2, μ2, e2, r2, p2, kvs, rfl, hk, q2⟩ := q
  obtain ⟨_, _, hp2⟩ := r2.frm p _ upd_same
  obtain ⟨ws, ep, hw⟩ := keys_rep p2
  refine ⟨hp2, ws, ep, by rw [hw.len]; exact hk, ?_⟩
  have r3 := r2.frmWrite (o' := .dK (mergeK [] ws))
  obtain ⟨nμ, r4⟩ := r3.frmOut (m := .dic (mergeA [] kvs)) hM ⟨_, rfl, merge_rep hw rfl⟩
  exact ⟨_, F2, _, e2, r4, rep_loc.mpr rfl, q2 p nμ⟩

/-! ### repr -/
mutual
def isShow : A → Bool
  | .non => true
  | .bl _ => true
  | .int i => decide (i.natAbs.log2 < 1920)
  | .str _ => true
  | .ty _ => false
  | .loc _ => false
  | .tup xs => isShows xs
  | .lst xs => isShows xs
  | .fls xs => isShows xs
def isShows : List A → Bool
  | [] => true
  | x :: xs => isShow x && isShows xs
end
mutual
/-- a bound of the length of what is shown -/
def shl : A → Nat
  | .non => 4
  | .bl _ => 5
  | .int i => if i.natAbs < 10 ^ 18 then 20 else 1922
  | .str x => (reprText x).length
  | .ty _ => 4
  | .loc _ => 4
  | .tup xs => shls xs + 3
  | .lst xs => shls xs + 3
  | .fls xs => shls xs + 3
def shls : List A → Nat
  | [] => 0
  | x :: xs => shl x + 2 + shls xs
end
mutual
theorem showable_of : ∀ x : A, isShow x = true → (toD x).showable = true
  | .non, _ => by simp only [toD, PyData.showable]
  | .bl _, _ => by simp only [toD, PyData.showable]
  | .int _, h => by simpa only [toD, PyData.showable, isShow] using h
  | .str _, _ => by simp only [toD, PyData.showable]
  | .ty _, h => by simp [isShow] at h
  | .loc _, h => by simp [isShow] at h
  | .tup xs, h => by simp only [toD, PyData.showable]; exact showables_of xs (by simpa [isShow] using h)
  | .lst xs, h => by simp only [toD, PyData.showable]; exact showables_of xs (by simpa [isShow] using h)
  | .fls xs, h => by simp only [toD, PyData.showable]; exact showables_of xs (by simpa [isShow] using h)
theorem showables_of : ∀ xs : List A, isShows xs = true → PyData.showableAll (toDs xs) = true
  | [], _ => by simp only [toDs, PyData.showableAll]
  | x :: xs, h => by
    simp only [isShows, Bool.and_eq_true] at h
    simp only [toDs, PyData.showableAll, showable_of x h.1, showables_of xs h.2, Bool.and_self]
end
mutual
theorem noDict_of : ∀ x : A, (toD x).hasDict = false
  | .non => by simp only [toD, PyData.hasDict]
  | .bl _ => by simp only [toD, PyData.hasDict]
  | .int _ => by simp only [toD, PyData.hasDict]
  | .str _ => by simp only [toD, PyData.hasDict]
  | .ty _ => by simp only [toD, PyData.hasDict]
  | .loc _ => by simp only [toD, PyData.hasDict]
  | .tup xs => by simp only [toD, PyData.hasDict]; exact noDicts_of xs
  | .lst xs => by simp only [toD, PyData.hasDict]; exact noDicts_of xs
  | .fls xs => by simp only [toD, PyData.hasDict]; exact noDicts_of xs
theorem noDicts_of : ∀ xs : List A, PyData.hasDictAll (toDs xs) = false
  | [] => by simp only [toDs, PyData.hasDictAll]
  | x :: xs => by simp only [toDs, PyData.hasDictAll, noDict_of x, noDicts_of xs, Bool.or_self]
end
theorem len_intText {i : Int} (h : i.natAbs.log2 < 1920) : (Str.ofString (toString i)).length ≤ if i.natAbs < 10 ^ 18 then 20 else 1922 := by
  rw [PySem.ofString_length]
  split
  · rename_i h2
    have e := int_text_length_le10 (k := 18) (by decide) h2
    omega
  · have e := int_text_length_le (k := 1920) (by decide) h
    omega
theorem reprIs_d {x : A} (hs : isShow x = true) : isShow x = true := hs
mutual
theorem shown_le : ∀ x : A, isShow x = true → (toD x).shown.length ≤ shl x
  | .non, _ => by simp only [toD, PyData.shown, shl]; decide
  | .bl b, _ => by simp only [toD, PyData.shown, shl]; cases b <;> decide
  | .int i, h => by
    simp only [toD, PyData.shown, shl]
    exact len_intText (by simpa [isShow] using h)
  | .str x, _ => by simp only [toD, PyData.shown, shl]; exact Nat.le_refl _
  | .ty _, _ => by simp only [toD, PyData.shown, shl]; decide
  | .loc _, _ => by simp only [toD, PyData.shown, shl]; decide
  | .tup xs, h => by
    simp only [toD, PyData.shown, shl]
    have h1 := tupleText_len_le (PyData.shownAll (toDs xs))
    have h2 := showns_le xs (by simpa [isShow] using h)
    omega
  | .lst xs, h => by
    simp only [toD, PyData.shown, shl]
    have h1 := listText_len_le (PyData.shownAll (toDs xs))
    have h2 := showns_le xs (by simpa [isShow] using h)
    omega
  | .fls xs, h => by
    simp only [toD, PyData.shown, shl]
    have h1 := listText_len_le (PyData.shownAll (toDs xs))
    have h2 := showns_le xs (by simpa [isShow] using h)
    omega
theorem showns_le : ∀ xs : List A, isShows xs = true → ((PyData.shownAll (toDs xs)).map (·.length)).sum + 2 * (PyData.shownAll (toDs xs)).length ≤ shls xs
  | [], _ => by simp [toDs, PyData.shownAll, shls]
  | x :: xs, h => by
    simp only [isShows, Bool.and_eq_true] at h
    have h1 := shown_le x h.1
    have h2 := showns_le xs h.2
    simp only [toDs, PyData.shownAll, shls, List.map_cons, List.sum_cons, List.length_cons]
    omega
end
/-- data whose repr is asked -/
structure ShowOk (x : A) : Prop where
  sh : isShow x = true
  dp : deep x ≤ 60
  ln : shl x ≤ sizeLine
mutual
theorem dp_show : ∀ {K : PySem.W.Frag} {H : Hp} {x : A} {v : V}, isShow x = true → Rep K H x v → Dp K H v (toD x)
  | _, _, .non, _, _, h => by rw [rep_non] at h; subst h; exact .non
  | _, _, .bl b, _, _, h => by rw [rep_bl] at h; subst h; exact .bl b
  | _, _, .int i, _, _, h => by rw [rep_int] at h; subst h; exact .int i
  | _, _, .str x, _, _, h => by rw [rep_str] at h; subst h; exact .str x
  | _, _, .ty _, _, h, _ => by simp [isShow] at h
  | _, _, .loc _, _, h, _ => by simp [isShow] at h
  | _, _, .tup xs, _, hd, h => by
    rw [rep_tup] at h; obtain ⟨a, vs, rfl, h1, h2⟩ := h
    simp only [toD]
    exact .tup h1 (dps_show (by simpa [isShow] using hd) h2)
  | _, _, .lst xs, _, hd, h => by
    rw [rep_lst] at h; obtain ⟨a, vs, rfl, h1, h2⟩ := h
    simp only [toD]
    exact .lst (.inl (.inl h1)) (dps_show (by simpa [isShow] using hd) h2)
  | _, _, .fls xs, _, hd, h => by
    rw [rep_fls] at h; obtain ⟨a, vs, rfl, h1, h2⟩ := h
    simp only [toD]
    exact .lst h1 (dps_show (by simpa [isShow] using hd) h2)
theorem dps_show : ∀ {K : PySem.W.Frag} {H : Hp} {xs : List A} {vs : List V}, isShows xs = true → RepL K H xs vs → DpAll K H vs (toDs xs)
  | _, _, [], _, _, h => by simp only [RepL] at h; subst h; exact .nil
  | _, _, x :: xs, _, hd, h => by
    simp only [RepL] at h
    obtain ⟨v, r, rfl, h1, h2⟩ := h
    simp only [isShows, Bool.and_eq_true] at hd
    simp only [toDs]
    exact .cons (dp_show hd.1 h1) (dps_show hd.2 h2)
end
theorem wC_repr {k : Nat} {x : A} (ar : Ar X k) (hx : ShowOk x) (q : Q (.str (toD x).shown) μ) : wC X (.builtin "repr") [x] μ Q := by
  intro M F H vs rl rp
  refine ⟨fun pins s σ us I rv => ?_⟩
  obtain ⟨v, rfl, h⟩ := rp.one
  obtain ⟨u, rfl, ru⟩ := rv.one
  have hl := shown_le x hx.sh
  have hz : (toD x).shown.length ≤ sizeLine := Nat.le_trans hl hx.ln
  have fin : ∀ (t : Nat) (h' : Heap) (tk : Nat), (∀ b o, s.heap.get? b = some o → h'.get? b = some o) → EP X pins σ (QE X.K M F Q) (.str (toD x).shown t) { s with heap := h', toks := tk } := fun t h' tk kp => ⟨.str (toD x).shown, H, I.kept kp, ⟨t, rfl⟩, .pure rl (rep_str.mpr rfl) q⟩
  have big : ∀ a, u = .ref a → wpAny (model X.prog X.w) X.A (call (.builtin "repr") [u]) (EP X pins σ (QE X.K M F Q)) X.xe s := by
    intro a e
    subst e
    obtain ⟨as, rd⟩ := Dp.reads I (toD x) v _ (dp_show hx.sh (h.mono rl.sub)) ru
    have hd := depth_of x
    have hu := ar.u64
    exact repr_of_reads' rd (showable_of x hx.sh) (PyData.noDict_hsm (noDict_of x)) ar.show0 (by have := hx.dp; omega) (fun _ _ z => z) (fun h' t tk kp => fin t h' tk kp) hz
  cases x with
  | non =>
    rw [rep_non] at h; subst h; cases ru
    exact P.repr_of_none (by simpa only [toD, PyData.shown] using fin s.toks s.heap (s.toks + 1) fun _ _ z => z)
  | bl b =>
    rw [rep_bl] at h; subst h; cases ru
    exact P.repr_of_bool (by simpa only [toD, PyData.shown] using fin s.toks s.heap (s.toks + 1) fun _ _ z => z)
  | int i =>
    rw [rep_int] at h; subst h; obtain ⟨t, rfl⟩ := ru
    exact P.repr_of_int (by simpa [isShow] using hx.sh) (by simpa only [toD, PyData.shown] using fin s.toks s.heap (s.toks + 1) fun _ _ z => z)
  | str i =>
    rw [rep_str] at h; subst h; obtain ⟨t, rfl⟩ := ru
    exact P.repr_of_str (by simpa only [toD, PyData.shown] using fin s.toks s.heap (s.toks + 1) fun _ _ z => z) (by simpa only [toD, PyData.shown] using hz)
  | ty n => exact absurd hx.sh (by simp [isShow])
  | loc n => exact absurd hx.sh (by simp [isShow])
  | tup xs => rw [rep_tup] at h; obtain ⟨a, ws, rfl, _⟩ := h; cases ru; exact big a rfl
  | lst xs => rw [rep_lst] at h; obtain ⟨a, ws, rfl, _⟩ := h; cases ru; exact big a rfl
  | fls xs => rw [rep_fls] at h; obtain ⟨a, ws, rfl, _⟩ := h; cases ru; exact big a rfl
end
end D

set_option Elab.async false
set_option linter.all false
set_option maxRecDepth 100000
set_option maxHeartbeats 4000000
/-! D9: conveniences. -/
namespace D
open PySem PySem.Spec PyProof.Rows L2
section
variable {B : Bs} {X : Cx} {Γ : G} {μ : Mu} {Q : A → Mu → Prop} {Z Z' : AD} {e o i : Expr} {pos apos cpos : Pos} {st : Stmt} {ss rest : List Stmt}
variable {elt tg iter c : Expr} {scope : Scope} {ifs : List Expr}
theorem wS.imp (h : wS B X st Γ μ Z) (w1 : ∀ Γ μ, Z.nx Γ μ → Z'.nx Γ μ) (w2 : ∀ x μ, Z.rt x μ → Z'.rt x μ) (w3 : ∀ Γ μ, Z.bk Γ μ → Z'.bk Γ μ) (w4 : ∀ Γ μ, Z.ct Γ μ → Z'.ct Γ μ) : wS B X st Γ μ Z' := fun σ M F H bo rs r =>
  (h σ M F H bo rs r).imp (fun _ _ ⟨a, b, c, d, e, f, q⟩ => ⟨a, b, c, d, e, f, w1 _ _ q⟩) (fun _ _ ⟨a, b, c, d, e, f, q⟩ => ⟨a, b, c, d, e, f, w2 _ _ q⟩) (fun _ _ ⟨a, b, c, d, e, f, q⟩ => ⟨a, b, c, d, e, f, w3 _ _ q⟩) (fun _ _ ⟨a, b, c, d, e, f, q⟩ => ⟨a, b, c, d, e, f, w4 _ _ q⟩)
/-- a word P between a statement and what follows it -/
theorem wSs_cut (P : G → Mu → Prop) (h : wS B X st Γ μ { Z with nx := P }) (k : ∀ Γ' μ', P Γ' μ' → wSs B X rest Γ' μ' Z) : wSs B X (st :: rest) Γ μ Z :=
  wSs_cons (wS.imp h (fun _ _ q => k _ _ q) (fun _ _ q => q) (fun _ _ q => q) (fun _ _ q => q))
/-- what stands at the slots may be forgotten -/
theorem wSs_slots {Γ' : G} (hl : Γ'.length = Γ.length) (w : ∀ (i : Nat) (x : A), Γ'[i]? = some (some x) → Γ[i]? = some (some x)) (h : wSs B X ss Γ' μ Z) : wSs B X ss Γ μ Z := fun σ M F H bo rs r => h σ M F H bo (rs.weak hl w) r
/-- a comprehension whose turns only reckon, the list for good -/
theorem wE_lcF (own : List (Str × Nat)) (h : wIt B X tg iter Γ μ fun ys μ1 => ys.length ≤ sizeLine ∧ ∃ zs : List A, zs.length = ys.length ∧
      (∀ (i : Nat) y z, ys[i]? = some y → zs[i]? = some z → ∀ s0 H0 C cl fp, wGw B (bk X scope s0 H0 C cl fp) tg (own.map (·.2)) y (wipeA Γ (own.map (·.2))) μ1 fun Γ2 μ2 => μ2 = μ1 ∧ ∀ s0 H0 C cl fp, vE B (bk X scope s0 H0 C cl fp) elt Γ2 μ1 z) ∧ Q (.lst zs) μ1)
    (hN : X.N.Nodup) (ok : BlkOk X.N X.env.scope scope own) (hc : X.calm = true := by rfl) (hs : ∀ x, foldedSetIterable iter X.env x = pure x := by intro _; rfl) : wE B X (.ListComp elt [⟨tg, iter, [], 0⟩] scope pos) Γ μ Q := by
  refine wE_frz (wE_lc own (lcMap ?_) hN ok (.inl rfl) hc hs)
  intro σ M F H bo rs r
  refine ⟨fun pins s I => ?_⟩
  refine thn ((h σ M F H bo rs r).o pins s I) fun v s1 h1 => thn h1 fun itv s2 h2 => ?_
  obtain ⟨it, fp, tn, J0, H2, g1, g2, g3, g4, g5, ys, F1, μ1, e1, r1, wk, hz, zs, hl, turn, done⟩ := h2
  exact ⟨it, fp, tn, J0, H2, g1, g2, g3, g4, g5, ys, F1, μ1, e1, r1, wk, hz, zs, hl, turn, fun p np => ⟨p, zs, rfl, Mu.upd_same, by rw [Mu.del_upd np]; exact done⟩⟩
theorem wE_lcPF (own : List (Str × Nat)) (h : wIt B X tg iter Γ μ fun ys μ1 => ys.length ≤ sizeLine ∧ ∃ (ks : List Bool) (zs : List A), ks.length = ys.length ∧ zs.length = ys.length ∧
      (∀ (i : Nat) y k z, ys[i]? = some y → ks[i]? = some k → zs[i]? = some z → ∀ s0 H0 C cl fp, wGw B (bk X scope s0 H0 C cl fp) tg (own.map (·.2)) y (wipeA Γ (own.map (·.2))) μ1 fun Γ2 μ2 => μ2 = μ1 ∧ (∀ s0 H0 C cl fp, vT B (bk X scope s0 H0 C cl fp) c Γ2 μ1 k) ∧ (k = true → ∀ s0 H0 C cl fp, vE B (bk X scope s0 H0 C cl fp) elt Γ2 μ1 z)) ∧ Q (.lst (pickA ks zs)) μ1)
    (hN : X.N.Nodup) (ok : BlkOk X.N X.env.scope scope own) (hc : X.calm = true := by rfl) (hs : ∀ x, foldedSetIterable iter X.env x = pure x := by intro _; rfl) : wE B X (.ListComp elt [⟨tg, iter, [c], 0⟩] scope pos) Γ μ Q := by
  refine wE_frz (wE_lc own (lcPick ?_) hN ok (.inr ⟨_, rfl⟩) hc hs)
  intro σ M F H bo rs r
  refine ⟨fun pins s I => ?_⟩
  refine thn ((h σ M F H bo rs r).o pins s I) fun v s1 h1 => thn h1 fun itv s2 h2 => ?_
  obtain ⟨it, fp, tn, J0, H2, g1, g2, g3, g4, g5, ys, F1, μ1, e1, r1, wk, hz, ks, zs, hk, hl, turn, done⟩ := h2
  exact ⟨it, fp, tn, J0, H2, g1, g2, g3, g4, g5, ys, F1, μ1, e1, r1, wk, hz, ks, zs, hk, hl, turn, fun p np => ⟨p, _, rfl, Mu.upd_same, by rw [Mu.del_upd np]; exact done⟩⟩
/-- name = a comprehension, the list for good -/
theorem wS_frzNx (i : Nat) (h : wS B X st Γ μ { Z with nx := fun Γ' μ' => ∃ p xs, Γ'[i]? = some (some (.loc p)) ∧ μ' p = some (.lst xs) ∧ Z.nx (Γ'.set i (some (.lst xs))) (μ'.del p) }) : wS B X st Γ μ Z := fun σ M F H bo rs r =>
  (h σ M F H bo rs r).imp (fun σ' H' ⟨Γ', F', μ', ex, rs', rl', p, xs, e1, e2, q⟩ => by
    obtain ⟨F2, ex2, rl2, rp⟩ := rl'.freeze e2
    refine ⟨_, F2, _, ex.trans ex2, ?_, rl2, q⟩
    have r2 := rs'.mono ex2
    refine ⟨by rw [List.length_set]; exact rs'.len, fun j x q => ?_⟩
    rw [List.getElem?_set] at q
    split at q
    · rename_i e
      subst e
      split at q
      · cases q
        obtain ⟨v, h1, h2⟩ := rs'.at_ _ _ e1
        rw [rep_loc] at h2; subst h2
        exact ⟨_, h1, rp⟩
      · cases q
    · exact r2.at_ j x q) (fun _ _ q => q) (fun _ _ q => q) (fun _ _ q => q)
end
end D

set_option Elab.async false
set_option linter.all false
set_option maxRecDepth 100000
set_option maxHeartbeats 4000000
/-! DA: calls by what is known of a def, names for comprehensions. -/
namespace D
open PySem PySem.Spec PyProof.Rows L2
/-- what a caller knows of a def: it lets nothing out, keeps c, at most level k -/
structure Cal (P : Program) (w : World) (K : PySem.W.Frag) (mg : Str → Option Value) (base : Heap) (k : Nat) (x : Str) (c : AC) : Prop where
  ex : ∃ (f : Addr) (fd : FuncData) (ps : List Str), FnD P w K mg base CX0 k f fd ps c ∧ mg x = some (.ref f) ∧ PySem.W.keepIn K (.ref f) = true ∧ Binds K fd ps []
/-- .. the last arguments das by default -/
structure CalD (P : Program) (w : World) (K : PySem.W.Frag) (mg : Str → Option Value) (base : Heap) (k : Nat) (x : Str) (das : List A) (c : AC) : Prop where
  ex : ∃ (f : Addr) (fd : FuncData) (ps : List Str) (ds : List Value) (dvs : List V), FnD P w K mg base CX0 k f fd ps c ∧ mg x = some (.ref f) ∧ PySem.W.keepIn K (.ref f) = true ∧ Binds K fd ps ds ∧ Vals dvs ds ∧ ∀ F, RepL K F das dvs
section
variable {B : Bs} {X : Cx} {Γ : G} {μ : Mu} {Q : A → Mu → Prop} {Z : AD} {e : Expr} {es : List Expr} {pos p : Pos} {k j : Nat} {x : Str} {c : AC}
variable {elt tg iter t : Expr} {scope : Scope}
theorem wE_cal (C : Cal X.prog X.w X.K X.mg X.base k x c) (ar : Ar X j) (hk : k ≤ j) (h : wA B X (e :: es) Γ μ fun xs μ1 => c xs μ1 Q fun _ _ _ => False) (hg : Gl X x := by rfl) (hdb : (x == ("__debug__" : Str)) = false := by decide)
    (he : starEach (e :: es) X.env = (false, eval e X.env) :: starEach es X.env := by rfl) (hpl : (backTo pos (starEach es X.env)).any (·.1) = false := by rfl) : wE B X (.Call (.Name x p) (e :: es) [] pos) Γ μ Q := by
  obtain ⟨f, fd, ps, F, h1, h2, h3⟩ := C.ex
  exact wE_call F ⟨h1, h2, h3⟩ (ar.mono hk) h hg hdb he hpl
theorem wE_cal0 (C : Cal X.prog X.w X.K X.mg X.base k x c) (ar : Ar X j) (hk : k ≤ j) (h : c [] μ Q fun _ _ _ => False) (hg : Gl X x := by rfl) (hdb : (x == ("__debug__" : Str)) = false := by decide) : wE B X (.Call (.Name x p) [] [] pos) Γ μ Q := by
  obtain ⟨f, fd, ps, F, h1, h2, h3⟩ := C.ex
  exact wE_call0 F ⟨h1, h2, h3⟩ (ar.mono hk) h hg hdb
theorem wE_calD {das : List A} (C : CalD X.prog X.w X.K X.mg X.base k x das c) (ar : Ar X j) (hk : k ≤ j) (h : wA B X (e :: es) Γ μ fun xs μ1 => c (xs ++ das) μ1 Q fun _ _ _ => False) (hg : Gl X x := by rfl) (hdb : (x == ("__debug__" : Str)) = false := by decide)
    (he : starEach (e :: es) X.env = (false, eval e X.env) :: starEach es X.env := by rfl) (hpl : (backTo pos (starEach es X.env)).any (·.1) = false := by rfl) : wE B X (.Call (.Name x p) (e :: es) [] pos) Γ μ Q := by
  obtain ⟨f, fd, ps, ds, dvs, F, h1, h2, h3, h4, h5⟩ := C.ex
  exact wE_callD das F ⟨h1, h2, h3⟩ (ar.mono hk) h4 h5 h hg hdb he hpl
/-- name = a comprehension whose turns only reckon, the list for good -/
theorem wS_setLcF (own : List (Str × Nat)) (i : Nat) {y : Str} {py spos : Pos} (h : wIt B X tg iter Γ μ fun ys μ1 => ys.length ≤ sizeLine ∧ ∃ zs : List A, zs.length = ys.length ∧
      (∀ (i : Nat) y z, ys[i]? = some y → zs[i]? = some z → ∀ s0 H0 C cl fp, wGw B (bk X scope s0 H0 C cl fp) tg (own.map (·.2)) y (wipeA Γ (own.map (·.2))) μ1 fun Γ2 μ2 => μ2 = μ1 ∧ ∀ s0 H0 C cl fp, vE B (bk X scope s0 H0 C cl fp) elt Γ2 μ1 z) ∧ Z.nx (Γ.set i (some (.lst zs))) μ1)
    (hN : X.N.Nodup) (ok : BlkOk X.N X.env.scope scope own) (hsw : swapsWith (.ListComp elt [⟨tg, iter, [], 0⟩] scope pos) (some (.Name y py)) spos.line X.env = pure true) (hl : i < Γ.length := by exact Nat.le_of_ble_eq_true rfl)
    (hc : X.calm = true := by rfl) (hy : X.N[i]? = some y := by rfl) (hyl : X.env.scope.names.lookup y = some .local := by rfl) (hs : ∀ x, foldedSetIterable iter X.env x = pure x := by intro _; rfl) :
    wS B X (.Assign [.Name y py] (.ListComp elt [⟨tg, iter, [], 0⟩] scope pos) spos) Γ μ Z := by
  refine wS_frzNx i (wS_setLc own i (lcMap ?_) hN ok hsw (.inl rfl) hc hy hyl hs)
  intro σ M F H bo rs r
  refine ⟨fun pins s I => ?_⟩
  refine thn ((h σ M F H bo rs r).o pins s I) fun v s1 h1 => thn h1 fun itv s2 h2 => ?_
  obtain ⟨it, fp, tn, J0, H2, g1, g2, g3, g4, g5, ys, F1, μ1, e1, r1, wk, hz, zs, hl2, turn, done⟩ := h2
  refine ⟨it, fp, tn, J0, H2, g1, g2, g3, g4, g5, ys, F1, μ1, e1, r1, wk, hz, zs, hl2, turn, fun p np => ⟨p, zs, ?_, Mu.upd_same, ?_⟩⟩
  · rw [List.getElem?_set_self hl]
  · rw [Mu.del_upd np, List.set_set]; exact done
theorem wS_setLcPF (own : List (Str × Nat)) (i : Nat) {y : Str} {py spos : Pos} (h : wIt B X tg iter Γ μ fun ys μ1 => ys.length ≤ sizeLine ∧ ∃ (ks : List Bool) (zs : List A), ks.length = ys.length ∧ zs.length = ys.length ∧
      (∀ (i : Nat) y k z, ys[i]? = some y → ks[i]? = some k → zs[i]? = some z → ∀ s0 H0 C cl fp, wGw B (bk X scope s0 H0 C cl fp) tg (own.map (·.2)) y (wipeA Γ (own.map (·.2))) μ1 fun Γ2 μ2 => μ2 = μ1 ∧ (∀ s0 H0 C cl fp, vT B (bk X scope s0 H0 C cl fp) t Γ2 μ1 k) ∧ (k = true → ∀ s0 H0 C cl fp, vE B (bk X scope s0 H0 C cl fp) elt Γ2 μ1 z)) ∧ Z.nx (Γ.set i (some (.lst (pickA ks zs)))) μ1)
    (hN : X.N.Nodup) (ok : BlkOk X.N X.env.scope scope own) (hsw : swapsWith (.ListComp elt [⟨tg, iter, [t], 0⟩] scope pos) (some (.Name y py)) spos.line X.env = pure true) (hl : i < Γ.length := by exact Nat.le_of_ble_eq_true rfl)
    (hc : X.calm = true := by rfl) (hy : X.N[i]? = some y := by rfl) (hyl : X.env.scope.names.lookup y = some .local := by rfl) (hs : ∀ x, foldedSetIterable iter X.env x = pure x := by intro _; rfl) :
    wS B X (.Assign [.Name y py] (.ListComp elt [⟨tg, iter, [t], 0⟩] scope pos) spos) Γ μ Z := by
  refine wS_frzNx i (wS_setLc own i (lcPick ?_) hN ok hsw (.inr ⟨_, rfl⟩) hc hy hyl hs)
  intro σ M F H bo rs r
  refine ⟨fun pins s I => ?_⟩
  refine thn ((h σ M F H bo rs r).o pins s I) fun v s1 h1 => thn h1 fun itv s2 h2 => ?_
  obtain ⟨it, fp, tn, J0, H2, g1, g2, g3, g4, g5, ys, F1, μ1, e1, r1, wk, hz, ks, zs, hk, hl2, turn, done⟩ := h2
  refine ⟨it, fp, tn, J0, H2, g1, g2, g3, g4, g5, ys, F1, μ1, e1, r1, wk, hz, ks, zs, hk, hl2, turn, fun p np => ⟨p, _, ?_, Mu.upd_same, ?_⟩⟩
  · rw [List.getElem?_set_self hl]
  · rw [Mu.del_upd np, List.set_set]; exact done
end
section
variable {P : Program} {w : World} {mg : Str → Option Value} {base : Heap} {K : PySem.W.Frag}
theorem Cal.imp {k : Nat} {x : Str} {c c' : AC} (C : Cal P w K mg base k x c) (h : ∀ xs μ Q E, c' xs μ Q E → c xs μ Q E) : Cal P w K mg base k x c' := by
  obtain ⟨f, fd, ps, F, r⟩ := C.ex
  exact ⟨f, fd, ps, F.imp h, r⟩
end
theorem atI_pos {α : Type} {xs : List α} {i : Int} {y : α} (h : xs[i.toNat]? = some y) (h0 : 0 ≤ i) : atI xs i = some y := by
  have hl : i.toNat < xs.length := (List.getElem?_eq_some_iff.mp h).1
  unfold atI ixN
  rw [if_pos h0, if_pos (by omega)]
  exact h
theorem atI_neg {α : Type} {xs : List α} {i : Int} {y : α} (h : xs[(i + xs.length).toNat]? = some y) (h0 : i < 0) (h1 : -(xs.length : Int) ≤ i) : atI xs i = some y := by
  unfold atI ixN
  rw [if_neg (by omega), if_pos h1]
  exact h
end D

set_option Elab.async false
set_option linter.all false
set_option maxRecDepth 100000
set_option maxHeartbeats 4000000
/-! DB: small facts about what is walked; what a law draws by. -/
namespace D
open PySem PySem.Spec PyProof.Rows L2
theorem rgA_at {lo : Int} {n i : Nat} {y : A} (h : (rgA lo n)[i]? = some y) : i < n ∧ y = .int (lo + (i : Nat)) := by
  have hi : i < n := by have := (List.getElem?_eq_some_iff.mp h).1; rwa [rgA_len] at this
  rw [rgA_get hi] at h; cases h
  exact ⟨hi, rfl⟩
theorem mapR_at {α : Type} {f : Nat → α} {n i : Nat} {z : α} (h : ((List.range n).map f)[i]? = some z) : i < n ∧ z = f i := by
  have hi : i < n := by have := (List.getElem?_eq_some_iff.mp h).1; simpa using this
  simp [hi] at h
  exact ⟨hi, h.symm⟩
theorem map_at {α β : Type} {f : α → β} {l : List α} {i : Nat} {z : β} (h : (l.map f)[i]? = some z) : ∃ a, l[i]? = some a ∧ z = f a := by
  rw [List.getElem?_map] at h
  cases e : l[i]? with
  | none => simp [e] at h
  | some a => rw [e] at h; cases h; exact ⟨a, rfl, rfl⟩
theorem enumA_at {xs : List A} {i : Nat} {y : A} (h : (enumA 0 xs)[i]? = some y) : ∃ x, xs[i]? = some x ∧ y = .tup [.int (i : Nat), x] := by
  have hi : i < xs.length := by have := (List.getElem?_eq_some_iff.mp h).1; rwa [enumA_len] at this
  rw [enumA_get (List.getElem?_eq_getElem hi)] at h
  cases h
  exact ⟨xs[i], List.getElem?_eq_getElem hi, by simp⟩
theorem zipA_at : ∀ {xs ys : List A} {i : Nat} {y : A}, (zipA xs ys)[i]? = some y → ∃ a b, xs[i]? = some a ∧ ys[i]? = some b ∧ y = .tup [a, b]
  | [], _, _, _, h => by simp [zipA] at h
  | _ :: _, [], _, _, h => by simp [zipA] at h
  | x :: xs, z :: ys, 0, y, h => by simp [zipA] at h; exact ⟨x, z, rfl, rfl, h.symm⟩
  | x :: xs, z :: ys, i + 1, y, h => by
    simp only [zipA, List.getElem?_cons_succ] at h ⊢
    exact zipA_at h
section
variable {B : Bs} {X : Cx} {μ : Mu} {Q : A → Mu → Prop} {x y : A} {xs ys : List A}
/-- == of lists, ours or for good -/
theorem wO_eqL (hu : X.A.units + 64 < cLine) (hx : IsL μ x xs) (hy : IsL μ y ys) (dx : DatOk (.lst xs)) (dy : DatOk (.lst ys)) (q : Q (.bl (PyData.eqv (toD (.lst xs)) (toD (.lst ys)))) μ) : wO X (compareOp .Eq) x y μ Q :=
  wO_of (op_eqD hu) fun M F H v w rl r1 r2 => by
    obtain ⟨a, vs, e1, h1, h2⟩ := hx.rep rl r1
    obtain ⟨b, ws, e2, g1, g2⟩ := hy.rep rl r2
    have d1 : Dp X.K H v (toD (.lst xs)) := dp_of dx.1 (rep_lst.mpr ⟨a, vs, e1, h1, h2.mono rl.sub⟩)
    have d2 : Dp X.K H w (toD (.lst ys)) := dp_of dy.1 (rep_lst.mpr ⟨b, ws, e2, g1, g2.mono rl.sub⟩)
    exact ⟨_, _, d1, d2, dx.shaped, dy.shaped, .pure rl (rep_bl.mpr rfl) q⟩
theorem wO_neL (hu : X.A.units + 64 < cLine) (hx : IsL μ x xs) (hy : IsL μ y ys) (dx : DatOk (.lst xs)) (dy : DatOk (.lst ys)) (q : Q (.bl (!PyData.eqv (toD (.lst xs)) (toD (.lst ys)))) μ) : wO X (compareOp .NotEq) x y μ Q :=
  wO_of (op_neD hu) fun M F H v w rl r1 r2 => by
    obtain ⟨a, vs, e1, h1, h2⟩ := hx.rep rl r1
    obtain ⟨b, ws, e2, g1, g2⟩ := hy.rep rl r2
    have d1 : Dp X.K H v (toD (.lst xs)) := dp_of dx.1 (rep_lst.mpr ⟨a, vs, e1, h1, h2.mono rl.sub⟩)
    have d2 : Dp X.K H w (toD (.lst ys)) := dp_of dy.1 (rep_lst.mpr ⟨b, ws, e2, g1, g2.mono rl.sub⟩)
    exact ⟨_, _, d1, d2, dx.shaped, dy.shaped, .pure rl (rep_bl.mpr rfl) q⟩
end
theorem datInts (ns : List Int) : DatOk (.lst (ns.map A.int)) := by
  refine ⟨by simp only [isD]; exact isDs_map (fun _ => by simp only [isD]) ns, ?_⟩
  have : deeps (ns.map A.int) ≤ 0 := deeps_le fun a ha => by
    obtain ⟨n, _, rfl⟩ := List.mem_map.mp ha
    simp [deep]
  simp only [deep]; omega
theorem datNil : DatOk (.lst []) := ⟨rfl, by simp [deep, deeps]⟩
theorem eqvNil (xs : List A) : PyData.eqv (toD (.lst xs)) (toD (.lst [])) = xs.isEmpty := by
  cases xs with
  | nil => simp [toD, toDs, PyData.eqv, PyData.eqvAll]
  | cons x xs => simp [toD, toDs, PyData.eqv, PyData.eqvAll]
/-- sixty-four numbers -/
def G64 (fs : List Int) : Prop := fs.length = 64 ∧ ∀ v ∈ fs, 0 ≤ v ∧ v < 2 ^ 31
theorem G64.at {fs : List Int} (h : G64 fs) {i : Int} (h0 : 0 ≤ i) (h1 : i < 64) : ∃ v, atI (fs.map A.int) i = some (.int v) ∧ 0 ≤ v ∧ v < 2 ^ 31 := by
  have hi : i.toNat < fs.length := by rw [h.1]; omega
  refine ⟨fs[i.toNat], atI_pos (by rw [List.getElem?_map, List.getElem?_eq_getElem hi]; rfl) h0, h.2 _ (List.getElem_mem hi)⟩
theorem G64.set {fs : List Int} (h : G64 fs) (n : Nat) {v : Int} (h0 : 0 ≤ v) (h1 : v < 2 ^ 31) : G64 (fs.set n v) := by
  refine ⟨by rw [List.length_set]; exact h.1, fun u hu => ?_⟩
  rcases List.mem_or_eq_of_mem_set hu with hu | rfl
  · exact h.2 u hu
  · exact ⟨h0, h1⟩
theorem set_map {α : Type} (f : α → A) (l : List α) (n : Nat) (v : α) : (l.map f).set n (f v) = (l.set n v).map f := by rw [List.map_set]
theorem ixN_pos {n : Nat} {i : Int} (h0 : 0 ≤ i) (h1 : i < n) : ixN n i = some i.toNat := by
  unfold ixN; rw [if_pos h0, if_pos h1]
/-- what a law draws by: the dict at m, its list at l; at most c draws so far -/
structure Lw (m l : Addr) (c : Nat) (μ : Mu) : Prop where
  ex : ∃ (fs left : List Int) (at_ room : Int), μ m = some (.dic [(.inr "cells", .lst (fs.map A.int)), (.inr "left", .loc l), (.inr "at", .int at_), (.inr "room", .int room)]) ∧ μ l = some (.lst (left.map A.int)) ∧ G64 fs ∧ left.length ≤ 63 ∧ 0 ≤ at_ ∧ at_ ≤ c
  ne : l ≠ m
theorem Lw.up {m l : Addr} {c d : Nat} {μ : Mu} (h : Lw m l c μ) (hd : c ≤ d) : Lw m l d μ := by
  obtain ⟨⟨fs, left, a, r, h1, h2, h3, h4, h5, h6⟩, h7⟩ := h
  exact ⟨⟨fs, left, a, r, h1, h2, h3, h4, h5, by omega⟩, h7⟩
/-- all else stands -/
def Ls (m l : Addr) (μ μ' : Mu) : Prop := ∀ p o, p ≠ m → p ≠ l → μ p = some o → μ' p = some o
theorem Ls.refl {m l : Addr} (μ : Mu) : Ls m l μ μ := fun _ _ _ _ h => h
theorem Ls.trans {m l : Addr} {μ μ1 μ2 : Mu} (a : Ls m l μ μ1) (b : Ls m l μ1 μ2) : Ls m l μ μ2 := fun p o h1 h2 h => b p o h1 h2 (a p o h1 h2 h)
theorem Ls.m {m l : Addr} {μ : Mu} {o : MO} : Ls m l μ (μ.upd m o) := fun p o h1 h2 h => by rw [Mu.upd_ne h1]; exact h
theorem Ls.l {m l : Addr} {μ : Mu} {o : MO} : Ls m l μ (μ.upd l o) := fun p o h1 h2 h => by rw [Mu.upd_ne h2]; exact h
theorem Lw.sub {m l : Addr} {c : Nat} {μ μ' : Mu} (h : Lw m l c μ) (s : Sub μ μ') : Lw m l c μ' := by
  obtain ⟨⟨fs, left, a, r, h1, h2, h3⟩, h7⟩ := h
  exact ⟨⟨fs, left, a, r, s _ _ h1, s _ _ h2, h3⟩, h7⟩
/-- a new cell is neither m nor l -/
theorem Lw.off {m l : Addr} {c : Nat} {μ : Mu} (h : Lw m l c μ) {p : Addr} (n : μ p = none) : p ≠ m ∧ p ≠ l := by
  obtain ⟨⟨fs, left, a, r, h1, h2, h3⟩, h7⟩ := h
  exact ⟨fun z => by (rw [z, h1] at n; cases n), fun z => by (rw [z, h2] at n; cases n)⟩
end D

set_option Elab.async false
set_option linter.all false
set_option maxRecDepth 100000
set_option maxHeartbeats 4000000
/-! DF: small things of use in many laws. -/
namespace D
open PySem PySem.Spec PyProof.Rows L2
theorem szOk {n : Nat} (h : n ≤ 16777215) : n ≤ sizeLine := Nat.le_trans h (by decide)
theorem szLt {n : Nat} (h : n ≤ 16777215) : n < sizeLine := Nat.lt_of_le_of_lt h (by decide)
theorem and_flip {a b : Prop} (hb : b) (ha : a) : a ∧ b := ⟨ha, hb⟩
theorem Ar.bk {X : Cx} {k : Nat} (h : Ar X k) {scope : Scope} {s0 : Shared} {H0 : Hp} {C : Addr} {cl : List (Str × Addr)} {fp : List Addr} : Ar (D.bk X scope s0 H0 C cl fp) k := ⟨h.room, h.show0⟩
section
variable {B : Bs} {X : Cx} {Γ : G} {μ : Mu} {Q : A → Mu → Prop} {x : A} {xs : List A} {i : Int} {y : A}
theorem wI_tl (h : x = .tup xs ∨ x = .lst xs) (e : atI xs i = some y) (q : Q y μ) : wI X x (.int i) μ Q := by
  rcases h with rfl | rfl
  · exact wI_tup e q
  · exact wI_lst e q
end
theorem atInt {l : List Int} {i : Int} (k : Nat) (h0 : i = k) (h : k < l.length) : atI (l.map A.int) i = some (.int (l.getD k 0)) := by
  subst h0
  refine atI_pos ?_ (by omega)
  rw [Int.toNat_natCast, List.getElem?_map, List.getElem?_eq_getElem h]
  simp [List.getD_eq_getElem?_getD, List.getElem?_eq_getElem h]
theorem atLast {α : Type} {l : List α} {y : α} (h : l[l.length - 1]? = some y) : atI l (-1) = some y := by
  have hl : 0 < l.length := by have := (List.getElem?_eq_some_iff.mp h).1; omega
  refine atI_neg (by rw [show ((-1 : Int) + l.length).toNat = l.length - 1 by omega]; exact h) (by omega) (by omega)
theorem cut1 (l : List A) : cutA l (some 1) none = l.drop 1 := by
  unfold cutA HT.sIx
  simp only [show ¬ ((1 : Int) < 0) by omega, if_false]
  cases l with
  | nil => rfl
  | cons x l =>
    have e : min (1 : Int).toNat (x :: l).length = 1 := by simp
    rw [e]
    exact List.take_of_length_le (Nat.le_of_eq (by simp))
theorem cut1_at {α : Type} {f : α → A} {l : List α} {i : Nat} {y : A} (h : (cutA (l.map f) (some 1) none)[i]? = some y) : (l.map f)[i + 1]? = some y := by
  rw [cut1, List.getElem?_drop, Nat.add_comm] at h; exact h
def minL : List Int → Int
  | [] => 0
  | [x] => x
  | x :: y :: l => if x ≤ minL (y :: l) then x else minL (y :: l)
theorem minL_spec : ∀ {l : List Int}, 0 < l.length → minL l ∈ l ∧ ∀ y ∈ l, minL l ≤ y
  | [], h => by simp at h
  | [x], _ => by simp [minL]
  | x :: y :: l, _ => by
    obtain ⟨h1, h2⟩ := minL_spec (l := y :: l) (by simp)
    simp only [minL]
    split
    · rename_i hc
      exact ⟨by simp, List.forall_mem_cons.mpr ⟨Int.le_refl _, fun z hz => by have := h2 z hz; omega⟩⟩
    · rename_i hc
      exact ⟨List.mem_cons_of_mem _ h1, List.forall_mem_cons.mpr ⟨by omega, h2⟩⟩
theorem minL_eq {l : List Int} {m : Int} (h1 : m ∈ l) (h2 : ∀ y ∈ l, m ≤ y) : m = minL l := by
  obtain ⟨g1, g2⟩ := minL_spec (List.length_pos_of_mem h1)
  have := h2 _ g1
  have := g2 _ h1
  omega
mutual
theorem eqvInts_ : ∀ a b : List Int, PyData.eqvAll (toDs (a.map A.int)) (toDs (b.map A.int)) = decide (a = b)
  | [], [] => by simp [toDs, PyData.eqvAll]
  | [], y :: b => by simp [toDs, PyData.eqvAll]
  | x :: a, [] => by simp [toDs, PyData.eqvAll]
  | x :: a, y :: b => by
    simp only [List.map_cons, toDs, toD, PyData.eqvAll, PyData.eqv, eqvInts_ a b]
    by_cases h : x = y <;> by_cases h2 : a = b <;> simp [h, h2]
end
theorem eqvInts (a b : List Int) : PyData.eqv (toD (.lst (a.map A.int))) (toD (.lst (b.map A.int))) = decide (a = b) := by
  simp only [toD, PyData.eqv]; exact eqvInts_ a b
end D

set_option Elab.async false
set_option linter.all false
set_option maxRecDepth 100000
set_option maxHeartbeats 4000000
/-! DG: pop, extend, remove; chained comparisons. -/
namespace D
open PySem PySem.Spec PyProof.Rows L2
section
variable {B : Bs} {X : Cx} {Γ : G} {μ : Mu} {Q : A → Mu → Prop} {QB : Bool → Mu → Prop} {o e a b c : Expr} {apos cpos pos : Pos}
theorem RepL.dropLast {K : PySem.W.Frag} {F : Hp} {xs : List A} {vs : List V} (h : RepL K F xs vs) : RepL K F xs.dropLast vs.dropLast := by
  rw [List.dropLast_eq_take, List.dropLast_eq_take, h.len]; exact h.take _
theorem wE_pop (h : wE B X o Γ μ fun x μ1 => ∃ p ys y, x = .loc p ∧ μ1 p = some (.lst (ys ++ [y])) ∧ Q y (μ1.upd p (.lst ys)))
    (hbase : attributeBase o "pop" X.env (eval o X.env) = eval o X.env := by rfl)
    (hline : (apos.endLine == cpos.line) = true := by rfl) : wE B X (.Call (.Attribute o "pop" apos) [] [] cpos) Γ μ Q :=
  wE_of (pe_bm0 PySem.F.plainAttrs_list PySem.F.slot_list_pop PySem.F.type_list_pop mt_pop pe_rd hbase hline) fun σ M F H bo rs r => by
  refine (h σ M F H bo rs r).imp fun v H1 ⟨x, F1, μ1, e1, r1, p1, p, ys, y, ex, hp, q1⟩ => ?_
  subst ex; rw [rep_loc] at p1
  obtain ⟨_, ob, k1, vs, rfl, k2⟩ := r1.own p _ hp
  refine ⟨by rw [p1]; exact .inl ⟨rfl, _, .inl (.inl k1)⟩, ?_⟩
  have hl : (ys ++ [y])[vs.length - 1]? = some y := by rw [k2.len]; simp
  obtain ⟨w, g1, g2⟩ := k2.get hl
  refine ⟨p, vs, w, p1, rfl, k1, g1, y, F1, _, e1, r1.write hp (m' := .lst ys) ⟨_, rfl, ?_⟩, g2, q1⟩
  have := RepL.dropLast k2
  rwa [List.dropLast_concat] at this
theorem wE_extend (h : wE B X o Γ μ fun x μ1 => ∃ p ys0, x = .loc p ∧ μ1 p = some (.lst ys0) ∧ wE B X e Γ μ1 fun y μ2 => ∃ ys zs, μ2 p = some (.lst ys) ∧ IsL μ2 y zs ∧ ys.length + zs.length ≤ sizeLine ∧ Q .non (μ2.upd p (.lst (ys ++ zs))))
    (hbase : attributeBase o "extend" X.env (eval o X.env) = eval o X.env := by rfl)
    (hfew : ((backTo cpos (starEach [e] X.env)).all (fun x => !x.1) && (backToKw cpos (keywordEach [] X.env)).all (fun x => x.1.isSome) && decide (([e] : List Expr).length + ([] : List Keyword).length + (if ([] : List Keyword).isEmpty then 0 else 1) < 30)) = true := by rfl)
    (hline : (apos.endLine == cpos.line) = true := by rfl) (hs : starEach [e] X.env = (false, eval e X.env) :: starEach [] X.env := by rfl) (hplain : (backTo cpos (starEach [] X.env)).any (·.1) = false := by rfl) : wE B X (.Call (.Attribute o "extend" apos) [e] [] cpos) Γ μ Q :=
  wE_of (pe_bm PySem.F.plainAttrs_list PySem.F.slot_list_extend PySem.F.type_list_extend mt_extend pe_rd (pa_cons pe_rd pa_nil hs) hbase hfew hline hs hplain) fun σ M F H bo rs r => by
  refine (h σ M F H bo rs r).imp fun v H1 ⟨x, F1, μ1, e1, r1, p1, p, ys0, ex, hp, q1⟩ => ?_
  subst ex; rw [rep_loc] at p1
  obtain ⟨_, ob, k1, vs, rfl, k2⟩ := r1.own p _ hp
  refine ⟨by rw [p1]; exact .inl ⟨rfl, _, .inl (.inl k1)⟩, ?_⟩
  refine (q1 σ M F1 H1 (bo.mono e1) (rs.mono e1) r1).imp fun w H2 ⟨y, F2, μ2, e2, r2, p2, ys, zs, hq, hy, hz, q2⟩ => ?_
  obtain ⟨_, ob, k3, ws, rfl, k4⟩ := r2.own p _ hq
  obtain ⟨b, us, rfl, h1, h2⟩ := hy.rep r2 p2
  exact ⟨p, b, ws, us, p1, rfl, k3, h1, by rw [k4.len, h2.len]; exact hz, _, F2, _, e1.trans e2, r2.write hq (m' := .lst (ys ++ zs)) ⟨_, rfl, k4.append h2⟩, rep_non.mpr rfl, q2⟩
theorem wE_removeI (h : wE B X o Γ μ fun x μ1 => ∃ p ys0, x = .loc p ∧ μ1 p = some (.lst ys0) ∧ wE B X e Γ μ1 fun y μ2 => ∃ (ns : List Int) (k : Int), y = .int k ∧ μ2 p = some (.lst (ns.map A.int)) ∧ k ∈ ns ∧ Q .non (μ2.upd p (.lst ((ns.erase k).map A.int))))
    (hbase : attributeBase o "remove" X.env (eval o X.env) = eval o X.env := by rfl)
    (hfew : ((backTo cpos (starEach [e] X.env)).all (fun x => !x.1) && (backToKw cpos (keywordEach [] X.env)).all (fun x => x.1.isSome) && decide (([e] : List Expr).length + ([] : List Keyword).length + (if ([] : List Keyword).isEmpty then 0 else 1) < 30)) = true := by rfl)
    (hline : (apos.endLine == cpos.line) = true := by rfl) (hs : starEach [e] X.env = (false, eval e X.env) :: starEach [] X.env := by rfl) (hplain : (backTo cpos (starEach [] X.env)).any (·.1) = false := by rfl) : wE B X (.Call (.Attribute o "remove" apos) [e] [] cpos) Γ μ Q :=
  wE_of (pe_bm PySem.F.plainAttrs_list PySem.F.slot_list_remove PySem.F.type_list_remove mt_remove pe_rd (pa_cons pe_rd pa_nil hs) hbase hfew hline hs hplain) fun σ M F H bo rs r => by
  refine (h σ M F H bo rs r).imp fun v H1 ⟨x, F1, μ1, e1, r1, p1, p, ys0, ex, hp, q1⟩ => ?_
  subst ex; rw [rep_loc] at p1
  obtain ⟨_, ob, k1, vs, rfl, k2⟩ := r1.own p _ hp
  refine ⟨by rw [p1]; exact .inl ⟨rfl, _, .inl (.inl k1)⟩, ?_⟩
  refine (q1 σ M F1 H1 (bo.mono e1) (rs.mono e1) r1).imp fun w H2 ⟨y, F2, μ2, e2, r2, p2, ns, k, ey, hq, hk, q2⟩ => ?_
  subst ey; rw [rep_int] at p2; subst p2
  obtain ⟨_, ob, k3, ws, rfl, k4⟩ := r2.own p _ hq
  have e9 := repL_ints k4
  subst e9
  obtain ⟨j, _, j1, j2, j3⟩ := first_at hk
  refine ⟨p, ns, k, j, p1, rfl, k3, j1, j2, ?_⟩
  rw [j3]
  exact ⟨_, F2, _, e1.trans e2, r2.write hq (m' := .lst ((ns.erase k).map A.int)) ⟨_, rfl, .map (fun i => rep_int.mpr rfl) _⟩, rep_non.mpr rfl, q2⟩
theorem wT_chain2 {op op' : CmpOp} (h : wE B X a Γ μ fun x μ1 => wE B X b Γ μ1 fun y μ2 => wO X (compareOp op) x y μ2 fun z μ3 => ∃ k, z = .bl k ∧ (k = true → wE B X c Γ μ3 fun w μ4 => wO X (compareOp op') y w μ4 fun z μ5 => ∃ k, z = .bl k ∧ QB k μ5) ∧ (k = false → QB false μ3))
    (hm : lastMarks [op, op'] [b, c] = false := by with_unfolding_all rfl) : wT B X (.Compare a [op, op'] [b, c] pos) Γ μ QB := wT_of (pt_chain opr_rd opr_rd pe_rd pe_rd pe_rd hm) fun σ M F H bo rs r => by
  refine (h σ M F H bo rs r).imp fun v H1 ⟨x, F1, μ1, e1, r1, p1, q1⟩ => ?_
  refine (q1 σ M F1 H1 (bo.mono e1) (rs.mono e1) r1).imp fun w H2 ⟨y, F2, μ2, e2, r2, p2, q2⟩ => ?_
  refine ⟨fun pins s σ' v' u' I hv hw => ?_⟩
  refine thn ((q2 M F2 H2 v w r2 (p1.mono e2) p2).o pins s σ' v' u' I hv hw) fun _ _ ⟨z, H3, I3, r3, x3, F3, μ3, e3, rl3, p3, k, ek, q3, q4⟩ => ?_
  subst ek; rw [rep_bl] at p3
  refine ⟨z, H3, I3, r3, k, p3, ?_⟩
  have e12 := (e1.trans e2).trans e3
  cases k with
  | false => exact iteF ⟨false, rfl, F3, μ3, e12, rl3, q4 rfl⟩
  | true =>
    refine iteT ((q3 rfl σ M F3 H3 (bo.mono e12) (rs.mono e12) rl3).imp fun w' H4 ⟨y', F4, μ4, e4, r4, p4, q5⟩ => ?_)
    refine ⟨fun pins s σ' v' u' I hv hw => ?_⟩
    exact thn ((q5 M F4 H4 w w' r4 (p2.mono (e3.trans e4)) p4).o pins s σ' v' u' I hv hw) fun _ _ ⟨z', H5, I5, r5, x5, F5, μ5, e5, rl5, p5, k', ek', q6⟩ => by
      subst ek'; rw [rep_bl] at p5
      exact ⟨z', H5, I5, r5, k', p5, F5, μ5, (e12.trans e4).trans e5, rl5, q6⟩
end
end D

set_option Elab.async false
set_option linter.all false
set_option maxRecDepth 100000
set_option maxHeartbeats 4000000
/-! DH: methods of texts; int(text). -/
namespace D
open PySem PySem.Spec PyProof.Rows L2
section
variable {B : Bs} {X : Cx} {Γ : G} {μ : Mu} {Q : A → Mu → Prop} {o e : Expr} {apos pos : Pos}
def rdM (X : Cx) (id : String) : V → List V → Hp → VK → Prop := fun x xs H Q => Bx (∀ (pins : List (Addr × Obj)) (s : Shared) (σ : L2.St) (v : Value) (us : List Value), Inv X pins σ H s → RelV x v → Vals xs us → wpAny (model X.prog X.w) X.A (call (.builtin id) (v :: us)) (EP X pins σ Q) X.xe s)
theorem mtr_rd {id : String} : MtR X id (rdM X id) := fun pins s σ H x xs v us Q I rx rs h => h.o pins s σ v us I rx rs
def wM (X : Cx) (id : String) (x : A) (xs : List A) (μ : Mu) (Q : A → Mu → Prop) : Prop := ∀ M F H v vs, Rel X.K μ M F H → Rep X.K F x v → RepL X.K F xs vs → rdM X id v vs H (QE X.K M F Q)
theorem wM_of {id : String} {r : V → List V → Hp → VK → Prop} {x : A} {xs : List A} (h : MtR X id r) (q : ∀ M F H v vs, Rel X.K μ M F H → Rep X.K F x v → RepL X.K F xs vs → r v vs H (QE X.K M F Q)) : wM X id x xs μ Q :=
  fun M F H v vs rl r1 r2 => ⟨fun pins s σ v' us I rx rs => h pins s σ H v vs v' us _ I rx rs (q M F H v vs rl r1 r2)⟩
theorem wE_m0 {id : String} {name : Str} (slot : Slot "str" name id) (ty : typeOf (.builtin id) = pure (.type "method_descriptor")) (h : wE B X o Γ μ fun x μ1 => ∃ a, x = .str a ∧ wM X id (.str a) [] μ1 Q)
    (hbase : attributeBase o name X.env (eval o X.env) = eval o X.env := by rfl) (hline : (apos.endLine == pos.line) = true := by rfl) : wE B X (.Call (.Attribute o name apos) [] [] pos) Γ μ Q := wE_of (pe_m0 slot ty mtr_rd pe_rd hbase hline) fun σ M F H bo rs r => by
  refine (h σ M F H bo rs r).imp fun v H1 ⟨x, F1, μ1, e1, r1, p1, a, ex, q1⟩ => ?_
  subst ex
  refine ⟨⟨a, rep_str.mp p1⟩, ?_⟩
  refine ⟨fun pins s σ' v' us I rx rs' => ?_⟩
  exact thn ((q1 M F1 H1 v [] r1 p1 .nil).o pins s σ' v' us I rx rs') fun _ _ ⟨z, H2, I2, r2, q2⟩ => ⟨z, H2, I2, r2, q2.mono e1⟩
theorem wE_m1 {id : String} {name : Str} (slot : Slot "str" name id) (ty : typeOf (.builtin id) = pure (.type "method_descriptor")) (h : wE B X o Γ μ fun x μ1 => ∃ a, x = .str a ∧ wE B X e Γ μ1 fun y μ2 => wM X id (.str a) [y] μ2 Q)
    (hs : starEach [e] X.env = [(false, eval e X.env)] := by rfl) (hbase : attributeBase o name X.env (eval o X.env) = eval o X.env := by rfl) (hline : (apos.endLine == pos.line) = true := by rfl) : wE B X (.Call (.Attribute o name apos) [e] [] pos) Γ μ Q :=
  wE_of (pe_m1 slot ty mtr_rd pe_rd pe_rd hs hbase hline) fun σ M F H bo rs r => by
  refine (h σ M F H bo rs r).imp fun v H1 ⟨x, F1, μ1, e1, r1, p1, a, ex, q1⟩ => ?_
  subst ex
  refine ⟨⟨a, rep_str.mp p1⟩, ?_⟩
  refine (q1 σ M F1 H1 (bo.mono e1) (rs.mono e1) r1).imp fun w H2 ⟨y, F2, μ2, e2, r2, p2, q2⟩ => ?_
  refine ⟨fun pins s σ' v' us I rx rs' => ?_⟩
  exact thn ((q2 M F2 H2 v [w] r2 (p1.mono e2) (.cons p2 .nil)).o pins s σ' v' us I rx rs') fun _ _ ⟨z, H3, I3, r3, q3⟩ => ⟨z, H3, I3, r3, q3.mono (e1.trans e2)⟩
theorem wM_tt {id : String} {g : Str → Str → V} {f : Str → Str → A} {a b : Str} (h : MtR X id (fun x xs H Q => ∃ a b, x = .str a ∧ xs = [.str b] ∧ Q (g a b) H)) (hf : ∀ F, Rep X.K F (f a b) (g a b)) (q : Q (f a b) μ) : wM X id (.str a) [.str b] μ Q := wM_of h fun M F H v vs rl r1 r2 => by
  obtain ⟨w, rfl, r3⟩ := r2.one
  exact ⟨a, b, rep_str.mp r1, by rw [rep_str.mp r3], .pure rl (hf F) q⟩
theorem wM_startswith {a b : Str} (q : Q (.bl (Txt.startswith a b)) μ) : wM X "str.startswith" (.str a) [.str b] μ Q := wM_tt (f := fun a b => .bl (Txt.startswith a b)) mt_startswith (fun F => rep_bl.mpr rfl) q
theorem wM_endswith {a b : Str} (q : Q (.bl (Txt.endswith a b)) μ) : wM X "str.endswith" (.str a) [.str b] μ Q := wM_tt (f := fun a b => .bl (Txt.endswith a b)) mt_endswith (fun F => rep_bl.mpr rfl) q
theorem wM_partition {a b : Str} (hb : (b.length == 0) = false) (hz : a.length ≤ sizeLine) (q : Q (.tup [.str (Txt.partition a b).1, .str (Txt.partition a b).2.1, .str (Txt.partition a b).2.2]) μ) : wM X "str.partition" (.str a) [.str b] μ Q := wM_of mt_partition fun M F H v vs rl r1 r2 => by
  obtain ⟨w, rfl, r3⟩ := r2.one
  refine ⟨a, b, rep_str.mp r1, by rw [rep_str.mp r3], hb, hz, fun p np => ?_⟩
  obtain ⟨ex, rl'⟩ := rl.newF (o := .tup [.str (Txt.partition a b).1, .str (Txt.partition a b).2.1, .str (Txt.partition a b).2.2]) np
  exact ⟨_, _, _, ex, rl', rep_tup.mpr ⟨p, _, rfl, .inl (.inl upd_same), .cons (rep_str.mpr rfl) (.cons (rep_str.mpr rfl) (.cons (rep_str.mpr rfl) .nil))⟩, q⟩
theorem repL_mkS {K : PySem.W.Frag} {F : Hp} (ys : List Str) : RepL K F (ys.map A.str) (ys.map V.str) := by
  induction ys with
  | nil => exact .nil
  | cons y ys ih => exact .cons (rep_str.mpr rfl) ih
theorem wM_split {a b : Str} (hb : (b.length == 0) = false) (hz : a.length + 2 ≤ sizeLine) (q : Q (.lst ((Txt.split a b).map A.str)) μ) : wM X "str.split" (.str a) [.str b] μ Q := wM_of mt_split fun M F H v vs rl r1 r2 => by
  obtain ⟨w, rfl, r3⟩ := r2.one
  refine ⟨a, b, rep_str.mp r1, by rw [rep_str.mp r3], hb, hz, fun p np => ?_⟩
  obtain ⟨ex, rl'⟩ := rl.newF (o := .lst ((Txt.split a b).map V.str)) np
  exact ⟨_, _, _, ex, rl', rep_lst.mpr ⟨p, _, rfl, upd_same, repL_mkS _⟩, q⟩
theorem wM_words {a : Str} (hz : a.length + 2 ≤ sizeLine) (q : Q (.lst ((Txt.words a).map A.str)) μ) : wM X "str.split" (.str a) [] μ Q := wM_of mt_words fun M F H v vs rl r1 r2 => by
  refine ⟨a, rep_str.mp r1, by simpa [RepL] using r2, hz, fun p np => ?_⟩
  obtain ⟨ex, rl'⟩ := rl.newF (o := .lst ((Txt.words a).map V.str)) np
  exact ⟨_, _, _, ex, rl', rep_lst.mpr ⟨p, _, rfl, upd_same, repL_mkS _⟩, q⟩
theorem wM_join {a : Str} {x : A} {ys : List Str} (hx : IsL μ x (ys.map A.str) ∨ x = .tup (ys.map A.str)) (hz : (ys.map (·.length)).sum + ys.length * a.length ≤ 16777216) (q : Q (.str (Txt.join a ys)) μ) : wM X "str.join" (.str a) [x] μ Q := wM_of mt_join fun M F H v vs rl r1 r2 => by
  obtain ⟨w, rfl, r3⟩ := r2.one
  rcases hx with hx | rfl
  · obtain ⟨p, ws, rfl, h1, h2⟩ := hx.rep rl r3
    rw [repL_strs h2] at h1
    exact ⟨a, p, ys, rep_str.mp r1, rfl, .inl (.inl (.inl h1)), hz, .pure rl (rep_str.mpr rfl) q⟩
  · rw [rep_tup] at r3
    obtain ⟨p, ws, rfl, h1, h2⟩ := r3
    rw [repL_strs h2] at h1
    exact ⟨a, p, ys, rep_str.mp r1, rfl, .inr (rl.sub.t h1), hz, .pure rl (rep_str.mpr rfl) q⟩
theorem wM_strip {a : Str} (hz : a.length ≤ sizeLine) (q : Q (.str (Txt.strip a)) μ) : wM X "str.strip" (.str a) [] μ Q := wM_of mt_strip fun M F H v vs rl r1 r2 => ⟨a, rep_str.mp r1, by simpa [RepL] using r2, hz, .pure rl (rep_str.mpr rfl) q⟩
theorem wC_intS {a : Str} {n : Int} (hn : PySem.intText? a = some n) (hl : a.length ≤ 640) (q : Q (.int n) μ) : wC X (.type "int") [.str a] μ Q := wC_of call_int_str fun M F H vs rl r => by
  obtain ⟨v, rfl, h⟩ := r.one; rw [rep_str] at h; subst h
  exact ⟨a, n, rfl, hn, hl, .pure rl (rep_int.mpr rfl) q⟩
end
end D

set_option Elab.async false
set_option linter.all false
set_option maxRecDepth 100000
set_option maxHeartbeats 4000000
/-! DI: great numbers, and fractions in lowest terms. -/
namespace D
open PySem PySem.Spec PyProof.Rows L2
theorem log2_100 {i : Int} (h0 : 0 < i) (h1 : i < 2 ^ 100) : i.natAbs.log2 < 9000 := by
  have : i.natAbs < 2 ^ 100 := by omega
  exact Nat.lt_of_lt_of_le ((Nat.log2_lt (by omega)).mpr this) (by decide)
/-- a number of at most n bits -/
def Bd (n : Nat) (i : Int) : Prop := i.natAbs < 2 ^ n
theorem Bd.mono {n m : Nat} {i : Int} (h : Bd n i) (hm : n ≤ m) : Bd m i := Nat.lt_of_lt_of_le h (Nat.pow_le_pow_right (by decide) hm)
theorem Bd.mul {n m : Nat} {i j : Int} (hi : Bd n i) (hj : Bd m j) : Bd (n + m) (i * j) := by
  unfold Bd; rw [Int.natAbs_mul, Nat.pow_add]; exact Nat.mul_lt_mul'' hi hj
theorem Bd.add {n : Nat} {i j : Int} (hi : Bd n i) (hj : Bd n j) : Bd (n + 1) (i + j) := by
  unfold Bd at *; rw [Nat.pow_succ]; omega
theorem Bd.sub {n : Nat} {i j : Int} (hi : Bd n i) (hj : Bd n j) : Bd (n + 1) (i - j) := by
  unfold Bd at *; rw [Nat.pow_succ]; omega
theorem Bd.log {n : Nat} {i : Int} (h : Bd n i) (hn : 0 < n) : i.natAbs.log2 < n := by
  rcases Nat.eq_zero_or_pos i.natAbs with h0 | h0
  · rw [h0]; simpa using hn
  · exact (Nat.log2_lt (by omega)).mpr h
theorem Bd.of {n : Nat} {i : Int} (h1 : -(2 ^ n : Nat) < i) (h2 : i < (2 ^ n : Nat)) : Bd n i := by unfold Bd; omega
theorem Bd.mulOk {n : Nat} {i j : Int} (hi : Bd n i) (hj : Bd n j) (hn : n ≤ 2 ^ 20) : IntMulOk i j := by
  have key : ∀ {x : Int}, Bd n x → Builtin.Int.intBits x ≤ 2 ^ 20 := fun {x} hx => by
    unfold Builtin.Int.intBits
    split
    · decide
    · rename_i h
      have h0 : x.natAbs ≠ 0 := by simpa using h
      have := (Nat.log2_lt h0).mpr hx
      omega
  exact IntMulOk.of_bits (key hi) (key hj)
theorem Bd.noPy {n : Nat} {i j : Int} (hj : Bd n j) (hn : n ≤ 9000) (h0 : 0 < n) : Builtin.divisionGoesByPylong i j = false := PyProof.noPylong_of_log2 (Nat.lt_of_lt_of_le (hj.log h0) hn)
/-- the sign of d on the greatest part of both -/
def part (n d : Int) : Int := if 0 < d then (Int.gcd n d : Int) else 0 - (Int.gcd n d : Int)
def lowN (n d : Int) : Int := n.fdiv (part n d)
def lowD (n d : Int) : Int := d.fdiv (part n d)
def low (n d : Int) : A := .tup [.int (lowN n d), .int (lowD n d)]
theorem part_ne {n d : Int} (h : d ≠ 0) : part n d ≠ 0 := by
  have : 0 < Int.gcd n d := Int.gcd_pos_of_ne_zero_right _ h
  unfold part; split <;> omega
theorem part_bd {n d : Int} {k : Nat} (h : d ≠ 0) (hd : Bd k d) : Bd k (part n d) := by
  have h1 : Int.gcd n d ≤ d.natAbs := Nat.le_of_dvd (by omega) (Int.gcd_dvd_natAbs_right n d)
  unfold Bd at *
  have : (part n d).natAbs = Int.gcd n d := by unfold part; split <;> omega
  omega
theorem part_n {n d : Int} : part n d ∣ n := by
  have := Int.gcd_dvd_left n d
  unfold part; split
  · exact this
  · rw [show (0 : Int) - (Int.gcd n d : Int) = -(Int.gcd n d : Int) by omega]; exact (Int.neg_dvd).mpr this
theorem part_d {n d : Int} : part n d ∣ d := by
  have := Int.gcd_dvd_right n d
  unfold part; split
  · exact this
  · rw [show (0 : Int) - (Int.gcd n d : Int) = -(Int.gcd n d : Int) by omega]; exact (Int.neg_dvd).mpr this
theorem lowN_eq {n d : Int} (h : d ≠ 0) : lowN n d * part n d = n := by unfold lowN; rw [Int.fdiv_eq_ediv_of_dvd part_n, Int.ediv_mul_cancel part_n]
theorem lowD_eq {n d : Int} (h : d ≠ 0) : lowD n d * part n d = d := by unfold lowD; rw [Int.fdiv_eq_ediv_of_dvd part_d, Int.ediv_mul_cancel part_d]
end D
namespace D
open PySem PySem.Spec PyProof.Rows L2
/-- a fraction in lowest terms -/
structure Fr (n d : Int) : Prop where
  pos : 0 < d
  low : Int.gcd n d = 1
theorem part_pos {n d : Int} (h : 0 < d) : part n d = (Int.gcd n d : Int) := by unfold part; rw [if_pos h]
theorem low_fr {n d : Int} (h : 0 < d) : Fr (lowN n d) (lowD n d) := by
  have hg : 0 < Int.gcd n d := Int.gcd_pos_of_ne_zero_right _ (by omega)
  have e1 : lowN n d = n / (Int.gcd n d : Int) := by unfold lowN; rw [Int.fdiv_eq_ediv_of_dvd part_n, part_pos h]
  have e2 : lowD n d = d / (Int.gcd n d : Int) := by unfold lowD; rw [Int.fdiv_eq_ediv_of_dvd part_d, part_pos h]
  refine ⟨?_, by rw [e1, e2]; exact Int.gcd_ediv_gcd_ediv_gcd hg⟩
  have h2 := lowD_eq (n := n) (d := d) (by omega)
  rw [part_pos h] at h2
  refine Int.pos_of_mul_pos_left (b := (Int.gcd n d : Int)) ?_ (by omega)
  omega
theorem lowN_le {n d : Int} (h : d ≠ 0) : (lowN n d).natAbs ≤ n.natAbs := by
  have h1 := lowN_eq (n := n) h
  have h2 : 0 < (part n d).natAbs := by have := part_ne (n := n) h; omega
  have e : n.natAbs = (lowN n d).natAbs * (part n d).natAbs := by rw [← Int.natAbs_mul, h1]
  rw [e]; exact Nat.le_mul_of_pos_right _ h2
theorem lowD_le {n d : Int} (h : d ≠ 0) : (lowD n d).natAbs ≤ d.natAbs := by
  have h1 := lowD_eq (n := n) h
  have h2 : 0 < (part n d).natAbs := by have := part_ne (n := n) h; omega
  have e : d.natAbs = (lowD n d).natAbs * (part n d).natAbs := by rw [← Int.natAbs_mul, h1]
  rw [e]; exact Nat.le_mul_of_pos_right _ h2
/-- what is in lowest terms stays so, told in others -/
theorem low_of {n d k : Int} (h : Fr n d) (hk : 0 < k) : low (n * k) (d * k) = .tup [.int n, .int d] := by
  have hd : 0 < d * k := Int.mul_pos h.pos hk
  have g : (Int.gcd (n * k) (d * k) : Int) = k := by rw [Int.gcd_mul_right, h.low]; omega
  have p : part (n * k) (d * k) = k := by rw [part_pos hd, g]
  unfold low lowN lowD
  rw [p, Int.fdiv_eq_ediv_of_dvd ⟨n, Int.mul_comm _ _⟩, Int.fdiv_eq_ediv_of_dvd ⟨d, Int.mul_comm _ _⟩, Int.mul_ediv_cancel _ (by omega), Int.mul_ediv_cancel _ (by omega)]
end D

set_option Elab.async false
set_option linter.all false
set_option maxRecDepth 100000
set_option maxHeartbeats 4000000
/-! DJ: constants of the module, defs with defaults. -/
namespace D
open PySem PySem.Spec PyProof.Rows L2
section
variable {P : Program} {w : World} {mg : Str → Option Value} {base : Heap} {K : PySem.W.Frag}
/-- THE RULE for a def with defaults -/
theorem fnDD {x qual : Str} {st : Stmt} {f : Addr} {fd : FuncData} {N ps : List Str} {k : Nat} {c : AC} {dvs : List V} {kws : List (Str × V)} (F : FunD K x qual (defArgs st) (defBody st) (defScope st) dvs kws f fd) (S : FnScope N ps (defScope st)) (len : ∀ xs μ Q E, c xs μ Q E → xs.length = ps.length)
    (go : ∀ {B : Bs} (cdv : Value) (A : Around) (outer : List Env) (s : Shared) (H : Hp) (E : XK) (xs : List D.A) (μ : Mu) (Q : D.A → Mu → Prop) (E0 : Value → Option Addr → Mu → Prop), Ar (cx0 P w K mg base N qual (defScope st) f cdv A outer s H E) k → c xs μ Q E0 →
      wSs B (cx0 P w K mg base N qual (defScope st) f cdv A outer s H E) (defBody st) (startA N xs) μ { nx := fun _ μ' => Q .non μ', rt := Q }) : FnD P w K mg base CX0 (k + 1) f fd ps c := by
  obtain ⟨oc, od, dV, kV, doc, pm, an, cdv, ct, osl, rfl, lk, hcd, _, _⟩ := F.ex
  refine FnD.body lk hcd S len fun A outer s H vs Q E room sh sp => rdSs_nox ?_
  obtain ⟨xs, F0, M, μ, Q0, E0, rp, rl, hc, hq, he⟩ := sp
  refine (go cdv A outer s H E xs μ Q0 E0 ⟨room, sh⟩ hc (L2.start N vs) M F0 H (Bs.ok.own M F0) (relS_start N rp) rl).imp (fun σ2 H2 q => ?_) (fun v H2 q => ?_) (fun σ2 H2 q => ?_) (fun σ2 H2 q => ?_)
  · obtain ⟨Γ', F', μ', ex, _, rl', q⟩ := q
    exact hq .non μ' F' H2 .non q ex rl' (rep_non.mpr rfl)
  · obtain ⟨y, F', μ', ex, rl', rp', q⟩ := q
    exact hq y μ' F' H2 v q ex rl' rp'
  · obtain ⟨_, _, _, _, _, _, q⟩ := q; exact q
  · obtain ⟨_, _, _, _, _, _, q⟩ := q; exact q
/-- what stands as defaults -/
theorem fund_mk {x qual : Str} {st : Stmt} {f T : Addr} {oc tc : Value} {od an td : Option Addr} {osl tsl : Array (Option Value)} {kV doc pm cdv ct : Value} {its : Array Value} {n : Nat} {dvs : List V}
    (l : K.lookup f = some ⟨oc, od, .func (PySem.W.fnOf x qual (defArgs st) (defBody st) (defScope st) (.ref T) kV doc pm an cdv ct), osl⟩)
    (c : PySem.W.codeIn K cdv qual = true) (k : PySem.W.keepIn K (.ref f) = true) (lT : K.lookup T = some ⟨tc, td, .seq its n, tsl⟩) (hv : Vals dvs its.toList) (hd : dvs ≠ []) :
    FunD K x qual (defArgs st) (defBody st) (defScope st) dvs [] f (PySem.W.fnOf x qual (defArgs st) (defBody st) (defScope st) (.ref T) kV doc pm an cdv ct) :=
  ⟨⟨oc, od, .ref T, kV, doc, pm, an, cdv, ct, osl, rfl, l, c, .inr ⟨hd, T, _, its.toList, n, rfl, lT, rfl, hv⟩, .inl rfl⟩, k⟩
def strOf : Value → Option Str
  | .str x _ => some x
  | _ => none
def intOf : Value → Option Int
  | .int i _ => some i
  | _ => none
theorem vals_by {α : Type} {f : Value → Option α} {g : α → V} (hf : ∀ u x, f u = some x → RelV (g x) u) : ∀ (us : List Value) (ws : List α), us.map f = ws.map some → Vals (ws.map g) us := by
  intro us
  induction us with
  | nil => intro ws e; cases ws <;> first | exact .nil | simp at e
  | cons u us ih =>
    intro ws e
    cases ws with
    | nil => simp at e
    | cons x ws =>
      have e2 : f u = some x ∧ us.map f = ws.map some := by simpa using e
      exact .cons (hf u x e2.1) (ih ws e2.2)
theorem vals_strs {us : List Value} {ws : List Str} (e : us.map strOf = ws.map some) : Vals (ws.map V.str) us :=
  vals_by (f := strOf) (g := V.str) (fun u x q => by cases u <;> simp [strOf] at q <;> exact q ▸ ⟨_, rfl⟩) us ws e
theorem vals_nums {us : List Value} {ws : List Int} (e : us.map intOf = ws.map some) : Vals (ws.map V.int) us :=
  vals_by (f := intOf) (g := V.int) (fun u x q => by cases u <;> simp [intOf] at q <;> exact q ▸ ⟨_, rfl⟩) us ws e
theorem kn_int {h : Heap} {x : Str} {i : Int} {t : Tok} (X : K.In h) (G : h.Ns mainGlobals mg) (q : PySem.W.nsIn K mainGlobals x = some (some (.int i t))) : Kn K mg x (.int i) := ⟨.int i, _, PySem.W.mg_of X G q, ⟨_, rfl⟩, fun F => rep_int.mpr rfl⟩
theorem kn_str {h : Heap} {x y z : Str} {t : Tok} (X : K.In h) (G : h.Ns mainGlobals mg) (q : PySem.W.nsIn K mainGlobals x = some (some (.str y t))) (e : y = z) : Kn K mg x (.str z) := by
  subst e
  exact ⟨.str y, _, PySem.W.mg_of X G q, ⟨_, rfl⟩, fun F => rep_str.mpr rfl⟩
theorem repL_strs' {F : Hp} (ws : List Str) : RepL K F (ws.map A.str) (ws.map V.str) := .map (fun w => rep_str.mpr rfl) ws
theorem kn_strs {h : Heap} {x : Str} {p : Addr} {its : Array Value} {n : Nat} {sl : Array (Option Value)} {od : Option Addr} {ws : List Str} (X : K.In h) (G : h.Ns mainGlobals mg) (q : PySem.W.nsIn K mainGlobals x = some (some (.ref p)))
    (l : K.lookup p = some ⟨.type "tuple", od, .seq its n, sl⟩) (e : its.toList.map strOf = ws.map some) (hz : ws.length ≤ 1000) : Kn K mg x (.tup (ws.map A.str)) := by
  have hv := vals_strs e
  have hl : its.size = ws.length := by have := congrArg List.length e; simpa using this
  exact ⟨.ref p, _, PySem.W.mg_of X G q, rfl, fun F => rep_tup.mpr ⟨p, ws.map V.str, rfl, .inr ⟨_, its, n, l, rfl, rfl, by rw [hl]; exact Nat.le_trans hz (by decide), hv⟩, repL_strs' ws⟩⟩
end
end D

set_option Elab.async false
set_option linter.all false
set_option maxRecDepth 100000
set_option maxHeartbeats 4000000
/-! DK: instances of own classes, their fields and methods; more of dicts. -/
namespace D
open PySem PySem.Spec PyProof.Rows L2
section
variable {K : PySem.W.Frag} {F : Hp} {f : Str}
theorem lookup_some : ∀ {fs : List (Str × A)} {ws : List (Str × V)} {y : A}, RepK K F fs ws → fs.lookup f = some y → ∃ v, ws.lookup f = some v ∧ Rep K F y v
  | [], _, _, _, e => by simp at e
  | (g, x) :: r, _, y, ⟨v, t, h1, h2, h3⟩, e => by
    subst h1
    rw [List.lookup_cons] at e ⊢
    cases hg : f == g with
    | true => rw [hg] at e; cases e; exact ⟨v, rfl, h2⟩
    | false => rw [hg] at e; exact lookup_some h3 e
theorem lookup_none : ∀ {fs : List (Str × A)} {ws : List (Str × V)}, RepK K F fs ws → fs.lookup f = none → ws.lookup f = none
  | [], _, h, _ => by rw [show _ = [] from h]; rfl
  | (g, x) :: r, _, ⟨v, t, h1, h2, h3⟩, e => by
    subst h1
    rw [List.lookup_cons] at e ⊢
    cases hg : f == g with
    | true => rw [hg] at e; cases e
    | false => rw [hg] at e; exact lookup_none h3 e
/-- the fields, one of them stored -/
def putL (f : Str) (y : A) : List (Str × A) → List (Str × A)
  | [] => [(f, y)]
  | (g, x) :: r => if g = f then (g, y) :: r else (g, x) :: putL f y r
theorem putL_rep {y : A} {v : V} (hy : Rep K F y v) : ∀ {fs : List (Str × A)} {ws : List (Str × V)}, RepK K F fs ws → RepK K F (putL f y fs) (putF f v ws)
  | [], _, h => by rw [show _ = [] from h]; exact ⟨v, [], rfl, hy, rfl⟩
  | (g, x) :: r, _, ⟨u, t, h1, h2, h3⟩ => by
    subst h1
    by_cases hg : g = f
    · simp only [putL, putF, if_pos hg]; exact ⟨v, t, rfl, hy, h3⟩
    · simp only [putL, putF, if_neg hg]; exact ⟨u, _, rfl, h2, putL_rep hy h3⟩
end
section
variable {B : Bs} {X : Cx} {Γ : G} {μ : Mu} {Q : A → Mu → Prop} {Z : AD} {a b c e o value : Expr} {es : List Expr} {pos apos tpos p0 : Pos} {f m : Str} {C : Addr} {j k : Nat} {cc : AC}
/-- o.f -/
theorem wE_fld (cl : Cls X.K C) (n : NoAttr X.K C f) (h : wE B X e Γ μ fun x μ1 => ∃ p dx fs y, x = .loc p ∧ μ1 p = some (.ins C dx fs) ∧ fs.lookup f = some y ∧ Q y μ1) (hb : attributeBase e f X.env (eval e X.env) = eval e X.env := by rfl) : wE B X (.Attribute e f pos) Γ μ Q := wE_of (pe_fld pe_rd hb) fun σ M F H bo rs r => by
  refine (h σ M F H bo rs r).imp fun v H1 ⟨x, F1, μ1, e1, r1, p1, p, dx, fs, y, ex, hp, hl, q1⟩ => ?_
  subst ex; rw [rep_loc] at p1
  obtain ⟨_, ob, g1, ws, rfl, g2⟩ := r1.own p _ hp
  obtain ⟨v1, k1, k2⟩ := lookup_some g2 hl
  exact ⟨p, C, dx, ws, v1, p1, g1, cl, n, k1, y, F1, μ1, e1, r1, k2, q1⟩
/-- o.f = value -/
theorem wS_fld (cl : Cls X.K C) (n : NoAttr X.K C f) (h : wE B X value Γ μ fun y μ1 => wE B X o Γ μ1 fun x μ2 => ∃ p dx fs, x = .loc p ∧ μ2 p = some (.ins C dx fs) ∧ fs.length < 1000 ∧ Z.nx Γ (μ2.upd p (.ins C dx (putL f y fs))))
    (hs : swapsWith value (some (.Attribute o f apos)) pos.line X.env = pure false := by rfl) : wS B X (.Assign [.Attribute o f apos] value pos) Γ μ Z := wS_of (ps_fld pe_rd pe_rd hs) fun σ M F H bo rs r => by
  refine (h σ M F H bo rs r).imp fun v H1 ⟨y, F1, μ1, e1, r1, p1, q1⟩ => ?_
  refine (q1 σ M F1 H1 (bo.mono e1) (rs.mono e1) r1).imp fun w H2 ⟨x, F2, μ2, e2, r2, p2, p, dx, fs, ex, hp, hl, q2⟩ => ?_
  subst ex; rw [rep_loc] at p2
  obtain ⟨_, ob, g1, ws, rfl, g2⟩ := r2.own p _ hp
  exact ⟨p, C, dx, ws, p2, g1, cl, n, by rw [g2.len]; exact hl, Γ, F2, _, e1.trans e2, rs.mono (e1.trans e2), r2.write hp (m' := .ins C dx (putL f y fs)) ⟨_, rfl, putL_rep (p1.mono e2) g2⟩, q2⟩
/-- o.f += value, whole numbers -/
theorem wS_fldadd (cl : Cls X.K C) (n : NoAttr X.K C f) (h : wE B X o Γ μ fun x μ1 => ∃ p dx fs i, x = .loc p ∧ μ1 p = some (.ins C dx fs) ∧ fs.lookup f = some (.int i) ∧
      wE B X value Γ μ1 fun y μ2 => ∃ j dx' fs', y = .int j ∧ μ2 p = some (.ins C dx' fs') ∧ fs'.length < 1000 ∧ Z.nx Γ (μ2.upd p (.ins C dx' (putL f (.int (i + j)) fs')))) : wS B X (.AugAssign (.Attribute o f tpos) .Add value pos) Γ μ Z := wS_of (ps_fldaug pe_rd pe_rd in_add) fun σ M F H bo rs r => by
  refine (h σ M F H bo rs r).imp fun v H1 ⟨x, F1, μ1, e1, r1, p1, p, dx, fs, i, ex, hp, hl, q1⟩ => ?_
  subst ex; rw [rep_loc] at p1
  obtain ⟨_, ob, g1, ws, rfl, g2⟩ := r1.own p _ hp
  obtain ⟨v1, k1, k2⟩ := lookup_some g2 hl
  rw [rep_int] at k2; subst k2
  refine ⟨p, C, dx, ws, _, p1, g1, cl, n, k1, ?_⟩
  refine (q1 σ M F1 H1 (bo.mono e1) (rs.mono e1) r1).imp fun w H2 ⟨y, F2, μ2, e2, r2, p2, j, dx', fs', ey, hp', hl', q2⟩ => ?_
  subst ey; rw [rep_int] at p2
  obtain ⟨_, ob', g1', ws', rfl, g2'⟩ := r2.own p _ hp'
  exact ⟨i, j, rfl, p2, dx', ws', g1', by rw [g2'.len]; exact hl', Γ, F2, _, e1.trans e2, rs.mono (e1.trans e2), r2.write hp' (m' := .ins C dx' (putL f (.int (i + j)) fs')) ⟨_, rfl, putL_rep (rep_int.mpr rfl) g2'⟩, q2⟩
/-- what a caller knows of a method -/
structure CalM (P : Program) (w : World) (K : PySem.W.Frag) (mg : Str → Option Value) (base : Heap) (k : Nat) (C : Addr) (m : Str) (c : AC) : Prop where
  ex : ∃ (f : Addr) (fd : FuncData) (ps : List Str), FnD P w K mg base CX0 k f fd ps c ∧ Meth K C m f ∧ Binds K fd ps []
/-- .. of the making of an instance: the promise is __init__'s -/
structure CalK (P : Program) (w : World) (K : PySem.W.Frag) (mg : Str → Option Value) (base : Heap) (k : Nat) (x : Str) (C : Addr) (c : AC) : Prop where
  ex : ∃ (f : Addr) (fd : FuncData) (ps : List Str), FnD P w K mg base CX0 k f fd ps c ∧ Mk K C f ∧ mg x = some (.ref C) ∧ Binds K fd ps []
theorem CalM.imp {P : Program} {w : World} {K : PySem.W.Frag} {mg : Str → Option Value} {base : Heap} {c c' : AC} (Dm : CalM P w K mg base k C m c) (h : ∀ xs μ Q E, c' xs μ Q E → c xs μ Q E) : CalM P w K mg base k C m c' := by
  obtain ⟨f, fd, ps, F, r⟩ := Dm.ex
  exact ⟨f, fd, ps, F.imp h, r⟩
/-- o.m(e, ..) -/
theorem wE_meth (cl : Cls X.K C) (Dm : CalM X.prog X.w X.K X.mg X.base k C m cc) (ar : Ar X j) (hk : k ≤ j) (h : wE B X o Γ μ fun x μ1 => ∃ p dx fs, x = .loc p ∧ μ1 p = some (.ins C dx fs) ∧ fs.lookup m = none ∧ wA B X (e :: es) Γ μ1 fun xs μ2 => cc (.loc p :: xs) μ2 Q fun _ _ _ => False)
    {pl : Sem Bool} (hst : starEach (e :: es) X.env = (false, eval e X.env) :: starEach es X.env := by rfl) (hpl : (backTo pos (starEach es X.env)).any (·.1) = false := by rfl)
    (ht : eval (.Call (.Attribute o m apos) (e :: es) [] pos) X.env = (eval o X.env >>= fun a => standAt apos.atName >>= fun _ => (holding [a] (getMethod a m pl) >>= fun g => callWith pos g.1 g.2 (backTo pos (starEach (e :: es) X.env)) (backToKw pos (keywordEach [] X.env)))) := by rfl) : wE B X (.Call (.Attribute o m apos) (e :: es) [] pos) Γ μ Q := by
  obtain ⟨fa, fd, ps, Fn, hm, bi⟩ := Dm.ex
  intro σ M F0 H bo rs rl
  refine ⟨fun pins s I => ?_⟩
  refine PySem.W.methodCall_KW (pl := pl) (thn ((h σ M F0 H bo rs rl).o pins s I) fun u s1 got => ?_) ht
  obtain ⟨v, H1, I1, rv, x, F1, μ1, ex1, r1, p1, p, dx, fs, ex, hp, hl, q1⟩ := got
  subst ex; rw [rep_loc] at p1; subst p1
  obtain rfl : u = Value.ref p := rv
  obtain ⟨_, ob, g1, ws, rfl, g2⟩ := r1.own p _ hp
  refine getmeth_ok I1 g1 cl hm (lookup_none g2 hl) ?_
  refine PySem.W.callWith_K (first := [.ref p]) (h₀ := X.base) I.ok.mod.kin hm.kp (thn ((q1 σ M F1 H1 (bo.mono ex1) (rs.mono ex1) r1).o pos pins s1 I1) fun us s2 got2 => ?_) hst hpl
  obtain ⟨vs, H2, I2, rvs, xs, F2, μ2, ex2, r2, rp, hc⟩ := got2
  refine ⟨I2.kIn, runD (us := .ref p :: us) (vs := .ref p :: vs) (dvs := []) (E := fun _ _ _ => False) Fn (ar.mono hk) bi .nil (fun _ _ _ _ _ _ _ z => z.elim) I2 (.cons rfl rvs) ⟨.loc p :: xs, F2, M, μ2, Q, fun _ _ _ => False, ?_, r2, hc, fun y μ' F' H' v q e1 r1 p1 => ?_, fun _ _ _ _ _ z _ _ => z⟩⟩
  · rw [List.append_nil]; exact .cons (rep_loc.mpr rfl) rp
  · exact ⟨y, F', μ', (ex1.trans ex2).trans e1, r1, p1, q⟩
/-- o.m() -/
theorem wE_meth0 (cl : Cls X.K C) (Dm : CalM X.prog X.w X.K X.mg X.base k C m cc) (ar : Ar X j) (hk : k ≤ j) (h : wE B X o Γ μ fun x μ1 => ∃ p dx fs, x = .loc p ∧ μ1 p = some (.ins C dx fs) ∧ fs.lookup m = none ∧ cc [.loc p] μ1 Q fun _ _ _ => False)
    {pl : Sem Bool} (ht : eval (.Call (.Attribute o m apos) [] [] pos) X.env = (eval o X.env >>= fun a => standAt apos.atName >>= fun _ => (holding [a] (getMethod a m pl) >>= fun g => callWith pos g.1 g.2 (backTo pos (starEach [] X.env)) (backToKw pos (keywordEach [] X.env)))) := by rfl) : wE B X (.Call (.Attribute o m apos) [] [] pos) Γ μ Q := by
  obtain ⟨fa, fd, ps, Fn, hm, bi⟩ := Dm.ex
  intro σ M F0 H bo rs rl
  refine ⟨fun pins s I => ?_⟩
  refine PySem.W.methodCall_KW (pl := pl) (thn ((h σ M F0 H bo rs rl).o pins s I) fun u s1 got => ?_) ht
  obtain ⟨v, H1, I1, rv, x, F1, μ1, ex1, r1, p1, p, dx, fs, ex, hp, hl, q1⟩ := got
  subst ex; rw [rep_loc] at p1; subst p1
  obtain rfl : u = Value.ref p := rv
  obtain ⟨_, ob, g1, ws, rfl, g2⟩ := r1.own p _ hp
  refine getmeth_ok I1 g1 cl hm (lookup_none g2 hl) ?_
  refine PySem.W.callWith_K0 (first := [.ref p]) I1.kIn hm.kp (runD (us := [.ref p]) (vs := [.ref p]) (dvs := []) (E := fun _ _ _ => False) Fn (ar.mono hk) bi .nil (fun _ _ _ _ _ _ _ z => z.elim) I1 (.cons rfl .nil) ⟨[.loc p], F1, M, μ1, Q, fun _ _ _ => False, .cons (rep_loc.mpr rfl) .nil, r1, q1, fun y μ' F' H' v q e1 r1 p1 => ?_, fun _ _ _ _ _ z _ _ => z⟩)
  exact ⟨y, F', μ', ex1.trans e1, r1, p1, q⟩
/-- anything laid in an empty place -/
theorem Rel.grow {K : PySem.W.Frag} {M F H : Hp} {p : Addr} {ob : HO} (h : Rel K μ M F H) (n : H p = none) : Rel K μ M F (upd H p ob) := by
  refine ⟨h.sub.trans (.new n), fun q m e => ?_, fun q o e => ?_⟩
  · obtain ⟨g1, o', g2, g3⟩ := h.own q m e
    have hq : q ≠ p := fun z => by rw [z, n] at g2; cases g2
    exact ⟨g1, o', by rw [upd_ne hq]; exact g2, g3⟩
  · obtain ⟨g1, g2, g3⟩ := h.frm q o e
    have hq : q ≠ p := fun z => by rw [z, n] at g3; cases g3
    exact ⟨g1, g2, by rw [upd_ne hq]; exact g3⟩
theorem under_guards {A : Around} (C : Addr) (us : List Value) (kw : List (Str × Value)) : (A.under (.builtin "type.__call__" ⟨.ref C :: us, kw⟩)).guards = A.guards := by
  unfold Around.under; rfl
theorem make_run {pins : List (Addr × Obj)} {σ : L2.St} {H M F0 : Hp} {s : Shared} {us : List Value} {vs : List V} {x : Str} (Dm : CalK X.prog X.w X.K X.mg X.base k x C cc) (ar : Ar X j) (hk : k + 1 ≤ j) (I : Inv X pins σ H s) (rv : Vals vs us) {xs : List D.A} (rp : RepL X.K F0 xs vs) (rl : Rel X.K μ M F0 H)
    (h : ∀ p dx, μ p = none → cc (.loc p :: xs) (μ.upd p (.ins C dx [])) (fun v μ' => v = .non ∧ Q (.loc p) μ') fun _ _ _ => False) :
    wpAny (model X.prog X.w) X.A (call (.ref C) us) (EP X pins σ (QE X.K M F0 Q)) X.xe s := by
  obtain ⟨fa, fd, ps, Fn, hm, hmg, bi⟩ := Dm.ex
  have ar2 := ar.mono hk
  have I2 := Inv.made (C := C) I
  have n1 : H (s.heap.objs.size + 1) = none := I.hok.fresh (Nat.le_succ _)
  have n0 : H s.heap.objs.size = none := I.hok.fresh (Nat.le_refl _)
  have ne : s.heap.objs.size + 1 ≠ s.heap.objs.size := by omega
  have rl1 : Rel X.K μ M F0 (upd H s.heap.objs.size (.own (s.heap.objs.size + 1))) := rl.grow n0
  obtain ⟨nμ, rl2⟩ := rl1.new (p := s.heap.objs.size + 1) (m := .ins C s.heap.objs.size []) (o := .ins C s.heap.objs.size []) (by rw [upd_ne ne]; exact n1) ⟨[], rfl, rfl⟩
  have all : Vals (V.ref (s.heap.objs.size + 1) :: vs) (Value.ref (s.heap.objs.size + 1) :: us) := .cons rfl rv
  have sp : spOf X.K cc (.ref (s.heap.objs.size + 1) :: vs) _ (fun v H2 => v = .non ∧ QE X.K M F0 Q (.ref (s.heap.objs.size + 1)) H2) (fun _ _ _ => False) :=
    ⟨.loc (s.heap.objs.size + 1) :: xs, F0, M, _, _, _, .cons (rep_loc.mpr rfl) rp, rl2, h _ _ nμ, fun y μ' F' H' v q e1 r1 p1 => by
      obtain ⟨rfl, q⟩ := q
      rw [rep_non] at p1
      exact ⟨p1, _, F', μ', e1, r1, rep_loc.mpr rfl, q⟩, fun _ _ _ _ _ z _ _ => z⟩
  have hl : (Value.ref (s.heap.objs.size + 1) :: us).length = ps.length := by rw [← all.length]; exact spOf.len Fn.len sp
  have hb := bi _ (Value.ref (s.heap.objs.size + 1) :: us) I2.kIn (by rw [List.append_nil]; exact hl)
  rw [List.append_nil] at hb
  refine wpAny_call (make_map (f := fa) I.kIn hm.makes hm.init (beq_iff_eq.mp hm.fn) (codeAny_mono (Fn.run _ X.stack _ _ ⟨Value.ref (s.heap.objs.size + 1) :: us, []⟩ _ _ _ _ (ar2.room.make C us []) ((under_guards C us []).trans ar.show0) (I2.env0.make C us []) hb all sp) fun r s' hq' => ?_))
  match r, hq' with
  | .error e, hq' => exact hq'.elim
  | .ok (.ret u), hq' =>
    obtain ⟨v, H', I3, rv', ev, q3⟩ := I2.after hq'
    subst ev
    exact ⟨rv', ⟨V.ref (s.heap.objs.size + 1), H', I3, rfl, q3⟩⟩
  | .ok .next, hq' => exact hq'.elim
  | .ok .brk, hq' => exact hq'.elim
  | .ok .cont, hq' => exact hq'.elim
/-- C(e, ..) -/
theorem wE_make {x : Str} (Dm : CalK X.prog X.w X.K X.mg X.base k x C cc) (ar : Ar X j) (hk : k + 1 ≤ j) (h : wA B X (e :: es) Γ μ fun xs μ1 => ∀ p dx, μ1 p = none → cc (.loc p :: xs) (μ1.upd p (.ins C dx [])) (fun v μ' => v = .non ∧ Q (.loc p) μ') fun _ _ _ => False) (hg : Gl X x := by rfl) (hdb : (x == ("__debug__" : Str)) = false := by decide)
    (he : starEach (e :: es) X.env = (false, eval e X.env) :: starEach es X.env := by rfl) (hpl : (backTo pos (starEach es X.env)).any (·.1) = false := by rfl) : wE B X (.Call (.Name x p0) (e :: es) [] pos) Γ μ Q := by
  obtain ⟨fa, fd, ps, Fn, hm, hmg, bi⟩ := Dm.ex
  intro σ M F0 H bo rs rl
  refine ⟨fun pins s I => ?_⟩
  refine wpAny_Call_Name_kw (ld_glob I hg hmg ?_ hdb)
  refine PySem.W.callWith_K (h₀ := X.base) I.ok.mod.kin hm.kp (thn ((h σ M F0 H bo rs rl).o pos pins s I) fun us s1 got => ?_) he hpl
  obtain ⟨vs, H1, I1, rv, xs, F1, μ1, ex, rl1, rp, hc⟩ := got
  exact ⟨I1.kIn, thn (make_run Dm ar hk I1 rv rp rl1 hc) fun _ _ ⟨z, H3, I3, r3, q3⟩ => ⟨z, H3, I3, r3, q3.mono ex⟩⟩
/-- C() -/
theorem wE_make0 {x : Str} (Dm : CalK X.prog X.w X.K X.mg X.base k x C cc) (ar : Ar X j) (hk : k + 1 ≤ j) (h : ∀ p dx, μ p = none → cc [.loc p] (μ.upd p (.ins C dx [])) (fun v μ' => v = .non ∧ Q (.loc p) μ') fun _ _ _ => False) (hg : Gl X x := by rfl) (hdb : (x == ("__debug__" : Str)) = false := by decide) : wE B X (.Call (.Name x p0) [] [] pos) Γ μ Q := by
  obtain ⟨fa, fd, ps, Fn, hm, hmg, bi⟩ := Dm.ex
  intro σ M F0 H bo rs rl
  refine ⟨fun pins s I => ?_⟩
  refine wpAny_Call_Name_kw (ld_glob I hg hmg ?_ hdb)
  exact PySem.W.callWith_K0 I.kIn hm.kp (make_run (us := []) (vs := []) Dm ar hk I .nil .nil rl h)
/-- a < b < c, as a value -/
theorem wE_chain2 {op op' : CmpOp} (h : wE B X a Γ μ fun x μ1 => wE B X b Γ μ1 fun y μ2 => wO X (compareOp op) x y μ2 fun z μ3 => ∃ k, z = .bl k ∧ (k = true → wE B X c Γ μ3 fun w μ4 => wO X (compareOp op') y w μ4 Q) ∧ (k = false → Q (.bl false) μ3))
    (hm : lastMarks [op, op'] [b, c] = false := by with_unfolding_all rfl) : wE B X (.Compare a [op, op'] [b, c] pos) Γ μ Q := wE_of (pe_chain opr_rd opr_rd pe_rd pe_rd pe_rd hm) fun σ M F H bo rs r => by
  refine (h σ M F H bo rs r).imp fun v H1 ⟨x, F1, μ1, e1, r1, p1, q1⟩ => ?_
  refine (q1 σ M F1 H1 (bo.mono e1) (rs.mono e1) r1).imp fun w H2 ⟨y, F2, μ2, e2, r2, p2, q2⟩ => ?_
  refine ⟨fun pins s σ' v' u' I hv hw => ?_⟩
  refine thn ((q2 M F2 H2 v w r2 (p1.mono e2) p2).o pins s σ' v' u' I hv hw) fun _ _ ⟨z, H3, I3, r3, x3, F3, μ3, e3, rl3, p3, k, ek, q3, q4⟩ => ?_
  subst ek; rw [rep_bl] at p3
  refine ⟨z, H3, I3, r3, k, p3, ?_⟩
  have e12 := (e1.trans e2).trans e3
  cases k with
  | false => exact iteF ⟨_, F3, μ3, e12, rl3, rep_bl.mpr rfl, q4 rfl⟩
  | true =>
    refine iteT ((q3 rfl σ M F3 H3 (bo.mono e12) (rs.mono e12) rl3).imp fun w' H4 ⟨y', F4, μ4, e4, r4, p4, q5⟩ => ?_)
    refine ⟨fun pins s σ' v' u' I hv hw => ?_⟩
    exact thn ((q5 M F4 H4 w w' r4 (p2.mono (e3.trans e4)) p4).o pins s σ' v' u' I hv hw) fun _ _ ⟨z', H5, I5, r5, q6⟩ => ⟨z', H5, I5, r5, q6.mono (e12.trans e4)⟩
/-- d.get(k, x) -/
theorem wE_dget2 {f : Expr} {cpos : Pos} (ar : Ar X j) (h : wE B X o Γ μ fun x μ1 => ∃ p kvs0, x = .loc p ∧ μ1 p = some (.dic kvs0) ∧ wE B X e Γ μ1 fun y μ2 => wE B X f Γ μ2 fun z μ3 => ∃ kvs k, μ3 p = some (.dic kvs) ∧ y = kA k ∧ Q ((valA kvs k).getD z) μ3)
    (hb : attributeBase o "get" X.env (eval o X.env) = eval o X.env := by rfl)
    (hf : ((backTo cpos (starEach [e, f] X.env)).all (fun x => !x.1) && (backToKw cpos (keywordEach [] X.env)).all (fun x => x.1.isSome) && decide (([e, f] : List Expr).length + ([] : List Keyword).length + (if ([] : List Keyword).isEmpty then 0 else 1) < 30)) = true := by rfl)
    (hl : (apos.endLine == cpos.line) = true := by rfl) (ht : backTo cpos (starEach [e, f] X.env) = [(false, eval e X.env), (false, eval f X.env)] := by rfl) : wE B X (.Call (.Attribute o "get" apos) [e, f] [] cpos) Γ μ Q := wE_of (pe_dget2 ar.u1 pe_rd pe_rd pe_rd ⟨hb, hf, hl, ht⟩) fun σ M F H bo rs r => by
  refine (h σ M F H bo rs r).imp fun v H1 ⟨x, F1, μ1, e1, r1, p1, p, kvs0, ex, hp, q1⟩ => ?_
  subst ex; rw [rep_loc] at p1
  obtain ⟨_, ob, g1, ws0, rfl, g2⟩ := r1.own p _ hp
  refine ⟨p, p1, .inl ⟨_, .inl g1⟩, ?_⟩
  refine (q1 σ M F1 H1 (bo.mono e1) (rs.mono e1) r1).imp fun w H2 ⟨y, F2, μ2, e2, r2, p2, q2⟩ => ?_
  refine (q2 σ M F2 H2 (bo.mono (e1.trans e2)) (rs.mono (e1.trans e2)) r2).imp fun u H3 ⟨z, F3, μ3, e3, r3, p3, kvs, k, hq, ey, q3⟩ => ?_
  subst ey
  have hw := kA_rep p2
  obtain ⟨_, ob, k1, ws, rfl, k2⟩ := r3.own p _ hq
  refine ⟨valV ws k, by rw [hw]; exact DGet.k k1, ?_⟩
  rcases valA_rep k k2 with ⟨h1, h2⟩ | ⟨z', v', h1, h2, h3⟩
  · rw [h1] at q3; rw [h2]
    exact ⟨z, F3, μ3, (e1.trans e2).trans e3, r3, p3, q3⟩
  · rw [h1] at q3; rw [h2]
    exact ⟨z', F3, μ3, (e1.trans e2).trans e3, r3, h3, q3⟩
end
end D

set_option Elab.async false
set_option linter.all false
set_option maxRecDepth 100000
set_option maxHeartbeats 4000000
/-! DL: in of dicts, dict of pairs, a dict of the module. -/
namespace D
open PySem PySem.Spec PyProof.Rows L2
section
variable {B : Bs} {X : Cx} {Γ : G} {μ : Mu} {Q : A → Mu → Prop} {QB : Bool → Mu → Prop} {e o f : Expr} {pos apos cpos : Pos} {j : Nat}
theorem valO_rep {K : PySem.W.Frag} {F : Hp} {kvs : List (Key × A)} {ws : List (Key × V)} (k : Key) (h : RepK K F kvs ws) : (valV ws k).isSome = (valA kvs k).isSome := by
  rcases valA_rep k h with ⟨h1, h2⟩ | ⟨z, v, h1, h2, _⟩
  · rw [h1, h2]; rfl
  · rw [h1, h2]; rfl
/-- k in d -/
theorem wE_inD (ar : Ar X j) (h : wE B X e Γ μ fun y μ1 => wE B X o Γ μ1 fun x μ2 => ∃ p kvs k, x = .loc p ∧ μ2 p = some (.dic kvs) ∧ y = kA k ∧ Q (.bl (valA kvs k).isSome) μ2) (hm : behindInMarks .In o = false := by rfl) : wE B X (.Compare e [.In] [o] pos) Γ μ Q := wE_of (pe_cmp (pc_din ar.u1 pe_rd pe_rd) hm) fun σ M F H bo rs r => by
  refine (h σ M F H bo rs r).imp fun w H2 ⟨y, F2, μ2, e2, r2, p2, q2⟩ => ?_
  refine (q2 σ M F2 H2 (bo.mono e2) (rs.mono e2) r2).imp fun v H1 ⟨x, F1, μ1, e1, r1, p1, p, kvs, k, ex, hp, ey, q1⟩ => ?_
  subst ex; subst ey; rw [rep_loc] at p1
  have hw := kA_rep p2
  obtain ⟨_, ob, g1, ws, rfl, g2⟩ := r1.own p _ hp
  exact ⟨p, _, p1, by rw [hw]; exact DGet.k g1, _, F1, μ1, e2.trans e1, r1, rep_bl.mpr (by rw [valO_rep k g2]), q1⟩
theorem wE_notInD (ar : Ar X j) (h : wE B X e Γ μ fun y μ1 => wE B X o Γ μ1 fun x μ2 => ∃ p kvs k, x = .loc p ∧ μ2 p = some (.dic kvs) ∧ y = kA k ∧ Q (.bl (!(valA kvs k).isSome)) μ2) (hm : behindInMarks .NotIn o = false := by rfl) : wE B X (.Compare e [.NotIn] [o] pos) Γ μ Q := wE_of (pe_cmp (pc_dnotin ar.u1 pe_rd pe_rd) hm) fun σ M F H bo rs r => by
  refine (h σ M F H bo rs r).imp fun w H2 ⟨y, F2, μ2, e2, r2, p2, q2⟩ => ?_
  refine (q2 σ M F2 H2 (bo.mono e2) (rs.mono e2) r2).imp fun v H1 ⟨x, F1, μ1, e1, r1, p1, p, kvs, k, ex, hp, ey, q1⟩ => ?_
  subst ex; subst ey; rw [rep_loc] at p1
  have hw := kA_rep p2
  obtain ⟨_, ob, g1, ws, rfl, g2⟩ := r1.own p _ hp
  exact ⟨p, _, p1, by rw [hw]; exact DGet.k g1, _, F1, μ1, e2.trans e1, r1, rep_bl.mpr (by rw [valO_rep k g2]), q1⟩
theorem wT_inD (ar : Ar X j) (h : wE B X e Γ μ fun y μ1 => wE B X o Γ μ1 fun x μ2 => ∃ p kvs k, x = .loc p ∧ μ2 p = some (.dic kvs) ∧ y = kA k ∧ QB (valA kvs k).isSome μ2) (hm : behindInMarks .In o = false := by rfl) : wT B X (.Compare e [.In] [o] pos) Γ μ QB := wT_of (pt_cmp (pc_din ar.u1 pe_rd pe_rd) hm) fun σ M F H bo rs r => by
  refine (h σ M F H bo rs r).imp fun w H2 ⟨y, F2, μ2, e2, r2, p2, q2⟩ => ?_
  refine (q2 σ M F2 H2 (bo.mono e2) (rs.mono e2) r2).imp fun v H1 ⟨x, F1, μ1, e1, r1, p1, p, kvs, k, ex, hp, ey, q1⟩ => ?_
  subst ex; subst ey; rw [rep_loc] at p1
  have hw := kA_rep p2
  obtain ⟨_, ob, g1, ws, rfl, g2⟩ := r1.own p _ hp
  exact ⟨p, _, p1, by rw [hw]; exact DGet.k g1, _, by rw [valO_rep k g2], F1, μ1, e2.trans e1, r1, q1⟩
theorem wT_notInD (ar : Ar X j) (h : wE B X e Γ μ fun y μ1 => wE B X o Γ μ1 fun x μ2 => ∃ p kvs k, x = .loc p ∧ μ2 p = some (.dic kvs) ∧ y = kA k ∧ QB (!(valA kvs k).isSome) μ2) (hm : behindInMarks .NotIn o = false := by rfl) : wT B X (.Compare e [.NotIn] [o] pos) Γ μ QB := wT_of (pt_cmp (pc_dnotin ar.u1 pe_rd pe_rd) hm) fun σ M F H bo rs r => by
  refine (h σ M F H bo rs r).imp fun w H2 ⟨y, F2, μ2, e2, r2, p2, q2⟩ => ?_
  refine (q2 σ M F2 H2 (bo.mono e2) (rs.mono e2) r2).imp fun v H1 ⟨x, F1, μ1, e1, r1, p1, p, kvs, k, ex, hp, ey, q1⟩ => ?_
  subst ex; subst ey; rw [rep_loc] at p1
  have hw := kA_rep p2
  obtain ⟨_, ob, g1, ws, rfl, g2⟩ := r1.own p _ hp
  exact ⟨p, _, p1, by rw [hw]; exact DGet.k g1, _, by rw [valO_rep k g2], F1, μ1, e2.trans e1, r1, q1⟩
theorem pairs_in {K : PySem.W.Frag} {F : Hp} : ∀ {kvs : List (Key × A)} {vs : List V}, RepL K F (kvs.map fun kv => A.tup [kA kv.1, kv.2]) vs → ∃ (ps : List Addr) (ws : List (Key × V)), vs = ps.map V.ref ∧ Paired (fun p kv => SqT K F p [kV kv.1, kv.2]) ps ws ∧ RepK K F kvs ws
  | [], _, h => by simp only [List.map_nil, RepL] at h; subst h; exact ⟨[], [], rfl, .nil, rfl⟩
  | (k, y) :: r, _, h => by
    simp only [List.map_cons, RepL] at h
    obtain ⟨v, t, rfl, h1, h2⟩ := h
    obtain ⟨ps, ws, rfl, h3, h4⟩ := pairs_in h2
    rw [rep_tup] at h1
    obtain ⟨a, us, rfl, g1, g2⟩ := h1
    obtain ⟨v1, v2, rfl, k1, k2⟩ := g2.two
    rw [kA_rep k1] at g1
    exact ⟨a :: ps, (k, v2) :: ws, rfl, .cons g1 h3, ⟨v2, ws, rfl, k2, h4⟩⟩
theorem paired_imp {α β : Type} {R S : α → β → Prop} (h : ∀ a b, R a b → S a b) : ∀ {l : List α} {m : List β}, Paired R l m → Paired S l m
  | _, _, .nil => .nil
  | _, _, .cons a t => .cons (h _ _ a) (paired_imp h t)
/-- dict(pairs) -/
theorem wC_dictP {x : A} {kvs : List (Key × A)} (hc : X.calm = true) (hx : IsL μ x (kvs.map fun kv => A.tup [kA kv.1, kv.2])) (q : ∀ p, μ p = none → Q (.loc p) (μ.upd p (.dic (mergeA [] kvs)))) : wC X (.type "dict") [x] μ Q := wC_of (call_dictP hc) fun M F H vs rl r => by
  obtain ⟨v, rfl, h⟩ := r.one
  obtain ⟨a, us, e, h1, h2⟩ := hx.rep rl h
  obtain ⟨ps, ws, rfl, h3, h4⟩ := pairs_in h2
  refine ⟨a, ps, ws, by rw [e], .inl (.inl h1), paired_imp (fun p kv => rl.sub.t) h3, fun p np => ?_⟩
  obtain ⟨nμ, rl'⟩ := rl.new (m := .dic (mergeA [] kvs)) np ⟨_, rfl, merge_rep h4 rfl⟩
  exact ⟨_, _, _, .refl _, rl', rep_loc.mpr rfl, q p nμ⟩
/-- what an entry of a written dict says, numbers by texts -/
def entI (d : DictEntry) : Option (Str × Int) := match d.key, d.val with
  | .str x _, .int i _ => some (x, i)
  | _, _ => none
/-- a written dict of numbers by texts -/
structure KDi (K : PySem.W.Frag) (w : World) (p : Addr) (kvs : List (Str × Int)) : Prop where
  ex : ∃ (es : Array DictEntry) (n : Nat), K.lookup p = some ⟨.type "dict", none, .dict es n, #[]⟩ ∧ PySem.W.KeysLit w.params es.toList ∧ (p == sysModules) = false ∧ es.toList.map entI = kvs.map some
def valI (kvs : List (Str × Int)) (z : Str) : Option Int := (kvs.find? fun kv => decide (kv.1 = z)).map (·.2)
theorem ent_is {dh : Int} {dk dv : Value} {x : Str} {i : Int} (h : entI ⟨dh, dk, dv⟩ = some (x, i)) : ∃ tx ti, dk = .str x tx ∧ dv = .int i ti := by
  unfold entI at h
  simp only at h
  split at h
  · cases h; exact ⟨_, _, rfl, rfl⟩
  · cases h
theorem ent_find (z : Str) : ∀ {es : List DictEntry} {kvs : List (Str × Int)}, es.map entI = kvs.map some → (valI kvs z = none ∧ es.find? (fun d => Value.isStrOf z d.key) = none) ∨ ∃ d i t, valI kvs z = some i ∧ es.find? (fun d => Value.isStrOf z d.key) = some d ∧ d.val = .int i t
  | [], [], _ => .inl ⟨rfl, rfl⟩
  | [], _ :: _, e0 => by cases e0
  | _ :: _, [], e0 => by cases e0
  | d :: es, (x, i) :: kvs, e0 => by
    obtain ⟨h1, h2⟩ : entI d = some (x, i) ∧ es.map entI = kvs.map some := by simpa using e0
    have ih := ent_find z h2
    obtain ⟨dh, dk, dv⟩ := d
    obtain ⟨tx, ti, rfl, rfl⟩ := ent_is h1
    by_cases e : x = z
    · subst e
      refine .inr ⟨⟨dh, .str x tx, .int i ti⟩, i, ti, by simp [valI], ?_, rfl⟩
      rw [List.find?_cons]
      simp [Value.isStrOf]
    · have e2 : Value.isStrOf z (.str x tx) = false := by simp [Value.isStrOf]; exact fun h => e h
      simp only [valI, List.find?_cons, e, decide_false, e2] at ih ⊢
      exact ih
/-- D.get(k, x) of a dict of the module -/
theorem wE_kget {p : Addr} {kvs : List (Str × Int)} (Dk : KDi X.K X.w p kvs) (h : wE B X o Γ μ fun x μ1 => x = .loc p ∧ wE B X e Γ μ1 fun y μ2 => wE B X f Γ μ2 fun z μ3 => ∃ (k : Str) (i : Int), y = .str k ∧ z = .int i ∧ Q (.int ((valI kvs k).getD i)) μ3)
    (hb : attributeBase o "get" X.env (eval o X.env) = eval o X.env := by rfl)
    (hf : ((backTo cpos (starEach [e, f] X.env)).all (fun x => !x.1) && (backToKw cpos (keywordEach [] X.env)).all (fun x => x.1.isSome) && decide (([e, f] : List Expr).length + ([] : List Keyword).length + (if ([] : List Keyword).isEmpty then 0 else 1) < 30)) = true := by rfl)
    (hl : (apos.endLine == cpos.line) = true := by rfl) (ht : backTo cpos (starEach [e, f] X.env) = [(false, eval e X.env), (false, eval f X.env)] := by rfl) : wE B X (.Call (.Attribute o "get" apos) [e, f] [] cpos) Γ μ Q := by
  obtain ⟨es, n, k1, k2, k3, k4⟩ := Dk.ex
  intro σ M F H bo rs rl
  refine ⟨fun pins s I => ?_⟩
  refine wpAny_Call_method hb hf hl PySem.F.plainAttrs_dict PySem.F.slot_dict_get PySem.F.type_dict_get (thn ((h σ M F H bo rs rl).o pins s I) fun u s1 got => ?_)
  obtain ⟨v, H1, I1, rv, x, F1, μ1, ex1, r1, p1, rfl, q1⟩ := got
  rw [rep_loc] at p1; subst p1
  obtain rfl : u = Value.ref p := rv
  have mo := fun {s : Shared} {pins : List (Addr × Obj)} {σ : L2.St} {H : Hp} (I : Inv X pins σ H s) => PySem.W.mapOf_K (prog := X.prog) (w := X.w) I.kIn k1 k2
  refine ⟨(mo I1).typeIs, fun b q => ?_, ?_⟩
  · cases q; exact ⟨_, I1.kIn _ _ k1, rfl⟩
  rw [ht]
  refine Calls.callWith_builtin rfl (Calls.evalArgs_plain (Calls.spliced_cons (thn ((q1 σ M F1 H1 (bo.mono ex1) (rs.mono ex1) r1).o pins s1 I1) fun iv s2 got2 => Calls.spliced_cons ?_)))
  obtain ⟨v2, H2, I2, rv2, y, F2, μ2, ex2, r2, p2, q2⟩ := got2
  refine thn ((q2 σ M F2 H2 (bo.mono (ex1.trans ex2)) (rs.mono (ex1.trans ex2)) r2).o pins s2 I2) fun fv s3 got3 => Calls.spliced_nil ?_
  obtain ⟨v3, H3, I3, rv3, z, F3, μ3, ex3, r3, p3, k, i, rfl, rfl, q3⟩ := got3
  rw [rep_str] at p2; subst p2
  rw [rep_int] at p3; subst p3
  obtain ⟨t2, rfl⟩ := rv2
  obtain ⟨t3, rfl⟩ := rv3
  refine call_meetsIn PySem.F.slot_dict_get (mo I3).typeIs PySem.F.entry_dict_get (PySem.F.args_dict_get_3 _ _ _) (meets_dict_get_default (strKind X.prog X.w) p (strKind_is X.prog X.w k t2) k3 (.int i t3)) ⟨_, mo I3, ?_⟩
  have fin : ∀ (m : Int) (tm : Tok) (tk : Nat), m = (valI kvs k).getD i → EP X pins σ (QE X.K M F Q) (.int m tm) { s3 with toks := tk } := fun m tm tk e => ⟨.int m, H3, I3.tok _, ⟨_, rfl⟩, .int m, F3, μ3, (ex1.trans ex2).trans ex3, r3, rep_int.mpr rfl, by rw [e]; exact q3⟩
  rcases ent_find k k4 with ⟨h1, h2⟩ | ⟨d, m, t, h1, h2, h3⟩
  · have e0 : findBy Value.isStrOf es k = none := by unfold findBy; rw [← Array.find?_toList, h2]; rfl
    simp only [e0, Option.getD_none]
    exact fin i t3 _ (by rw [h1]; rfl)
  · have e0 : findBy Value.isStrOf es k = some (.int m t) := by unfold findBy; rw [← Array.find?_toList, h2, ← h3]; rfl
    simp only [e0, Option.getD_some]
    exact fin m t _ (by rw [h1]; rfl)
end
end D

set_option Elab.async false
set_option linter.all false
set_option maxRecDepth 100000
set_option maxHeartbeats 4000000
/-! DM: how many unlike texts a tuple holds. -/
namespace D
open PySem PySem.Spec PyProof.Rows L2
/-- the unlike ones, in the order in which they are met -/
def unl (l : List Str) : List Str := l.foldl (fun a x => if x ∈ a then a else a ++ [x]) []
theorem unl_snoc (l : List Str) (x : Str) : unl (l ++ [x]) = if x ∈ unl l then unl l else unl l ++ [x] := by unfold unl; rw [List.foldl_append]; rfl
theorem mem_unl : ∀ (n : Nat) (l : List Str) (y : Str), l.length = n → (y ∈ unl l ↔ y ∈ l)
  | 0, l, y, h => by rw [List.length_eq_zero_iff.mp h]; simp [unl]
  | n + 1, l, y, h => by
    obtain ⟨m, x, rfl⟩ : ∃ m x, l = m ++ [x] := ⟨l.dropLast, l.getLast (fun z => by rw [z] at h; simp at h), (List.dropLast_concat_getLast _).symm⟩
    have ih := fun y => mem_unl n m y (by simpa using h)
    rw [unl_snoc]
    split
    · rename_i hx
      rw [ih]
      simp only [List.mem_append, List.mem_singleton]
      exact ⟨.inl, fun z => z.elim id fun e => by rw [e]; exact (ih x).mp hx⟩
    · simp only [List.mem_append, List.mem_singleton, ih]
theorem mem_un {l : List Str} {y : Str} : y ∈ unl l ↔ y ∈ l := mem_unl _ l y rfl
theorem unl_le : ∀ (n : Nat) (l : List Str), l.length = n → (unl l).length ≤ l.length
  | 0, l, h => by rw [List.length_eq_zero_iff.mp h]; simp [unl]
  | n + 1, l, h => by
    obtain ⟨m, x, rfl⟩ : ∃ m x, l = m ++ [x] := ⟨l.dropLast, l.getLast (fun z => by rw [z] at h; simp at h), (List.dropLast_concat_getLast _).symm⟩
    have ih := unl_le n m (by simpa using h)
    rw [unl_snoc]
    split
    · simp; omega
    · simp; omega
theorem unl_nodup : ∀ (n : Nat) (l : List Str), l.length = n → l.Nodup → unl l = l
  | 0, l, h, _ => by rw [List.length_eq_zero_iff.mp h]; rfl
  | n + 1, l, h, hd => by
    obtain ⟨m, x, rfl⟩ : ∃ m x, l = m ++ [x] := ⟨l.dropLast, l.getLast (fun z => by rw [z] at h; simp at h), (List.dropLast_concat_getLast _).symm⟩
    rw [List.nodup_append] at hd
    rw [unl_snoc, unl_nodup n m (by simpa using h) hd.1, if_neg fun hx => hd.2.2 x hx x (by simp) rfl]
section
variable {P : Program} {w : World} {B : Around} {T : Result → Shared → Prop} {it : Addr} {fp wr : List Addr} {G0 : Array GenState → Array GenState → Prop} {n : Nat} {Pv : Nat → Value → Prop} {St0 : Nat → Shared → Prop}
/-- what the set holds behind i turns -/
abbrev HasT (P : Program) (w : World) (h : Heap) (a : Addr) (l : List Str) : Prop := h.SetOf (PySem.strKind P w) a (fun z => decide (z ∈ l)) (unl l).length
theorem set_turns (W : WalksS P w B.in1 it fp wr G0 n Pv St0) (a : Addr) (ha : a ∉ fp) (xs : List Str) (hn : xs.length = n) (hb : n + 1 < scanBound) (hv : ∀ i u, Pv i u → ∃ t, u = .str (xs.getD i Str.empty) t) :
    ∀ (m i : Nat) (s : Shared), i + m = n → St0 i s → HasT P w s.heap a (xs.take i) → (∀ s', Moved (a :: wr) G0 s s' → HasT P w s'.heap a xs → T (.ok (.ret .none)) s') →
      codeAny (model P w) B (.builtin "set.update.loop" ⟨[.ref a, .ref it], []⟩) T s
  | 0, i, s, hi, st, hS, hT => by
    refine codeAny_builtin PyProof.Rows.F.entry_set_update_loop ?_; rw [Around.under_plainId PyProof.Rows.F.plain_set_update_loop _]
    have e : i = n := by omega
    subst e; rw [← hn, List.take_length] at hS
    refine (show wpAny _ B.in1 (pyNext (.ref it) >>= _) _ _ s from wpAny_bind (W.done s _ _ st fun s1 mv => ?_))
    refine (show wpAny _ B.in1 (ret Value.none) _ _ s1 from wpAny_pure (hT s1 (mv.mono fun b hb => List.mem_cons_of_mem _ hb) ?_))
    obtain ⟨ob, es, ep, tb, h0, more⟩ := hS; exact ⟨ob, es, ep, tb, mv.heap a _ (fun z => ha (W.sub _ z)) h0, more⟩
  | m + 1, i, s, hi, st, hS, hT => by
    refine codeAny_builtin PyProof.Rows.F.entry_set_update_loop ?_; rw [Around.under_plainId PyProof.Rows.F.plain_set_update_loop _]
    refine (show wpAny _ B.in1 (pyNext (.ref it) >>= _) _ _ s from wpAny_bind (W.item i s _ _ (by omega) st fun v s1 hp st1 mv => ?_))
    obtain ⟨t, rfl⟩ := hv i v hp
    have hS1 : HasT P w s1.heap a (xs.take i) := by obtain ⟨ob, es, ep, tb, h0, more⟩ := hS; exact ⟨ob, es, ep, tb, mv.heap a _ (fun z => ha (W.sub _ z)) h0, more⟩
    have hx : xs.take (i + 1) = xs.take i ++ [xs.getD i Str.empty] := by
      rw [List.take_add_one, List.getD_eq_getElem?_getD, List.getElem?_eq_getElem (by omega)]; rfl
    have hl := unl_le _ (xs.take i) rfl
    rw [List.length_take] at hl
    refine (show wpAny _ B.in1 (holding [Value.str (xs.getD i Str.empty) t] (setAdd a (.str (xs.getD i Str.empty) t)) >>= _) _ _ s1 from wpAny_bind (wpAny_holding ?_))
    unfold setAdd; refine wpAny_holding (wpAny_bind ((PySem.strKind P w).pyHash (k := xs.getD i Str.empty) (strKind_is _ _ _ _) ?_))
    refine wpAny_setAddHashed_of (knd := PySem.strKind P w) (s := { s1 with toks := s1.toks + 1 }) (strKind_is _ _ _ _) rfl hS1 (by omega) fun h2 sb hS2 => ?_
    have hS3 : HasT P w h2 a (xs.take (i + 1)) := by
      refine PyProof.Rows.SetOf_congr hS2 (fun z => ?_) ?_
      · rw [hx]; simp only [List.mem_append, List.mem_singleton, Bool.decide_or]
      · rw [hx, unl_snoc]
        by_cases hm : xs.getD i Str.empty ∈ xs.take i
        · rw [if_pos (mem_un.mpr hm), decide_eq_true hm]; rfl
        · rw [if_neg fun z => hm (mem_un.mp z), decide_eq_false hm, List.length_append]; rfl
    have mono : ∀ b ∈ wr, b ∈ a :: wr := fun b hb => List.mem_cons_of_mem _ hb
    refine wpAny_pure ⟨plainId_quiet PyProof.Rows.F.plain_set_update_loop _, set_turns W a ha xs hn hb hv m (i + 1) _ (by omega) (W.frame _ s1 _ _ st1 (Nat.le_succ _) fun b hb o e => by rw [sb.2 b (fun z : b = a => ha (z ▸ hb))]; exact e) hS3 fun s3 mv3 hS4 => ?_⟩
    exact hT s3 (Moved.trans W.gtrans ((mv.mono mono).then_heap (Nat.le_succ _) fun b o hb e => by rw [sb.2 b (fun z : b = a => hb (z ▸ List.mem_cons_self))]; exact e) mv3) hS4
end
section
variable {P : Program} {w : World} {B : Around} {E : Value → Shared → Prop} {s : Shared}
/-- an empty set -/
abbrev fresh0 (led : Bool) : Obj := { cls := .type "set", dict := none, data := .set #[] 0 (.fresh 0 0 led) }
set_option maxHeartbeats 8000000 in
theorem set_of_tuple {l : Addr} {its : Array Value} {xs : List Str} {Q : Value → Shared → Prop} (hh : B.handled = none) (hl : s.heap.IsTuple l its) (hx : PyProof.Rows.StrsAre its.toList xs) (hb : xs.length + 1 < scanBound)
    (q : ∀ (h' : Heap) (tk : Nat), HasT P w h' s.heap.objs.size xs → (∀ b o, b < s.heap.objs.size → s.heap.get? b = some o → h'.get? b = some o) → Q (.ref s.heap.objs.size) { s with heap := h', toks := tk }) : wpAny (model P w) B (call (.type "set") [.ref l]) Q E s := by
  obtain ⟨mc, mt, hmro⟩ := PySem.F.called_set.mro
  have g1 := PySem.F.called_set.made; have g2 := PySem.F.called_set.sub; have g3 := PySem.F.called_set.notType; have g4 := PySem.F.called_set.canCreate; have g5 := PySem.F.typeCall_set_1 (.ref l)
  refine (wpAny_call (codeAny_of_tree (show wpAny _ _ (callAny (.type "set") _) _ _ _ from wpAny_pure ⟨Code.quiet_builtin _ (by decide +kernel), codeAny_builtin PySem.F.entry_type_call ?_⟩)))
  rw [Around.under_plain (weight_type_call_type "set" [.ref l] []) rfl]
  repeat (any_goals (first | wp_step | assumption))
  refine codeAny_mono (code_set_new_1 (.ref l) (E := E) (Q₁ := fun ob s1 => ∃ led : Bool, ob = .ref s.heap.objs.size ∧ s1 = { s with heap := s.heap.push (fresh0 led) }) fun led => ⟨led, rfl, rfl⟩) fun r s1 hr => ?_
  match r, hr with
  | .error e, hr => exact hr
  | .ok .next, hr => exact hr.elim
  | .ok .brk, hr => exact hr.elim
  | .ok .cont, hr => exact hr.elim
  | .ok (.ret ob), hr =>
    obtain ⟨led, rfl, rfl⟩ := hr
    have hS : (s.heap.push (fresh0 led)).get? s.heap.objs.size = some (fresh0 led) := Heap.get?_push_size _ rfl
    have hT : Shared.TypeIs { s with heap := s.heap.push (fresh0 led) } (.ref s.heap.objs.size) "set" := ⟨_, hS, rfl⟩
    have k1 := PySem.F.called_set.init.lookup; have k2 := PySem.F.called_set.init.bind (.ref s.heap.objs.size)
    repeat (any_goals (first | wp_step | assumption))
    refine codeAny_mono (codeAny_call_builtin (R := wants (fun r s2 => r = .none ∧ ∃ h' tk, s2 = { s with heap := h', toks := tk } ∧ HasT P w h' s.heap.objs.size xs ∧ (∀ b o, b < s.heap.objs.size → s.heap.get? b = some o → h'.get? b = some o)) E) PySem.F.called_set.init.plain PySem.F.entry_set_init (check_set_init_1 hT ?_)) fun r2 s2 hr2 => ?_
    · obtain ⟨⟨_, od, _, osl⟩, hol, rfl, nl, rfl⟩ := hl
      have hol2 : (s.heap.push (fresh0 led)).get? l = some { cls := .type "tuple", dict := od, data := .seq its nl, slots := osl } := Heap.get?_push_of_some _ hol
      have n1 := PySem.F.sub_tuple_set; have n2 := PySem.F.sub_tuple_frozenset; have n3 : (Value.type "tuple" == Value.type "dict") = false := by decide
      have isT : (s.heap.push (fresh0 led)).IsTuple l its := ⟨_, hol2, rfl, nl, rfl⟩
      unfold Builtin.«set.__init__» noKeywords Builtin.Frozenset.updateFrom
      generalize hpi : pyIter = PI
      wp_walk
      subst hpi
      refine wpAny_pyIter_tuple isT (wpAny_bind (wpAny_runValue ?_))
      have lS : l < s.heap.objs.size := Heap.lt_size hol
      have hsz : its.size = xs.length := by rw [← StrsAre.len_eq hx, Array.length_toList]
      have neI : l ≠ (s.heap.push (fresh0 led)).objs.size := by rw [Heap.size_push]; exact Nat.ne_of_lt (Nat.lt_succ_of_lt lS)
      have off : s.heap.objs.size ∉ [(s.heap.push (fresh0 led)).objs.size, l] := by rw [Heap.size_push]; simp only [List.mem_cons, List.not_mem_nil, or_false, not_or]; exact ⟨Nat.ne_of_lt (Nat.lt_succ_self _), Nat.ne_of_gt lS⟩
      refine set_turns ((Walks.tuple (by simp [hh]) _ l neI its).toS) s.heap.objs.size off xs hsz.symm (by omega) (fun i v hv => SS.strs_at hx i v (by rw [Array.getElem?_toList]; exact hv)) its.size 0 _ (by omega) ⟨⟨_, Heap.get?_push_size _ rfl, rfl, rfl⟩, isT.push _⟩ ?_ fun s3 mv hS3 => ?_
      · have hg : ((s.heap.push (fresh0 led)).push { cls := .type "tuple_iterator", data := .fields #[.ref l, .int 0 0] }).get? s.heap.objs.size = some (fresh0 led) := Heap.get?_push_of_some _ hS
        exact PyProof.Rows.SetOf_congr ((PyProof.Rows.setObjOf_fresh (knd := PySem.strKind P w) led).setOf hg (by unfold scanBound; omega)) (fun _ => by simp) rfl
      · obtain ⟨h3, gn3, dr3, tk3, os3⟩ := s3
        obtain rfl : gn3 = s.gens := mv.gens
        obtain rfl : dr3 = s.drawn := mv.drawn
        obtain rfl : os3 = s.os := mv.os
        refine (show wpAny _ _ _ _ _ _ from wpAny_pure (show wpAny _ _ (ret Value.none) _ _ _ from wpAny_pure ⟨rfl, h3, tk3, rfl, hS3, fun b o lb e => ?_⟩))
        refine mv.heap b o ?_ (Heap.get?_push_of_some _ (Heap.get?_push_of_some _ e))
        rw [Heap.size_push]; simp only [List.mem_cons, List.not_mem_nil, or_false, not_or]; exact ⟨Nat.ne_of_lt lb, Nat.ne_of_lt (Nat.lt_succ_of_lt lb)⟩
    · match r2, hr2 with
      | .error e, hr2 => exact hr2
      | .ok .next, hr2 => exact hr2.elim
      | .ok .brk, hr2 => exact hr2.elim
      | .ok .cont, hr2 => exact hr2.elim
      | .ok (.ret _), hr2 =>
        obtain ⟨rfl, h', tk, rfl, hS', hk⟩ := hr2
        repeat (any_goals (first | wp_step | assumption))
        exact q _ _ hS' hk
end
section
variable {B : Bs} {X : Cx} {Γ : G} {μ : Mu} {Q : A → Mu → Prop} {e : Expr} {p p2 q0 pos : Pos}
/-- len(set(names)), a tuple of texts -/
theorem wE_lenSet (hm : X.mg "len" = none) (hm2 : X.mg "set" = none) (h : wE B X e Γ μ fun x μ1 => ∃ xs : List Str, x = .tup (xs.map A.str) ∧ xs.length ≤ 1000 ∧ Q (.int (unl xs).length) μ1) (hg : Gl X "len" := by rfl) (hg2 : Gl X "set" := by rfl) (hc : X.calm = true := by rfl)
    (na : starEach [e] X.env = (false, eval e X.env) :: starEach [] X.env := by rfl) : wE B X (.Call (.Name "len" p) [.Call (.Name "set" p2) [e] [] q0] [] pos) Γ μ Q := by
  intro σ M F H bo rs rl
  refine ⟨fun pins s I => ?_⟩
  refine Call_ (ld_blt I hg hm boot_len (PyProof.Rows.callWith_builtin1 (PyProof.Rows.args_cons ?_ rfl) rfl rfl))
  refine Call_ (ld_blt I hg2 hm2 boot_set (PyProof.Rows.callWith_type1 (PyProof.Rows.args_cons (thn ((h σ M F H bo rs rl).o pins s I) fun v s1 got => PyProof.Rows.args_nil ?_) na) na rfl))
  obtain ⟨u, H1, I1, ru, x, F1, μ1, ex, r1, p1, xs, rfl, hx, q1⟩ := got
  rw [rep_tup] at p1
  obtain ⟨a, vs, rfl, h1, h2⟩ := p1
  rw [repL_strs h2] at h1
  cases ru
  obtain ⟨its, rv, pl, hz⟩ := I1.tuple (r1.sub.t h1)
  refine set_of_tuple (I1.ok.hd hc) pl (by simpa using L2.strsAre_of rv) (by unfold scanBound; omega) fun h' tk hS hk => PyProof.Rows.args_nil ?_
  obtain ⟨o, es, ep, t, ho, hex, hd, _, _, _, hf, hn⟩ := hS
  have I2 : Inv X pins σ H1 { s1 with heap := h', toks := tk } := I1.kept fun b o e => hk b o (Heap.lt_size e) e
  have hu := unl_le _ xs rfl
  exact call_len_set ho hex hd hf (by rw [hn]; omega) ⟨.int (unl xs).length, H1, I2.tok _, ⟨_, by rw [hn]⟩, _, F1, μ1, ex, r1, rep_int.mpr rfl, q1⟩
end
end D

set_option Elab.async false
set_option linter.all false
set_option maxRecDepth 100000
set_option maxHeartbeats 4000000
/-! P01: words that write numbers, in plain terms. -/
namespace D
open PySem PySem.Spec PyProof.Rows L2 NumText
def digA (w : Str) : Bool := w.cps.toList.all fun ch => decide (ch ∈ ("0123456789" : Str).cps.toList)
def figIn (w : Str) : Option Int := if (decide ((1 : Int) ≤ w.length) && decide ((w.length : Int) ≤ 4000) && digA w) = true then (if (Txt.startswith w "0" && !decide (w = "0")) = true then none else PySem.intText? w) else none
def optA : Option Int → A
  | none => .non
  | some i => .int i
def wholeOf (w : Str) : Option Int → Option Int
  | none => none
  | some v => if w = "-0" then none else some (if Txt.startswith w "-" = true then 0 - v else v)
def wholeIn (w : Str) : Option Int := wholeOf w (figIn (if Txt.startswith w "-" = true then cutS w (some 1) none else w))
def belowIn (w : Str) : Option Int := if (Txt.partition w "/").2.1 ≠ "" then figIn (Txt.partition w "/").2.2 else some 1
def numOf : Option Int → Option Int → A
  | some n, some d => if d = 0 then .non else low n d
  | _, _ => .non
def numIn (w : Str) : A := numOf (wholeIn (Txt.partition w "/").1) (belowIn w)
theorem fig_mem (c : Nat) : c ∈ ("0123456789" : Str).cps.toList ↔ 48 ≤ c ∧ c ≤ 57 := by
  have e : ("0123456789" : Str).cps.toList = [48, 49, 50, 51, 52, 53, 54, 55, 56, 57] := by decide
  rw [e]
  simp only [List.mem_cons, List.not_mem_nil, or_false]
  omega
theorem digA_all {w : Str} (h : digA w = true) : AllDigits w.cps.toList := fun c hc => by
  have := List.all_eq_true.mp h c hc
  exact (fig_mem c).mp (of_decide_eq_true this)
theorem digitsVal_bound (cs : List Nat) : ∀ acc : Nat, AllDigits cs → cs.foldl (fun acc c => acc * 10 + (c - 48)) acc < (acc + 1) * 10 ^ cs.length := by
  induction cs with
  | nil => intro acc _; simp
  | cons c cs ih =>
    intro acc h
    have hc := h.head
    have := ih (acc * 10 + (c - 48)) h.tail
    rw [List.foldl_cons, List.length_cons, Nat.pow_succ]
    refine Nat.lt_of_lt_of_le this ?_
    have h2 : acc * 10 + (c - 48) + 1 ≤ (acc + 1) * 10 := by omega
    calc _ ≤ (acc + 1) * 10 * 10 ^ cs.length := Nat.mul_le_mul_right _ h2
      _ = _ := by rw [Nat.mul_assoc, Nat.mul_comm 10]
theorem dig_int {w : Str} (h : digA w = true) (h1 : 1 ≤ w.length) (h2 : w.length ≤ 640) : ∃ n : Int, PySem.intText? w = some n ∧ 0 ≤ n ∧ Bd 2200 n := by
  have ha := digA_all h
  have hl : w.cps.toList.length = w.length := Array.length_toList
  refine ⟨_, intText_digits ha (fun z => by rw [z] at hl; simp at hl; omega) (by omega), by omega, ?_⟩
  have hb := digitsVal_bound w.cps.toList 0 ha
  unfold Bd
  rw [Int.natAbs_natCast]
  refine Nat.lt_of_lt_of_le (show digitsVal w.cps.toList < (0 + 1) * 10 ^ w.cps.toList.length from hb) ?_
  rw [Nat.zero_add, Nat.one_mul]
  exact Nat.le_trans (Nat.pow_le_pow_right (by decide) (show w.cps.toList.length ≤ 640 by omega)) (by decide +kernel)
end D

set_option Elab.async false
set_option linter.all false
set_option maxRecDepth 100000
set_option maxHeartbeats 4000000
/-! P02: numbers written and read again; names. -/
namespace D
open PySem PySem.Spec PyProof.Rows L2 TL NumText
theorem starts1 (w : Str) (c : Nat) : Txt.startswith w ⟨#[c]⟩ = decide ((tl w)[0]? = some c) := by
  have h := PySem.StrLaws.subAt_one w c 0
  unfold Txt.startswith
  by_cases e : (tl w)[0]? = some c
  · have h2 := h.mpr e
    rw [decide_eq_true e, h2.2, decide_eq_true h2.1]; rfl
  · rw [decide_eq_false e]
    refine Bool.eq_false_iff.mpr fun z => e (h.mp ?_)
    simpa using z
theorem nought : ("0" : Str) = ⟨#[48]⟩ := by decide
theorem dash : ("-" : Str) = ⟨#[45]⟩ := by decide
/-- what is written of a number, from the number itself -/
def txtN (n : Nat) : Str := Str.ofString (toString ((n : Nat) : Int))
theorem tl_txtN (n : Nat) : tl (txtN n) = numL n := tl_num n
theorem tl_neg (n : Nat) : tl (Str.ofString (toString (Int.negSucc n))) = 45 :: numL (n + 1) := by
  show (Str.ofString ("-" ++ Nat.repr (n + 1))).cps.toList = _
  rw [signs_ofString, String.toList_append, List.map_append, Nat.toList_repr]
  rfl
theorem head48 : ∀ n : Nat, (numL n)[0]? = some 48 → n = 0 := by
  intro n
  induction n using Nat.strongRecOn with
  | _ n ih =>
    intro h
    by_cases hn : n < 10
    · rw [numL_lt hn] at h
      simp at h; omega
    · rw [numL_step (by omega)] at h
      have h0 := numL_ne (n / 10)
      have h1 : (numL (n / 10))[0]? = some 48 := by
        cases e : numL (n / 10) with
        | nil => exact absurd e h0
        | cons x l => rw [e] at h; simpa using h
      have := ih (n / 10) (by omega) h1
      omega
theorem numL_bd {n : Nat} (h : n < 2 ^ 1900) : (numL n).length ≤ 620 := numL_len (by decide) (Nat.lt_of_lt_of_le h (by decide +kernel))
theorem len_txtN {n : Nat} (h : n < 2 ^ 1900) : 1 ≤ (txtN n).length ∧ (txtN n).length ≤ 620 := by
  rw [len_tl, tl_txtN]
  exact ⟨List.length_pos_iff.mpr (numL_ne n), numL_bd h⟩
theorem digA_txtN (n : Nat) : digA (txtN n) = true := by
  unfold digA
  refine List.all_eq_true.mpr fun c hc => decide_eq_true ((fig_mem c).mpr ?_)
  exact numL_digits n c (by rw [← tl_txtN]; exact hc)
theorem figIn_txtN {n : Nat} (h : n < 2 ^ 1900) : figIn (txtN n) = some (n : Int) := by
  obtain ⟨h1, h2⟩ := len_txtN h
  have e1 : PySem.intText? (txtN n) = some (n : Int) := int_num (Nat.le_trans (numL_bd h) (by decide))
  unfold figIn
  rw [digA_txtN, decide_eq_true (show (1 : Int) ≤ (txtN n).length by omega), decide_eq_true (show ((txtN n).length : Int) ≤ 4000 by omega), if_pos (by rfl), e1]
  refine if_neg ?_
  rw [nought, starts1, tl_txtN]
  intro z
  simp only [Bool.and_eq_true, decide_eq_true_eq, Bool.not_eq_true', decide_eq_false_iff_not] at z
  have e2 := head48 n z.1
  subst e2
  exact z.2 (ext_tl (by rw [tl_txtN, numL_lt (by decide)]))
theorem notDash {n : Nat} : (numL n)[0]? ≠ some 45 := fun h => by
  have h1 := List.mem_of_getElem? h
  exact numL_free (Or.inl (by decide)) h1
theorem wholeIn_txt {i : Int} (h : i.natAbs < 2 ^ 1900) : wholeIn (Str.ofString (toString i)) = some i := by
  cases i with
  | ofNat n =>
    have e0 : Str.ofString (toString (Int.ofNat n)) = txtN n := rfl
    have e : Txt.startswith (txtN n) "-" = false := by rw [dash, starts1, tl_txtN]; exact decide_eq_false notDash
    have e3 : txtN n ≠ "-0" := fun z => by
      have z2 := congrArg (fun w => (tl w)[0]?) z
      simp only [tl_txtN] at z2
      exact notDash (n := n) (by rw [z2]; rfl)
    rw [e0]
    unfold wholeIn
    rw [e, if_neg (by simp), figIn_txtN (by simpa using h)]
    unfold wholeOf
    simp only [e, Bool.false_eq_true, if_false, if_neg e3]
    rfl
  | negSucc n =>
    have et := tl_neg n
    generalize hw : Str.ofString (toString (Int.negSucc n)) = w at et
    have e : Txt.startswith w "-" = true := by rw [dash, starts1, et]; rfl
    have e2 : cutS w (some 1) none = txtN (n + 1) := by
      refine ext_tl ?_
      rw [tl_txtN]
      have l1 : w.length = (numL (n + 1)).length + 1 := by rw [len_tl, et]; rfl
      have l2 := List.length_pos_iff.mpr (numL_ne (n + 1))
      unfold cutS HT.sIx
      simp only [show ¬ ((1 : Int) < 0) by omega, if_false]
      have e1 : min (1 : Int).toNat w.length = 1 := by rw [l1]; simp
      rw [e1, tl_mk, show w.cps.toList = 45 :: numL (n + 1) from et, List.drop_one, List.tail_cons, l1]
      exact List.take_of_length_le (by omega)
    have e3 : w ≠ "-0" := fun z => by
      have z2 := congrArg tl z
      rw [et] at z2
      have z3 : numL (n + 1) = [48] := by
        have : tl ("-0" : Str) = [45, 48] := by decide
        rw [this] at z2
        exact (List.cons.inj z2).2
      have := head48 (n + 1) (by rw [z3]; rfl)
      omega
    unfold wholeIn
    rw [e, if_pos rfl, e2, figIn_txtN (by simpa using h)]
    unfold wholeOf
    simp only [e, if_true, if_neg e3]
    congr 1
theorem noStroke (i : Int) : 47 ∉ tl (Str.ofString (toString i)) := by
  cases i with
  | ofNat n => rw [show tl (Str.ofString (toString (Int.ofNat n))) = numL n from tl_num n]; exact numL_free (Or.inl (by decide))
  | negSucc n =>
    rw [tl_neg]
    intro h
    rcases List.mem_cons.mp h with h | h
    · cases h
    · exact numL_free (Or.inl (by decide)) h
theorem strokeL : tl ("/" : Str) = 47 :: [] := by decide
theorem numIn_one {i : Int} (h : i.natAbs < 2 ^ 1900) : numIn (Str.ofString (toString i)) = low i 1 := by
  have e := partition_none strokeL (noStroke i)
  unfold numIn belowIn
  rw [e]
  simp only
  rw [if_neg (by decide), wholeIn_txt h]
  rfl
theorem numIn_two {i : Int} {d : Nat} (h : i.natAbs < 2 ^ 1900) (hd : d < 2 ^ 1900) (d0 : d ≠ 0) : numIn (Str.ofString (toString i) ++ "/" ++ txtN d) = low i d := by
  have e := partition_app strokeL (b := txtN d) (noStroke i)
  unfold numIn belowIn
  rw [e]
  simp only
  rw [if_pos (by decide), wholeIn_txt h, figIn_txtN hd]
  unfold numOf
  simp only
  rw [if_neg (by omega)]
end D

set_option Elab.async false
set_option linter.all false
set_option maxRecDepth 100000
set_option maxHeartbeats 4000000
/-! P03: names. -/
namespace D
open PySem PySem.Spec PyProof.Rows L2 TL NumText
abbrev LETS : Str := "abcdefghijklmnopqrstuvwxyz"
def BARS : List Str := ["in", "out", "part", "give", "call", "repeat", "end", "plus", "less", "times", "over", "power", "most", "least", "size", "pick", "copy"]
def letA (w : Str) : Bool := w.cps.toList.all fun ch => decide (ch ∈ LETS.cps.toList)
def isNm : A → Bool
  | .str w => decide ((1 : Int) ≤ w.length) && decide ((w.length : Int) ≤ 8) && !inA (.str w) (BARS.map A.str) && letA w
  | _ => false
structure NmOk (w : Str) : Prop where
  lt : letA w = true
  lo : 1 ≤ w.length
  hi : w.length ≤ 8
def ltr (i : Int) : Str := ⟨#[LETS.cps.toList.getD i.toNat 97]⟩
theorem ltr_at {i : Int} (h0 : 0 ≤ i) (h1 : i < 26) : atI LETS.cps.toList i = some (LETS.cps.toList.getD i.toNat 97) := by
  have hl : LETS.cps.toList.length = 26 := by decide
  refine atI_pos ?_ h0
  rw [List.getElem?_eq_getElem (by omega), List.getD_eq_getElem?_getD, List.getElem?_eq_getElem (by omega)]; rfl
theorem letA_ltr (i : Int) : letA (ltr i) = true := by
  unfold letA ltr
  simp only [List.all_cons, List.all_nil, Bool.and_true, decide_eq_true_eq]
  by_cases h : i.toNat < LETS.cps.toList.length
  · rw [List.getD_eq_getElem?_getD, List.getElem?_eq_getElem h]; exact List.getElem_mem h
  · rw [List.getD_eq_getElem?_getD, List.getElem?_eq_none (by omega)]; decide
theorem letA_app (a b : Str) : letA (a ++ b) = (letA a && letA b) := by
  unfold letA
  rw [show (a ++ b).cps.toList = a.cps.toList ++ b.cps.toList from tl_append a b, List.all_append]
theorem letA_cut {w : Str} (h : letA w = true) {lo hi : Option Int} : letA (cutS w lo hi) = true := by
  unfold letA at *
  refine List.all_eq_true.mpr fun c hc => List.all_eq_true.mp h c ?_
  unfold cutS at hc
  exact List.mem_of_mem_drop (List.mem_of_mem_take (by simpa using hc))
theorem letA_tl (w : Str) : letA w = (tl w).all fun ch => decide (ch ∈ LETS.cps.toList) := rfl
theorem mem_joinL {S : List Nat} {c : Nat} : ∀ {l : List (List Nat)}, c ∈ joinL S l → c ∈ S ∨ ∃ p ∈ l, c ∈ p
  | [], h => by simp [joinL] at h
  | [p], h => .inr ⟨p, by simp, by simpa [joinL] using h⟩
  | p :: q :: r, h => by
    simp only [joinL, List.mem_append] at h
    rcases h with h | h | h
    · exact .inr ⟨p, by simp, h⟩
    · exact .inl h
    · rcases mem_joinL h with h | ⟨x, hx, h⟩
      · exact .inl h
      · exact .inr ⟨x, List.mem_cons_of_mem _ hx, h⟩
theorem letA_join {ys : List Str} (h : ∀ w ∈ ys, letA w = true) : letA (Txt.join "" ys) = true := by
  rw [letA_tl, join_eq, tl_join]
  refine List.all_eq_true.mpr fun c hc => ?_
  rcases mem_joinL hc with h1 | ⟨p, hp, h1⟩
  · rw [show tl ("" : Str) = [] by decide] at h1; cases h1
  · obtain ⟨w, hw, rfl⟩ := List.mem_map.mp hp
    exact List.all_eq_true.mp (h w hw) c h1
theorem joinL_len : ∀ {l : List (List Nat)}, (∀ p ∈ l, p.length ≤ 1) → (joinL [] l).length ≤ l.length
  | [], _ => by simp [joinL]
  | [p], h => by have := h p (by simp); simpa [joinL] using this
  | p :: q :: r, h => by
    have h1 := h p (by simp)
    have h2 := joinL_len (l := q :: r) fun x hx => h x (List.mem_cons_of_mem _ hx)
    simp only [joinL, List.length_append, List.length_nil, List.length_cons] at *
    omega
theorem len_ltrs (f : Nat → Int) (n : Nat) : (Txt.join "" ((List.range n).map fun j => ltr (f j))).length ≤ n := by
  rw [len_tl, join_eq, tl_join, show tl ("" : Str) = [] by decide]
  refine Nat.le_trans (joinL_len fun p hp => ?_) (by simp)
  obtain ⟨w, hw, rfl⟩ := List.mem_map.mp hp
  obtain ⟨j, _, rfl⟩ := List.mem_map.mp hw
  exact Nat.le_refl 1
theorem sum_ltrs (f : Nat → Int) (l : List Nat) : ((l.map fun j => ltr (f j)).map (·.length)).sum = l.length := by
  induction l with
  | nil => rfl
  | cons x l ih => rw [List.map_cons, List.map_cons, List.sum_cons, ih, List.length_cons]; show 1 + _ = _; omega
theorem cutS_hi (w : Str) (i : Int) (h : 0 ≤ i) : (cutS w none (some i)).length ≤ i.toNat := by
  unfold cutS HT.sIx
  simp only [show ¬ (i < 0) by omega, if_false]
  rw [len_tl, tl_mk, List.length_take]
  omega
theorem cutS_mid (w : Str) (i j : Int) (h : 0 ≤ i ∧ i ≤ j) : (cutS w (some i) (some j)).length ≤ (j - i).toNat := by
  unfold cutS HT.sIx
  simp only [show ¬ (i < 0) by omega, show ¬ (j < 0) by omega, if_false]
  rw [len_tl, tl_mk, List.length_take, List.length_drop]
  omega
def fixN (w : Str) : Str := if inA (.str w) (BARS.map A.str) = true then "zz" ++ cutS w none (some 1) ++ "z" else w
theorem noBar {w : Str} (h : (tl w).take 2 = [122, 122]) : inA (.str w) (BARS.map A.str) = false := by
  refine Bool.eq_false_iff.mpr fun z => ?_
  unfold inA at z
  rw [List.any_map] at z
  obtain ⟨y, hy, e⟩ := List.any_eq_true.mp z
  have e2 : y = w := by simpa [eqA] using e
  subst e2
  have k : BARS.all (fun y => (tl y).take 2 != [122, 122]) = true := by decide
  have k2 := List.all_eq_true.mp k y hy
  rw [h] at k2
  simp at k2
theorem fixN_ok {w : Str} (h : NmOk w) : isNm (.str (fixN w)) = true := by
  have h1 := h.lo
  have h2 := h.hi
  unfold fixN
  split
  · have n2 := cutS_hi w 1 (by omega)
    have e2 : ("zz" : Str).length = 2 := by decide
    have e3 : ("z" : Str).length = 1 := by decide
    have hl : ("zz" ++ cutS w none (some 1) ++ "z" : Str).length = 2 + (cutS w none (some 1)).length + 1 := by rw [Str.length_append, Str.length_append, e2, e3]
    simp only [isNm]
    rw [decide_eq_true (by omega), decide_eq_true (by omega), letA_app, letA_app, letA_cut h.lt, noBar]
    · decide
    · rw [tl_append, tl_append, show tl ("zz" : Str) = [122, 122] by decide]; rfl
  · rename_i hb
    simp only [isNm]
    rw [decide_eq_true (by omega), decide_eq_true (by omega), h.lt, Bool.eq_false_iff.mpr hb]; rfl
theorem isNm_wd {w : Str} (h : isNm (.str w) = true) : w.length ≤ 8 := by
  simp only [isNm, Bool.and_eq_true, decide_eq_true_eq] at h
  omega
end D

set_option Elab.async false
set_option linter.all false
set_option maxRecDepth 100000
set_option maxHeartbeats 4000000
/-! PG: programs as plain data. -/
namespace D
open PySem PySem.Spec PyProof.Rows L2
/-- the rows of a class -/
def bodyC : Stmt → List Stmt
  | .ClassDef (body := these) .. => these
  | _ => []
def TAKENL : List (Str × Int) := [("plus", 2), ("less", 2), ("times", 2), ("over", 2), ("power", 2), ("most", 2), ("least", 2), ("size", 1), ("pick", 3), ("copy", 1)]
/-- a name told: last, if it wasn't there -/
def insT (T : List Str) (w : Str) : List Str := if w ∈ T then T else T ++ [w]
theorem mem_insT {T : List Str} {w x : Str} : x ∈ insT T w ↔ x ∈ T ∨ x = w := by
  unfold insT
  split
  · rename_i h
    exact ⟨.inl, fun z => z.elim id fun e => e ▸ h⟩
  · simp
abbrev Tk (T : List Str) : List (Key × A) := T.map fun w => ((.inr w : Key), A.bl true)
abbrev Pk (Pn : List (Str × Int)) : List (Key × A) := Pn.map fun p => ((.inr p.1 : Key), A.int p.2)
theorem valA_Tk (w : Str) : ∀ T : List Str, valA (Tk T) (.inr w) = if w ∈ T then some (.bl true) else none
  | [] => by simp [valA]
  | x :: T => by
    have ih := valA_Tk w T
    simp only [valA, Tk, List.map_cons, List.find?_cons] at ih ⊢
    by_cases e : x = w
    · subst e; simp
    · have e2 : ¬ w = x := fun z => e z.symm
      simp only [Sum.inr.injEq, e, decide_false, List.mem_cons, e2, false_or]
      exact ih
theorem any_Tk (w : Str) (T : List Str) : ((Tk T).any fun kv => decide (kv.1 = (.inr w : Key))) = decide (w ∈ T) := by
  rw [List.any_map]
  by_cases h : w ∈ T
  · rw [decide_eq_true h]
    exact List.any_eq_true.mpr ⟨w, h, by simp⟩
  · rw [decide_eq_false h]
    refine Bool.eq_false_iff.mpr fun z => h ?_
    obtain ⟨x, hx, e⟩ := List.any_eq_true.mp z
    have e2 : x = w := by simpa using e
    exact e2 ▸ hx
theorem putA_Tk (T : List Str) (w : Str) : putA (Tk T) (.inr w) (.bl true) = Tk (insT T w) := by
  unfold putA insT
  rw [any_Tk]
  by_cases h : w ∈ T
  · rw [decide_eq_true h, if_pos rfl, if_pos h]
    unfold Tk
    rw [List.map_map]
    refine List.map_congr_left fun x _ => ?_
    simp only [Function.comp]
    split <;> rfl
  · rw [decide_eq_false h, if_neg (by simp), if_neg h]
    simp [Tk]
theorem valA_Pk (w : Str) : ∀ Pn : List (Str × Int), valA (Pk Pn) (.inr w) = (valI Pn w).map A.int
  | [] => by simp [valA, valI]
  | (x, i) :: Pn => by
    have ih := valA_Pk w Pn
    simp only [valA, valI, Pk, List.map_cons, List.find?_cons] at ih ⊢
    by_cases e : x = w
    · subst e; simp
    · simp only [Sum.inr.injEq, e, decide_false]
      exact ih
theorem putA_Pk {w : Str} {n : Int} : ∀ {Pn : List (Str × Int)}, valI Pn w = none → putA (Pk Pn) (.inr w) (.int n) = Pk (Pn ++ [(w, n)]) := by
  intro Pn h
  unfold putA
  have e : ((Pk Pn).any fun kv => decide (kv.1 = (.inr w : Key))) = false := by
    refine Bool.eq_false_iff.mpr fun z => ?_
    rw [List.any_map] at z
    obtain ⟨p, hp, e⟩ := List.any_eq_true.mp z
    have e2 : p.1 = w := by simpa using e
    unfold valI at h
    rw [Option.map_eq_none_iff, List.find?_eq_none] at h
    exact h p hp (by simp [e2])
  rw [e, if_neg (by simp)]
  simp [Pk]
/-- a told name or a fraction -/
def ThOk (T : List Str) (x : A) : Prop := (∃ w, x = .str w ∧ w ∈ T ∧ letA w = true ∧ w.length ≤ 8) ∨ ∃ n d, x = .tup [.int n, .int d] ∧ Fr n d
theorem ThOk.up {T T' : List Str} {x : A} (h : ThOk T x) (w : ∀ y ∈ T, y ∈ T') : ThOk T' x := by
  rcases h with ⟨a, h1, h2, h3⟩ | h
  · exact .inl ⟨a, h1, w a h2, h3⟩
  · exact .inr h
/-- a word and what it takes -/
def RowOk (Pn : List (Str × Int)) (T : List Str) (w : Str) (ts : List A) : Prop :=
  (w = "call" ∧ ∃ c r, ts = .str c :: r ∧ valI Pn c = some (r.length : Int) ∧ letA c = true ∧ c.length ≤ 8 ∧ ∀ a ∈ r, ThOk T a) ∨
  (w = "power" ∧ ∃ a k, ts = [a, .int k] ∧ ThOk T a ∧ -8 ≤ k ∧ k ≤ 8) ∨
  (w ≠ "call" ∧ w ≠ "power" ∧ valI TAKENL w = some (ts.length : Int) ∧ ∀ a ∈ ts, ThOk T a)
theorem RowOk.up {Pn : List (Str × Int)} {T T' : List Str} {w : Str} {ts : List A} (h : RowOk Pn T w ts) (u : ∀ y ∈ T, y ∈ T') : RowOk Pn T' w ts := by
  rcases h with ⟨h1, c, r, h2, h3, h4, h5, h6⟩ | ⟨h1, a, k, h2, h3, h4⟩ | ⟨h1, h2, h3, h4⟩
  · exact .inl ⟨h1, c, r, h2, h3, h4, h5, fun a ha => (h6 a ha).up u⟩
  · exact .inr (.inl ⟨h1, a, k, h2, h3.up u, h4⟩)
  · exact .inr (.inr ⟨h1, h2, h3, fun a ha => (h4 a ha).up u⟩)
inductive It where
  | row (x w : Str) (ts : List A)
  | rep (n : Int) (b : List It)
mutual
def It.a : It → A
  | .row x w ts => .tup [.str "row", .str x, .str w, .tup ts]
  | .rep n b => .tup [.str "repeat", .int n, .tup (aIts b)]
def aIts : List It → List A
  | [] => []
  | i :: r => i.a :: aIts r
end
mutual
/-- the names told behind it -/
def It.told : It → List Str → List Str
  | .row x _ _, T => insT T x
  | .rep _ b, T => toldIts b T
def toldIts : List It → List Str → List Str
  | [], T => T
  | i :: r, T => toldIts r (i.told T)
end
mutual
def It.ok (Pn : List (Str × Int)) : Nat → List Str → It → Prop
  | d, T, .row x w ts => d ≤ 3 ∧ isNm (.str x) = true ∧ RowOk Pn T w ts
  | d, T, .rep n b => d < 3 ∧ 1 ≤ n ∧ n ≤ 200 ∧ okIts Pn (d + 1) T b
def okIts (Pn : List (Str × Int)) : Nat → List Str → List It → Prop
  | _, _, [] => True
  | d, T, i :: r => i.ok Pn d T ∧ okIts Pn d (i.told T) r
end
mutual
def It.size : It → Nat
  | .row _ _ _ => 1
  | .rep _ b => 1 + sizeIts b
def sizeIts : List It → Nat
  | [] => 0
  | i :: r => i.size + sizeIts r
end
mutual
/-- no row takes too many things -/
def It.tsOk : It → Prop
  | .row _ _ ts => ts.length ≤ 1000
  | .rep _ b => tsIts b
def tsIts : List It → Prop
  | [] => True
  | i :: r => i.tsOk ∧ tsIts r
end
mutual
theorem told_len : ∀ (i : It) (T : List Str), (i.told T).length ≤ T.length + i.size
  | .row x _ _, T => by
    simp only [It.told, It.size, insT]
    split
    · omega
    · simp
  | .rep _ b, T => by
    simp only [It.told, It.size]
    have := tolds_len b T
    omega
theorem tolds_len : ∀ (l : List It) (T : List Str), (toldIts l T).length ≤ T.length + sizeIts l
  | [], _ => by simp [toldIts, sizeIts]
  | i :: r, T => by
    simp only [toldIts, sizeIts]
    have h1 := told_len i T
    have h2 := tolds_len r (i.told T)
    omega
end
theorem aIts_len : ∀ l : List It, (aIts l).length = l.length
  | [] => rfl
  | i :: r => by simp [aIts, aIts_len r]
theorem len_size : ∀ l : List It, l.length ≤ sizeIts l
  | [] => Nat.le_refl _
  | i :: r => by
    have := len_size r
    have : 1 ≤ i.size := by cases i <;> simp [It.size]
    simp only [sizeIts, List.length_cons]; omega
/-- texts of letters are plain data -/
theorem strOk_let {w : Str} (h : letA w = true) : PyData.strOk w = true := by
  unfold PyData.strOk
  rw [← Array.all_toList]
  refine List.all_eq_true.mpr fun c hc => ?_
  have h1 := of_decide_eq_true (List.all_eq_true.mp h c hc)
  have h2 : LETS.cps.toList.all (fun c => decide (c < 1114112)) = true := by decide
  exact List.all_eq_true.mp h2 c h1
theorem ThOk.dat {T : List Str} {x : A} (h : ThOk T x) : isD x = true ∧ deep x ≤ 1 := by
  rcases h with ⟨w, rfl, _, h2, _⟩ | ⟨n, d, rfl, _⟩
  · exact ⟨by simp only [isD]; exact strOk_let h2, by simp [deep]⟩
  · exact ⟨rfl, by simp [deep, deeps]⟩
theorem RowOk.dat {Pn : List (Str × Int)} {T : List Str} {w : Str} {ts : List A} (h : RowOk Pn T w ts) : isDs ts = true ∧ deeps ts ≤ 1 ∧ PyData.strOk w = true ∧ ts ≠ [] := by
  have key : ∀ {l : List A}, (∀ a ∈ l, ThOk T a) → isDs l = true ∧ deeps l ≤ 1 := fun h => ⟨isDs_all fun a ha => (h a ha).dat.1, deeps_le fun a ha => (h a ha).dat.2⟩
  rcases h with ⟨rfl, c, r, rfl, _, h4, _, h6⟩ | ⟨rfl, a, k, rfl, h3, _⟩ | ⟨h1, h2, h3, h4⟩
  · obtain ⟨k1, k2⟩ := key h6
    refine ⟨by simp only [isDs, isD, k1, strOk_let h4, Bool.and_self], ?_, by decide +kernel, by simp⟩
    simp only [deeps, deep]; omega
  · obtain ⟨k1, k2⟩ := h3.dat
    refine ⟨by simp only [isDs, isD, k1, Bool.and_self], ?_, by decide +kernel, by simp⟩
    simp only [deeps, deep]; omega
  · obtain ⟨k1, k2⟩ := key h4
    have hm : ∃ i, (w, i) ∈ TAKENL ∧ 0 < i := by
      unfold valI at h3
      cases e : TAKENL.find? (fun kv => decide (kv.1 = w)) with
      | none => rw [e] at h3; cases h3
      | some p =>
        have h5 := List.mem_of_find?_eq_some e
        have h6 := List.find?_some e
        have h7 : p.1 = w := by simpa using h6
        have h8 : TAKENL.all (fun p => decide (0 < p.2)) = true := by decide
        exact ⟨p.2, h7 ▸ h5, by simpa using List.all_eq_true.mp h8 p h5⟩
    obtain ⟨i, hi, _⟩ := hm
    have h8 : TAKENL.all (fun p => PyData.strOk p.1) = true := by decide +kernel
    refine ⟨k1, k2, List.all_eq_true.mp h8 _ hi, fun z => ?_⟩
    subst z
    unfold valI at h3
    cases e : TAKENL.find? (fun kv => decide (kv.1 = w)) with
    | none => rw [e] at h3; cases h3
    | some p =>
      rw [e] at h3
      have h5 := List.mem_of_find?_eq_some e
      have h8 : TAKENL.all (fun p => decide (0 < p.2)) = true := by decide
      have h9 := List.all_eq_true.mp h8 p h5
      simp at h3 h9
      omega
theorem isNm_let {w : Str} (h : isNm (.str w) = true) : letA w = true ∧ w.length ≤ 8 ∧ 1 ≤ w.length := by
  simp only [isNm, Bool.and_eq_true, decide_eq_true_eq] at h
  exact ⟨h.2, by omega, by omega⟩
mutual
theorem It.dat {Pn : List (Str × Int)} : ∀ {i : It} {d : Nat} {T : List Str}, i.ok Pn d T → isD i.a = true ∧ deep i.a ≤ 11 - 2 * d
  | .row x w ts, d, T, h => by
    simp only [It.ok] at h
    obtain ⟨h0, h1, h2⟩ := h
    obtain ⟨k1, k2, k3, _⟩ := h2.dat
    refine ⟨?_, ?_⟩
    · simp only [It.a, isD, isDs, k1, k3, strOk_let (isNm_let h1).1, Bool.and_true, Bool.true_and]; decide +kernel
    · simp only [It.a, deep, deeps]; omega
  | .rep n b, d, T, h => by
    simp only [It.ok] at h
    obtain ⟨h1, _, _, h4⟩ := h
    obtain ⟨k1, k2⟩ := datIts h4
    refine ⟨?_, ?_⟩
    · simp only [It.a, isD, isDs, k1, Bool.and_true, Bool.true_and]; decide +kernel
    · simp only [It.a, deep, deeps]; omega
theorem datIts {Pn : List (Str × Int)} : ∀ {l : List It} {d : Nat} {T : List Str}, okIts Pn d T l → isDs (aIts l) = true ∧ deeps (aIts l) ≤ 11 - 2 * d
  | [], _, _, _ => ⟨rfl, Nat.zero_le _⟩
  | i :: r, d, T, h => by
    simp only [okIts] at h
    obtain ⟨k1, k2⟩ := It.dat h.1
    obtain ⟨k3, k4⟩ := datIts h.2
    exact ⟨by simp only [aIts, isDs, k1, k3, Bool.and_self], by simp only [aIts, deeps]; omega⟩
end
/-! ### parts, programs -/
structure Pt where
  nm : Str
  ins : List Str
  body : List It
  give : Str
def Pt.a (q : Pt) : A := .tup [.str q.nm, .tup (q.ins.map A.str), .tup (aIts q.body), .str q.give]
def Pt.size (q : Pt) : Nat := 2 + q.ins.length + sizeIts q.body
structure Pt.ok (q : Pt) (Pn : List (Str × Int)) : Prop where
  nm : isNm (.str q.nm) = true
  new : valI Pn q.nm = none
  i1 : 1 ≤ q.ins.length
  i4 : q.ins.length ≤ 4
  ins : ∀ w ∈ q.ins, isNm (.str w) = true
  unl : q.ins.Nodup
  ts : tsIts q.body
  body : okIts Pn 0 q.ins q.body
  give : q.give ∈ toldIts q.body q.ins
def okPts : List (Str × Int) → List Pt → Prop
  | _, [] => True
  | Pn, q :: r => q.ok Pn ∧ okPts (Pn ++ [(q.nm, (q.ins.length : Int))]) r
def sizePts (l : List Pt) : Nat := (l.map Pt.size).sum
abbrev pnPts (l : List Pt) : List (Str × Int) := l.map fun q => (q.nm, (q.ins.length : Int))
structure Pg where
  parts : List Pt
  ins : List Str
  body : List It
  outs : List Str
def Pg.a (g : Pg) : A := .tup [.tup (g.parts.map Pt.a), .tup (g.ins.map A.str), .tup (aIts g.body), .tup (g.outs.map A.str)]
def Pg.size (g : Pg) : Nat := sizePts g.parts + g.ins.length + sizeIts g.body + g.outs.length
structure Pg.ok (g : Pg) : Prop where
  p6 : g.parts.length ≤ 6
  parts : okPts [] g.parts
  i1 : 1 ≤ g.ins.length
  i6 : g.ins.length ≤ 6
  ins : ∀ w ∈ g.ins, isNm (.str w) = true
  unl : g.ins.Nodup
  ts : tsIts g.body
  body : okIts (pnPts g.parts) 0 g.ins g.body
  o1 : 1 ≤ g.outs.length
  o4 : g.outs.length ≤ 4
  outs : ∀ w ∈ g.outs, isNm (.str w) = true ∧ w ∈ toldIts g.body g.ins
  size : g.size ≤ 80
theorem valI_none {Pn : List (Str × Int)} {w : Str} (h : valI Pn w = none) : ∀ p ∈ Pn, p.1 ≠ w := fun p hp e => by
  unfold valI at h
  rw [Option.map_eq_none_iff, List.find?_eq_none] at h
  exact h p hp (by simp [e])
theorem okPts_nodup : ∀ {l : List Pt} {Pn : List (Str × Int)}, okPts Pn l → (l.map (·.nm)).Nodup ∧ ∀ q ∈ l, ∀ p ∈ Pn, p.1 ≠ q.nm
  | [], _, _ => ⟨.nil, fun _ h => nomatch h⟩
  | q :: r, Pn, h => by
    simp only [okPts] at h
    obtain ⟨h1, h2⟩ := okPts_nodup h.2
    refine ⟨?_, fun x hx p hp => ?_⟩
    · rw [List.map_cons, List.nodup_cons]
      refine ⟨fun hm => ?_, h1⟩
      obtain ⟨x, hx, e⟩ := List.mem_map.mp hm
      exact h2 x hx (q.nm, q.ins.length) (by simp) e.symm
    · rcases List.mem_cons.mp hx with rfl | hx
      · exact valI_none h.1.new p hp
      · exact h2 x hx p (List.mem_append_left _ hp)
theorem merge_acc : ∀ (l acc : List (Key × A)), ((acc ++ l).map (·.1)).Nodup → mergeA acc l = acc ++ l
  | [], acc, _ => by simp [mergeA]
  | kv :: l, acc, h => by
    have hn : (acc.any fun x => decide (x.1 = kv.1)) = false := by
      refine Bool.eq_false_iff.mpr fun z => ?_
      obtain ⟨x, hx, e⟩ := List.any_eq_true.mp z
      rw [List.map_append, List.nodup_append] at h
      exact h.2.2 x.1 (List.mem_map.mpr ⟨x, hx, rfl⟩) kv.1 (by simp) (of_decide_eq_true e)
    have e : putA acc kv.1 kv.2 = acc ++ [kv] := by unfold putA; rw [hn, if_neg (by simp)]
    have ih := merge_acc l (acc ++ [kv]) (by simpa using h)
    unfold mergeA at ih ⊢
    rw [List.foldl_cons, e, ih]
    simp
theorem merge_nodup {l : List (Key × A)} (h : (l.map (·.1)).Nodup) : mergeA [] l = l := by simpa using merge_acc l [] (by simpa using h)
theorem merge_Tk {T : List Str} (h : T.Nodup) : mergeA [] (Tk T) = Tk T := by
  refine merge_nodup ?_
  rw [List.map_map]
  exact List.Pairwise.map _ (fun a b hab e => hab (Sum.inr.inj e)) h
/-! ### what a law draws by, with room and names -/
def moreL : Option (List Str) → List (Key × A)
  | none => []
  | some ns => [(.inr "names", .lst (ns.map A.str))]
abbrev dicL (fs : List Int) (l : Addr) (at_ rm : Int) (mo : Option (List Str)) : List (Key × A) := [(.inr "cells", .lst (fs.map A.int)), (.inr "left", .loc l), (.inr "at", .int at_), (.inr "room", .int rm)] ++ moreL mo
theorem dicL_at {fs : List Int} {l : Addr} {at_ rm n : Int} {mo : Option (List Str)} : putA (dicL fs l at_ rm mo) (.inr "at") (.int n) = dicL fs l n rm mo := by cases mo <;> rfl
theorem dicL_room {fs : List Int} {l : Addr} {at_ rm n : Int} {mo : Option (List Str)} : putA (dicL fs l at_ rm mo) (.inr "room") (.int n) = dicL fs l at_ n mo := by cases mo <;> rfl
theorem dicL_names {fs : List Int} {l : Addr} {at_ rm : Int} {mo : Option (List Str)} {ns : List Str} : putA (dicL fs l at_ rm mo) (.inr "names") (.lst (ns.map A.str)) = dicL fs l at_ rm (some ns) := by cases mo <;> rfl
theorem dicL_len {fs : List Int} {l : Addr} {at_ rm : Int} {mo : Option (List Str)} : (dicL fs l at_ rm mo).length ≤ 5 := by cases mo <;> simp [dicL, moreL]
/-- the dict at m, its list at l; at most c draws so far; room, names -/
structure Lx (m l : Addr) (c : Nat) (rm : Int) (mo : Option (List Str)) (μ : Mu) : Prop where
  ex : ∃ (fs left : List Int) (at_ : Int), μ m = some (.dic (dicL fs l at_ rm mo)) ∧ μ l = some (.lst (left.map A.int)) ∧ G64 fs ∧ left.length ≤ 63 ∧ 0 ≤ at_ ∧ at_ ≤ c
  ne : l ≠ m
theorem Lx.up {m l : Addr} {c d : Nat} {rm : Int} {mo : Option (List Str)} {μ : Mu} (h : Lx m l c rm mo μ) (hd : c ≤ d) : Lx m l d rm mo μ := by
  obtain ⟨⟨fs, left, a, h1, h2, h3, h4, h5, h6⟩, h7⟩ := h
  exact ⟨⟨fs, left, a, h1, h2, h3, h4, h5, by omega⟩, h7⟩
theorem Lx.sub {m l : Addr} {c : Nat} {rm : Int} {mo : Option (List Str)} {μ μ' : Mu} (h : Lx m l c rm mo μ) (s : Sub μ μ') : Lx m l c rm mo μ' := by
  obtain ⟨⟨fs, left, a, h1, h2, h3⟩, h7⟩ := h
  exact ⟨⟨fs, left, a, s _ _ h1, s _ _ h2, h3⟩, h7⟩
theorem Lx.off {m l : Addr} {c : Nat} {rm : Int} {mo : Option (List Str)} {μ : Mu} (h : Lx m l c rm mo μ) {p : Addr} (n : μ p = none) : p ≠ m ∧ p ≠ l := by
  obtain ⟨⟨fs, left, a, h1, h2, h3⟩, h7⟩ := h
  exact ⟨fun z => by (rw [z, h1] at n; cases n), fun z => by (rw [z, h2] at n; cases n)⟩
theorem Lx.set {m l : Addr} {c : Nat} {rm rm' : Int} {mo mo' : Option (List Str)} {μ : Mu} {kvs : List (Key × A)} (h : Lx m l c rm mo μ) (e : ∀ fs at_, μ m = some (.dic (dicL fs l at_ rm mo)) → kvs = dicL fs l at_ rm' mo') : Lx m l c rm' mo' (μ.upd m (.dic kvs)) := by
  obtain ⟨⟨fs, left, a, h1, h2, h3⟩, h7⟩ := h
  exact ⟨⟨fs, left, a, by rw [Mu.upd_same, e fs a h1], by rw [Mu.upd_ne h7]; exact h2, h3⟩, h7⟩
end D

set_option Elab.async false
set_option linter.all false
set_option maxRecDepth 100000
set_option maxHeartbeats 4000000
/-! PN: the names that a law makes are unlike. -/
namespace D
open PySem PySem.Spec PyProof.Rows L2 TL
def lt (i : Int) : Nat := LETS.cps.toList.getD i.toNat 97
theorem lt_tab : ((List.range 26).all fun a => (List.range 26).all fun b => (lt a != lt b) || a == b) = true := by decide +kernel
theorem lt_inj {a b : Int} (ha : 0 ≤ a ∧ a < 26) (hb : 0 ≤ b ∧ b < 26) (h : lt a = lt b) : a = b := by
  have h1 := List.all_eq_true.mp (List.all_eq_true.mp lt_tab a.toNat (List.mem_range.mpr (by omega))) b.toNat (List.mem_range.mpr (by omega))
  rw [Int.toNat_of_nonneg ha.1, Int.toNat_of_nonneg hb.1, h] at h1
  simp at h1
  omega
theorem tl_ltr (i : Int) : tl (ltr i) = [lt i] := rfl
def baseW (start : Int) : Str := Txt.join "" ((List.range 8).map fun (j : Nat) => ltr ((start + 5 * (0 + (j : Int))) % 26))
def baseL (start : Int) : List Nat := (List.range 8).map fun (j : Nat) => lt ((start + 5 * (0 + (j : Int))) % 26)
theorem joinL_nil : ∀ l : List (List Nat), joinL [] l = l.flatten
  | [] => rfl
  | [p] => by simp [joinL]
  | p :: q :: r => by simp only [joinL, List.nil_append, joinL_nil (q :: r), List.flatten_cons]
theorem tl_base (start : Int) : tl (baseW start) = baseL start := by
  unfold baseW baseL
  rw [join_eq, tl_join, show tl ("" : Str) = [] by decide, joinL_nil, List.map_map]
  rw [show (tl ∘ fun (j : Nat) => ltr ((start + 5 * (0 + (j : Int))) % 26)) = fun (j : Nat) => [lt ((start + 5 * (0 + (j : Int))) % 26)] from rfl]
  generalize List.range 8 = l
  induction l with
  | nil => rfl
  | cons x l ih => simp only [List.map_cons, List.flatten_cons, ih]; rfl
theorem base_len (start : Int) : (baseL start).length = 8 := by simp [baseL]
theorem base_at {start : Int} {q v : Nat} (h : (baseL start)[q]? = some v) : q < 8 ∧ v = lt ((start + 5 * (q : Int)) % 26) := by
  have hq : q < 8 := by have := (List.getElem?_eq_some_iff.mp h).1; rwa [base_len] at this
  unfold baseL at h
  rw [List.getElem?_map, List.getElem?_range hq] at h
  refine ⟨hq, ?_⟩
  have := Option.some.inj h
  rw [← this]; simp only [Int.zero_add]
theorem base_two {start : Int} {q r v : Nat} (h1 : (baseL start)[q]? = some v) (h2 : (baseL start)[r]? = some v) : q = r := by
  obtain ⟨a1, a2⟩ := base_at h1
  obtain ⟨b1, b2⟩ := base_at h2
  have := lt_inj (by omega) (by omega) (a2.symm.trans b2)
  omega
theorem tl_cut0 (w : Str) {i : Int} (h : 0 ≤ i) : tl (cutS w none (some i)) = (tl w).take i.toNat := by
  unfold cutS HT.sIx
  simp only [show ¬ (i < 0) by omega, if_false]
  rw [tl_mk, show w.cps.toList = tl w from rfl, len_tl, List.drop_zero, Nat.sub_zero]
  by_cases hh : i.toNat ≤ (tl w).length
  · rw [Nat.min_eq_left hh]
  · rw [Nat.min_eq_right (by omega), List.take_length, List.take_of_length_le (by omega)]
theorem tl_cut2 (w : Str) {i j : Int} (h : 0 ≤ i) (hj : i ≤ j) (hl : j.toNat ≤ (tl w).length) : tl (cutS w (some i) (some j)) = ((tl w).drop i.toNat).take (j.toNat - i.toNat) := by
  unfold cutS HT.sIx
  simp only [show ¬ (i < 0) by omega, show ¬ (j < 0) by omega, if_false]
  rw [tl_mk, show w.cps.toList = tl w from rfl, len_tl, Nat.min_eq_left (by omega), Nat.min_eq_left (by omega)]
def nmW (start way size at_ stride : Int) (base : Str) (k : Nat) : Str :=
  if way = 3 then ltr ((start + stride * (0 + (k : Int))) % 26) ++ cutS base none (some ((0 + (k : Int)) * stride % 8))
  else cutS base none (some at_) ++ ltr ((start + stride * (0 + (k : Int))) % 26) ++ cutS base (some (at_ + 1)) (some size)
structure NmP (start size at_ stride : Int) : Prop where
  s0 : 0 ≤ start
  a0 : 0 ≤ at_
  a1 : at_ < size
  z : size ≤ 7
  st : stride = 1 ∨ stride = 3 ∨ stride = 7 ∨ stride = 11 ∨ stride = 17 ∨ stride = 25
section
variable {start way size at_ stride : Int} {i j : Nat}
theorem mark_inj (h : NmP start size at_ stride) (hi : i < 12) (hj : j < 12) (e : lt ((start + stride * (0 + (i : Int))) % 26) = lt ((start + stride * (0 + (j : Int))) % 26)) : i = j := by
  have e2 := lt_inj ⟨Int.emod_nonneg _ (by decide), Int.emod_lt_of_pos _ (by decide)⟩ ⟨Int.emod_nonneg _ (by decide), Int.emod_lt_of_pos _ (by decide)⟩ e
  rcases h.st with rfl | rfl | rfl | rfl | rfl | rfl <;> omega
theorem tl_way3 (h : NmP start size at_ stride) : tl (nmW start 3 size at_ stride (baseW start) i) = lt ((start + stride * (0 + (i : Int))) % 26) :: (baseL start).take ((0 + (i : Int)) * stride % 8).toNat := by
  unfold nmW
  rw [if_pos rfl, tl_append, tl_ltr, tl_cut0 _ (Int.emod_nonneg _ (by decide)), tl_base]
  rfl
theorem tl_else (h : NmP start size at_ stride) (hw : way ≠ 3) : tl (nmW start way size at_ stride (baseW start) i) = (baseL start).take at_.toNat ++ lt ((start + stride * (0 + (i : Int))) % 26) :: ((baseL start).drop (at_.toNat + 1)).take (size.toNat - (at_.toNat + 1)) := by
  have h1 := h.a0
  have h2 := h.a1
  have h3 := h.z
  unfold nmW
  rw [if_neg hw, tl_append, tl_append, tl_ltr, tl_cut0 _ h1, tl_cut2 _ (by omega) (by omega) (by rw [tl_base, base_len]; omega), tl_base, List.append_assoc, show (at_ + 1).toNat = at_.toNat + 1 by omega]
  rfl
theorem else_at (h : NmP start size at_ stride) (hw : way ≠ 3) : (tl (nmW start way size at_ stride (baseW start) i))[at_.toNat]? = some (lt ((start + stride * (0 + (i : Int))) % 26)) := by
  have h1 := h.a0
  have h2 := h.a1
  have h3 := h.z
  rw [tl_else h hw]
  have e : ((baseL start).take at_.toNat).length = at_.toNat := by rw [List.length_take, base_len]; omega
  rw [List.getElem?_append_right (by omega), e, Nat.sub_self]; rfl
theorem else_off (h : NmP start size at_ stride) (hw : way ≠ 3) {q v : Nat} (hq : q ≠ at_.toNat) (e : (tl (nmW start way size at_ stride (baseW start) i))[q]? = some v) : (baseL start)[q]? = some v := by
  have h1 := h.a0
  have h2 := h.a1
  have h3 := h.z
  rw [tl_else h hw] at e
  have el : ((baseL start).take at_.toNat).length = at_.toNat := by rw [List.length_take, base_len]; omega
  by_cases hlt : q < at_.toNat
  · rw [List.getElem?_append_left (by omega), List.getElem?_take, if_pos hlt] at e
    exact e
  · rw [List.getElem?_append_right (by omega), el, show q - at_.toNat = (q - at_.toNat - 1) + 1 by omega, List.getElem?_cons_succ, List.getElem?_take] at e
    split at e
    · rw [List.getElem?_drop, show at_.toNat + 1 + (q - at_.toNat - 1) = q by omega] at e
      exact e
    · cases e
theorem else_same (h : NmP start size at_ stride) (hw : way ≠ 3) {q : Nat} (hq : q ≠ at_.toNat) : (tl (nmW start way size at_ stride (baseW start) i))[q]? = (tl (nmW start way size at_ stride (baseW start) j))[q]? := by
  have h1 := h.a0
  have h2 := h.a1
  have h3 := h.z
  rw [tl_else h hw, tl_else h hw]
  have el : ((baseL start).take at_.toNat).length = at_.toNat := by rw [List.length_take, base_len]; omega
  by_cases hlt : q < at_.toNat
  · rw [List.getElem?_append_left (by omega), List.getElem?_append_left (by omega)]
  · rw [List.getElem?_append_right (by omega), List.getElem?_append_right (by omega), el, show q - at_.toNat = (q - at_.toNat - 1) + 1 by omega, List.getElem?_cons_succ, List.getElem?_cons_succ]
theorem else_len (h : NmP start size at_ stride) (hw : way ≠ 3) : (tl (nmW start way size at_ stride (baseW start) i)).length = (tl (nmW start way size at_ stride (baseW start) j)).length := by
  rw [tl_else h hw, tl_else h hw]; simp
theorem nm_inj (h : NmP start size at_ stride) (hi : i < 12) (hj : j < 12) (e : nmW start way size at_ stride (baseW start) i = nmW start way size at_ stride (baseW start) j) : i = j := by
  by_cases hw : way = 3
  · subst hw
    have e2 := congrArg tl e
    rw [tl_way3 h, tl_way3 h] at e2
    exact mark_inj h hi hj (List.cons.inj e2).1
  · have e2 := congrArg (fun w => (tl w)[at_.toNat]?) e
    rw [else_at h hw, else_at h hw] at e2
    exact mark_inj h hi hj (Option.some.inj e2)
theorem barsFar : (BARS.all fun a => BARS.all fun b => decide (a = b) || (List.range 7).all fun p => !((tl a).length == (tl b).length && ((List.range 8).all fun q => q == p + 1 || (tl a)[q]? == (tl b)[q]?))) = true := by decide +kernel
theorem in_bars {w : Str} (h : inA (.str w) (BARS.map A.str) = true) : w ∈ BARS := by
  unfold inA at h
  rw [List.any_map] at h
  obtain ⟨y, hy, e⟩ := List.any_eq_true.mp h
  have e2 : y = w := by simpa [eqA] using e
  exact e2 ▸ hy
theorem tl_fix {w : Str} : tl ("zz" ++ cutS w none (some 1) ++ "z") = [122, 122] ++ (tl w).take 1 ++ [122] := by
  rw [tl_append, tl_append, tl_cut0 _ (by decide)]
  rw [show tl ("zz" : Str) = [122, 122] by decide, show tl ("z" : Str) = [122] by decide]
  rfl
/-- no name of the law's begins by zz, one letter, z -/
theorem noZ (h : NmP start size at_ stride) {x : Nat} : tl (nmW start way size at_ stride (baseW start) i) ≠ [122, 122, x, 122] := by
  intro e
  by_cases hw : way = 3
  · subst hw
    rw [tl_way3 h] at e
    have e2 := (List.cons.inj e).2
    have f1 : (baseL start)[0]? = some 122 := by
      have := congrArg (fun l => l[0]?) e2
      simp only [List.getElem?_take] at this
      split at this
      · exact this
      · cases this
    have f2 : (baseL start)[2]? = some 122 := by
      have := congrArg (fun l => l[2]?) e2
      simp only [List.getElem?_take] at this
      split at this
      · exact this
      · cases this
    exact absurd (base_two f1 f2) (by decide)
  · have g : ∀ q : Nat, q ≠ at_.toNat → ([122, 122, x, 122] : List Nat)[q]? = some 122 → (baseL start)[q]? = some 122 := fun q hq e2 => else_off (i := i) h hw hq (by rw [e]; exact e2)
    by_cases h0 : at_.toNat = 0
    · exact absurd (base_two (g 1 (by omega) rfl) (g 3 (by omega) rfl)) (by decide)
    · by_cases h1 : at_.toNat = 1
      · exact absurd (base_two (g 0 (by omega) rfl) (g 3 (by omega) rfl)) (by decide)
      · exact absurd (base_two (g 0 (by omega) rfl) (g 1 (by omega) rfl)) (by decide)
theorem take1 {l : List Nat} (h : l ≠ []) : ∃ x, l.take 1 = [x] ∧ l[0]? = some x := by
  cases l with
  | nil => exact absurd rfl h
  | cons x l => exact ⟨x, rfl, rfl⟩
theorem nm_ne (h : NmP start size at_ stride) : tl (nmW start way size at_ stride (baseW start) i) ≠ [] := by
  by_cases hw : way = 3
  · subst hw; rw [tl_way3 h]; simp
  · rw [tl_else h hw]; simp
theorem fix_inj (h : NmP start size at_ stride) (hi : i < 12) (hj : j < 12) (e : fixN (nmW start way size at_ stride (baseW start) i) = fixN (nmW start way size at_ stride (baseW start) j)) : i = j := by
  obtain ⟨x, x1, x2⟩ := take1 (nm_ne (way := way) (i := i) h)
  obtain ⟨y, y1, y2⟩ := take1 (nm_ne (way := way) (i := j) h)
  unfold fixN at e
  split at e
  · rename_i bi
    have e1 := congrArg tl e
    rw [tl_fix, x1] at e1
    split at e
    · rename_i bj
      rw [if_pos bj, tl_fix, y1] at e1
      have exy : x = y := by simpa using e1
      subst exy
      by_cases hw : way = 3
      · subst hw
        rw [tl_way3 h] at x2 y2
        simp only [List.getElem?_cons_zero, Option.some.injEq] at x2 y2
        exact mark_inj h hi hj (x2.trans y2.symm)
      · by_cases h0 : at_.toNat = 0
        · have a1 := else_at (i := i) h hw
          have a2 := else_at (i := j) h hw
          rw [h0] at a1 a2
          exact mark_inj h hi hj (Option.some.inj (a1.symm.trans (x2.trans (y2.symm.trans a2))))
        · have hz := h.z
          have ha1 := h.a1
          have ha0 := h.a0
          have far := List.all_eq_true.mp (List.all_eq_true.mp barsFar _ (in_bars bi)) _ (in_bars bj)
          simp only [Bool.or_eq_true, decide_eq_true_eq] at far
          rcases far with far | far
          · exact nm_inj h hi hj far
          · have f2 := List.all_eq_true.mp far (at_.toNat - 1) (List.mem_range.mpr (by omega))
            rw [else_len (i := i) (j := j) h hw] at f2
            simp only [beq_self_eq_true, Bool.true_and, Bool.not_eq_true'] at f2
            have f3 : ((List.range 8).all fun q => q == at_.toNat - 1 + 1 || (tl (nmW start way size at_ stride (baseW start) i))[q]? == (tl (nmW start way size at_ stride (baseW start) j))[q]?) = true := by
              refine List.all_eq_true.mpr fun q _ => ?_
              by_cases hq : q = at_.toNat
              · have : (q == at_.toNat - 1 + 1) = true := by rw [beq_iff_eq]; omega
                rw [this]; rfl
              · rw [else_same (i := i) (j := j) h hw hq]; simp
            rw [f3] at f2; cases f2
    · rename_i bj
      rw [if_neg bj] at e1
      exact absurd e1.symm (noZ h)
  · rename_i bi
    split at e
    · have e1 := congrArg tl e
      rename_i bj
      rw [tl_fix, y1] at e1
      exact absurd e1 (noZ h)
    · exact nm_inj h hi hj e
theorem names_unlike (h : NmP start size at_ stride) {many : Nat} (hm : many ≤ 12) : (((List.range many).map (nmW start way size at_ stride (baseW start))).map fixN).Nodup := by
  rw [List.map_map]
  exact List.Pairwise.map (R := fun a b => a < many ∧ b < many ∧ a < b) _ (fun a b ⟨ha, hb, hab⟩ e => by
    have := fix_inj (way := way) h (i := a) (j := b) (by omega) (by omega) e
    omega) (List.Pairwise.imp_of_mem (fun ha hb hab => ⟨List.mem_range.mp ha, List.mem_range.mp hb, hab⟩) List.pairwise_lt_range)
end
end D

set_option Elab.async false
set_option linter.all false
set_option maxRecDepth 100000
set_option maxHeartbeats 4000000
/-! PS: programs small enough to be shown; bodies that grow at their end. -/
namespace D
open PySem PySem.Spec PyProof.Rows L2
theorem Lx.del {m l p : Addr} {c : Nat} {rm : Int} {mo : Option (List Str)} {μ : Mu} (h : Lx m l c rm mo μ) (h1 : p ≠ m) (h2 : p ≠ l) {o : MO} : Lx m l c rm mo (μ.upd p o) := by
  obtain ⟨⟨fs, left, a, g1, g2, g3⟩, h7⟩ := h
  exact ⟨⟨fs, left, a, by rw [Mu.upd_ne (Ne.symm h1)]; exact g1, by rw [Mu.upd_ne (Ne.symm h2)]; exact g2, g3⟩, h7⟩
/-- small data to show -/
def ThSm (x : A) : Prop := isShow x = true ∧ shl x ≤ 2000 ∧ ∀ n d : Int, x = .tup [.int n, .int d] → n.natAbs ≤ 10 ^ 20 ∧ d ≤ 9
theorem let_lt {w : Str} (h : letA w = true) : ∀ c ∈ w.cps.toList, c < 16 ^ 8 := fun c hc => by
  have h1 := of_decide_eq_true (List.all_eq_true.mp h c hc)
  have h2 : LETS.cps.toList.all (fun c => decide (c < 16 ^ 8)) = true := by decide
  exact of_decide_eq_true (List.all_eq_true.mp h2 c h1)
theorem shl_let {w : Str} (h : letA w = true) (hl : w.length ≤ 8) : shl (.str w) ≤ 82 := by
  have := StrLaws.reprText_len w (let_lt h)
  simp only [shl]; omega
theorem thSm_str {w : Str} (h : letA w = true) (hl : w.length ≤ 8) : ThSm (.str w) := ⟨rfl, Nat.le_trans (shl_let h hl) (by decide), fun _ _ e => nomatch e⟩
theorem log_small {n : Int} (h : n.natAbs ≤ 10 ^ 20) : n.natAbs.log2 < 1920 := by
  by_cases h0 : n.natAbs = 0
  · rw [h0]; decide
  · have h1 : n.natAbs.log2 < 70 := (Nat.log2_lt h0).mpr (Nat.lt_of_le_of_lt h (by decide))
    omega
theorem shl_int (n : Int) : shl (.int n) ≤ 1922 := by simp only [shl]; split <;> omega
theorem thSm_fr {n d : Int} (h : n.natAbs ≤ 10 ^ 20) (d0 : 1 ≤ d) (hd : d ≤ 9) : ThSm (.tup [.int n, .int d]) := by
  refine ⟨?_, ?_, fun n' d' e => by cases e; exact ⟨h, hd⟩⟩
  · simp only [isShow, isShows, Bool.and_true, Bool.and_eq_true, decide_eq_true_eq]
    exact ⟨log_small h, log_small (Nat.le_trans (show d.natAbs ≤ 9 by omega) (by decide))⟩
  · have h1 := shl_int n
    have h2 : shl (.int d) = 20 := by simp only [shl]; rw [if_pos (Nat.lt_of_le_of_lt (show d.natAbs ≤ 9 by omega) (by decide))]
    simp only [shl, shls] at h1 h2 ⊢
    omega
theorem thSm_int {k : Int} (h : k.natAbs ≤ 9) : ThSm (.int k) := by
  refine ⟨by simp only [isShow, decide_eq_true_eq]; exact log_small (Nat.le_trans h (by decide)), Nat.le_trans (shl_int k) (by decide), fun _ _ e => nomatch e⟩
theorem sm_list : ∀ {l : List A}, (∀ a ∈ l, ThSm a) → isShows l = true ∧ shls l ≤ 2002 * l.length
  | [], _ => ⟨rfl, Nat.le_refl _⟩
  | x :: l, h => by
    obtain ⟨h1, h2⟩ := sm_list fun a ha => h a (List.mem_cons_of_mem _ ha)
    obtain ⟨h3, h4, _⟩ := h x (List.mem_cons_self ..)
    exact ⟨by simp only [isShows, h1, h3, Bool.and_self], by simp only [shls, List.length_cons]; omega⟩
/-- a row's shown length is bounded -/
def RowSm (w : Str) (ts : List A) : Prop := ts.length ≤ 5 ∧ (∀ a ∈ ts, ThSm a) ∧ shl (.str w) ≤ 200
mutual
def It.sm : It → Prop
  | .row x w ts => shl (.str x) ≤ 82 ∧ RowSm w ts
  | .rep n b => 0 ≤ n ∧ n ≤ 5 ∧ smIts b
def smIts : List It → Prop
  | [] => True
  | i :: r => i.sm ∧ smIts r
end
mutual
theorem It.sm_shl : ∀ {i : It}, i.sm → isShow i.a = true ∧ shl i.a + 2 ≤ 12000 * i.size
  | .row x w ts, h => by
    simp only [It.sm] at h
    obtain ⟨h0, h1, h2, h3⟩ := h
    obtain ⟨g1, g2⟩ := sm_list h2
    have e0 : shl (.str "row") ≤ 82 := by decide +kernel
    refine ⟨by simp only [It.a, isShow, isShows, g1, Bool.and_self], ?_⟩
    simp only [It.a, It.size]
    rw [shl, shls, shls, shls, shls, shls, shl.eq_7]
    omega
  | .rep n b, h => by
    simp only [It.sm] at h
    obtain ⟨h0, h1, h2⟩ := h
    obtain ⟨g1, g2⟩ := smIts_shl h2
    have e0 : shl (.str "repeat") ≤ 100 := by decide +kernel
    have e1 := shl_int n
    refine ⟨by simp only [It.a, isShow, isShows, g1, Bool.and_true, Bool.true_and, decide_eq_true_eq]; exact log_small (Nat.le_trans (show n.natAbs ≤ 5 by omega) (by decide)), ?_⟩
    simp only [It.a, It.size]
    rw [shl, shls, shls, shls, shls, shl.eq_7]
    omega
theorem smIts_shl : ∀ {l : List It}, smIts l → isShows (aIts l) = true ∧ shls (aIts l) ≤ 12000 * sizeIts l
  | [], _ => ⟨rfl, Nat.zero_le _⟩
  | i :: r, h => by
    simp only [smIts] at h
    obtain ⟨h1, h2⟩ := It.sm_shl h.1
    obtain ⟨h3, h4⟩ := smIts_shl h.2
    exact ⟨by simp only [aIts, isShows, h1, h3, Bool.and_self], by simp only [aIts, shls, sizeIts]; omega⟩
end
mutual
theorem It.sm_ts : ∀ {i : It}, i.sm → i.tsOk
  | .row x w ts, h => by simp only [It.sm] at h; simp only [It.tsOk]; have := h.2.1; omega
  | .rep n b, h => by simp only [It.sm] at h; simp only [It.tsOk]; exact smIts_ts h.2.2
theorem smIts_ts : ∀ {l : List It}, smIts l → tsIts l
  | [], _ => trivial
  | i :: r, h => by simp only [smIts] at h; simp only [tsIts]; exact ⟨It.sm_ts h.1, smIts_ts h.2⟩
end
/-! ### bodies that grow at their end -/
theorem aIts_snoc (i : It) : ∀ b : List It, aIts (b ++ [i]) = aIts b ++ [i.a]
  | [] => rfl
  | x :: b => by simp only [List.cons_append, aIts, aIts_snoc i b]
theorem told_snoc (i : It) : ∀ (b : List It) (T : List Str), toldIts (b ++ [i]) T = i.told (toldIts b T)
  | [], _ => by simp only [List.nil_append, toldIts]
  | x :: b, T => by simp only [List.cons_append, toldIts, told_snoc i b]
theorem size_snoc (i : It) : ∀ b : List It, sizeIts (b ++ [i]) = sizeIts b + i.size
  | [] => by simp [sizeIts]
  | x :: b => by simp only [List.cons_append, sizeIts, size_snoc i b]; omega
theorem sm_snoc {i : It} (hi : i.sm) : ∀ {b : List It}, smIts b → smIts (b ++ [i])
  | [], _ => by simp only [List.nil_append, smIts]; exact ⟨hi, trivial⟩
  | x :: b, h => by simp only [smIts] at h; simp only [List.cons_append, smIts]; exact ⟨h.1, sm_snoc hi h.2⟩
theorem ok_snoc {Pn : List (Str × Int)} {i : It} : ∀ {b : List It} {d : Nat} {T : List Str}, okIts Pn d T b → i.ok Pn d (toldIts b T) → okIts Pn d T (b ++ [i])
  | [], d, T, _, h => by simp only [List.nil_append, okIts]; exact ⟨by simpa only [toldIts] using h, trivial⟩
  | x :: b, d, T, h, hi => by
    simp only [okIts] at h
    simp only [toldIts] at hi
    simp only [List.cons_append, okIts]
    exact ⟨h.1, ok_snoc h.2 hi⟩
mutual
theorem It.ok_down {Pn : List (Str × Int)} : ∀ {i : It} {d : Nat} {T : List Str}, i.ok Pn (d + 1) T → i.ok Pn d T
  | .row x w ts, d, T, h => by simp only [It.ok] at h ⊢; exact ⟨by omega, h.2⟩
  | .rep n b, d, T, h => by simp only [It.ok] at h ⊢; exact ⟨by omega, h.2.1, h.2.2.1, okIts_down h.2.2.2⟩
theorem okIts_down {Pn : List (Str × Int)} : ∀ {l : List It} {d : Nat} {T : List Str}, okIts Pn (d + 1) T l → okIts Pn d T l
  | [], _, _, _ => trivial
  | i :: r, d, T, h => by simp only [okIts] at h ⊢; exact ⟨It.ok_down h.1, okIts_down h.2⟩
end
/-- the same names, whatever their order -/
def Same (T T0 : List Str) : Prop := ∀ w, w ∈ T ↔ w ∈ T0
theorem Same.refl (T : List Str) : Same T T := fun _ => .rfl
mutual
theorem told_same : ∀ (i : It) {T T0 : List Str}, Same T T0 → Same (i.told T) (i.told T0)
  | .row x w ts, T, T0, h => fun v => by simp only [It.told, mem_insT]; rw [h v]
  | .rep n b, T, T0, h => by simp only [It.told]; exact tolds_same b h
theorem tolds_same : ∀ (l : List It) {T T0 : List Str}, Same T T0 → Same (toldIts l T) (toldIts l T0)
  | [], _, _, h => by simp only [toldIts]; exact h
  | i :: r, _, _, h => by simp only [toldIts]; exact tolds_same r (told_same i h)
end
theorem ThOk.same {T T0 : List Str} {x : A} (h : ThOk T x) (s : Same T T0) : ThOk T0 x := h.up fun y hy => (s y).mp hy
theorem RowOk.same {Pn : List (Str × Int)} {T T0 : List Str} {w : Str} {ts : List A} (h : RowOk Pn T w ts) (s : Same T T0) : RowOk Pn T0 w ts := h.up fun y hy => (s y).mp hy
mutual
theorem It.ok_same {Pn : List (Str × Int)} : ∀ {i : It} {d : Nat} {T T0 : List Str}, i.ok Pn d T → Same T T0 → i.ok Pn d T0
  | .row x w ts, d, T, T0, h, s => by simp only [It.ok] at h ⊢; exact ⟨h.1, h.2.1, h.2.2.same s⟩
  | .rep n b, d, T, T0, h, s => by simp only [It.ok] at h ⊢; exact ⟨h.1, h.2.1, h.2.2.1, okIts_same h.2.2.2 s⟩
theorem okIts_same {Pn : List (Str × Int)} : ∀ {l : List It} {d : Nat} {T T0 : List Str}, okIts Pn d T l → Same T T0 → okIts Pn d T0 l
  | [], _, _, _, _, _ => trivial
  | i :: r, d, T, T0, h, s => by simp only [okIts] at h ⊢; exact ⟨It.ok_same h.1 s, okIts_same h.2 (told_same i s)⟩
end
/-- what a law's row tells -/
def putT (T : List Str) (w : Str) : List Str := T.filter (fun x => decide (x ≠ w)) ++ [w]
theorem putT_same (T : List Str) (w : Str) : Same (putT T w) (insT T w) := fun v => by
  rw [mem_insT]
  simp only [putT, List.mem_append, List.mem_filter, List.mem_singleton, decide_eq_true_eq]
  constructor
  · rintro (⟨h, _⟩ | h)
    · exact .inl h
    · exact .inr h
  · rintro (h | h)
    · by_cases e : v = w
      · exact .inr e
      · exact .inl ⟨h, e⟩
    · exact .inr h
theorem putT_len (T : List Str) (w : Str) : (putT T w).length ≤ T.length + 1 := by
  simp only [putT, List.length_append, List.length_singleton]
  have := List.length_filter_le (fun x => decide (x ≠ w)) T
  omega
theorem putT_ne (T : List Str) (w : Str) : putT T w ≠ [] := by simp [putT]
theorem putT_all {P : Str → Prop} {T : List Str} {w : Str} (h : ∀ x ∈ T, P x) (hw : P w) : ∀ x ∈ putT T w, P x := fun x hx => by
  rcases List.mem_append.mp hx with h1 | h1
  · exact h x (List.mem_filter.mp h1).1
  · rw [List.mem_singleton.mp h1]; exact hw
/-! ### shown -/
theorem shls_nms : ∀ {l : List Str}, (∀ w ∈ l, isNm (.str w) = true) → isShows (l.map A.str) = true ∧ shls (l.map A.str) ≤ 84 * l.length
  | [], _ => ⟨rfl, Nat.le_refl _⟩
  | w :: l, h => by
    obtain ⟨h1, h2⟩ := shls_nms fun a ha => h a (List.mem_cons_of_mem _ ha)
    obtain ⟨g1, g2, _⟩ := isNm_let (h w (List.mem_cons_self ..))
    have g3 := shl_let g1 g2
    exact ⟨by simp only [List.map_cons, isShows, h1]; rfl, by simp only [List.map_cons, shls, List.length_cons]; omega⟩
structure Pt.sm (q : Pt) : Prop where
  nm : isNm (.str q.nm) = true
  ins : ∀ w ∈ q.ins, isNm (.str w) = true
  body : smIts q.body
  give : isNm (.str q.give) = true
theorem Pt.sm_shl {q : Pt} (h : q.sm) : isShow q.a = true ∧ shl q.a + 2 ≤ 12000 * q.size := by
  obtain ⟨a1, a2⟩ := smIts_shl h.body
  obtain ⟨b1, b2⟩ := shls_nms h.ins
  obtain ⟨g1, g2, _⟩ := isNm_let h.nm
  obtain ⟨k1, k2, _⟩ := isNm_let h.give
  have g3 := shl_let g1 g2
  have k3 := shl_let k1 k2
  refine ⟨by simp only [Pt.a, isShow, isShows, a1, b1, Bool.and_self], ?_⟩
  simp only [Pt.a, Pt.size]
  rw [shl, shls, shls, shls, shls, shls, shl.eq_7, shl.eq_7]
  omega
theorem shls_pts : ∀ {l : List Pt}, (∀ q ∈ l, q.sm) → isShows (l.map Pt.a) = true ∧ shls (l.map Pt.a) ≤ 12000 * sizePts l
  | [], _ => ⟨rfl, Nat.zero_le _⟩
  | q :: l, h => by
    obtain ⟨h1, h2⟩ := shls_pts fun a ha => h a (List.mem_cons_of_mem _ ha)
    obtain ⟨g1, g2⟩ := Pt.sm_shl (h q (List.mem_cons_self ..))
    refine ⟨by simp only [List.map_cons, isShows, g1, h1, Bool.and_self], ?_⟩
    simp only [List.map_cons, shls, sizePts, List.map_cons, List.sum_cons] at h2 ⊢
    omega
structure Pg.sm (g : Pg) : Prop where
  parts : ∀ q ∈ g.parts, q.sm
  body : smIts g.body
theorem Pg.show {g : Pg} (ok : g.ok) (h : g.sm) : ShowOk g.a := by
  obtain ⟨a1, a2⟩ := smIts_shl h.body
  obtain ⟨b1, b2⟩ := shls_nms ok.ins
  obtain ⟨c1, c2⟩ := shls_nms (l := g.outs) fun w hw => (ok.outs w hw).1
  obtain ⟨d1, d2⟩ := shls_pts h.parts
  have hz := ok.size
  refine ⟨by simp only [Pg.a, isShow, isShows, a1, b1, c1, d1, Bool.and_self], ?_, ?_⟩
  · have e1 := (datIts ok.body).2
    have e2 : ∀ l : List Str, deeps (l.map A.str) ≤ 0 := fun l => deeps_le fun a ha => by
      obtain ⟨w, _, rfl⟩ := List.mem_map.mp ha
      simp [deep]
    have e3 : ∀ {l : List Pt} {Pn : List (Str × Int)}, okPts Pn l → deeps (l.map Pt.a) ≤ 13 := by
      intro l
      induction l with
      | nil => intro _ _; simp [deeps]
      | cons q l ih =>
        intro Pn h
        simp only [okPts] at h
        have i1 := ih h.2
        have i2 := (datIts h.1.body).2
        have i3 := e2 q.ins
        simp only [List.map_cons, deeps, Pt.a, deep]
        omega
    have f1 := e2 g.ins
    have f2 := e2 g.outs
    have f3 := e3 ok.parts
    simp only [Pg.a, deep, deeps]
    omega
  · simp only [Pg.size] at hz
    simp only [Pg.a]
    rw [shl, shls, shls, shls, shls, shls, shl.eq_7, shl.eq_7, shl.eq_7, shl.eq_7]
    have : sizeLine = 16777216 := rfl
    omega
end D

set_option Elab.async false
set_option linter.all false
set_option maxRecDepth 100000
set_option maxHeartbeats 4000000
/-! DN: None in a list of data. -/
namespace D
open PySem PySem.Spec PyProof.Rows L2
def isNoneV : Value → Bool
  | .none => true
  | _ => false
/-- None, a number, a text, a truth or a tuple -/
def okN (K : PySem.W.Frag) (H : Hp) : V → Prop
  | .non => True
  | .int _ => True
  | .str _ => True
  | .bl _ => True
  | .ref a => ∃ items, SqT K H a items
  | _ => False
def isNonV : V → Bool
  | .non => true
  | _ => false
theorem any_none : ∀ {xs : List V} {us : List Value} {K : PySem.W.Frag} {H : Hp}, Vals xs us → (∀ v ∈ xs, okN K H v) → us.any isNoneV = xs.any isNonV
  | _, _, _, _, .nil, _ => rfl
  | x :: xs, u :: us, K, H, .cons r t, h => by
    rw [List.any_cons, List.any_cons, any_none t fun v hv => h v (List.mem_cons_of_mem _ hv)]
    have h0 := h x (List.mem_cons_self ..)
    congr 1
    cases x with
    | non => cases r; rfl
    | int i => obtain ⟨t, rfl⟩ := r; rfl
    | str i => obtain ⟨t, rfl⟩ := r; rfl
    | bl b => cases r; rfl
    | ref a => cases r; rfl
    | _ => exact h0.elim
theorem mem_none {X : Cx} {pins : List (Addr × Obj)} {σ : L2.St} {H : Hp} {s : Shared} (I : Inv X pins σ H s) {A : Around} (hu : A.units < cLine) : ∀ {xs : List V} {us : List Value}, Vals xs us → (∀ v ∈ xs, okN X.K H v) → ∀ u ∈ us, SeqAt.EqAt A s u .none (isNoneV u)
  | _, _, .nil, _ => fun u hu => by cases hu
  | x :: xs, u :: us, .cons r t, h => fun u' hu' => by
    rcases List.mem_cons.mp hu' with rfl | hu'
    · have h0 := h x (List.mem_cons_self ..)
      cases x with
      | non => cases r; exact SeqAt.EqAt.same _
      | int i => obtain ⟨t, rfl⟩ := r; exact SeqAt.EqAt.int_none _ _
      | str i => obtain ⟨t, rfl⟩ := r; exact SeqAt.EqAt.str_none _ _
      | bl b => cases r; exact SeqAt.EqAt.bool_none _
      | ref a =>
        cases r
        obtain ⟨items, hq⟩ := h0
        obtain ⟨its, _, pl, _⟩ := I.tuple hq
        exact SeqAt.EqAt.tuple_none pl hu
      | _ => exact h0.elim
    · exact mem_none I hu t (fun v hv => h v (List.mem_cons_of_mem _ hv)) u' hu'
theorem op_noneIn {X : Cx} (hu : X.A.in1.units < cLine) : OpR X (compareOp .In) (fun x y H Q => ∃ p xs, x = .non ∧ y = .ref p ∧ SqL X.K H p xs ∧ (∀ v ∈ xs, okN X.K H v) ∧ Q (.bl (xs.any isNonV)) H) := by
  intro pins s σ H x y v u Q I rx ry h
  obtain ⟨p, xs, rfl, rfl, hq, fs, q⟩ := h
  cases rx
  cases ry
  obtain ⟨its, r, pl, hz⟩ := I.list hq
  refine SeqAt.in_listAt isNoneV pl.isList (fun w hw => mem_none I hu r fs w (by simpa using hw)) ⟨.bl _, H, I, rfl, ?_⟩
  rw [show its.toArray.any isNoneV = its.any isNoneV by simp, any_none r fs]
  exact q
/-- plain data that a reader gives: None, a number, a text, a tuple -/
def okA : A → Bool
  | .non => true
  | .int _ => true
  | .str _ => true
  | .bl _ => true
  | .tup _ => true
  | _ => false
theorem okA_rep {K : PySem.W.Frag} {M F H : Hp} {μ : Mu} (rl : Rel K μ M F H) : ∀ {xs : List A} {vs : List V}, RepL K F xs vs → xs.all okA = true → (∀ v ∈ vs, okN K H v) ∧ vs.any isNonV = xs.any isNon
  | [], _, h, _ => by simp only [RepL] at h; subst h; exact ⟨(fun _ z => nomatch z), rfl⟩
  | x :: xs, _, h, f => by
    simp only [RepL] at h
    obtain ⟨v, r, rfl, h1, h2⟩ := h
    rw [List.all_cons, Bool.and_eq_true] at f
    obtain ⟨g1, g2⟩ := okA_rep rl h2 f.2
    have key : okN K H v ∧ isNonV v = isNon x := by
      cases x with
      | non => rw [rep_non] at h1; subst h1; exact ⟨trivial, rfl⟩
      | int i => rw [rep_int] at h1; subst h1; exact ⟨trivial, rfl⟩
      | str i => rw [rep_str] at h1; subst h1; exact ⟨trivial, rfl⟩
      | bl i => rw [rep_bl] at h1; subst h1; exact ⟨trivial, rfl⟩
      | tup ys => rw [rep_tup] at h1; obtain ⟨a, ws, rfl, k1, k2⟩ := h1; exact ⟨⟨ws, rl.sub.t k1⟩, rfl⟩
      | ty _ => simp [okA] at f
      | loc _ => simp [okA] at f
      | lst _ => simp [okA] at f
      | fls _ => simp [okA] at f
    refine ⟨fun w hw => ?_, by rw [List.any_cons, List.any_cons, key.2, g2]⟩
    rcases List.mem_cons.mp hw with rfl | hw
    · exact key.1
    · exact g1 w hw
theorem wO_noneIn {X : Cx} {μ : Mu} {Q : A → Mu → Prop} {y : A} {xs : List A} (hu : X.A.in1.units < cLine) (hy : IsL μ y xs) (hs : xs.all okA = true) (q : Q (.bl (xs.any isNon)) μ) : wO X (compareOp .In) .non y μ Q :=
  wO_of (op_noneIn hu) fun M F H v w rl r1 r2 => by
    obtain ⟨p, vs, e, h1, h2⟩ := hy.rep rl r2
    obtain ⟨g1, g2⟩ := okA_rep rl h2 hs
    exact ⟨p, vs, rep_non.mp r1, e, .inl (.inl h1), g1, .pure rl (rep_bl.mpr (by rw [g2])) q⟩
theorem in1_lt {X : Cx} {k : Nat} (ar : Ar X k) : X.A.in1.units < cLine := by
  have h := ar.u64
  have e : X.A.in1.units = X.A.units + 1 := rfl
  omega
/-- D[k] of a dict of the module -/
theorem wI_kd {X : Cx} {μ : Mu} {Q : A → Mu → Prop} {p : Addr} {kvs : List (Str × Int)} {z : Str} {i : Int} (Dk : KDi X.K X.w p kvs) (h : valI kvs z = some i) (q : Q (.int i) μ) : wI X (.loc p) (.str z) μ Q := fun M F H v w rl r1 r2 => rd_ixr ix_kdict (by
  rw [rep_loc] at r1; rw [rep_str] at r2
  subst r1 r2
  obtain ⟨es, n, k1, k2, k3, k4⟩ := Dk.ex
  rcases ent_find z k4 with ⟨h1, h2⟩ | ⟨d, j, t, h1, h2, h3⟩
  · rw [h1] at h; cases h
  · rw [h1] at h; cases h
    refine ⟨p, z, .int i, rfl, rfl, ⟨es, n, d.val, k1, k2, ?_, ?_⟩, .pure rl (rep_int.mpr rfl) q⟩
    · unfold PySem.W.nsIn
      rw [k1]
      simp only [PySem.W.isStr_of]
      rw [h2]
    · rw [h3]; exact ⟨_, rfl⟩)
end D

set_option Elab.async false
set_option linter.all false
set_option maxRecDepth 100000
set_option maxHeartbeats 4000000
/-! DW: repr of data with ints of up to 4300 figures, of lists of our own lists too. -/
namespace D
open PySem PySem.Spec PyProof.Rows L2
mutual
/-- what `repr` writes here: no dict anywhere, and every number has at most 4300 figures -/
def wsh : PyData → Bool
  | .dict _ => false
  | .tuple xs => wshs xs
  | .list xs => wshs xs
  | .int i => fig i
  | .str _ => true
  | .bool _ => true
  | .none => true
def wshs : List PyData → Bool
  | [] => true
  | x :: xs => wsh x && wshs xs
/-- few figures -/
def fig (i : Int) : Bool := decide (Int.natAbs i < 10 ^ 4300)
end
section
variable {prog : Program} {w : World} {g0 : Heap}
theorem int_out {A : Around} {E : Value → Shared → Prop} {s : Shared} {i : Int} {u : Tok} {Q : Value → Shared → Prop} (nd : s.heap.NoDigits) (few : fig i = true)
    (q : Q (.str (toString i) s.toks) { s with toks := s.toks + 1 }) : wpAny (model prog w) A (call (.builtin "int.__repr__") [.int i u]) Q E s := by
  have few : i.natAbs < 10 ^ 4300 := of_decide_eq_true few
  refine wpAny_call_entry PySem.F.slot_int_repr (typeIs_int s i u) PySem.F.entry_int_repr ?_ (PySem.F.args_int_repr_1 _)
  exact wpAny_bind (m := Builtin.overDigitLimit? i) (overDigitLimit_any nd (fun _ => wpAny_bind (wpAny_mkStr (wpAny_pure ⟨_, rfl, q⟩) (int_text_fits10 few))) fun many => (Nat.not_lt.mpr many few).elim)
/-- one value of data: it is written out as its text -/
def OneW (prog : Program) (w : World) (g0 : Heap) (v : Value) (d : PyData) : Prop := ∃ bs, ReadAtMost g0 d.depth bs ∧ ReprK prog w bs g0 d.depth v d.shown
/-- all of them -/
def AllW (prog : Program) (w : World) (g0 : Heap) (vs : List Value) (ds : List PyData) : Prop := ∃ bs, ReadAtMost g0 (PyData.depthAll ds) bs ∧ ReprAllK prog w bs g0 (PyData.depthAll ds) vs (PyData.shownAll ds)
theorem OneW.leaf {v : Value} {d : PyData} {as : List Addr} (r : Reads g0 v d as) (s : d.showable = true) (n : d.hasDict = false) (z : d.shown.length ≤ sizeLine) : OneW prog w g0 v d :=
  ReprK.of_reads r s (fun y => absurd (n.symm.trans y) (by decide)) z
theorem OneW.num {i : Int} {u : Tok} (nd : g0.NoDigits) (few : fig i = true) : OneW prog w g0 (.int i u) (.int i) := by
  refine ⟨[], fun _ z => (by cases z), fun at0 room A gs E s Q _ _ deep kept q => ?_⟩
  rw [pyReprUnder_leaf (Nat.le_trans (Nat.le_add_right _ _) room) (fun _ => by simp)]
  refine wpAny_bind (m := pyReprObj _) (wpAny_pyReprObj_slot (Nat.lt_of_le_of_lt (Nat.le_add_right _ _) deep) (typeIs_int s i u) PySem.F.slot_int_repr.toG ?_)
  exact int_out (nd.keeps kept) few ⟨_, _, rfl, wpAny_pure (q _ _ fun _ _ z => z)⟩
theorem AllW.nil : AllW prog w g0 [] [] := ⟨[], fun _ z => (by cases z), .nil⟩
theorem AllW.cons {v : Value} {d : PyData} {vs : List Value} {ds : List PyData} (o : OneW prog w g0 v d) (m : AllW prog w g0 vs ds) : AllW prog w g0 (v :: vs) (d :: ds) := by
  obtain ⟨as, low, one⟩ := o
  obtain ⟨bs, lows, many⟩ := m
  have l1 : d.depth ≤ PyData.depthAll (d :: ds) := by simp [PyData.depthAll, Nat.le_max_left]
  have l2 : PyData.depthAll ds ≤ PyData.depthAll (d :: ds) := by simp [PyData.depthAll, Nat.le_max_right]
  have one' : ReprK prog w (as ++ bs) g0 _ v d.shown := (one.more fun _ z => List.mem_append.mpr (.inl z)).level_le l1
  have many' : ReprAllK prog w (as ++ bs) g0 _ vs (PyData.shownAll ds) := many.more_le (fun _ z => List.mem_append.mpr (.inr z)) l2
  exact ⟨as ++ bs, (low.mono l1).append (lows.mono l2), by rw [PyData.shownAll]; exact .cons one' many'⟩
/-- a thing with items: its own place is none of its items' -/
theorem AllW.over {a : Addr} {d : PyData} {as : List Addr} {vs : List Value} {ds : List PyData} (m : AllW prog w g0 vs ds) (r : Reads g0 (.ref a) d as) (hd : d.depth = PyData.depthAll ds + 1)
    (up : ∀ bs, a ∉ bs → ReprAllK prog w bs g0 (PyData.depthAll ds) vs (PyData.shownAll ds) → ReprK prog w (a :: bs) g0 (PyData.depthAll ds + 1) (.ref a) d.shown) : OneW prog w g0 (.ref a) d := by
  obtain ⟨bs, low, many⟩ := m
  have lt : PyData.depthAll ds < d.depth := by omega
  exact ⟨a :: bs, low.cons r (Nat.le_of_lt lt), by rw [hd]; exact up bs (not_mem_of_deeper r lt low) many⟩
theorem AllW.list {a : Addr} {o : Obj} {vs : Array Value} {n : Nat} {ds : List PyData} {as : List Addr} (h1 : g0.get? a = some o) (h2 : o.cls = .type "list") (h3 : o.data = .seq vs n) (h4 : ReadsAll g0 vs.toList ds as) (m : AllW prog w g0 vs.toList ds) : OneW prog w g0 (.ref a) (.list ds) := by
  refine m.over (.list h1 h2 h3 h4) rfl fun bs off many => ?_
  rw [PyData.shown]
  rcases vs with ⟨_ | ⟨v, l⟩⟩
  · cases h4
    exact ReprK.listEmpty h1 h2 h3
  · refine ReprK.list h1 h2 h3 off many.length_eq fun i y q => many.item i y ?_
    rw [← q]; simp
theorem AllW.tuple {a : Addr} {o : Obj} {vs : Array Value} {n : Nat} {ds : List PyData} {as : List Addr} (h1 : g0.get? a = some o) (h2 : o.cls = .type "tuple") (h3 : o.data = .seq vs n) (h4 : ReadsAll g0 vs.toList ds as) (m : AllW prog w g0 vs.toList ds) : OneW prog w g0 (.ref a) (.tuple ds) :=
  m.over (.tuple h1 h2 h3 h4) rfl fun bs off many => by rw [PyData.shown]; exact ReprK.tuple h1 h2 h3 off many
mutual
theorem one_W (nd : g0.NoDigits) {v : Value} {d : PyData} {as : List Addr} (r : Reads g0 v d as) (s : wsh d = true) (z : d.shown.length ≤ sizeLine) : OneW prog w g0 v d :=
  match r with
  | .none => .leaf .none rfl rfl z
  | .bool b => .leaf (.bool b) rfl rfl z
  | .str x u => .leaf (.str x u) rfl rfl z
  | .int i u => .num nd (by simpa only [wsh] using s)
  | .list h1 h2 h3 h4 => AllW.list h1 h2 h3 h4 (all_W nd h4 (by simpa only [wsh] using s) fun t ht => Nat.le_trans (listText_mem_le ht) (by simpa only [PyData.shown] using z))
  | .tuple h1 h2 h3 h4 => AllW.tuple h1 h2 h3 h4 (all_W nd h4 (by simpa only [wsh] using s) fun t ht => Nat.le_trans (tupleText_mem_le ht) (by simpa only [PyData.shown] using z))
  | .dict .. => by simp [wsh] at s
theorem all_W (nd : g0.NoDigits) {vs : List Value} {ds : List PyData} {as : List Addr} (r : ReadsAll g0 vs ds as) (s : wshs ds = true) (z : ∀ t ∈ PyData.shownAll ds, t.length ≤ sizeLine) : AllW prog w g0 vs ds :=
  match r with
  | .nil => AllW.nil
  | .cons r1 rs => by
    obtain ⟨s1, s2⟩ := Bool.and_eq_true_iff.mp (by simpa only [wshs] using s)
    obtain ⟨z1, z2⟩ := List.forall_mem_cons.mp (by simpa only [PyData.shownAll] using z)
    exact AllW.cons (one_W nd r1 s1 z1) (all_W nd rs s2 z2)
end
theorem repr_W {A : Around} {E : Value → Shared → Prop} {s : Shared} {a : Addr} {xs : List PyData} {as : List Addr} {Q : Value → Shared → Prop} (hn : g0.NoDigits) (r : Reads g0 (.ref a) (.list xs) as) (hs : wsh (.list xs) = true) (hg : A.guards = some [])
    (hu : A.units + ((PyData.list xs).depth + 1) < cLine) (hk0 : ∀ b o, g0.get? b = some o → s.heap.get? b = some o)
    (hQ : ∀ h' u tk, (∀ b o, s.heap.get? b = some o → h'.get? b = some o) → Q (.str (PyData.list xs).shown u) { s with heap := h', toks := tk })
    (hz : (PyData.list xs).shown.length ≤ sizeLine) : wpAny (model prog w) A (call (.builtin "repr") [.ref a]) Q E s := by
  have whole := r
  have dep : (PyData.list xs).depth = PyData.depthAll xs + 1 := rfl
  rw [PyData.shown] at hz hQ
  obtain _ | _ | _ | _ | @⟨_, o, vs, n, _, _, h1, h2, h3, h4⟩ := r
  obtain ⟨bs, low, many⟩ := all_W (prog := prog) (w := w) hn h4 (by simpa only [wsh] using hs) fun t ht => Nat.le_trans (listText_mem_le ht) hz
  have off : a ∉ bs := not_mem_of_deeper whole (Nat.lt_of_lt_of_eq (Nat.lt_succ_self _) dep.symm) low
  have now : s.heap.get? a = some o := hk0 a o h1
  refine call_repr_slot (by omega) ⟨o, now, h2⟩ PySem.F.slot_list_repr.toG ?_
  rcases vs with ⟨_ | ⟨v, l⟩⟩
  · cases h4
    exact call_list_repr_empty ⟨o, now, h2⟩ now h3 ⟨_, _, rfl, hQ s.heap _ _ fun _ _ z => z⟩
  · refine call_list_reprK h1 h2 h3 off many.length_eq (fun i y q => many.item i y ?_) hg (fun b _ => Clear.nil b) ?_ hk0 (fun g u tk keep => ⟨_, _, rfl, hQ g u tk keep⟩) hz
    · rw [← q]; simp
    · show A.units + 1 + (PyData.depthAll xs + 1) < cLine
      omega
end
mutual
/-- lists of our own, read -/
inductive Rs (μ : Mu) : A → A → Prop
  | dat {x : A} : isD x = true → Rs μ x x
  | own {p : Addr} {xs ys : List A} : μ p = some (.lst xs) → RsL μ xs ys → Rs μ (.loc p) (.lst ys)
  | lst {xs ys : List A} : RsL μ xs ys → Rs μ (.lst xs) (.lst ys)
  | tup {xs ys : List A} : RsL μ xs ys → Rs μ (.tup xs) (.tup ys)
inductive RsL (μ : Mu) : List A → List A → Prop
  | nil : RsL μ [] []
  | cons {x y : A} {xs ys : List A} : Rs μ x y → RsL μ xs ys → RsL μ (x :: xs) (y :: ys)
end
section
variable {K : PySem.W.Frag} {μ : Mu} {M F H : Hp}
mutual
theorem Rs.dp (rl : Rel K μ M F H) : ∀ {x y : A} {v : V}, Rs μ x y → Rep K H x v → Dp K H v (toD y)
  | _, _, _, .dat h, r => dp_of h r
  | _, _, _, .own (ys := ys) h1 h2, r => by
    rw [rep_loc] at r; subst r
    obtain ⟨_, o, e1, vs, rfl, e2⟩ := rl.own _ _ h1
    simp only [toD]
    exact .lst (.inl (.inl e1)) (RsL.dp rl h2 (e2.mono rl.sub))
  | _, _, _, .lst h, r => by
    rw [rep_lst] at r; obtain ⟨a, vs, rfl, h1, h2⟩ := r
    simp only [toD]
    exact .lst (.inl (.inl h1)) (RsL.dp rl h h2)
  | _, _, _, .tup h, r => by
    rw [rep_tup] at r; obtain ⟨a, vs, rfl, h1, h2⟩ := r
    simp only [toD]
    exact .tup h1 (RsL.dp rl h h2)
theorem RsL.dp (rl : Rel K μ M F H) : ∀ {xs ys : List A} {vs : List V}, RsL μ xs ys → RepL K H xs vs → DpAll K H vs (toDs ys)
  | _, _, _, .nil, r => by simp only [RepL] at r; subst r; simp only [toDs]; exact .nil
  | _, _, _, .cons h t, r => by
    simp only [RepL] at r
    obtain ⟨v, w, rfl, h1, h2⟩ := r
    simp only [toDs]
    exact .cons (Rs.dp rl h h1) (RsL.dp rl t h2)
end
end
/-- repr of a list, wide -/
theorem wC_reprW {X : Cx} {μ : Mu} {Q : A → Mu → Prop} {k : Nat} {x : A} {ys : List A} (ar : Ar X k) (nd : X.base.NoDigits) (hx : Rs μ x (.lst ys)) (hw : wsh (toD (.lst ys)) = true) (hd : deep (.lst ys) ≤ 60) (hz : (toD (.lst ys)).shown.length ≤ sizeLine)
    (q : Q (.str (toD (.lst ys)).shown) μ) : wC X (.builtin "repr") [x] μ Q := by
  intro M F H vs rl rp
  refine ⟨fun pins s σ us I rv => ?_⟩
  obtain ⟨v, rfl, h⟩ := rp.one
  obtain ⟨u, rfl, ru⟩ := rv.one
  obtain ⟨a, rfl⟩ : ∃ a, v = .ref a := by
    cases hx with
    | dat _ => rw [rep_lst] at h; obtain ⟨a, _, e, _⟩ := h; exact ⟨a, e⟩
    | own _ _ => rw [rep_loc] at h; exact ⟨_, h⟩
    | lst _ => rw [rep_lst] at h; obtain ⟨a, _, e, _⟩ := h; exact ⟨a, e⟩
  cases ru
  obtain ⟨as, rd⟩ := Dp.reads I (toD (.lst ys)) _ _ (Rs.dp rl hx (h.mono rl.sub)) rfl
  have hd2 := depth_of (.lst ys)
  have hu := ar.u64
  have nd2 : s.heap.NoDigits := nd.keeps I.bk
  have rd2 : Reads s.heap (.ref a) (.list (toDs ys)) as := by simpa only [toD] using rd
  refine repr_W nd2 rd2 (by simpa only [toD] using hw) ar.show0 (by simp only [toD] at hd2; omega) (fun _ _ z => z) (fun h' t tk kp => ?_) (by simpa only [toD] using hz)
  exact ⟨.str (toD (.lst ys)).shown, H, I.kept kp, ⟨t, by simp only [toD]⟩, .pure rl (rep_str.mpr rfl) q⟩
end D

set_option Elab.async false
set_option linter.all false
set_option maxRecDepth 100000
set_option maxHeartbeats 4000000
/-! DY: the law's end, where the limit of an int's figures is known to be the usual one. -/
namespace D
open PySem PySem.Spec PyProof.Rows L2
theorem law_endN {P : Program} {w : World} {K : PySem.W.Frag} {mg mb : Str → Option Value} {CX : CXT} {k : Nat} {fa a : Addr} {fd : FuncData} {x : Str} {c : AC} {s1 : Shared} {vs : List Value} {ns : List Int}
    (inK : K.In s1.heap) (gl : s1.heap.Ns mainGlobals mg) (bl : s1.heap.Ns builtinsNs mb) (bl2 : ∀ x : Str, x ≠ "__name__" → mb x = bootBuiltins x) (lim : s1.heap.NoLimit) (dig : s1.heap.NoDigits) (gens : s1.gens = #[])
    (obj : s1.heap.get? a = some { cls := .type "list", data := .seq vs.toArray }) (hints : IntsAre vs ns) (len : ns.length ≤ sizeLine) (room : Room k callerA)
    (F : ∀ base : Heap, K.In base → base.Ns mainGlobals mg → base.NoDigits → FnD P w K mg base CX k fa fd [x] c) (bind : ∀ (s : Shared) (u : Value), BindsTo s fd ⟨[u], []⟩ [(x, u)])
    (hc : c [.fls (ns.map A.int)] (fun _ => none) (fun y _ => y = .bl true) fun _ _ _ => False) (hCX : ∀ H e s', CX [] H s1 (fun _ _ _ => False) e s' → False) :
    codeAny (model P w) callerA (.call (.ref fa) ⟨[.ref a], []⟩) (fun r s' => r = .ok (.ret (.bool true)) ∧ OldK s1.heap s'.heap ∧ s'.os = s1.os ∧ AllBare s'.gens) s1 := by
  have rv := vals_ints hints
  have many := hints.length
  have main : ∀ H : Hp, Only H → SqL K H a (ns.map V.int) → HOk P w H s1.heap → (∀ b, H b ≠ none → b = a) → (H a ≠ none → K.lookup a = none) →
      codeAny (model P w) callerA (.call (.ref fa) ⟨[.ref a], []⟩) (fun r s' => r = .ok (.ret (.bool true)) ∧ OldK s1.heap s'.heap ∧ s'.os = s1.os ∧ AllBare s'.gens) s1 := by
    intro H only sq hok isA notK
    have off : ∀ {b : Addr} {o : Obj} {es : Array DictEntry} {ep : Nat}, s1.heap.get? b = some o → o.data = .dict es ep → H b = none := by
      intro b o es ep e d
      match q : H b with
      | none => rfl
      | some u =>
        obtain rfl : b = a := isA b (by rw [q]; exact fun z => nomatch z)
        rw [obj] at e
        cases e
        exact nomatch d
    have ns' : ∀ {b : Addr} {m : Str → Option Value}, s1.heap.Ns b m → (hidT s1.heap H).Ns b m := by
      intro b m h
      obtain ⟨o, es, ep, e, d, r⟩ := h
      exact ⟨o, es, ep, hidT_get e (off e d), d, r⟩
    have inKb : K.In (hidT s1.heap H) := by
      intro b o e
      refine hidT_get (inK b o e) ?_
      match q : H b with
      | none => rfl
      | some u =>
        obtain rfl : b = a := isA b (by rw [q]; exact fun z => nomatch z)
        rw [notK (by rw [q]; exact fun z => nomatch z)] at e
        cases e
    obtain ⟨mc, l1, l2⟩ := lim
    obtain ⟨md, g1, g2⟩ := dig
    have e0 : Env0 P w K mg (hidT s1.heap H) callerA [] s1 H :=
      { frames := rfl, mod := ⟨inKb, ns' gl, ⟨mb, ns' bl, bl2⟩, ⟨mc, ns' l1, l2⟩⟩, bs := fun b o e => of_hidT e, bsz := Nat.le_of_eq (hidT_size _ _), funs := trivial, frf := fun b hb => (List.not_mem_nil hb).elim, hok := hok, bare := .of_eq gens }
    have rl : Rel K (fun _ => none) (fun _ => none) H H := ⟨.refl _, fun _ _ z => (nomatch z), fun _ _ z => (nomatch z)⟩
    have sp : spOf K c [.ref a] H (fun v _ => v = .bl true) (fun _ _ _ => False) :=
      ⟨[.fls (ns.map A.int)], H, fun _ => none, fun _ => none, _, _, .cons (rep_fls.mpr ⟨a, _, rfl, sq, .map (fun i => rep_int.mpr rfl) ns⟩) .nil, rl, hc, fun y μ' F' H' v q _ _ r => by rw [q, rep_bl] at r; exact r, fun _ _ _ _ _ z _ _ => z⟩
    refine codeAny_mono ((F _ inKb (ns' gl) ⟨md, ns' g1, g2⟩).run callerA [] s1 H ⟨[.ref a], []⟩ [.ref a] [.ref a] _ _ room rfl e0 (bind s1 (.ref a)) (.cons rfl .nil) sp) fun r s2 h => ?_
    match r, h with
    | .error e, h => exact (hCX H e s2 h).elim
    | .ok .next, h => exact h.elim
    | .ok .brk, h => exact h.elim
    | .ok .cont, h => exact h.elim
    | .ok (.ret u), ⟨v, H2, os, bare, un, hok2, rv2, q⟩ =>
      have q2 : v = .bl true := q
      subst q2
      obtain rfl : u = Value.bool true := rv2
      suffices keep : ∀ b o, s1.heap.get? b = some o → s2.heap.get? b = some o from ⟨rfl, OldK.of_keep keep, os, bare⟩
      intro b o e
      match q3 : H b with
      | none => exact un.keep b o e q3 List.not_mem_nil List.not_mem_nil
      | some u3 =>
        rcases only b with z | ⟨ob, xs, z⟩
        · rw [z] at q3; cases q3
        · obtain ⟨g1, _⟩ := hok b _ z
          obtain ⟨g2, _⟩ := hok2 b _ (un.frzs b ob _ z)
          rw [g1] at e; cases e
          exact g2
  match hk : K.lookup a with
  | some o =>
    have e := inK a o hk
    rw [obj] at e
    cases e
    exact main (fun _ => none) (fun _ => .inl rfl) (.inr ⟨_, vs.toArray, _, hk, rfl, rfl, rfl, by rw [List.size_toArray, many]; exact len, by simpa using rv⟩) (fun _ _ z => nomatch z) (fun _ z => absurd rfl z) fun z => absurd rfl z
  | none =>
    refine main (upd (fun _ => none) a (.frz { cls := .type "list", data := .seq vs.toArray } (.lst (ns.map V.int)))) (fun b => ?_) (.inl (.inr ⟨_, upd_same⟩)) (fun b u z => ?_) (fun b z => ?_) fun _ => hk
    · by_cases hb : b = a
      · subst hb; exact .inr ⟨_, _, upd_same⟩
      · exact .inl (upd_ne hb)
    · by_cases hb : b = a
      · subst hb
        rw [upd_same] at z; cases z
        exact ⟨obj, by rw [List.length_map]; exact len, vs, _, rv, obj⟩
      · rw [upd_ne hb] at z; cases z
    · exact Classical.byContradiction fun hb => z (upd_ne hb)
/-- the goal that k_head leaves, by the law's promise over data -/
theorem walk_endN {l : PySem.W.OpenLaw} {k : Nat} {q : Program} {loose : List Str} {XP : (Str → Option Value) → Heap → Prop} {YP : World → Heap → Prop} {d : DefRec} {K : Params → PySem.W.Frag} {c : World → AC} {x : Str}
    (hn : l.most = some 63) (hdf : d.params.defaults = []) (room : Room k callerA) (hY : ∀ (w : World) (h : Heap), YP w h → (K w.params).In h)
    (F : ∀ (w : World) (mg : Str → Option Value) (fa : Addr) (g : Heap), (K w.params).In g → g.Ns mainGlobals mg →
      mg d.name = some (.ref fa) → ∃ fd : FuncData, (∀ (s : Shared) (u : Value), BindsTo s fd ⟨[u], []⟩ [(x, u)]) ∧ ∀ base : Heap, (K w.params).In base → base.Ns mainGlobals mg → base.NoDigits → FnD l.prog w (K w.params) mg base CX0 k fa fd [x] (c w))
    (hc : ∀ (w : World) (ns : List Int), ns.length ≤ 63 → c w [.fls (ns.map A.int)] (fun _ => none) (fun y _ => y = .bl true) fun _ _ _ => False) : PySem.W.WalkO q loose XP YP l.row.toRowW d [] (fun f vs => PySem.call f vs) := by
  refine Att.attach_call hn hdf ?_
  intro w s0 s1 mg mb fa o pm cd doc a vs ns gr Y ho hd hcd hmg hobj hints hlen hg
  have inK := hY w _ Y
  obtain ⟨fd, hb, hF⟩ := F w mg fa _ inK gr.T.g hmg
  exact law_endN inK gr.T.g gr.T.b gr.T.builtins gr.T.nolimit gr.T.nodigits hg hobj hints (Nat.le_trans hlen (by decide)) room hF hb (hc w ns hlen) fun _ _ _ z => z
section
variable {K : PySem.W.Frag} {mg : Str → Option Value}
theorem repL_ints' {F : Hp} (ws : List Int) : RepL K F (ws.map A.int) (ws.map V.int) := .map (fun w => rep_int.mpr rfl) ws
theorem kn_ints {h : Heap} {x : Str} {p : Addr} {its : Array Value} {n : Nat} {sl : Array (Option Value)} {od : Option Addr} {ws : List Int} (X : K.In h) (G : h.Ns mainGlobals mg) (q : PySem.W.nsIn K mainGlobals x = some (some (.ref p)))
    (l : K.lookup p = some ⟨.type "tuple", od, .seq its n, sl⟩) (e : its.toList.map intOf = ws.map some) (hz : ws.length ≤ 1000) : Kn K mg x (.tup (ws.map A.int)) := by
  have hv := vals_nums e
  have hl : its.size = ws.length := by have := congrArg List.length e; simpa using this
  exact ⟨.ref p, _, PySem.W.mg_of X G q, rfl, fun F => rep_tup.mpr ⟨p, ws.map V.int, rfl, .inr ⟨_, its, n, l, rfl, rfl, by rw [hl]; exact Nat.le_trans hz (by decide), hv⟩, repL_ints' ws⟩⟩
end
end D

set_option Elab.async false
set_option linter.all false
set_option maxRecDepth 100000
set_option maxHeartbeats 4000000
/-! DO: how many unlike texts a list holds. -/
namespace D
open PySem PySem.Spec PyProof.Rows L2
section
variable {P : Program} {w : World} {B : Around} {E : Value → Shared → Prop} {s : Shared}
set_option maxHeartbeats 8000000 in
theorem set_of_list {l : Addr} {its : Array Value} {xs : List Str} {Q : Value → Shared → Prop} (hh : B.handled = none) (hl : s.heap.IsList l its) (hx : PyProof.Rows.StrsAre its.toList xs) (hb : xs.length + 1 < scanBound)
    (q : ∀ (h' : Heap) (tk : Nat), HasT P w h' s.heap.objs.size xs → (∀ b o, b < s.heap.objs.size → s.heap.get? b = some o → h'.get? b = some o) → Q (.ref s.heap.objs.size) { s with heap := h', toks := tk }) : wpAny (model P w) B (call (.type "set") [.ref l]) Q E s := by
  obtain ⟨mc, mt, hmro⟩ := PySem.F.called_set.mro
  have g1 := PySem.F.called_set.made; have g2 := PySem.F.called_set.sub; have g3 := PySem.F.called_set.notType; have g4 := PySem.F.called_set.canCreate; have g5 := PySem.F.typeCall_set_1 (.ref l)
  refine (wpAny_call (codeAny_of_tree (show wpAny _ _ (callAny (.type "set") _) _ _ _ from wpAny_pure ⟨Code.quiet_builtin _ (by decide +kernel), codeAny_builtin PySem.F.entry_type_call ?_⟩)))
  rw [Around.under_plain (weight_type_call_type "set" [.ref l] []) rfl]
  repeat (any_goals (first | wp_step | assumption))
  refine codeAny_mono (code_set_new_1 (.ref l) (E := E) (Q₁ := fun ob s1 => ∃ led : Bool, ob = .ref s.heap.objs.size ∧ s1 = { s with heap := s.heap.push (fresh0 led) }) fun led => ⟨led, rfl, rfl⟩) fun r s1 hr => ?_
  match r, hr with
  | .error e, hr => exact hr
  | .ok .next, hr => exact hr.elim
  | .ok .brk, hr => exact hr.elim
  | .ok .cont, hr => exact hr.elim
  | .ok (.ret ob), hr =>
    obtain ⟨led, rfl, rfl⟩ := hr
    have hS : (s.heap.push (fresh0 led)).get? s.heap.objs.size = some (fresh0 led) := Heap.get?_push_size _ rfl
    have hT : Shared.TypeIs { s with heap := s.heap.push (fresh0 led) } (.ref s.heap.objs.size) "set" := ⟨_, hS, rfl⟩
    have k1 := PySem.F.called_set.init.lookup; have k2 := PySem.F.called_set.init.bind (.ref s.heap.objs.size)
    repeat (any_goals (first | wp_step | assumption))
    refine codeAny_mono (codeAny_call_builtin (R := wants (fun r s2 => r = .none ∧ ∃ h' tk, s2 = { s with heap := h', toks := tk } ∧ HasT P w h' s.heap.objs.size xs ∧ (∀ b o, b < s.heap.objs.size → s.heap.get? b = some o → h'.get? b = some o)) E) PySem.F.called_set.init.plain PySem.F.entry_set_init (check_set_init_1 hT ?_)) fun r2 s2 hr2 => ?_
    · obtain ⟨⟨_, od, _, osl⟩, hol, rfl, nl, rfl⟩ := hl
      have hol2 : (s.heap.push (fresh0 led)).get? l = some { cls := .type "list", dict := od, data := .seq its nl, slots := osl } := Heap.get?_push_of_some _ hol
      have n1 := PySem.F.sub_list_set; have n2 := PySem.F.sub_list_frozenset; have n3 : (Value.type "list" == Value.type "dict") = false := by decide
      have isT : (s.heap.push (fresh0 led)).IsList l its := ⟨_, hol2, rfl, nl, rfl⟩
      unfold Builtin.«set.__init__» noKeywords Builtin.Frozenset.updateFrom
      generalize hpi : pyIter = PI
      wp_walk
      subst hpi
      refine wpAny_pyIter_list isT (wpAny_bind (wpAny_runValue ?_))
      have lS : l < s.heap.objs.size := Heap.lt_size hol
      have hsz : its.size = xs.length := by rw [← StrsAre.len_eq hx, Array.length_toList]
      have neI : l ≠ (s.heap.push (fresh0 led)).objs.size := by rw [Heap.size_push]; exact Nat.ne_of_lt (Nat.lt_succ_of_lt lS)
      have off : s.heap.objs.size ∉ [(s.heap.push (fresh0 led)).objs.size, l] := by rw [Heap.size_push]; simp only [List.mem_cons, List.not_mem_nil, or_false, not_or]; exact ⟨Nat.ne_of_lt (Nat.lt_succ_self _), Nat.ne_of_gt lS⟩
      refine set_turns ((Walks.list (by simp [hh]) _ l neI its).toS) s.heap.objs.size off xs hsz.symm (by omega) (fun i v hv => SS.strs_at hx i v (by rw [Array.getElem?_toList]; exact hv)) its.size 0 _ (by omega) ⟨⟨_, Heap.get?_push_size _ rfl, rfl, rfl⟩, isT.push _⟩ ?_ fun s3 mv hS3 => ?_
      · have hg : ((s.heap.push (fresh0 led)).push { cls := .type "list_iterator", data := .fields #[.ref l, .int 0 0] }).get? s.heap.objs.size = some (fresh0 led) := Heap.get?_push_of_some _ hS
        exact PyProof.Rows.SetOf_congr ((PyProof.Rows.setObjOf_fresh (knd := PySem.strKind P w) led).setOf hg (by unfold scanBound; omega)) (fun _ => by simp) rfl
      · obtain ⟨h3, gn3, dr3, tk3, os3⟩ := s3
        obtain rfl : gn3 = s.gens := mv.gens
        obtain rfl : dr3 = s.drawn := mv.drawn
        obtain rfl : os3 = s.os := mv.os
        refine (show wpAny _ _ _ _ _ _ from wpAny_pure (show wpAny _ _ (ret Value.none) _ _ _ from wpAny_pure ⟨rfl, h3, tk3, rfl, hS3, fun b o lb e => ?_⟩))
        refine mv.heap b o ?_ (Heap.get?_push_of_some _ (Heap.get?_push_of_some _ e))
        rw [Heap.size_push]; simp only [List.mem_cons, List.not_mem_nil, or_false, not_or]; exact ⟨Nat.ne_of_lt lb, Nat.ne_of_lt (Nat.lt_succ_of_lt lb)⟩
    · match r2, hr2 with
      | .error e, hr2 => exact hr2
      | .ok .next, hr2 => exact hr2.elim
      | .ok .brk, hr2 => exact hr2.elim
      | .ok .cont, hr2 => exact hr2.elim
      | .ok (.ret _), hr2 =>
        obtain ⟨rfl, h', tk, rfl, hS', hk⟩ := hr2
        repeat (any_goals (first | wp_step | assumption))
        exact q _ _ hS' hk
end
section
variable {B : Bs} {X : Cx} {Γ : G} {μ : Mu} {Q : A → Mu → Prop} {e : Expr} {p p2 q0 pos : Pos}
/-- len(set(names)), a list of texts -/
theorem wE_lenSetL (hm : X.mg "len" = none) (hm2 : X.mg "set" = none) (h : wE B X e Γ μ fun x μ1 => ∃ xs : List Str, x = .lst (xs.map A.str) ∧ xs.length ≤ 1000 ∧ Q (.int (unl xs).length) μ1) (hg : Gl X "len" := by rfl) (hg2 : Gl X "set" := by rfl) (hc : X.calm = true := by rfl)
    (na : starEach [e] X.env = (false, eval e X.env) :: starEach [] X.env := by rfl) : wE B X (.Call (.Name "len" p) [.Call (.Name "set" p2) [e] [] q0] [] pos) Γ μ Q := by
  intro σ M F H bo rs rl
  refine ⟨fun pins s I => ?_⟩
  refine Call_ (ld_blt I hg hm boot_len (PyProof.Rows.callWith_builtin1 (PyProof.Rows.args_cons ?_ rfl) rfl rfl))
  refine Call_ (ld_blt I hg2 hm2 boot_set (PyProof.Rows.callWith_type1 (PyProof.Rows.args_cons (thn ((h σ M F H bo rs rl).o pins s I) fun v s1 got => PyProof.Rows.args_nil ?_) na) na rfl))
  obtain ⟨u, H1, I1, ru, x, F1, μ1, ex, r1, p1, xs, rfl, hx, q1⟩ := got
  rw [rep_lst] at p1
  obtain ⟨a, vs, rfl, h1, h2⟩ := p1
  rw [repL_strs h2] at h1
  cases ru
  obtain ⟨its, rv, pl, hz⟩ := I1.list (.inl (.inl (r1.sub _ _ h1)))
  refine set_of_list (I1.ok.hd hc) pl.isList (by simpa using L2.strsAre_of rv) (by unfold scanBound; omega) fun h' tk hS hk => PyProof.Rows.args_nil ?_
  obtain ⟨o, es, ep, t, ho, hex, hd, _, _, _, hf, hn⟩ := hS
  have I2 : Inv X pins σ H1 { s1 with heap := h', toks := tk } := I1.kept fun b o e => hk b o (Heap.lt_size e) e
  have hu := unl_le _ xs rfl
  exact call_len_set ho hex hd hf (by rw [hn]; omega) ⟨.int (unl xs).length, H1, I2.tok _, ⟨_, by rw [hn]⟩, _, F1, μ1, ex, r1, rep_int.mpr rfl, q1⟩
end
end D

set_option Elab.async false
set_option linter.all false
set_option maxRecDepth 100000
set_option maxHeartbeats 4000000
/-! DP: a text so many times. -/
namespace D
open PySem PySem.Spec PyProof.Rows L2
theorem op_mulS {X : Cx} : OpR X (binaryOp .Mult) (fun x y H Q => ∃ i n, x = .str i ∧ y = .int n ∧ PySem.MulOk i n ∧ Q (.str (Txt.mul i n)) H) := by
  intro pins s σ H x y v u Q I rx ry h
  obtain ⟨i, n, rfl, rfl, hz, q⟩ := h
  obtain ⟨t, rfl⟩ := rx
  obtain ⟨t', rfl⟩ := ry
  exact PySem.SB.mul hz (fun t' tk => ⟨.str (Txt.mul i n), H, I.tok _, ⟨_, rfl⟩, q⟩)
theorem wO_mulS {X : Cx} {μ : Mu} {Q : A → Mu → Prop} {x : Str} {n : Int} (hz : PySem.MulOk x n) (q : Q (.str (Txt.mul x n)) μ) : wO X (binaryOp .Mult) (.str x) (.int n) μ Q :=
  wO_of op_mulS fun M F H v w rl r1 r2 => ⟨x, n, rep_str.mp r1, rep_int.mp r2, hz, .pure rl (rep_str.mpr rfl) q⟩
end D

set_option Elab.async false
set_option linter.all false
set_option maxRecDepth 100000
set_option maxHeartbeats 4000000
/-! DX: exceptions: caught and kept. -/
namespace D
open PySem PySem.Spec PyProof.Rows L2
section
variable {X : Cx} {s : Shared} {pins : List (Addr × Obj)} {σ : L2.St} {H : Hp}
/-- an exception's object is tracked from now on -/
theorem inv_adopt {a : Addr} {oe : Obj} {vs : Array Value} {cls : Value} {d : Option Addr} (I : Inv X pins σ H s) (ha : s.heap.get? a = some oe) (hz : oe.cls = cls ∧ oe.dict = d) (hd : oe.data = .fields vs) (na : H a = none) (n0 : X.s_0.heap.get? a = none)
    (nL : a ≠ X.env.locals) (np : ∀ p ∈ X.pn ++ pins, p.1 ≠ a) : Inv X pins σ (upd H a (XO a cls d)) s := by
  have ne : ∀ {b : Addr} {o : HO}, H b = some o → b ≠ a := fun {b o} e z => by rw [z, na] at e; cases e
  refine ⟨I.ok, I.os, I.bare, ⟨I.base.keep, I.base.slot, fun b o e n hx => ?_, I.base.there, fun b xs e => ?_, fun b o u e => ?_, fun b ps e => ?_⟩, I.loc, I.cell, ?_, fun x c e => ?_, fun p hp => ?_, fun b o e => ?_, I.len⟩
  · have hb : b ≠ a := fun z => by rw [z, n0] at e; cases e
    rw [upd_ne hb]; exact I.base.free b o e n hx
  · have q := I.base.tups b xs e
    rw [upd_ne (ne q)]; exact q
  · have q := I.base.frzs b o u e
    rw [upd_ne (ne q)]; exact q
  · obtain ⟨more, q⟩ := I.base.tbls b ps e
    exact ⟨more, by rw [upd_ne (ne q)]; exact q⟩
  · rw [upd_ne (Ne.symm nL)]; exact I.free
  · have hc : c ≠ a := fun z => by
      obtain ⟨v, o, h1, h2⟩ := I.cell x c e
      rw [z, ha] at h1; cases h1
      rw [hd] at h2; cases h2
    rw [upd_ne hc]; exact I.freeC x c e
  · obtain ⟨h1, h2, h3⟩ := I.pin p hp
    exact ⟨h1, by rw [upd_ne (np p hp)]; exact h2, h3⟩
  · by_cases hb : b = a
    · subst hb
      rw [upd_same] at e; cases e
      exact ⟨⟨oe, vs, ha, hz, hd⟩, ⟨_, ha⟩, fun h1 h2 ⟨oe, vs, g1, g2, g3⟩ k => ⟨oe, vs, k _ g1, g2, g3⟩⟩
    · rw [upd_ne hb] at e
      exact (I.hok b o e).stay (fun _ _ _ q => q) (fun _ q => by rw [upd_ne (ne q)]; exact q) fun _ _ q => by rw [upd_ne (ne q)]; exact q
end
/-- what 'except x as n' wishes of an exception of the body, which is kept -/
def wKeep (K : PySem.W.Frag) (c : Value) (i : Nat) (ts : Addr → Value → Option Addr → TS) (Wout : WX) (D : Ends) : WX := fun cls d σ H =>
  ∃ b, PySem.W.exmOne K cls c = some b ∧ (b = true → ∀ a, H a = none → ts a cls d { nx := fun σ' H' => H' a = none → D.nx (σ'.set i none) (upd H' a (XO a cls d)), rt := fun v H' => H' a = none → D.rt v (upd H' a (XO a cls d)), bk := fun σ' H' => H' a = none → D.bk (σ'.set i none) (upd H' a (XO a cls d)), ct := fun σ' H' => H' a = none → D.ct (σ'.set i none) (upd H' a (XO a cls d)) } (σ.set i (some (.ref a))) H) ∧
    (b = false → Wout cls d σ H)
/-! ### who may catch it, and what is known of it then -/
theorem fields_off {B h : Heap} {l : List Env} {a : Addr} {o : Obj} {vs : Array Value} (ff : h.FunFrames B l) (e : h.get? a = some o) (dt : o.data = .fields vs) : a ∉ frs l := by
  intro m
  obtain ⟨_, u, eu, no⟩ := ff.mem m
  have same : o = u := Option.some.inj (e.symm.trans eu)
  exact no vs (same ▸ dt)
/-- the exception at a, made since X began, seen by nobody yet: sI is the state without it, B all of sI but the frames -/
structure Seen (X : Cx) (pins : List (Addr × Obj)) (σ : L2.St) (H : Hp) (sI : Shared) (B : Heap) (a : Addr) : Prop where
  inv : Inv X pins σ H sI
  low : ∀ b o, sI.heap.get? b = some o → b ∉ frs X.stack → B.get? b = some o
  new : B.get? a = none
  hid : H a = none
  off : a ∉ frs X.stack
namespace Seen
variable {X : Cx} {pins : List (Addr × Obj)} {σ : L2.St} {H : Hp} {sI : Shared} {B : Heap} {a : Addr}
theorem void (c : Seen X pins σ H sI B a) {o : Obj} : sI.heap.get? a ≠ some o := fun e => by
  have := c.low a o e c.off
  rw [c.new] at this; cases this
theorem pins_ne (c : Seen X pins σ H sI B a) : ∀ p ∈ X.pn ++ pins, p.1 ≠ a := fun p hp e => c.void (e ▸ (c.inv.pin p hp).1)
theorem before (c : Seen X pins σ H sI B a) (hex : X.ex = []) : X.s_0.heap.get? a = none := by
  refine Option.eq_none_iff_forall_ne_some.mpr fun o e => ?_
  obtain ⟨u, q⟩ := c.inv.base.there a o e (by rw [hex]; exact List.not_mem_nil)
  exact c.void q
theorem ne_locals (c : Seen X pins σ H sI B a) (hs : X.stack = X.env :: X.outer) (hf : X.env.frame = some X.env.locals) : a ≠ X.env.locals := fun e =>
  c.off (by rw [hs, e]; exact List.mem_filterMap.mpr ⟨_, .head _, hf⟩)
theorem not_fs (c : Seen X pins σ H sI B a) (hs : X.stack = X.env :: X.outer) : a ∉ X.fs := fun m =>
  c.off (by rw [hs]; exact (List.mem_filterMap.mp m).elim fun e q => List.mem_filterMap.mpr ⟨e, .tail _ q.1, q.2⟩)
/-- X's own state with the exception in it, and the exception's object -/
theorem now (c : Seen X pins σ H sI B a) {cls : Value} {d : Option Addr} {l : List Env} {s : Shared} (fl : HandSPX.FlyingZ B l a (Zc cls d) s.heap) (up : sI.heap.UpToSlots s.heap) (os : s.os = sI.os) (ag : AllBare s.gens) :
    Inv X pins σ H s ∧ ∃ oe vs, s.heap.get? a = some oe ∧ Zc cls d oe ∧ oe.data = .fields vs :=
  ⟨c.inv.landed c.low fl.1 up os ag, fl.there⟩
end Seen
section
variable {X : Cx} {pins : List (Addr × Obj)} {σ : L2.St} {H : Hp} {sI s : Shared} {B : Heap} {a : Addr} {cls : Value} {d : Option Addr} {D : Ends} {Wout : WX}
/-- no clause is left: it flies on out of X -/
theorem on_out (c : Seen X pins σ H sI B a) (hs : X.stack = X.env :: X.outer) (hf : X.env.frame = some X.env.locals) (tk : Takes X Wout) (fl : HandSPX.FlyingZ B (X.env :: X.outer) a (Zc cls d) s.heap) (up : sI.heap.UpToSlots s.heap) (os : s.os = sI.os)
    (ag : AllBare s.gens) (w : Wout cls d σ H) {Q : Flow → Shared → Prop} : wpAny (model X.prog X.w) X.A (handleBy (.ref a) X.env []) Q X.xe s := by
  have fly : wpAny (model X.prog X.w) X.A (setFlight (.ref a) X.env.frame) (fun _ s4 => wpAny (model X.prog X.w) X.A (throw (.ref a) : Sem Flow) Q X.xe s4) X.xe s := by
    rw [hf]
    refine HandSPX.setFlight_upZ fl fun h4 held up4 => wpAny_throw (tk _ _ ⟨a, B, sI, pins, σ, H, cls, d, rfl, c.inv, c.low, up.trans up4, ?_, c.hid, os, ag, w⟩)
    rw [hs]; exact Or.inr (Or.inr held)
  obtain ⟨_, _, _, oe, vs, T, _, _, e1, _, e3, e4, _⟩ := fl
  refine wpAny_handleBy_nil ?_
  unfold PySem.passOn
  refine wpAny_bind (wpAny_field e1 e3 e4 ?_)
  rw [if_neg (by simp)]
  first | exact wpAny_bind fly | exact wpAny_bind (wpAny_pure (wpAny_bind fly))
/-- does the clause's class take it? -/
theorem on_test {x : Str} {np pos : Pos} {cl : Value} {pn : List (Addr × Obj)} {b : Bool} {oe : Obj} {R : Result → Shared → Prop} (S : Inv (X.suite a pn) [] σ H s) (hc : Names X x cl) (e : s.heap.get? a = some oe) (z : oe.cls = cls) (hb : PySem.W.exmOne X.K cls cl = some b)
    (q : R (.ok (if b then .brk else .next)) s) : codeAny (model X.prog X.w) (X.A.mark (some (.ref a))) (.handlers (.ref a) [.ExceptHandler (some (.Name x np)) none [] pos] X.env) R s := by
  have looks : PySem.W.Looks (model X.prog X.w) s.heap (typeOf (.ref a)) cls := fun _ _ _ t keeps ok => wpAny_typeOf_ref (keeps _ _ e) (z ▸ ok)
  have match_ := (PySem.W.exm_one (M := model X.prog X.w) S.kIn looks hb).here (A := X.A.mark (some (.ref a))) (E := notedBy (model X.prog X.w) (X.A.mark (some (.ref a))) X.env fun x s₂ => R (.error x) s₂) (Q := fun b s₂ => R (.ok (if b then .brk else .next)) s₂) q
  refine codeAny_handlers_test ?_
  obtain ⟨g, nd, top⟩ := hc
  rcases top with top | ⟨none, boot, nn⟩
  · exact ld_glob (X := X.suite a pn) S g top match_ nd
  · exact ld_blt (X := X.suite a pn) S g none boot match_ nn nd
/-- the ends of a suite that keeps its exception: it is known from then on, and the clause's name is gone -/
abbrev keptEnds (D : Ends) (i : Nat) (a : Addr) (cls : Value) (d : Option Addr) : Ends :=
  { nx := fun σ' H' => H' a = none → D.nx (σ'.set i none) (upd H' a (XO a cls d)), rt := fun v H' => H' a = none → D.rt v (upd H' a (XO a cls d)), bk := fun σ' H' => H' a = none → D.bk (σ'.set i none) (upd H' a (XO a cls d)), ct := fun σ' H' => H' a = none → D.ct (σ'.set i none) (upd H' a (XO a cls d)) }
theorem on_end {i : Nat} {n : Str} {pos : Pos} {oe : Obj} {vs : Array Value} {f : Flow} {E : Value → Shared → Prop} (ok : X.Ok) (hN : X.N.Nodup) (hi : X.N[i]? = some n) (hln : X.env.kindOf n = some .local) (z : Zc cls d oe) (dt : oe.data = .fields vs) (n0 : X.s_0.heap.get? a = none)
    (nL : a ≠ X.env.locals) (np : ∀ p ∈ X.pn ++ pins, p.1 ≠ a) (r : SP (X.suite a ((a, oe) :: (X.pn ++ pins))) [] (keptEnds D i a cls d) f s) :
    wpAny (model X.prog X.w) X.A (do bindName X.env n .none; unbindBehindTheSuite X.env n pos) (fun _ s7 => SP X pins D f s7) E s := by
  have gone : ∀ {σ6 : L2.St} {H6 : Hp} {Q : Shared → Prop}, Inv (X.suite a ((a, oe) :: (X.pn ++ pins))) [] σ6 H6 s → (∀ s7, H6 a = none ∧ Inv X pins (σ6.set i none) (upd H6 a (XO a cls d)) s7 → Q s7) →
      wpAny (model X.prog X.w) X.A (do bindName X.env n .none; unbindBehindTheSuite X.env n pos) (fun _ s7 => Q s7) E s := by
    intro σ6 H6 Q J q
    refine gone_ok (X := X.suite a ((a, oe) :: (X.pn ++ pins))) J hN hi hln fun s7 J7 => q s7 ?_
    have known := J7.pin (a, oe) (by simp)
    exact ⟨known.2.1, inv_adopt (J7.unsuite ok) known.1 z dt known.2.1 n0 nL np⟩
  cases f
  case ret u => exact r.elim fun v r => r.elim fun σ6 r => r.elim fun H6 r => gone r.1 fun s7 w => ⟨v, _, _, w.2, r.2.1, r.2.2 w.1⟩
  all_goals exact r.elim fun σ6 r => r.elim fun H6 r => gone r.1 fun s7 w => ⟨_, _, w.2, r.2 w.1⟩
theorem sp_home {pn : List (Addr × Obj)} {xe : Value → Shared → Prop} {f : Flow} (ok : X.Ok) (r : SP (X.tr (X.pn ++ pins) xe) pn D f s) : SP X pins D f s := by
  cases f
  case ret u => exact r.imp fun _ r => r.imp fun _ r => r.imp fun _ r => ⟨r.1.ofTry ok, r.2⟩
  all_goals exact r.imp fun _ r => r.imp fun _ r => ⟨r.1.ofTry ok, r.2⟩
/-- what a try statement does with an exception of its body -/
def onCatch (X : Cx) (pins : List (Addr × Obj)) (D : Ends) (cs : List ExceptHandler) : Value → Shared → Prop := fun e s₁ =>
  wpAny (model X.prog X.w) X.A (noteFrame e X.env) (fun _ s₂ => wpAny (model X.prog X.w) X.A (setFlight e none) (fun _ s₃ => wpAny (model X.prog X.w) X.A (handleBy e X.env cs) (SP X pins D) X.xe s₃) X.xe s₂) X.xe s₁
end
/-- a try's body, read for any wish W that its catcher takes -/
def TryP (X : Cx) (ss : List Stmt) (tb : WX → TS) : Prop :=
  ∀ W pn xe, Takes (X.tr pn xe) W → PassesOwn (model X.prog X.w) X.A X.env xe →
    PSs (X.tr pn xe) ss (tb W)
/-- a clause's suite, read while the exception at a is pinned -/
def SuiteP (X : Cx) (ss : List Stmt) (ts : Addr → Value → Option Addr → TS) : Prop :=
  ∀ a oe cls d pn, Zc cls d oe → (∃ vs, oe.data = .fields vs) →
    PSs (X.suite a ((a, oe) :: pn)) ss (ts a cls d)
section
variable {X : Cx} {i : Nat} {x n : Str} {c : Value} {b₀ : Stmt} {body suite : List Stmt} {np pos pos' : Pos} {Wout : WX} {tb : WX → TS} {ts : Addr → Value → Option Addr → TS}
/-- the clause takes what its wish says -/
theorem keep_takes {pins : List (Addr × Obj)} {D : Ends} (ok : X.Ok) (hs : X.stack = X.env :: X.outer) (hf : X.env.frame = some X.env.locals) (hex : X.ex = []) (hN : X.N.Nodup) (hi : X.N[i]? = some n) (hln : X.env.kindOf n = some .local) (hc : Names X x c) (tk : Takes X Wout)
    (hsu : SuiteP X (b₀ :: suite) ts) :
    Takes (X.tr (X.pn ++ pins) (onCatch X pins D [.ExceptHandler (some (.Name x np)) (some n) (b₀ :: suite) pos'])) (wKeep X.K c i ts Wout D) := by
  rintro u s' ⟨a, B, sI, pins', σ, H, cls, d, rfl, J, low, up, sky, hid, os, ag, b, hb, yes, no⟩
  have frames : X.A.frames = some (X.env :: X.outer) := ok.frames.trans (congrArg some hs)
  have new : B.get? a = none := sky.elim (fun q => q.2.1) fun q => q.elim (fun q => q.2.1) fun q => q.2.1
  refine Sky.land Zc.steady frames hf (show Sky B (X.env :: X.outer) a (Zc cls d) X.env.locals s'.heap from hs ▸ sky) fun h fl up1 => ?_
  obtain ⟨oe, vs, e1, e2, e3⟩ := fl.there
  have C : Seen X pins σ H sI B a := ⟨J.ofTry ok, low, new, hid, by rw [hs]; exact fields_off fl.2.2.1 e1 e3⟩
  have nL := C.ne_locals hs hf
  have S := (C.now (s := { s' with heap := h }) fl (up.trans up1) os ag).1.suite e1 e3 hid nL (C.not_fs hs)
  refine wpAny_handleBy_cons (on_test S hc e1 e2.1 hb ?_) (fun z => nomatch z)
  match b, yes, no with
  | false, _, no => exact on_out (s := { s' with heap := h }) C hs hf tk fl (up.trans up1) os ag (no rfl)
  | true, yes, _ =>
    refine codeAny_handlers_suite_as (HandSPX.lands_againZ fl fun h4 fl4 up4 => ?_)
    obtain ⟨I4, oe4, vs4, g1, g2, g3⟩ := C.now (s := { s' with heap := h4 }) fl4 ((up.trans up1).trans up4) os ag
    refine store_ok (X := X.suite a ((a, oe4) :: (X.pn ++ pins))) (v := .ref a) (I4.suite g1 g3 hid nL (C.not_fs hs)) hN hi (.inl hln) rfl (fun s5 S5 => ?_) (.inr hln)
    exact wpAny_mono ((hsu a oe4 cls d (X.pn ++ pins) g2 ⟨vs4, g3⟩).run [] s5 _ H (keptEnds D i a cls d) S5 (yes rfl a hid)) (fun f s6 r => on_end ok hN hi hln g2 g3 (C.before hex) nL C.pins_ne r) (fun _ _ z => z.elim)
/-- try: body / except x as n: suite; the exception is known behind the statement -/
theorem ps_try_keep (hs : X.stack = X.env :: X.outer) (hf : X.env.frame = some X.env.locals) (hex : X.ex = []) (hN : X.N.Nodup) (hi : X.N[i]? = some n) (hln : X.env.kindOf n = some .local) (hc : Names X x c) (tk : Takes X Wout)
    (hb : TryP X body tb)
    (hsu : SuiteP X (b₀ :: suite) ts) :
    PS X (.Try body [.ExceptHandler (some (.Name x np)) (some n) (b₀ :: suite) pos'] [] [] pos) (fun D σ H => tb (wKeep X.K c i ts Wout D) D σ H) := by
  refine ⟨fun pins s σ H D I h => wpAny_Try_except ?_⟩
  have run := (hb _ (X.pn ++ pins) _ (keep_takes (pins := pins) (D := D) (np := np) (pos' := pos') I.ok hs hf hex hN hi hln hc tk hsu) PassesOwn.looking).run [] s σ H D (I.toTry _) h
  refine wpAny_mono run (fun f s1 r => ?_) (fun _ _ r => r)
  have r := sp_home I.ok r
  cases f <;> first | exact r | exact wpAny_execs_nil r
end
end D

set_option Elab.async false
set_option linter.all false
set_option maxRecDepth 100000
set_option maxHeartbeats 4000000
/-! DZ: exceptions over data: raised, let out of a def, taken by a caller, caught and kept. -/
namespace D
open PySem PySem.Spec PyProof.Rows L2
theorem Rel.less {K : PySem.W.Frag} {μ : Mu} {M M' F H : Hp} (h : Rel K μ M' F H) (e : Ex M M') : Rel K μ M F H := ⟨h.sub, h.own, fun p o q => h.frm p o (e p o q)⟩
/-- an exception's wish over data: its class, its dict, the names' data, the cells -/
abbrev XW := Value → Option Addr → G → Mu → Prop
def wxOf (B : Bs) (K : PySem.W.Frag) (E1 : XW) : WX := fun cls d σ H => ∃ Γ M F μ, B.ok M F ∧ RelS K Γ F σ ∧ Rel K μ M F H ∧ E1 cls d Γ μ
def Bs.le (B B' : Bs) : Prop := B.ok B'.M B'.F
theorem Bs.le.ok {B B' : Bs} {M F : Hp} (h : B.le B') (k : B'.ok M F) : B.ok M F := ⟨h.m.trans k.m, h.f.trans k.f⟩
theorem Bs.le.trans {B B1 B2 : Bs} (h : B.le B1) (k : B1.le B2) : B.le B2 := h.ok k
theorem Bs.le.refl (B : Bs) : B.le B := ⟨.refl _, .refl _⟩
/-- what leaves the code of X here keeps E1 -/
structure Fly (B : Bs) (X : Cx) (E1 : XW) : Prop where
  o : Takes X (wxOf B X.K E1)
theorem Fly.imp {B : Bs} {X : Cx} {E1 E2 : XW} (t : Fly B X E1) (h : ∀ c d Γ μ, E2 c d Γ μ → E1 c d Γ μ) : Fly B X E2 := ⟨t.o.imp fun c d σ H ⟨Γ, M, F, μ, a, b, e, q⟩ => ⟨Γ, M, F, μ, a, b, e, h _ _ _ _ q⟩⟩
theorem Fly.no {B : Bs} {X : Cx} {E1 : XW} (h : ∀ c d Γ μ, ¬ E1 c d Γ μ) : Fly B X E1 := ⟨fun u s' ⟨a, Bg, sI, pins, σ, H, cls, d, e, I, nb, up, sky, na, os, ag, Γ, M, F, μ, _, _, _, q⟩ => (h _ _ _ _ q).elim⟩
section
variable {B : Bs} {X : Cx} {k : Nat} {f : Addr} {fd : FuncData} {ps : List Str} {c : AC} {Γ : G} {μ : Mu} {Q : A → Mu → Prop} {e : Expr} {es : List Expr} {pos p : Pos} {x : Str} {E : XK} {E1 : XW} {Z : AD}
theorem runT {pins : List (Addr × Obj)} {σ : L2.St} {H : Hp} {s : Shared} {R : VK} {us ds : List Value} {vs dvs : List V} {W : WX} (F : FnD X.prog X.w X.K X.mg X.base (L2.CX X.prog X.w) k f fd ps c) (ar : Ar X k) (bi : Binds X.K fd ps ds) (dv : Vals dvs ds) (tk : Takes X W)
    (hW : ∀ cls d H', E cls d H' → W cls d σ H') (I : Inv X pins σ H s) (rv : Vals vs us) (sp : spOf X.K c (vs ++ dvs) H R E) : wpAny (model X.prog X.w) X.A (call (.ref f) us) (EP X pins σ R) X.xe s := by
  have all := rv.append dv
  have many : (us ++ ds).length = ps.length := all.length.symm.trans (spOf.len F.len sp)
  have go := F.run X.A X.stack s H ⟨us, []⟩ (us ++ ds) (vs ++ dvs) R E ar.room ar.show0 I.env0 (bi s us I.kIn many) all sp
  refine wpAny_call (codeAny_mono go fun res s2 end2 => ?_)
  match res, end2 with
  | .error e2, end2 => exact tk e2 s2 (XE.of_call I hW end2)
  | .ok (.ret u), end2 => exact I.after end2
  | .ok .next, end2 => exact end2.elim
  | .ok .brk, end2 => exact end2.elim
  | .ok .cont, end2 => exact end2.elim
theorem wE_callT {ds : List Value} {dvs : List V} {das : List A} (F : FnD X.prog X.w X.K X.mg X.base (L2.CX X.prog X.w) k f fd ps c) (at0 : At X x f fd ps ds) (ar : Ar X k) (dv : Vals dvs ds) (da : ∀ F, RepL X.K F das dvs)
    (tk : Fly B X E1) (h : wA B X (e :: es) Γ μ fun xs μ1 => c (xs ++ das) μ1 Q fun cls d μ' => E1 cls d Γ μ') (hg : Gl X x := by rfl) (hdb : (x == ("__debug__" : Str)) = false := by decide)
    (he : starEach (e :: es) X.env = (false, eval e X.env) :: starEach es X.env := by rfl) (hpl : (backTo pos (starEach es X.env)).any (·.1) = false := by rfl) : wE B X (.Call (.Name x p) (e :: es) [] pos) Γ μ Q := by
  intro σ M F0 H bo rs rl
  refine ⟨fun pins s I => ?_⟩
  refine wpAny_Call_Name_kw (ld_glob I hg at0.mg ?_ hdb)
  refine PySem.W.callWith_K (h₀ := X.base) I.ok.mod.kin at0.kp (thn ((h σ M F0 H bo rs rl).o pos pins s I) fun us s1 got => ?_) he hpl
  obtain ⟨vs, H1, I1, rv, xs, F1, μ1, ex, rl1, rp, hc⟩ := got
  refine ⟨I1.kIn, runT (E := fun cls d H' => ∃ F' μ', Ex F0 F' ∧ Rel X.K μ' M F' H' ∧ E1 cls d Γ μ') F ar at0.bi dv tk.o (fun cls d H' ⟨F', μ', e1, r1, q⟩ => ⟨Γ, M, F', μ', bo.mono e1, rs.mono e1, r1, q⟩) I1 rv ⟨xs ++ das, F1, M, μ1, Q, _, rp.append (da F1), rl1, hc, fun y μ' F' H' v q e1 r1 p1 => ?_, fun cls d μ' F' H' q e1 r1 => ?_⟩⟩
  · exact ⟨y, F', μ', ex.trans e1, r1, p1, q⟩
  · exact ⟨F', μ', ex.trans e1, r1, q⟩
/-- f() -/
theorem wE_callT0 (F : FnD X.prog X.w X.K X.mg X.base (L2.CX X.prog X.w) k f fd ps c) (at0 : At X x f fd ps []) (ar : Ar X k) (tk : Fly B X E1) (h : c [] μ Q fun cls d μ' => E1 cls d Γ μ') (hg : Gl X x := by rfl) (hdb : (x == ("__debug__" : Str)) = false := by decide) : wE B X (.Call (.Name x p) [] [] pos) Γ μ Q := by
  intro σ M F0 H bo rs rl
  refine ⟨fun pins s I => ?_⟩
  refine wpAny_Call_Name_kw (ld_glob I hg at0.mg ?_ hdb)
  refine PySem.W.callWith_K0 I.kIn at0.kp (runT (us := []) (vs := []) (dvs := []) (E := fun cls d H' => ∃ F' μ', Ex F0 F' ∧ Rel X.K μ' M F' H' ∧ E1 cls d Γ μ') F ar at0.bi .nil tk.o (fun cls d H' ⟨F', μ', e1, r1, q⟩ => ⟨Γ, M, F', μ', bo.mono e1, rs.mono e1, r1, q⟩) I .nil
    ⟨[], F0, M, μ, Q, _, .nil, rl, h, fun y μ' F' H' v q e1 r1 p1 => ⟨y, F', μ', e1, r1, p1, q⟩, fun cls d μ' F' H' q e1 r1 => ⟨F', μ', e1, r1, q⟩⟩)
/-! ### raise -/
/-- an own class of exceptions without own __init__ -/
structure ExcN (K : PySem.W.Frag) (mg : Str → Option Value) (x : Str) (C : Addr) : Prop where
  ex : ∃ bmB Bn newId initId, ExcBaseFacts Bn newId initId bmB ∧ PySem.W.excIn K C bmB newId = true
  mg : mg x = some (.ref C)
  kp : PySem.W.keepIn K (.ref C) = true
  sub : PySem.W.subIn K (.ref C) (.type "BaseException") = some true
  ty : PySem.W.typeIn K (.ref C) = some (.type "type")
theorem wS_raise {C : Addr} {m : Str} {j : Nat} {p2 pos2 : Pos} (N : ExcN X.K X.mg x C) (tk : Fly B X E1) (q : E1 (.ref C) none Γ μ) (hc : X.calm = true := by rfl) (hg : Gl X x := by rfl) (hdb : (x == ("__debug__" : Str)) = false := by decide) :
    wS B X (.Raise (some (.Call (.Name x p) [.Constant (.str m) j p2] [] pos)) none pos2) Γ μ Z := by
  obtain ⟨bmB, Bn, newId, initId, F, hx⟩ := N.ex
  intro σ M F0 H bo rs rl
  exact rd_ps (ps_raise hc tk.o (pmk_own F hx N.mg N.kp (raises_own N.sub N.ty) hg hdb)) ⟨Γ, M, F0, μ, bo, rs, rl, q⟩
end
/-! ### a def that lets exceptions out -/
section
variable {P : Program} {w : World} {mg : Str → Option Value} {base : Heap} {K : PySem.W.Frag}
abbrev cxX (P : Program) (w : World) (K : PySem.W.Frag) (mg : Str → Option Value) (base : Heap) (N : List Str) (qual : Str) (sc : Scope) (f : Addr) (cdv : Value) (A : Around) (outer : List Env) (s : Shared) (H : Hp) (E : XK) : Cx := cxOf (L2.CX P w) P w K mg base N qual sc f cdv A outer s H E
theorem fnDX {x qual : Str} {st : Stmt} {f : Addr} {fd : FuncData} {N ps : List Str} {k : Nat} {c : AC} (F : Fun K x qual st f fd) (S : FnScope N ps (defScope st)) (len : ∀ xs μ Q E, c xs μ Q E → xs.length = ps.length)
    (go : ∀ {B : Bs} (cdv : Value) (A : Around) (outer : List Env) (s : Shared) (H : Hp) (E : XK) (xs : List D.A) (μ : Mu) (Q : D.A → Mu → Prop) (E0 : Value → Option Addr → Mu → Prop), Ar (cxX P w K mg base N qual (defScope st) f cdv A outer s H E) k → c xs μ Q E0 →
      Fly B (cxX P w K mg base N qual (defScope st) f cdv A outer s H E) (fun cls d _ μ' => E0 cls d μ') → PassesOwn (model P w) (cxX P w K mg base N qual (defScope st) f cdv A outer s H E).A (cxX P w K mg base N qual (defScope st) f cdv A outer s H E).env (cxX P w K mg base N qual (defScope st) f cdv A outer s H E).xe →
      wSs B (cxX P w K mg base N qual (defScope st) f cdv A outer s H E) (defBody st) (startA N xs) μ { nx := fun _ μ' => Q .non μ', rt := Q }) : FnD P w K mg base (L2.CX P w) (k + 1) f fd ps c := by
  obtain ⟨oc, od, kV, doc, pm, an, cdv, ct, osl, rfl, lk, hcd⟩ := F.ex
  refine FnD.body lk hcd S len fun A outer s H vs Q E room sh sp => ?_
  obtain ⟨xs, F0, M, μ, Q0, E0, rp, rl, hc, hq, he⟩ := sp
  have tk : Fly ⟨M, F0⟩ (cxX P w K mg base N qual (defScope st) f cdv A outer s H E) (fun cls d _ μ' => E0 cls d μ') := ⟨(takes_of (E := E) rfl rfl rfl rfl).imp fun cls d σ H' ⟨Γ', M', F', μ', bo, rs, r, q⟩ => he cls d μ' F' H' q bo.f (r.less bo.m)⟩
  refine (go (B := ⟨M, F0⟩) cdv A outer s H E xs μ Q0 E0 ⟨room, sh⟩ hc tk (passes_of rfl) (L2.start N vs) M F0 H (Bs.ok.own M F0) (relS_start N rp) rl).imp (fun σ2 H2 q => ?_) (fun v H2 q => ?_) (fun σ2 H2 q => ?_) (fun σ2 H2 q => ?_)
  · obtain ⟨Γ', F', μ', ex, _, rl', q⟩ := q
    exact hq .non μ' F' H2 .non q ex rl' (rep_non.mpr rfl)
  · obtain ⟨y, F', μ', ex, rl', rp', q⟩ := q
    exact hq y μ' F' H2 v q ex rl' rp'
  · obtain ⟨_, _, _, _, _, _, q⟩ := q; exact q
  · obtain ⟨_, _, _, _, _, _, q⟩ := q; exact q
/-- what a caller knows of a def that may let exceptions out -/
structure CalX (P : Program) (w : World) (K : PySem.W.Frag) (mg : Str → Option Value) (base : Heap) (k : Nat) (x : Str) (c : AC) : Prop where
  ex : ∃ (f : Addr) (fd : FuncData) (ps : List Str), FnD P w K mg base (L2.CX P w) k f fd ps c ∧ mg x = some (.ref f) ∧ PySem.W.keepIn K (.ref f) = true ∧ Binds K fd ps []
end
section
variable {B : Bs} {X : Cx} {k j : Nat} {c : AC} {Γ : G} {μ : Mu} {Q : A → Mu → Prop} {e : Expr} {es : List Expr} {pos p : Pos} {x : Str} {E1 : XW} {Z : AD}
theorem wE_calX (C : CalX X.prog X.w X.K X.mg X.base k x c) (ar : Ar X j) (hk : k ≤ j) (tk : Fly B X E1) (h : wA B X (e :: es) Γ μ fun xs μ1 => c xs μ1 Q fun cls d μ' => E1 cls d Γ μ') (hg : Gl X x := by rfl) (hdb : (x == ("__debug__" : Str)) = false := by decide)
    (he : starEach (e :: es) X.env = (false, eval e X.env) :: starEach es X.env := by rfl) (hpl : (backTo pos (starEach es X.env)).any (·.1) = false := by rfl) : wE B X (.Call (.Name x p) (e :: es) [] pos) Γ μ Q := by
  obtain ⟨f, fd, ps, F, h1, h2, h3⟩ := C.ex
  exact wE_callT (das := []) (dvs := []) F ⟨h1, h2, h3⟩ (ar.mono hk) .nil (fun _ => .nil) tk (by simpa only [List.append_nil] using h) hg hdb he hpl
theorem wE_calX0 (C : CalX X.prog X.w X.K X.mg X.base k x c) (ar : Ar X j) (hk : k ≤ j) (tk : Fly B X E1) (h : c [] μ Q fun cls d μ' => E1 cls d Γ μ') (hg : Gl X x := by rfl) (hdb : (x == ("__debug__" : Str)) = false := by decide) : wE B X (.Call (.Name x p) [] [] pos) Γ μ Q := by
  obtain ⟨f, fd, ps, F, h1, h2, h3⟩ := C.ex
  exact wE_callT0 F ⟨h1, h2, h3⟩ (ar.mono hk) tk h hg hdb
/-! ### try: body, except S as n: y = n -/
/-- what is wished of an exception of the body -/
def keptW (K : PySem.W.Frag) (c : Value) (i j : Nat) (nx : G → Mu → Prop) : XW := fun cls d Γ μ => PySem.W.exmOne K cls c = some true ∧ ∀ a, μ a = none → nx ((Γ.set j (some (.loc a))).set i none) (μ.upd a (.exc a cls d))
theorem wS_try {n y z : Str} {cv : Value} {i j : Nat} {body : List Stmt} {np np2 np3 sp pos' : Pos} (hN : X.N.Nodup) (hi : X.N[i]? = some n) (hj : X.N[j]? = some y) (hc : Names X z cv)
    (hb : ∀ (B' : Bs) (pn : List (Addr × Obj)) (xe : Value → Shared → Prop), B.le B' → Fly B' (X.tr pn xe) (keptW X.K cv i j Z.nx) → PassesOwn (model X.prog X.w) X.A X.env xe → wSs B' (X.tr pn xe) body Γ μ Z)
    (hs : X.stack = X.env :: X.outer := by rfl) (hf : X.env.frame = some X.env.locals := by rfl) (hex : X.ex = [] := by rfl) (hln : X.env.kindOf n = some .local := by rfl) (hv : Vis X.env.scope n := by first | exact Or.inl rfl | exact Or.inr (Or.inl rfl) | exact Or.inr (Or.inr rfl))
    (hd : (n == ("__debug__" : Str)) = false := by decide) (hcd : (n == ("__classdict__" : Str)) = false := by decide) (hy : Loc X.env.scope y := by first | exact Or.inl rfl | exact Or.inr rfl)
    (hsw : swapsWith (.Name n np2) (some (.Name y np3)) sp.line X.env = pure false := by rfl) (hfy : X.fn y = true ∨ X.env.scope.names.lookup y = some .local := by first | exact .inl rfl | exact .inr rfl) (il : i < Γ.length := by exact Nat.le_of_ble_eq_true rfl) :
    wS B X (.Try body [.ExceptHandler (some (.Name z np)) (some n) [.Assign [.Name y np3] (.Name n np2) sp] pos'] [] [] pos) Γ μ Z := by
  intro σ M F H bo rs rl
  refine rd_ps (ps_try_keep (Wout := fun _ _ _ _ => False) (i := i) (tb := fun W D σ H => ∀ pn xe, Takes (X.tr pn xe) W → PassesOwn (model X.prog X.w) X.A X.env xe → rdSs (X.tr pn xe) body D σ H)
    (ts := fun a cls d D σ H => ∀ oe pn, Zc cls d oe → (∃ vs, oe.data = .fields vs) → rdSs (X.suite a ((a, oe) :: pn)) [.Assign [.Name y np3] (.Name n np2) sp] D σ H) hs hf hex hN hi hln hc
    (fun u s' ⟨_, _, _, _, _, _, _, _, _, _, _, _, _, _, _, _, q⟩ => q.elim) (fun W pn xe tk pa => ⟨fun pins s σ H D I h => (h pn xe tk pa).o pins s I⟩) (fun a oe cls d pn hz hv => ⟨fun pins s σ H D I h => (h oe pn hz hv).o pins s I⟩)) ?_
  intro pn xe tk pa
  have tk' : Fly ⟨M, F⟩ (X.tr pn xe) (keptW X.K cv i j Z.nx) := ⟨tk.imp fun cls d σ' H' ⟨Γ', M', F', μ', bo', rs', r', hm, hq⟩ => ?_⟩
  · exact (hb ⟨M, F⟩ pn xe bo tk' pa) σ M F H (Bs.ok.own M F) rs rl
  refine ⟨true, hm, fun _ a na => ?_, fun z => nomatch z⟩
  intro oe pn2 hz hvs
  refine ⟨fun pins s I => ?_⟩
  have hlen := I.len
  have hiN : i < X.N.length := (List.getElem?_eq_some_iff.mp hi).1
  have hi2 : i < Γ'.length := by
    rw [rs'.len]
    have h2 : (σ'.set i (some (V.ref a))).length = X.N.length := hlen
    rw [List.length_set] at h2; omega
  have rs2 : RelS (X.suite a ((a, oe) :: pn2)).K (Γ'.set i (some (.loc a))) F' (σ'.set i (some (V.ref a))) := rs'.set (rep_loc.mpr rfl)
  have st : wSs ⟨M', F'⟩ (X.suite a ((a, oe) :: pn2)) [.Assign [.Name y np3] (.Name n np2) sp] (Γ'.set i (some (.loc a))) μ' { nx := fun Γ3 μ3 => Γ3 = (Γ'.set i (some (.loc a))).set j (some (.loc a)) ∧ μ3 = μ', rt := fun _ _ => False } :=
    wSs_cons (wS_set j (wE_name i (by rw [List.getElem?_set_self hi2]) (wSs_nil ⟨rfl, rfl⟩) hi hv hd hcd) hN hj hy hsw hfy)
  refine ((st (σ'.set i (some (V.ref a))) M' F' H' (Bs.ok.own M' F') rs2 r').imp (fun σ3 H3 q n3 => ?_) (fun v H3 q => ?_) (fun σ3 H3 q => ?_) (fun σ3 H3 q => ?_)).o pins s I
  · obtain ⟨Γ3, F3, μ3, ex3, rs3, r3, rfl, rfl⟩ := q
    obtain ⟨nm, r4⟩ := r3.new (m := .exc a cls d) (o := XO a cls d) n3 rfl
    refine ⟨((Γ'.set j (some (.loc a))).set i none), F3, _, bo'.f.trans ex3, ?_, r4.less bo'.m, hq a nm⟩
    have e : ((Γ'.set j (some (A.loc a))).set i none) = (((Γ'.set i (some (A.loc a))).set j (some (A.loc a))).set i none) := by
      by_cases ij : i = j
      · subst ij; simp only [List.set_set]
      · rw [List.set_comm (some (A.loc a)) (some (A.loc a)) ij, List.set_set]
    rw [e]
    refine ⟨by have := rs3.len; simp only [List.length_set] at this ⊢; exact this, fun q x hx => ?_⟩
    rw [List.getElem?_set] at hx
    split at hx
    · split at hx <;> cases hx
    · rename_i hne
      obtain ⟨v, h1, h2⟩ := rs3.at_ q x hx
      exact ⟨v, by rw [List.getElem?_set_ne hne]; exact h1, h2⟩
  · obtain ⟨_, _, _, _, _, _, z⟩ := q; exact z.elim
  · obtain ⟨_, _, _, _, _, _, z⟩ := q; exact z.elim
  · obtain ⟨_, _, _, _, _, _, z⟩ := q; exact z.elim
end
end D

set_option Elab.async false
set_option linter.all false
set_option maxRecDepth 100000
set_option maxHeartbeats 4000000
/-! DT: a lambda handed to a def, over data. -/
namespace D
open PySem PySem.Spec PyProof.Rows L2
open LamX (CodeO TabB LamS lamCx lamEnv)
section
variable {X : Cx} {H : Hp} {s : Shared} {pins : List (Addr × Obj)} {σ : L2.St}
/-- the lambda's object -/
abbrev lamObj (X : Cx) (params : Arguments) (body : Expr) (scope : Scope) (pm ctv : Value) (c' : Addr) : Obj := PySem.W.kla_obj "<lambda>" (X.env.qual ++ "<lambda>") params body scope (cloFrom X.env.cells scope.names []) pm c' ctv
/-- what lies above the heap is nobody's yet -/
theorem Inv_new (I : L2.Inv X pins σ H s) {f : Addr} (up : s.heap.objs.size ≤ f) : H f = none ∧ f ∉ frs X.stack := by
  refine ⟨I.hok.fresh up, fun m => ?_⟩
  obtain ⟨_, o, e, _⟩ := I.stack.mem m
  exact Nat.lt_irrefl _ (Nat.lt_of_lt_of_le (Heap.lt_size e) up)
/-- the maker's table after it was asked for the lambda at pos: the code object c' was in it, or it is new -/
def Asked (H : Hp) (P : Addr) (ps : Array Value) (q : Str) (pos : Pos) (c' : Addr) (H1 : Hp) : Prop :=
  (H1 = H ∧ codeAmong pos ps.toList = some (.ref c')) ∨ (H c' = none ∧ ∃ ps' : Array Value, H1 = upd (upd H P (.tbl ps')) c' (CodeO c' q) ∧ TriplesOk ps'.toList ∧ ∀ (p' : Pos) (cv : Value), codeAmong p' ps'.toList = some cv → codeAmong p' ps.toList = some cv ∨ cv = .ref c')
/-- the table with one more entry -/
theorem asked_new {P c' : Addr} {ps : Array Value} {q : Str} {pos : Pos} (ok : TriplesOk ps.toList) (nc : H c' = none) : Asked H P ps q pos c' (upd (upd H P (.tbl (ps ++ #[rawInt pos.line, rawInt pos.col, .ref c']))) c' (CodeO c' q)) := by
  have flat : (ps ++ #[rawInt pos.line, rawInt pos.col, .ref c']).toList = ps.toList ++ [rawInt pos.line, rawInt pos.col, .ref c'] := Array.toList_append
  refine .inr ⟨nc, _, rfl, flat ▸ PySem.TriplesOk_snoc _ _ _ _ ok, fun p' cv => ?_⟩
  rw [flat]; exact LamX.among_app _ ok
/-- a lambda is made: its object at f, its code object in the maker's table -/
theorem lam_mk {c P : Addr} {ps : Array Value} {params : Arguments} {body : Expr} {scope : Scope} {pos : Pos} {E : Value → Shared → Prop} {Q : Value → Shared → Prop} (I : L2.Inv X pins σ H s) (TB : TabB X.base X.mg c P) (hcode : X.env.code = .ref c)
    (hP : H P = some (.tbl ps)) (ht : TriplesOk ps.toList) (ha : ∀ (pos : Pos) (cv : Value), codeAmong pos ps.toList = some cv → ∃ c, cv = .ref c ∧ H c = some (CodeO c (X.env.qual ++ "<lambda>"))) (hdef : defaultsOf params X.env = ([], [])) (hfree : ∀ y ∈ scope.names, y.2 = .free → ∃ c, X.env.cells.lookup y.1 = some c)
    (h : ∀ (f c' : Addr) (pm ctv : Value) (H1 : Hp) (s' : Shared), L2.Inv X pins σ H1 s' → Asked H P ps (X.env.qual ++ "<lambda>") pos c' H1 → s'.heap.get? f = some (lamObj X params body scope pm ctv c') → H1 f = none → f ∉ frs X.stack → Q (.ref f) s') :
    wpAny (model X.prog X.w) X.A (eval (.Lambda params body scope pos) X.env) Q E s := by
  have table : s.heap.get? P = some { cls := .none, data := .fields ps } := I.hok P _ hP
  have globals := I.mod.glob.keeps I.bk
  have builtins := TB.bm.keeps I.bk
  have clo := closure_ok hfree
  refine PySem.W.kla_eval hdef ?_
  rcases among : codeAmong pos ps.toList with _ | cv
  · refine PySem.W.kla_makeFunction (mg := X.mg) clo I.ok.glob globals hcode (TB.code.keeps I.bk) table ht among TB.gP builtins ?_
    rintro c' ctv g tk others above below ⟨_, oc, vs, t, ⟨⟩, e1, e2, e3⟩ table'
    have up : s.heap.objs.size ≤ g.objs.size := Nat.le_trans above (Nat.le_of_lt below)
    have nc := (Inv_new I above).1
    let lam := lamObj X params body scope ((X.mg "__name__").getD .none) ctv c'
    have put : ∀ {b : Addr} {o : Obj}, g.get? b = some o → (g.push lam).get? b = some o := fun e => Heap.get?_push_of_some lam e
    have J := LamX.inv_table (t' := tk) (q := X.env.qual ++ "<lambda>") (more := #[rawInt pos.line, rawInt pos.col, .ref c']) (h' := g.push lam) I hP (fun b o ne e => put (others b o ne e)) (put table') above ⟨oc, vs, t, put e1, e2, e3⟩
    have new := Inv_new I up
    refine h g.objs.size c' _ ctv _ _ J (asked_new ht nc) (Heap.get?_push_size _ rfl) ?_ new.2
    have ne1 : g.objs.size ≠ c' := fun z => Nat.lt_irrefl _ (z ▸ below)
    have ne2 : g.objs.size ≠ P := fun z => by have := Nat.lt_of_lt_of_le (Heap.lt_size table) up; rw [z] at this; exact Nat.lt_irrefl _ this
    exact (upd_ne ne1).trans ((upd_ne ne2).trans new.1)
  · obtain ⟨c', rfl, known⟩ := ha pos cv among
    refine PySem.W.kla_makeFunctionHit (mg := X.mg) clo I.ok.glob globals hcode (TB.code.keeps I.bk) table ht among builtins fun ctv g tk others above => ?_
    have new := Inv_new I above
    exact h g.objs.size c' _ ctv H { s with heap := g.push _, toks := tk } (I.kept fun b o e => Heap.get?_push_of_some _ (others b o e)) (.inl ⟨rfl, among⟩) (Heap.get?_push_size _ rfl) new.1 new.2
end
/-- the table's growth, over data -/
theorem Rel.table {K : PySem.W.Frag} {μ : Mu} {M F H H1 : Hp} {P c' : Addr} {q : Str} {ps : Array Value} (r : Rel K μ M F H) (hm : μ P = some (.tbl q)) (hP : H P = some (.tbl ps)) (hF : ∀ (p' : Pos) (cv : Value), codeAmong p' ps.toList = some cv → ∃ c, cv = .ref c ∧ F c = some (CodeO c q))
    {pos : Pos} (e : Asked H P ps q pos c' H1) :
    ∃ F1, Ex F F1 ∧ Rel K μ M F1 H1 ∧ F1 c' = some (CodeO c' q) := by
  rcases e with ⟨rfl, h⟩ | ⟨nc, ps', rfl, ht, hps⟩
  · obtain ⟨c, e1, e2⟩ := hF _ _ h
    cases e1
    exact ⟨F, .refl _, r, e2⟩
  · have nF : F c' = none := r.sub.none nc
    have nM : M c' = none := by
      cases z : M c' with
      | none => rfl
      | some o => have := (r.frm c' o z).2.2; rw [nc] at this; cases this
    have nμ : μ c' = none := by
      cases z : μ c' with
      | none => rfl
      | some m => obtain ⟨_, o, h1, _⟩ := r.own c' m z; rw [nc] at h1; cases h1
    have nP : P ≠ c' := fun z => by rw [z, nc] at hP; cases hP
    have fP : F P = none := (r.own P _ hm).1
    have ex : Ex F (upd F c' (CodeO c' q)) := .new nF
    refine ⟨_, ex, ⟨fun b o h => ?_, fun p m h => ?_, fun p o h => ?_⟩, upd_same⟩
    · by_cases hb : b = c'
      · subst hb; rw [upd_same] at h ⊢; exact h
      · rw [upd_ne hb] at h ⊢
        rw [upd_ne (fun z => by rw [z, fP] at h; cases h)]
        exact r.sub b o h
    · obtain ⟨h1, o, h2, h3⟩ := r.own p m h
      have np : p ≠ c' := fun z => by rw [z, nμ] at h; cases h
      refine ⟨by rw [upd_ne np]; exact h1, ?_⟩
      by_cases hb : p = P
      · subst hb
        rw [hm] at h; cases h
        refine ⟨.tbl ps', by rw [upd_ne np, upd_same], ps', rfl, ht, fun p' cv hcv => ?_⟩
        rcases hps p' cv hcv with z | z
        · obtain ⟨c, e1, e2⟩ := hF p' cv z
          exact ⟨c, e1, ex _ _ e2⟩
        · exact ⟨c', z, upd_same⟩
      · exact ⟨o, by rw [upd_ne np, upd_ne hb]; exact h2, h3.mono ex⟩
    · obtain ⟨h1, h2, h3⟩ := r.frm p o h
      have np : p ≠ c' := fun z => by rw [z, nM] at h; cases h
      have nP2 : p ≠ P := fun z => by rw [z, hm] at h2; cases h2
      exact ⟨by rw [upd_ne np]; exact h1, h2, by rw [upd_ne np, upd_ne nP2]; exact h3⟩
section
variable {X : Cx} {H : Hp} {s : Shared} {pins : List (Addr × Obj)} {σ : L2.St}
/-- what a call's end is for its caller Z: a value, or an exception that Z's own reading takes -/
theorem back_to {Z : Cx} {pins : List (Addr × Obj)} {σ : L2.St} {H : Hp} {s : Shared} {C : CXT} {Q : VK} {E : XK} (J : L2.Inv Z pins σ H s) (out : ∀ e s', C Z.stack H s E e s' → Z.xe e s') {r : Result} {s' : Shared} (q : CR C Z.stack Z.prog Z.w H s Q E r s') :
    wants (fun v s1 => EP Z pins σ Q v s1) Z.xe r s' := by
  rcases r with e | f
  · exact out e s' q
  · cases f
    case ret u => exact J.after q
    all_goals exact q.elim
/-- the lambda at f is called from the frames outer -/
theorem deed_code {A : Around} {outer : List Env} {s1 : Shared} {HZ : Hp} {E : XK} {f c' : Addr} {pm ctv : Value} {params : Arguments} {body : Expr} {scope : Scope} {k : Nat} {tb : TE} {Q : VK}
    (I : L2.Inv X pins σ H s) (L : LamS X.env.scope scope) (e0 : Env0 X.prog X.w X.K X.mg X.base A outer s1 HZ) (un : Un (frs X.stack) [] H HZ s.heap s1.heap) (free : s1.heap.NoLimit) (obj : s1.heap.get? f = some (lamObj X params body scope pm ctv c')) (code : ObjOk X.prog X.w HZ s1.heap c' (CodeO c' (X.env.qual ++ "<lambda>")))
    (bind : bindArgs (PySem.W.kla_fn "<lambda>" (X.env.qual ++ "<lambda>") params body scope (cloFrom X.env.cells scope.names []) pm (.ref c') ctv) ⟨[], []⟩ = pure []) (room : Room (k + 1) A)
    (read : Room k (A.deeper (lamEnv X scope s1.heap.objs.size f c')) → PE (lamCx X A outer s1 HZ E scope f c') body tb) (q : tb σ HZ Q) :
    codeAny (model X.prog X.w) A (.call (.ref f) ⟨[], []⟩) (CR (L2.CX X.prog X.w) outer X.prog X.w HZ s1 Q E) s1 := by
  obtain ⟨oc, vs, t, c1, c2, c3⟩ := code.1
  refine PySem.W.kla_callFunE room.depth obj rfl L.co L.gen rfl ⟨c', oc, vs, t, rfl, c1, c2, c3⟩ ?_
  rw [bind]
  refine wpAny_pure (wpAny_newFunctionEnv (fun y m => (L.own y m).2) (fun y m => by cases m) (fun g ns sb => ⟨free.fresh _ sb, PySem.W.kla_codeExpr ?_⟩) L.kind)
  have stays : ∀ b o, s1.heap.get? b = some o → g.get? b = some o := fun b o e => sb.extBut b o (fun z => Nat.lt_irrefl _ (z ▸ Heap.lt_size e)) (Heap.get?_push_of_some _ e)
  have J := LamX.lam_start2 (E := E) (f := f) (c' := c') (tk := s1.toks + 0) I L e0 room.hd un ns stays
  exact wpAny_mono ((read (room.deeper _)).run [] _ σ HZ Q J q) (fun v s' got => got.imp fun w got => got.imp fun H' got => ⟨got.1.os, got.1.bare, got.1.base, got.1.hok, got.2⟩) fun _ _ z => z
/-- a(), in the def Z that got the lambda as a -/
theorem pe_deed {CXg : CXT} {Eg : XK} {Ng : List Str} {qg : Str} {sg : Scope} {g f c' : Addr} {cdg pm ctv : Value} {params : Arguments} {body : Expr} {scope : Scope} {k i : Nat} {a : Str} {pn : List (Addr × Obj)} {xe : Value → Shared → Prop} {W : WX} {E : XK} {tb : TE} {p1 p2 : Pos}
    (I : L2.Inv X pins σ H s) (L : LamS X.env.scope scope) (hf : s.heap.get? f = some (lamObj X params body scope pm ctv c')) (hfn : H f = none) (hfr : f ∉ frs X.stack)
    (hbind : bindArgs (PySem.W.kla_fn "<lambda>" (X.env.qual ++ "<lambda>") params body scope (cloFrom X.env.cells scope.names []) pm (.ref c') ctv) ⟨[], []⟩ = pure [])
    (tk : Takes ((cxOf CXg X.prog X.w X.K X.mg X.base Ng qg sg g cdg X.A X.stack s H Eg).tr pn xe) W) (hr : Room (k + 1) (X.A.deeper (envOfC qg sg s.heap.objs.size g cdg))) (hg : X.A.guards = some [])
    (hbody : ∀ (A : Around) (outer : List Env) (s : Shared) (H : Hp), Room k (A.deeper (lamEnv X scope s.heap.objs.size f c')) → A.guards = some [] → PE (lamCx X A outer s H E scope f c') body tb)
    (hN : Ng[i]? = some a) (hv : Vis sg a) (hd : (a == ("__debug__" : Str)) = false) (hcd : (a == ("__classdict__" : Str)) = false) {pinsZ : List (Addr × Obj)} {sZ : Shared} {σZ : L2.St} {HZ : Hp} {Q : VK}
    (IZ : L2.Inv ((cxOf CXg X.prog X.w X.K X.mg X.base Ng qg sg g cdg X.A X.stack s H Eg).tr pn xe) pinsZ σZ HZ sZ) (hW : ∀ cls d H', E cls d H' → W cls d σZ H') (hs : σZ[i]? = some (some (.ref f))) (hc : HZ c' = some (CodeO c' (X.env.qual ++ "<lambda>"))) (ht : tb σ HZ Q) :
    wpAny (model X.prog X.w) ((cxOf CXg X.prog X.w X.K X.mg X.base Ng qg sg g cdg X.A X.stack s H Eg).tr pn xe).A (eval (.Call (.Name a p1) [] [] p2) ((cxOf CXg X.prog X.w X.K X.mg X.base Ng qg sg g cdg X.A X.stack s H Eg).tr pn xe).env) (EP ((cxOf CXg X.prog X.w X.K X.mg X.base Ng qg sg g cdg X.A X.stack s H Eg).tr pn xe) pinsZ σZ Q) ((cxOf CXg X.prog X.w X.K X.mg X.base Ng qg sg g cdg X.A X.stack s H Eg).tr pn xe).xe sZ := by
  have name := (pe_var (X := (cxOf CXg X.prog X.w X.K X.mg X.base Ng qg sg g cdg X.A X.stack s H Eg).tr pn xe) (pos := p1) (i := i) hN hv hd hcd).run pinsZ sZ σZ HZ (fun v H1 => v = .ref f ∧ H1 = HZ) IZ ⟨.ref f, hs, rfl, rfl⟩
  refine wpAny_Call_Name_kw (thn name fun u s1 got => ?_)
  obtain ⟨_, _, J, ru, rfl, same⟩ := got
  rw [same] at J
  obtain rfl : u = Value.ref f := ru
  have obj := J.base.keep f _ hf hfn hfr List.not_mem_nil
  refine PySem.W.callWith_F0 ⟨_, _, _, _, obj⟩ (wpAny_call (codeAny_mono ?_ fun r s' q => back_to J (fun e s2 x => tk e s2 (XE.of_call J hW x)) q))
  exact deed_code I L J.env0 J.base J.nolimit obj (J.hok c' _ hc) hbind hr (fun room => hbody _ _ _ _ room hg) ht
end
/-! ### over data -/
/-- what a deed promises: the cells when it is done, what is wanted of its answer, of its exception -/
abbrev DL := Mu → (A → Mu → Prop) → (Value → Option Addr → Mu → Prop) → Prop
/-- in the context Z the deed, held by name a (slot 0), keeps dl -/
structure Act (B : Bs) (Z : Cx) (a : Str) (f : Addr) (dl : DL) : Prop where
  o : ∀ (B' : Bs) (pn : List (Addr × Obj)) (xe : Value → Shared → Prop) (Γ : G) (μ : Mu) (Q : A → Mu → Prop) (E1 : XW) (p1 p2 : Pos), B.le B' → Fly B' (Z.tr pn xe) E1 → Γ[0]? = some (some (.loc f)) → dl μ Q (fun cls d μ' => E1 cls d Γ μ') → wE B' (Z.tr pn xe) (.Call (.Name a p1) [] [] p2) Γ μ Q
/-- what is known of a def that is handed a deed: what it makes of the deed's promise -/
structure LG (P : Program) (w : World) (K : PySem.W.Frag) (mg : Str → Option Value) (base : Heap) (k : Nat) (x : Str) (c : DL → Mu → (A → Mu → Prop) → Prop) : Prop where
  ex : ∃ (g : Addr) (pg : Arguments) (bg : List Stmt) (sg : Scope) (dV kV doc pm cdv ct oc : Value) (an od : Option Addr) (osl : Array (Option Value)) (Ng : List Str) (a : Str), mg x = some (.ref g) ∧ PySem.W.keepIn K (.ref g) = true ∧
    K.lookup g = some ⟨oc, od, .func (PySem.W.fnOf x x pg bg sg dV kV doc pm an cdv ct), osl⟩ ∧ PySem.W.codeIn K cdv x = true ∧ L2.Binds K (PySem.W.fnOf x x pg bg sg dV kV doc pm an cdv ct) [a] [] ∧ FnScope Ng [a] sg ∧ Ng[0]? = some a ∧ Vis sg a ∧ (a == ("__debug__" : Str)) = false ∧ (a == ("__classdict__" : Str)) = false ∧
    ∀ (B : Bs) (A : Around) (outer : List Env) (s : Shared) (H : Hp) (f : Addr) (dl : DL) (μ : Mu) (Q : D.A → Mu → Prop), Ar (cxOf C8.CX0 P w K mg base Ng x sg g cdv A outer s H C8.E0) k → c dl μ Q → Act B (cxOf C8.CX0 P w K mg base Ng x sg g cdv A outer s H C8.E0) a f dl →
      wSs B (cxOf C8.CX0 P w K mg base Ng x sg g cdv A outer s H C8.E0).nox bg (startA Ng [.loc f]) μ { nx := fun _ μ' => Q .non μ', rt := Q }
/-- a context of the lambda's body -/
def LamZ (X : Cx) (scope : Scope) (Z : Cx) : Prop := ∃ A outer s H E f c', Z = lamCx X A outer s H E scope f c'
theorem wE_lam {B : Bs} {X : Cx} {k j : Nat} {x q : Str} {cc P : Addr} {c : DL → Mu → (A → Mu → Prop) → Prop} {Γ : G} {μ : Mu} {Q : A → Mu → Prop} {params : Arguments} {body : Expr} {scope : Scope} {p lpos pos : Pos}
    (C : LG X.prog X.w X.K X.mg X.base k x c) (ar : Ar X j) (hk : k + 2 ≤ j) (TB : TabB X.base X.mg cc P) (hcode : X.env.code = .ref cc) (hq : X.env.qual ++ "<lambda>" = q) (hm : μ P = some (.tbl q)) (L : LamS X.env.scope scope) (hdef : defaultsOf params X.env = ([], []))
    (hbind : ∀ (q : Str) (cl : List (Str × Addr)) (pm cv ctv : Value), bindArgs (PySem.W.kla_fn "<lambda>" q params body scope cl pm cv ctv) ⟨[], []⟩ = pure [])
    (h : ∀ dl : DL, (∀ μZ Q' E', (∀ (B' : Bs) (Z : Cx), LamZ X scope Z → Ar Z k → Fly B' Z (fun cls d _ μ' => E' cls d μ') → PassesOwn (model Z.prog Z.w) Z.A Z.env Z.xe → wE B' Z body Γ μZ Q') → dl μZ Q' E') → c dl μ Q) (hg : Gl X x := by rfl)
    (hdb : (x == ("__debug__" : Str)) = false := by decide) : wE B X (.Call (.Name x p) [.Lambda params body scope lpos] [] pos) Γ μ Q := by
  subst hq
  obtain ⟨g, pg, bg, sg, dV, kV, doc, pm, cdv, ct, oc, an, od, osl, Ng, a, m1, m2, m3, m4, m5, m6, m7, m8, m9, m10, go⟩ := C.ex
  intro σ M F H bo rs rl
  refine ⟨fun pins s I => ?_⟩
  refine wpAny_Call_Name_kw (ld_glob I hg m1 ?_ hdb)
  refine PySem.W.callWith_K (h₀ := X.base) I.ok.mod.kin m2 ?_ (by rfl) (by rfl)
  show wpAny _ _ (spliced ((false, eval (.Lambda params body scope lpos) X.env) :: backTo pos (starEach [] X.env))) _ _ s
  obtain ⟨_, o, hP, ps, rfl, ht, ha⟩ := rl.own P _ hm
  refine Calls.spliced_cons (lam_mk I TB hcode hP ht (fun p' cv hcv => let ⟨c, e1, e2⟩ := ha p' cv hcv; ⟨c, e1, rl.sub _ _ e2⟩) hdef (L.has I.ok) fun f c' pm' ctv H1 s' I1 grown hf hfn hfr => ?_)
  obtain ⟨F1, ex1, rl1, hc1⟩ := rl.table hm hP ha grown
  refine Calls.spliced_nil ⟨I1.kIn, ?_⟩
  have rs1 := rs.mono ex1
  let dl : DL := fun μZ Q' E' => ∀ (B' : Bs) (Z : Cx), Bs.le ⟨M, F1⟩ B' → LamZ X scope Z → Ar Z k → Fly B' Z (fun cls d _ μ' => E' cls d μ') → PassesOwn (model Z.prog Z.w) Z.A Z.env Z.xe → wE B' Z body Γ μZ Q'
  have cdl : c dl μ Q := h dl fun μZ Q' E' k => fun B' Z _ a b t u => k B' Z a b t u
  have room2 : Room (k + 2) X.A := ar.room.mono hk
  have rc : codeAny (model X.prog X.w) X.A (.call (.ref g) ⟨[.ref f], []⟩) (CR C8.CX0 X.stack X.prog X.w H1 s' (QE X.K M F Q) C8.E0) s' := by
    refine LamX.run_ofS (N := Ng) (ps := [a]) (us := [.ref f]) (vs := [.ref f]) m3 m4 m6 room2 I1.env0 (m5 s' [.ref f] I1.kIn rfl) (.cons rfl .nil) rfl fun hr' => ?_
    have act : Act ⟨M, F1⟩ (cxOf C8.CX0 X.prog X.w X.K X.mg X.base Ng x sg g cdv X.A X.stack s' H1 C8.E0) a f dl := ⟨fun B' pn xe ΓZ μZ Q' E1 p1 p2 le tkZ h0 hd => by
      intro σZ MZ FZ HZ boZ rsZ rlZ
      refine ⟨fun pinsZ sZ IZ => ?_⟩
      have b1 := le.ok boZ
      obtain ⟨vf, hvf, rvf⟩ := rsZ.at_ 0 _ h0
      rw [rep_loc] at rvf; subst rvf
      refine pe_deed (E := fun cls d H' => ∃ F' μ', Ex FZ F' ∧ Rel X.K μ' MZ F' H' ∧ E1 cls d ΓZ μ') (tb := fun σ HZ Q => ∀ (A : Around) (outer : List Env) (s2 : Shared) (H2 : Hp), Room k (A.deeper (lamEnv X scope s2.heap.objs.size f c')) → A.guards = some [] → rdE (lamCx X A outer s2 H2 (fun cls d H' => ∃ F' μ', Ex FZ F' ∧ Rel X.K μ' MZ F' H' ∧ E1 cls d ΓZ μ') scope f c') body σ HZ Q)
        (i := 0) I1 L hf hfn hfr (hbind _ _ _ _ _) tkZ.o hr' ar.show0 (fun A outer s2 H2 hr2 hg2 => ⟨fun pins s σ H Q I h => (h A outer s2 H2 hr2 hg2).o pins s I⟩) m7 m8 m9 m10 IZ (fun cls d H' ⟨F', μ', e1, r1, q⟩ => ⟨ΓZ, MZ, F', μ', boZ.mono e1, rsZ.mono e1, r1, q⟩) hvf (rlZ.sub _ _ (b1.f _ _ hc1)) (fun A outer s2 H2 hr2 hg2 => ?_)
      have tkL : Fly ⟨MZ, FZ⟩ (lamCx X A outer s2 H2 (fun cls d H' => ∃ F' μ', Ex FZ F' ∧ Rel X.K μ' MZ F' H' ∧ E1 cls d ΓZ μ') scope f c') (fun cls d _ μ' => E1 cls d ΓZ μ') :=
        ⟨(takes_of (E := fun cls d H' => ∃ F' μ', Ex FZ F' ∧ Rel X.K μ' MZ F' H' ∧ E1 cls d ΓZ μ') rfl rfl rfl rfl).imp fun cls d σ' H' ⟨Γ', M', F', μ', bo', rs', r', q⟩ => ⟨F', μ', bo'.f, r'.less bo'.m, q⟩⟩
      exact (hd ⟨MZ, FZ⟩ _ b1 ⟨A, outer, s2, H2, _, f, c', rfl⟩ ⟨hr2, hg2⟩ tkL (passes_of rfl)) σ MZ FZ HZ (Bs.ok.own MZ FZ) (rs1.mono b1.f) rlZ⟩
    have go1 := go ⟨M, F1⟩ X.A X.stack s' H1 f dl μ Q ⟨hr'.mono (by omega), ar.show0⟩ cdl act (L2.start Ng [.ref f]) M F1 H1 (Bs.ok.own M F1) (relS_start Ng (.cons (rep_loc.mpr rfl) .nil)) rl1
    refine ⟨_, pss_rd.nox, go1.imp (fun σ2 H2 q => ?_) (fun v H2 q => ?_) (fun σ2 H2 q => ?_) (fun σ2 H2 q => ?_)⟩
    · obtain ⟨Γ', F', μ', e2, _, r2, q⟩ := q
      exact ⟨.non, F', μ', ex1.trans e2, r2, rep_non.mpr rfl, q⟩
    · obtain ⟨y, F', μ', e2, r2, p2, q⟩ := q
      exact ⟨y, F', μ', ex1.trans e2, r2, p2, q⟩
    · obtain ⟨_, _, _, _, _, _, q⟩ := q; exact q
    · obtain ⟨_, _, _, _, _, _, q⟩ := q; exact q
  exact wpAny_call (codeAny_mono rc fun r s2 q => back_to I1 (fun e s3 x => (show False from x).elim) q)
end D

set_option Elab.async false
set_option linter.all false
set_option maxRecDepth 100000
set_option maxHeartbeats 4000000
/-! DV: of what class a kept exception is; methods that raise. -/
namespace D
open PySem PySem.Spec PyProof.Rows L2
/-- a class as a value -/
def ClsA (c : A) (cv : Value) : Prop := (∃ C, c = .loc C ∧ cv = .ref C) ∨ ∃ n, c = .ty n ∧ cv = .type n
theorem ClsA.eq {K : PySem.W.Frag} {F : Hp} {c : A} {cv : Value} {v : V} {u : Value} (h : ClsA c cv) (r : Rep K F c v) (rv : RelV v u) : u = cv := by
  rcases h with ⟨C, rfl, rfl⟩ | ⟨n, rfl, rfl⟩
  · rw [rep_loc] at r; subst r; exact rv
  · rw [rep_ty] at r; subst r; exact rv
section
variable {B : Bs} {X : Cx} {Γ : G} {μ : Mu} {Q : A → Mu → Prop} {Z : AD} {o e : Expr} {es : List Expr} {pos apos : Pos} {m : Str} {C : Addr} {j k : Nat} {cc : AC} {E1 : XW}
theorem kept_at {pins : List (Addr × Obj)} {σ : L2.St} {H M F : Hp} {s : Shared} {a D : Addr} (I : Inv X pins σ H s) (rl : Rel X.K μ M F H) (ha : μ a = some (.exc a (.ref D) none)) : ∃ oe, PySem.W.InstAt s.heap a oe D none := by
  obtain ⟨_, ob, g1, g2⟩ := rl.own a _ ha
  have e : ob = XO a (.ref D) none := g2
  subst e
  obtain ⟨⟨oe, vs, h1, h2, h3⟩, _⟩ := I.hok a _ g1
  obtain ⟨oc, od, oda, osl⟩ := oe
  obtain ⟨z1, z2⟩ := h2
  dsimp only at z1 z2 h3
  subst z1 z2 h3
  exact ⟨_, h1, rfl, rfl, trivial⟩
/-- isinstance(e, c), e a kept exception without a dict -/
theorem wC_isX {a D : Addr} {c : A} {cv : Value} {b : Bool} (N : ExcC X.K D) (ha : μ a = some (.exc a (.ref D) none)) (hc : ClsA c cv) (e : PySem.W.kitOne X.K (.ref D) cv = some b) (q : Q (.bl b) μ) : wC X (.builtin "isinstance") [.loc a, c] μ Q := by
  intro M F H vs rl rp
  refine ⟨fun pins s σ us I rv => ?_⟩
  obtain ⟨v, w, rfl, h1, h2⟩ := rp.two
  obtain ⟨u, t, rfl, ru, rt⟩ : ∃ u t, us = [u, t] ∧ RelV v u ∧ RelV w t := by
    cases rv with
    | cons r1 r2 => cases r2 with
      | cons r3 r4 => cases r4; exact ⟨_, _, rfl, r1, r3⟩
  rw [rep_loc] at h1; subst h1
  cases ru
  obtain rfl := hc.eq h2 rt
  obtain ⟨oe, J⟩ := kept_at I rl ha
  exact PySem.W.kia_one (PySem.W.handS_kitx_exc N.hg N.hk N.hs N.hd N.ha N.hn N.ht N.hm) I.kIn J e (fun z => nomatch z) fun tk => ⟨.bl b, H, I.kept (t' := tk) fun _ _ z => z, rfl, .pure rl (rep_bl.mpr rfl) q⟩
inductive ClsAs : List A → List Value → Prop
  | nil : ClsAs [] []
  | cons {c : A} {cv : Value} {cs : List A} {cvs : List Value} : ClsA c cv → ClsAs cs cvs → ClsAs (c :: cs) (cv :: cvs)
theorem ClsAs.eq {K : PySem.W.Frag} {F : Hp} : ∀ {cs : List A} {cvs us : List Value} {vs : List V}, ClsAs cs cvs → RepL K F cs vs → Vals vs us → us = cvs
  | _, _, _, _, .nil, h, r => by simp only [RepL] at h; subst h; cases r; rfl
  | _, _, _, _, .cons c t, h, r => by
    simp only [RepL] at h
    obtain ⟨v, w, rfl, h1, h2⟩ := h
    cases r with
    | cons r1 r2 => rw [c.eq h1 r1, t.eq h2 r2]
/-- isinstance(e, (c, ..)) -/
theorem wC_isXT {a D : Addr} {cs : List A} {cvs : List Value} {b : Bool} (N : ExcC X.K D) (ha : μ a = some (.exc a (.ref D) none)) (hc : ClsAs cs cvs) (e : PySem.W.kitAny X.K (.ref D) cvs = some b) (q : Q (.bl b) μ) : wC X (.builtin "isinstance") [.loc a, .tup cs] μ Q := by
  intro M F H vs rl rp
  refine ⟨fun pins s σ us I rv => ?_⟩
  obtain ⟨v, w, rfl, h1, h2⟩ := rp.two
  obtain ⟨u, t, rfl, ru, rt⟩ : ∃ u t, us = [u, t] ∧ RelV v u ∧ RelV w t := by
    cases rv with
    | cons r1 r2 => cases r2 with
      | cons r3 r4 => cases r4; exact ⟨_, _, rfl, r1, r3⟩
  rw [rep_loc] at h1; subst h1
  cases ru
  rw [rep_tup] at h2
  obtain ⟨tp, xs, rfl, g1, g2⟩ := h2
  cases rt
  obtain ⟨its, hv, ht, _⟩ := I.tuple (rl.sub.t g1)
  have e3 := hc.eq g2 hv
  subst e3
  obtain ⟨⟨oc, od, dt, sl⟩, h1, rfl, n, rfl⟩ := ht
  obtain ⟨oe, J⟩ := kept_at I rl ha
  exact PySem.W.kia_tup (PySem.W.handS_kitx_exc N.hg N.hk N.hs N.hd N.ha N.hn N.ht N.hm) I.kIn J h1 e (fun z => nomatch z) fun tk => ⟨.bl b, H, I.kept (t' := tk) fun _ _ z => z, rfl, .pure rl (rep_bl.mpr rfl) q⟩
/-- what a caller knows of a method that may let exceptions out -/
structure CalMX (P : Program) (w : World) (K : PySem.W.Frag) (mg : Str → Option Value) (base : Heap) (k : Nat) (C : Addr) (m : Str) (c : AC) : Prop where
  ex : ∃ (f : Addr) (fd : FuncData) (ps : List Str), FnD P w K mg base (L2.CX P w) k f fd ps c ∧ Meth K C m f ∧ Binds K fd ps []
theorem wE_methX (cl : Cls X.K C) (Dm : CalMX X.prog X.w X.K X.mg X.base k C m cc) (ar : Ar X j) (hk : k ≤ j) (tk : Fly B X E1) (h : wE B X o Γ μ fun x μ1 => ∃ p dx fs, x = .loc p ∧ μ1 p = some (.ins C dx fs) ∧ fs.lookup m = none ∧ wA B X (e :: es) Γ μ1 fun xs μ2 => cc (.loc p :: xs) μ2 Q fun cls d μ' => E1 cls d Γ μ')
    {pl : Sem Bool} (hst : starEach (e :: es) X.env = (false, eval e X.env) :: starEach es X.env := by rfl) (hpl : (backTo pos (starEach es X.env)).any (·.1) = false := by rfl)
    (ht : eval (.Call (.Attribute o m apos) (e :: es) [] pos) X.env = (eval o X.env >>= fun a => standAt apos.atName >>= fun _ => (holding [a] (getMethod a m pl) >>= fun g => callWith pos g.1 g.2 (backTo pos (starEach (e :: es) X.env)) (backToKw pos (keywordEach [] X.env)))) := by rfl) : wE B X (.Call (.Attribute o m apos) (e :: es) [] pos) Γ μ Q := by
  obtain ⟨fa, fd, ps, Fn, hm, bi⟩ := Dm.ex
  intro σ M F0 H bo rs rl
  refine ⟨fun pins s I => ?_⟩
  refine PySem.W.methodCall_KW (pl := pl) (thn ((h σ M F0 H bo rs rl).o pins s I) fun u s1 got => ?_) ht
  obtain ⟨v, H1, I1, rv, x, F1, μ1, ex1, r1, p1, p, dx, fs, ex, hp, hl, q1⟩ := got
  subst ex; rw [rep_loc] at p1; subst p1
  obtain rfl : u = Value.ref p := rv
  obtain ⟨_, ob, g1, ws, rfl, g2⟩ := r1.own p _ hp
  refine getmeth_ok I1 g1 cl hm (lookup_none g2 hl) ?_
  refine PySem.W.callWith_K (first := [.ref p]) (h₀ := X.base) I.ok.mod.kin hm.kp (thn ((q1 σ M F1 H1 (bo.mono ex1) (rs.mono ex1) r1).o pos pins s1 I1) fun us s2 got2 => ?_) hst hpl
  obtain ⟨vs, H2, I2, rvs, xs, F2, μ2, ex2, r2, rp, hc⟩ := got2
  refine ⟨I2.kIn, runT (us := .ref p :: us) (vs := .ref p :: vs) (dvs := []) (E := fun cls d H' => ∃ F' μ', Ex F0 F' ∧ Rel X.K μ' M F' H' ∧ E1 cls d Γ μ') Fn (ar.mono hk) bi .nil tk.o (fun cls d H' ⟨F', μ', e1, r1, q⟩ => ⟨Γ, M, F', μ', bo.mono e1, rs.mono e1, r1, q⟩) I2 (.cons rfl rvs) ⟨.loc p :: xs, F2, M, μ2, Q, _, ?_, r2, hc, fun y μ' F' H' v q e1 r1 p1 => ?_, fun cls d μ' F' H' q e1 r1 => ⟨F', μ', (ex1.trans ex2).trans e1, r1, q⟩⟩⟩
  · rw [List.append_nil]; exact .cons (rep_loc.mpr rfl) rp
  · exact ⟨y, F', μ', (ex1.trans ex2).trans e1, r1, p1, q⟩
theorem Ar.tr {X : Cx} {k : Nat} (h : Ar X k) {pn : List (Addr × Obj)} {xe : Value → Shared → Prop} : Ar (X.tr pn xe) k := ⟨h.room, h.show0⟩
end
end D

set_option Elab.async false
set_option linter.all false
set_option maxRecDepth 100000
set_option maxHeartbeats 4000000
/-! DU: the law's end, with tables of the defs that make lambdas. -/
namespace D
open PySem PySem.Spec PyProof.Rows L2
open LamX (TabB)
/-- the cells at the law's entry: the tables alone -/
def muT (ts : List Addr) (qs : Addr → Str) : Mu := fun b => if b ∈ ts then some (.tbl (qs b)) else none
theorem law_endT {P : Program} {w : World} {K : PySem.W.Frag} {mg mb : Str → Option Value} {k : Nat} {fa a : Addr} {fd : FuncData} {x : Str} {c : AC} {s1 : Shared} {vs : List Value} {ns : List Int} {cs : List (Addr × Addr)} (qs : Addr → Str)
    (inK : K.In s1.heap) (gl : s1.heap.Ns mainGlobals mg) (bl : s1.heap.Ns builtinsNs mb) (bl2 : ∀ x : Str, x ≠ "__name__" → mb x = bootBuiltins x) (lim : s1.heap.NoLimit) (dig : s1.heap.NoDigits) (gens : s1.gens = #[])
    (hT : ∀ p ∈ cs, s1.heap.get? p.2 = some { cls := .none, data := .fields #[] }) (nT : ∀ p ∈ cs, K.lookup p.2 = none) (C : ∀ p ∈ cs, PySem.W.CodeHd s1.heap p.1 p.2)
    (hbm : ∃ (bm : Addr) (ob : Obj), mg "__builtins__" = some (.ref bm) ∧ bm ≠ builtinsNs ∧ s1.heap.get? bm = some ob ∧ ob.cls = .type "module" ∧ ob.dict = some builtinsNs ∧ ob.data = .plain)
    (obj : s1.heap.get? a = some { cls := .type "list", data := .seq vs.toArray }) (hints : IntsAre vs ns) (len : ns.length ≤ sizeLine) (room : Room k callerA)
    (F : ∀ base : Heap, K.In base → base.Ns mainGlobals mg → base.NoDigits → (∀ p ∈ cs, TabB base mg p.1 p.2) → FnD P w K mg base CX0 k fa fd [x] c) (bind : ∀ (s : Shared) (u : Value), BindsTo s fd ⟨[u], []⟩ [(x, u)])
    (hc : c [.fls (ns.map A.int)] (muT (cs.map (·.2)) qs) (fun y _ => y = .bl true) fun _ _ _ => False) :
    codeAny (model P w) callerA (.call (.ref fa) ⟨[.ref a], []⟩) (fun r s' => r = .ok (.ret (.bool true)) ∧ OldK s1.heap s'.heap ∧ s'.os = s1.os ∧ AllBare s'.gens) s1 := by
  have rv := vals_ints hints
  have many := hints.length
  generalize hts : cs.map (·.2) = ts at hc
  have memT : ∀ p ∈ cs, p.2 ∈ ts := fun p hp => by rw [← hts]; exact List.mem_map.mpr ⟨p, hp, rfl⟩
  have ofT : ∀ b ∈ ts, ∃ p ∈ cs, p.2 = b := fun b hb => by rw [← hts] at hb; exact List.mem_map.mp hb
  have isT : ∀ b ∈ ts, s1.heap.get? b = some { cls := .none, data := .fields #[] } := fun b hb => by obtain ⟨p, hp, rfl⟩ := ofT b hb; exact hT p hp
  have aT : a ∉ ts := fun z => by
    have q := isT a z
    rw [obj] at q
    have q2 := congrArg Obj.data (Option.some.inj q)
    cases q2
  have main : ∀ H0 : Hp, (∀ b, H0 b ≠ none → b = a) → (∀ b u, H0 b = some u → ∃ o xs, u = .frz o (.lst xs)) → (∀ H : Hp, Ex H0 H → SqL K H a (ns.map V.int)) → (∀ b u, H0 b = some u → ∀ H, ObjOk P w H s1.heap b u) → (H0 a ≠ none → K.lookup a = none) →
      codeAny (model P w) callerA (.call (.ref fa) ⟨[.ref a], []⟩) (fun r s' => r = .ok (.ret (.bool true)) ∧ OldK s1.heap s'.heap ∧ s'.os = s1.os ∧ AllBare s'.gens) s1 := by
    intro H0 isA only sq ok0 notK
    have n0 : ∀ b ∈ ts, H0 b = none := fun b hb => Classical.byContradiction fun z => aT (isA b z ▸ hb)
    let H : Hp := fun b => if b ∈ ts then some (.tbl #[]) else H0 b
    have hH1 : ∀ b, b ∈ ts → H b = some (.tbl #[]) := fun b hb => if_pos hb
    have hH2 : ∀ b, b ∉ ts → H b = H0 b := fun b hb => if_neg hb
    have ex0 : Ex H0 H := fun b o e => by rw [hH2 b (fun hb => by rw [n0 b hb] at e; cases e)]; exact e
    have hok : HOk P w H s1.heap := fun b u e => by
      by_cases hb : b ∈ ts
      · rw [hH1 b hb] at e; cases e; exact isT b hb
      · rw [hH2 b hb] at e; exact ok0 b u e H
    have off : ∀ {b : Addr} {o : Obj}, s1.heap.get? b = some o → (∀ vs n, o.data ≠ .seq vs n) → o.data ≠ .fields #[] → H b = none := by
      intro b o e d1 d2
      match q : H b with
      | none => rfl
      | some u =>
        by_cases hb : b ∈ ts
        · rw [isT b hb] at e; cases e; exact (d2 rfl).elim
        · rw [hH2 b hb] at q
          obtain rfl : b = a := isA b (by rw [q]; exact fun z => nomatch z)
          rw [obj] at e; cases e
          exact (d1 _ _ rfl).elim
    have ns' : ∀ {b : Addr} {m : Str → Option Value}, s1.heap.Ns b m → (hidT s1.heap H).Ns b m := by
      intro b m h
      obtain ⟨o, es, ep, e, d, r⟩ := h
      exact ⟨o, es, ep, hidT_get e (off e (fun vs n z => by rw [d] at z; cases z) (fun z => by rw [d] at z; cases z)), d, r⟩
    have inKb : K.In (hidT s1.heap H) := by
      intro b o e
      refine hidT_get (inK b o e) ?_
      match q : H b with
      | none => rfl
      | some u =>
        by_cases hb : b ∈ ts
        · obtain ⟨p, hp, rfl⟩ := ofT b hb
          rw [nT p hp] at e; cases e
        · rw [hH2 b hb] at q
          obtain rfl : b = a := isA b (by rw [q]; exact fun z => nomatch z)
          rw [notK (by rw [q]; exact fun z => nomatch z)] at e
          cases e
    obtain ⟨mc, l1, l2⟩ := lim
    obtain ⟨md, g1, g2⟩ := dig
    have TB : ∀ p ∈ cs, TabB (hidT s1.heap H) mg p.1 p.2 := by
      intro p hp
      have hTp := hT p hp
      refine ⟨?_, ?_, fun z => ?_⟩
      · obtain ⟨o, us, file, tf, flags, tg, inF, text, tt, e1, r1, r2, r3, rest⟩ := C p hp
        refine ⟨o, us, file, tf, flags, tg, inF, text, tt, hidT_get e1 (off e1 (fun vs n z => ?_) fun z => ?_), r1, r2, r3, rest⟩
        · rw [r2] at z; cases z
        · rw [r2] at z; cases z; simp at r3
      · obtain ⟨bm, ob, b1, b2, b3, b4, b5, b6⟩ := id hbm
        have nG : ¬ bm = mainGlobals := fun q => by
          obtain ⟨o, es, ep, e, hd, _⟩ := gl
          rw [q, e] at b3; cases b3
          rw [hd] at b6; cases b6
        have nP : bm ≠ p.2 := fun q => by rw [q, hTp] at b3; cases b3; cases b6
        exact ⟨bm, ob, b1, b2, nG, nP, hidT_get b3 (off b3 (fun vs n z => by rw [b6] at z; cases z) fun z => by rw [b6] at z; cases z), b4, b5, b6⟩
      · obtain ⟨o, es, ep, e, hd, _⟩ := gl
        rw [z, hTp] at e; cases e
        cases hd
    have e0 : Env0 P w K mg (hidT s1.heap H) callerA [] s1 H :=
      { frames := rfl, mod := ⟨inKb, ns' gl, ⟨mb, ns' bl, bl2⟩, ⟨mc, ns' l1, l2⟩⟩, bs := fun b o e => of_hidT e, bsz := Nat.le_of_eq (hidT_size _ _), funs := trivial, frf := fun b hb => (List.not_mem_nil hb).elim, hok := hok, bare := .of_eq gens }
    have rl : Rel K (muT ts qs) (fun _ => none) H0 H := by
      refine ⟨ex0, fun b m e => ?_, fun _ _ z => (nomatch z)⟩
      unfold muT at e
      split at e
      · rename_i hb
        cases e
        exact ⟨n0 b hb, _, hH1 b hb, #[], rfl, trivial, fun pos cv z => by simp [codeAmong] at z⟩
      · cases e
    have sp : spOf K c [.ref a] H (fun v _ => v = .bl true) (fun _ _ _ => False) :=
      ⟨[.fls (ns.map A.int)], H0, fun _ => none, muT ts qs, _, _, .cons (rep_fls.mpr ⟨a, _, rfl, sq H0 (.refl _), .map (fun i => rep_int.mpr rfl) ns⟩) .nil, rl, hc, fun y μ' F' H' v q _ _ r => by rw [q, rep_bl] at r; exact r, fun _ _ _ _ _ z _ _ => z⟩
    refine codeAny_mono ((F _ inKb (ns' gl) ⟨md, ns' g1, g2⟩ TB).run callerA [] s1 H ⟨[.ref a], []⟩ [.ref a] [.ref a] _ _ room rfl e0 (bind s1 (.ref a)) (.cons rfl .nil) sp) fun r s2 h => ?_
    match r, h with
    | .error e, h => exact h.elim
    | .ok .next, h => exact h.elim
    | .ok .brk, h => exact h.elim
    | .ok .cont, h => exact h.elim
    | .ok (.ret u), ⟨v, H2, os, bare, un, hok2, rv2, q⟩ =>
      have q2 : v = .bl true := q
      subst q2
      obtain rfl : u = Value.bool true := rv2
      have key : ∀ b o, b ∉ ts → s1.heap.get? b = some o → s2.heap.get? b = some o := by
        intro b o nb e
        match q3 : H b with
        | none => exact un.keep b o e q3 List.not_mem_nil List.not_mem_nil
        | some u3 =>
          have q4 := q3
          rw [hH2 b nb] at q4
          obtain ⟨ob, xs, rfl⟩ := only b u3 q4
          obtain ⟨g1, _⟩ := hok b _ q3
          obtain ⟨g2, _⟩ := hok2 b _ (un.frzs b ob _ q3)
          rw [g1] at e; cases e
          exact g2
      have grown : ∀ p ∈ cs, ∃ more : Array Value, s2.heap.get? p.2 = some { cls := .none, data := .fields more } := fun p hp => by
        obtain ⟨more, z⟩ := un.tbls p.2 #[] (hH1 p.2 (memT p hp))
        exact ⟨_, hok2 p.2 _ z⟩
      have seen : ∀ b o, s1.heap.get? b = some o → b ∉ ts ∨ ∃ p ∈ cs, b = p.2 ∧ o = { cls := .none, data := .fields #[] } ∧ ∃ more : Array Value, s2.heap.get? b = some { cls := .none, data := .fields more } := by
        intro b o e
        rcases Classical.em (b ∈ ts) with m | m
        · obtain ⟨p, hp, rfl⟩ := ofT b m
          exact .inr ⟨p, hp, rfl, Option.some.inj (e.symm.trans (hT p hp)), grown p hp⟩
        · exact .inl m
      refine ⟨rfl, ⟨fun b o e => (seen b o e).elim (fun m => .inl (key b o m e)) ?_, fun b o e => (seen b o e).elim (fun m => ⟨o, key b o m e⟩) fun ⟨_, _, _, _, _, g⟩ => ⟨_, g⟩⟩, os, bare⟩
      rintro ⟨p, hp, rfl, rfl, more, g⟩
      have same : #[] ++ more = more := Array.empty_append
      exact Or.inr (Or.inl ⟨((C p hp).tab (hT p hp)).isCodeTable, rfl, #[], more, rfl, same.symm ▸ g⟩)
  match hk : K.lookup a with
  | some o =>
    have e := inK a o hk
    rw [obj] at e
    cases e
    exact main (fun _ => none) (fun _ z => absurd rfl z) (fun _ _ z => nomatch z) (fun H _ => .inr ⟨_, vs.toArray, _, hk, rfl, rfl, rfl, by rw [List.size_toArray, many]; exact len, by simpa using rv⟩) (fun _ _ z => nomatch z) fun z => absurd rfl z
  | none =>
    refine main (upd (fun _ => none) a (.frz { cls := .type "list", data := .seq vs.toArray } (.lst (ns.map V.int)))) (fun b z => ?_) (fun b u z => ?_) (fun H e => .inl (.inr ⟨_, e _ _ upd_same⟩)) (fun b u z H => ?_) fun _ => hk
    · exact Classical.byContradiction fun hb => z (upd_ne hb)
    · by_cases hb : b = a
      · subst hb
        rw [upd_same] at z; cases z
        exact ⟨_, _, rfl⟩
      · rw [upd_ne hb] at z; cases z
    · by_cases hb : b = a
      · subst hb
        rw [upd_same] at z; cases z
        exact ⟨obj, by rw [List.length_map]; exact len, vs, _, rv, obj⟩
      · rw [upd_ne hb] at z; cases z
/-- the goal that k_head leaves, by the law's promise over data; cs: the code objects of the defs that make lambdas, and their tables -/
theorem walk_endT {l : PySem.W.OpenLaw} {k : Nat} {q : Program} {loose : List Str} {XP : (Str → Option Value) → Heap → Prop} {YP : World → Heap → Prop} {d : DefRec} {K : Params → PySem.W.Frag} {c : World → AC} {x : Str} (cs : List (Addr × Addr)) (qs : Addr → Str)
    (hn : l.most = some 63) (hdf : d.params.defaults = []) (room : Room k callerA) (hY : ∀ (w : World) (h : Heap), YP w h → (K w.params).In h)
    (hT : ∀ (w : World) (h : Heap), YP w h → ∀ p ∈ cs, h.get? p.2 = some { cls := .none, data := .fields #[] }) (nT : ∀ (w : World), ∀ p ∈ cs, (K w.params).lookup p.2 = none) (C : ∀ (w : World) (h : Heap), YP w h → ∀ p ∈ cs, PySem.W.CodeHd h p.1 p.2)
    (F : ∀ (w : World) (mg : Str → Option Value) (fa : Addr) (g : Heap), (K w.params).In g → g.Ns mainGlobals mg →
      mg d.name = some (.ref fa) → ∃ fd : FuncData, (∀ (s : Shared) (u : Value), BindsTo s fd ⟨[u], []⟩ [(x, u)]) ∧ ∀ base : Heap, (K w.params).In base → base.Ns mainGlobals mg → base.NoDigits → (∀ p ∈ cs, TabB base mg p.1 p.2) → FnD l.prog w (K w.params) mg base CX0 k fa fd [x] (c w))
    (hc : ∀ (w : World) (ns : List Int), ns.length ≤ 63 → c w [.fls (ns.map A.int)] (muT (cs.map (·.2)) qs) (fun y _ => y = .bl true) fun _ _ _ => False) : PySem.W.WalkO q loose XP YP l.row.toRowW d [] (fun f vs => PySem.call f vs) := by
  refine Att.attach_call hn hdf ?_
  intro w s0 s1 mg mb fa o pm cd doc a vs ns gr Y ho hd hcd hmg hobj hints hlen hg
  have inK := hY w _ Y
  obtain ⟨fd, hb, hF⟩ := F w mg fa _ inK gr.T.g hmg
  exact law_endT qs inK gr.T.g gr.T.b gr.T.builtins gr.T.nolimit gr.T.nodigits hg (hT w _ Y) (nT w) (C w _ Y) gr.T.bmain hobj hints (Nat.le_trans hlen (by decide)) room hF hb (hc w ns hlen)
end D

set_option Elab.async false
set_option linter.all false
set_option maxRecDepth 100000
set_option maxHeartbeats 4000000
/-! DQ: defs that make lambdas, defs that get a deed. -/
namespace D
open PySem PySem.Spec PyProof.Rows L2
section
variable {P : Program} {w : World} {mg : Str → Option Value} {base : Heap} {K : PySem.W.Frag}
/-- fnD, where the code object is wanted -/
theorem fnDc {x qual : Str} {st : Stmt} {f : Addr} {fd : FuncData} {N ps : List Str} {k : Nat} {c : AC} (F : Fun K x qual st f fd) (S : FnScope N ps (defScope st)) (len : ∀ xs μ Q E, c xs μ Q E → xs.length = ps.length)
    (go : ∀ {B : Bs} (cdv : Value) (A : Around) (outer : List Env) (s : Shared) (H : Hp) (E : XK) (xs : List D.A) (μ : Mu) (Q : D.A → Mu → Prop) (E0 : Value → Option Addr → Mu → Prop), Ar (cx0 P w K mg base N qual (defScope st) f cdv A outer s H E) k → c xs μ Q E0 → fd.code = cdv →
      wSs B (cx0 P w K mg base N qual (defScope st) f cdv A outer s H E) (defBody st) (startA N xs) μ { nx := fun _ μ' => Q .non μ', rt := Q }) : FnD P w K mg base CX0 (k + 1) f fd ps c := by
  obtain ⟨oc, od, kV, doc, pm, an, cdv, ct, osl, rfl, lk, hcd⟩ := F.ex
  refine FnD.body lk hcd S len fun A outer s H vs Q E room sh sp => rdSs_nox ?_
  obtain ⟨xs, F0, M, μ, Q0, E0, rp, rl, hc, hq, he⟩ := sp
  refine (go cdv A outer s H E xs μ Q0 E0 ⟨room, sh⟩ hc rfl (L2.start N vs) M F0 H (Bs.ok.own M F0) (relS_start N rp) rl).imp (fun σ2 H2 q => ?_) (fun v H2 q => ?_) (fun σ2 H2 q => ?_) (fun σ2 H2 q => ?_)
  · obtain ⟨Γ', F', μ', ex, _, rl', q⟩ := q
    exact hq .non μ' F' H2 .non q ex rl' (rep_non.mpr rfl)
  · obtain ⟨y, F', μ', ex, rl', rp', q⟩ := q
    exact hq y μ' F' H2 v q ex rl' rp'
  · obtain ⟨_, _, _, _, _, _, q⟩ := q; exact q
  · obtain ⟨_, _, _, _, _, _, q⟩ := q; exact q
theorem lgD {x a : Str} {st : Stmt} {g : Addr} {fd : FuncData} {N : List Str} {k : Nat} {c : DL → Mu → (A → Mu → Prop) → Prop} (F : Fun K x x st g fd) (S : FnScope N [a] (defScope st)) (hN : N[0]? = some a) (hv : Vis (defScope st) a) (gm : mg x = some (.ref g)) (gk : PySem.W.keepIn K (.ref g) = true) (gb : Binds K fd [a] [])
    (go : ∀ {B : Bs} (cdv : Value) (A : Around) (outer : List Env) (s : Shared) (H : Hp) (f : Addr) (dl : DL) (μ : Mu) (Q : D.A → Mu → Prop), Ar (cx0 P w K mg base N x (defScope st) g cdv A outer s H C8.E0) k → c dl μ Q → Act B (cx0 P w K mg base N x (defScope st) g cdv A outer s H C8.E0) a f dl →
      wSs B (cx0 P w K mg base N x (defScope st) g cdv A outer s H C8.E0) (defBody st) (startA N [.loc f]) μ { nx := fun _ μ' => Q .non μ', rt := Q })
    (hd : (a == ("__debug__" : Str)) = false := by decide) (hcd : (a == ("__classdict__" : Str)) = false := by decide) : LG P w K mg base k x c := by
  obtain ⟨oc, od, kV, doc, pm, an, cdv, ct, osl, rfl, lk, hc⟩ := F.ex
  exact ⟨g, _, _, _, _, _, _, _, _, _, _, _, _, _, N, a, gm, gk, lk, hc, gb, S, hN, hv, hd, hcd, fun B A outer s H f dl μ Q ar hc act => go cdv A outer s H f dl μ Q ⟨ar.room, ar.show0⟩ hc ⟨fun B' pn xe Γ μ Q E1 p1 p2 le tk h0 h => act.o B' pn xe Γ μ Q E1 p1 p2 le tk h0 h⟩⟩
end
end D

set_option Elab.async false
set_option linter.all false
set_option maxRecDepth 100000
set_option maxHeartbeats 4000000
/-! DR: D.get(k) of a dict of the module. -/
namespace D
open PySem PySem.Spec PyProof.Rows L2
section
variable {B : Bs} {X : Cx} {Γ : G} {μ : Mu} {Q : A → Mu → Prop} {o e : Expr} {apos cpos : Pos}
def getI (kvs : List (Str × Int)) (k : Str) : A := match valI kvs k with
  | some i => .int i
  | none => .non
theorem wE_kget1 {p : Addr} {kvs : List (Str × Int)} (Dk : KDi X.K X.w p kvs) (h : wE B X o Γ μ fun x μ1 => x = .loc p ∧ wE B X e Γ μ1 fun y μ2 => ∃ k : Str, y = .str k ∧ Q (getI kvs k) μ2)
    (hb : attributeBase o "get" X.env (eval o X.env) = eval o X.env := by rfl)
    (hf : ((backTo cpos (starEach [e] X.env)).all (fun x => !x.1) && (backToKw cpos (keywordEach [] X.env)).all (fun x => x.1.isSome) && decide (([e] : List Expr).length + ([] : List Keyword).length + (if ([] : List Keyword).isEmpty then 0 else 1) < 30)) = true := by rfl)
    (hl : (apos.endLine == cpos.line) = true := by rfl) (ht : backTo cpos (starEach [e] X.env) = [(false, eval e X.env)] := by rfl) : wE B X (.Call (.Attribute o "get" apos) [e] [] cpos) Γ μ Q := by
  obtain ⟨es, n, k1, k2, k3, k4⟩ := Dk.ex
  intro σ M F H bo rs rl
  refine ⟨fun pins s I => ?_⟩
  refine wpAny_Call_method hb hf hl PySem.F.plainAttrs_dict PySem.F.slot_dict_get PySem.F.type_dict_get (thn ((h σ M F H bo rs rl).o pins s I) fun u s1 got => ?_)
  obtain ⟨v, H1, I1, rv, x, F1, μ1, ex1, r1, p1, rfl, q1⟩ := got
  rw [rep_loc] at p1; subst p1
  obtain rfl : u = Value.ref p := rv
  have mo := fun {s : Shared} {pins : List (Addr × Obj)} {σ : L2.St} {H : Hp} (I : Inv X pins σ H s) => PySem.W.mapOf_K (prog := X.prog) (w := X.w) I.kIn k1 k2
  refine ⟨(mo I1).typeIs, fun b q => ?_, ?_⟩
  · cases q; exact ⟨_, I1.kIn _ _ k1, rfl⟩
  rw [ht]
  refine Calls.callWith_builtin rfl (Calls.evalArgs_plain (Calls.spliced_cons (thn ((q1 σ M F1 H1 (bo.mono ex1) (rs.mono ex1) r1).o pins s1 I1) fun iv s2 got2 => Calls.spliced_nil ?_)))
  obtain ⟨v2, H2, I2, rv2, y, F2, μ2, ex2, r2, p2, k, rfl, q2⟩ := got2
  rw [rep_str] at p2; subst p2
  obtain ⟨t2, rfl⟩ := rv2
  refine call_meetsIn PySem.F.slot_dict_get (mo I2).typeIs PySem.F.entry_dict_get (PySem.F.args_dict_get_2 _ _) (meets_dict_get (strKind X.prog X.w) p (strKind_is X.prog X.w k t2) k3) ⟨_, mo I2, ?_⟩
  rcases ent_find k k4 with ⟨h1, h2⟩ | ⟨d, m, t, h1, h2, h3⟩
  · have e0 : findBy Value.isStrOf es k = none := by unfold findBy; rw [← Array.find?_toList, h2]; rfl
    simp only [e0, Option.getD_none]
    exact ⟨.non, H2, I2.tok _, rfl, .non, F2, μ2, ex1.trans ex2, r2, rep_non.mpr rfl, by unfold getI at q2; rw [h1] at q2; exact q2⟩
  · have e0 : findBy Value.isStrOf es k = some (.int m t) := by unfold findBy; rw [← Array.find?_toList, h2, ← h3]; rfl
    simp only [e0, Option.getD_some]
    exact ⟨.int m, H2, I2.tok _, ⟨_, rfl⟩, .int m, F2, μ2, ex1.trans ex2, r2, rep_int.mpr rfl, by unfold getI at q2; rw [h1] at q2; exact q2⟩
end
end D

set_option Elab.async false
set_option linter.all false
set_option maxRecDepth 100000
set_option maxHeartbeats 4000000
/-! DE: a tuple turned about (t[::-1]); repr of an empty dict of our own. -/
namespace D
open PySem PySem.Spec PyProof.Rows L2
/-! ### places and items from the end -/
theorem back_count (n : Nat) : Builtin.Slice.slicePlaces ((n : Int) - 1) (-1) (-1) = n := by
  unfold Builtin.Slice.slicePlaces
  cases n with
  | zero => rfl
  | succ n =>
    simp only [show ¬ ((-1 : Int) > 0) by decide, if_false]
    rw [if_pos (by omega)]
    simp only [Int.neg_neg, Int.ediv_one]
    omega
theorem pick_map {α β : Type} {f : α → Option β} {g : α → β} : ∀ l : List α, (∀ a ∈ l, f a = some (g a)) → l.filterMap f = l.map g := by
  intro l
  induction l with
  | nil => intro _; rfl
  | cons a l ih => intro h; simp [h a (.head _), ih fun b hb => h b (.tail _ hb)]
theorem back_items (l : List Value) : (List.range l.length).filterMap (fun (m : Nat) => l[((l.length : Int) - 1 + (m : Int) * (-1)).toNat]?) = l.reverse := by
  have all : (List.range l.length).filterMap (fun (m : Nat) => l[((l.length : Int) - 1 + (m : Int) * (-1)).toNat]?) = (List.range l.length).map fun m => l[l.length - 1 - m]?.getD .none := by
    refine pick_map _ fun m hm => ?_
    have lt : m < l.length := List.mem_range.mp hm
    have pl : ((l.length : Int) - 1 + (m : Int) * (-1)).toNat = l.length - 1 - m := by omega
    rw [pl, List.getElem?_eq_getElem (by omega)]; rfl
  rw [all]
  refine List.ext_getElem (by simp) fun i h1 h2 => ?_
  have lt : i < l.length := by simpa using h2
  rw [List.getElem_map, List.getElem_range, List.getElem_reverse, List.getElem?_eq_getElem (by omega)]; rfl
/-! ### the slice -/
section
variable {prog : Program} {w : World} {A : Around} {E : Value → Shared → Prop} {s : Shared}
theorem slice_back {sl : Addr} {st : Value} {n : Nat} {Q : Int × Int × Nat → Shared → Prop} (hs : s.heap.IsSliceOf sl .none .none st) (ps : IsPart st (some (-1))) (q : Q ((n : Int) - 1, -1, n) s) :
    wpAny (model prog w) A (Builtin.Slice.sliceApplied (.ref sl) (pure (n : Int))) Q E s := by
  obtain ⟨o, e, _, dt⟩ := hs
  have rd : ∀ {i : Nat} {v : Value} {R : Value → Shared → Prop}, (#[Value.none, .none, st] : Array Value)[i]? = some v → R v s → wpAny (model prog w) A (field (.ref sl) i) R E s := fun hv r => wpAny_field e dt hv r
  have parts : wpAny (model prog w) A (Builtin.Slice.sliceFields (.ref sl)) (fun r s1 => r = (.none, .none, st) ∧ s1 = s) E s := by
    unfold Builtin.Slice.sliceFields
    exact wpAny_bind (rd (v := .none) rfl (wpAny_bind (rd (v := .none) rfl (wpAny_bind (rd (v := st) rfl (wpAny_pure ⟨rfl, rfl⟩))))))
  unfold Builtin.Slice.sliceApplied
  refine wpAny_bind (wpAny_mono parts (fun r s1 h => ?_) fun _ _ z => z)
  obtain ⟨rfl, rfl⟩ := h
  refine wpAny_bind (HT.slicePart_ ps ?_)
  show wpAny _ _ (if _ then _ else _) _ _ _
  rw [if_neg (by decide)]
  refine wpAny_bind (slicePart_none (wpAny_bind (slicePart_none (wpAny_bind (wpAny_pure ?_)))))
  have e : (((n : Int) - 1, -1, Builtin.Slice.slicePlaces ((n : Int) - 1) (-1) (-1)) : Int × Int × Nat) = ((n : Int) - 1, -1, n) := by rw [back_count]
  exact wpAny_pure (e ▸ q)
/-- t[sl], sl the slice from the end -/
theorem tup_back {t sl : Addr} {xs : List Value} {st : Value} {Q : Value → Shared → Prop} (ht : IsTup s.heap t xs.toArray) (hs : s.heap.IsSliceOf sl .none .none st) (ps : IsPart st (some (-1))) (sz : xs.length ≤ sizeLine)
    (q : Q (.ref s.heap.objs.size) { s with heap := s.heap.push { cls := .type "tuple", data := .seq xs.reverse.toArray } }) : wpAny (model prog w) A (getItem (.ref t) (.ref sl)) Q E s := by
  have isSl : s.TypeIs (.ref sl) "slice" := hs.elim fun o p => ⟨o, p.1, p.2.1⟩
  refine getItem_slot ht.typeIs (by decide) PyProof.Rows.slot_tuple_getitem (wpAny_call_entry PyProof.Rows.slot_tuple_getitem ht.typeIs entry_tuple_getitem ?_ (args_tuple_getitem _ _))
  refine wpAny_bind (m := Builtin.Tuple.tupleItemsOf (.ref t)) (tupleItemsOf_ ht ?_)
  refine wpAny_bind (m := typeOf (.ref sl)) (wpAny_typeOf isSl ?_)
  rw [if_pos (by decide)]
  refine wpAny_bind (slice_back hs ps ?_)
  have sz' : sizeOk (.seq xs.reverse.toArray) := by show xs.reverse.toArray.size ≤ sizeLine; simpa using sz
  have items : ((List.range xs.toArray.size).filterMap fun (m : Nat) => xs.toArray[(((xs.toArray.size : Nat) : Int) - 1 + (m : Int) * (-1)).toNat]?).toArray = xs.reverse.toArray := by
    simpa using congrArg List.toArray (back_items xs)
  show wpAny _ _ (if ((((xs.toArray.size : Nat) : Int) - 1) == 0 && (-1 : Int) == 1 && xs.toArray.size == xs.toArray.size) = true then _ else _) _ _ s
  rw [if_neg (by simp), items]
  refine wpAny_bind (m := Builtin.Tuple.tupleExact _) (wpAny_newObj_type ?_ sz')
  first
    | exact wpAny_pure ⟨_, rfl, wpAny_pure q⟩
    | exact wpAny_pure ⟨_, rfl, q⟩
    | exact wpAny_bind (wpAny_pure (wpAny_pure ⟨_, rfl, wpAny_pure q⟩))
end
section
variable {B : Bs} {X : Cx}
/-- e[::-1] of a tuple: a new tuple, its items from the end -/
def tBack (K : PySem.W.Frag) (te : TE) : TE := fun σ H Q => te σ H fun x H1 => ∃ a xs, x = .ref a ∧ SqT K H1 a xs ∧ ∀ p, H1 p = none → Q (.ref p) (upd H1 p (.tup xs.reverse))
theorem minus_one {k : Nat} {p1 p2 : Pos} : PO X (some (.UnaryOp .USub (.Constant (.int 1) k p1) p2)) (tPart (tUn (rU fun i => .int (-i)) (tC (.int 1)))) := po_some (pe_un un_neg pe_int)
theorem pe_back {e : Expr} {te : TE} {k : Nat} {p1 p2 p3 pos : Pos} (he : PE X e te) : PE X (.Subscript e (.Slice none none (some (.UnaryOp .USub (.Constant (.int 1) k p1) p2)) p3) pos) (tBack X.K te) := by
  constructor
  intro pins s σ H Q I h
  refine Subscript_ (thn (he.run pins s σ H _ I h) fun v s1 got => wpAny_Slice ?_)
  obtain ⟨x, H1, I1, rx, a, xs, rfl, sq, q⟩ := got
  obtain rfl : v = Value.ref a := rx
  rw [evalPart_none]
  refine wpAny_pure (wpAny_pure (thn (minus_one.run pins s1 σ H1 (fun o H2 => o = some (-1) ∧ H2 = H1) I1 ⟨1, rfl, -1, rfl, rfl, rfl⟩) fun st s2 part => ?_))
  obtain ⟨_, H2, I2, ps, rfl, same⟩ := part
  rw [same] at I2
  let s3 : Shared := { s2 with heap := s2.heap.push { cls := .type "slice", data := .fields #[.none, .none, st] } }
  have I3 : L2.Inv X pins σ H1 s3 := I2.kept (t' := s2.toks) fun _ _ => Heap.get?_push_of_some _
  obtain ⟨its, vals, tup, le⟩ := I3.tuple sq
  show wpAny (model X.prog X.w) X.A (subscriptTail e _ (.ref a) (.ref s2.heap.objs.size)) (EP X pins σ Q) X.xe s3
  refine tail_any (ops := [.ref a, .ref s2.heap.objs.size]) tup.typeIs PyProof.Rows.slot_tuple_getitem.lookup (tup_back tup (Heap.IsSliceOf.new _ .none .none st) ps (vals.length ▸ le) ?_) (by with_unfolding_all rfl)
  have fresh : H1 s3.heap.objs.size = none := I3.hok.fresh (Nat.le_refl _)
  refine ⟨.ref s3.heap.objs.size, _, I3.laid (t' := s3.toks) (o := .tup xs.reverse) (fun _ _ => Heap.get?_push_of_some _) (Nat.le_refl _) ?_, rfl, q _ fresh⟩
  exact ⟨by simpa using le, its.reverse, vals.reverse, ⟨_, Heap.get?_push_size _ rfl, rfl, 0, rfl⟩⟩
variable {Γ : G} {μ : Mu} {Q : A → Mu → Prop} {a : Expr} {pos : Pos}
theorem wE_revT {k : Nat} {p1 p2 p3 : Pos} (h : wE B X a Γ μ fun x μ1 => ∃ xs, x = .tup xs ∧ Q (.tup xs.reverse) μ1) : wE B X (.Subscript a (.Slice none none (some (.UnaryOp .USub (.Constant (.int 1) k p1) p2)) p3) pos) Γ μ Q := wE_of (pe_back pe_rd) fun σ M F H bo rs r => by
  refine (h σ M F H bo rs r).imp fun v H1 ⟨x, F1, μ1, e1, r1, p1, xs, ex, q1⟩ => ?_
  subst ex; rw [rep_tup] at p1
  obtain ⟨p, vs, rfl, h1, h2⟩ := p1
  refine ⟨p, vs, rfl, r1.sub.t h1, fun l nl => ?_⟩
  obtain ⟨ex, rl'⟩ := r1.newF (o := .tup vs.reverse) nl
  exact ⟨_, _, _, e1.trans ex, rl', rep_tup.mpr ⟨l, _, rfl, .inl (.inl upd_same), h2.reverse.mono ex⟩, q1⟩
theorem wE_revL {k : Nat} {p1 p2 p3 : Pos} (h : wE B X a Γ μ fun x μ1 => ∃ xs, IsL μ1 x xs ∧ Q (.lst xs.reverse) μ1) : wE B X (.Subscript a (.Slice none none (some (.UnaryOp .USub (.Constant (.int 1) k p1) p2)) p3) pos) Γ μ Q := wE_of (pe_revL pe_rd) fun σ M F H bo rs r => by
  refine (h σ M F H bo rs r).imp fun v H1 ⟨x, F1, μ1, e1, r1, p1, xs, hx, q1⟩ => ?_
  obtain ⟨p, vs, rfl, h1, h2⟩ := hx.rep r1 p1
  refine ⟨p, vs, rfl, .inl (.inl h1), fun l nl => ?_⟩
  obtain ⟨ex, rl'⟩ := r1.newF (o := .lst vs.reverse) nl
  exact ⟨_, _, _, e1.trans ex, rl', rep_lst.mpr ⟨l, _, rfl, upd_same, h2.reverse.mono ex⟩, q1⟩
/-- repr of an empty dict of ours -/
theorem wC_reprD0 {k : Nat} {p : Addr} (ar : Ar X k) (hp : μ p = some (.dic [])) (q : Q (.str "{}") μ) : wC X (.builtin "repr") [.loc p] μ Q := by
  intro M F H vs rl rp
  refine ⟨fun pins s σ us I rv => ?_⟩
  obtain ⟨v, rfl, h⟩ := rp.one
  obtain ⟨u, rfl, ru⟩ := rv.one
  rw [rep_loc] at h; subst h; cases ru
  obtain ⟨_, _, h1, ws, rfl, h3⟩ := rl.own p _ hp
  have e0 : ws = [] := by
    cases ws with
    | nil => rfl
    | cons => simp [RepK] at h3
  subst e0
  obtain ⟨_, hsm, ps, kv, o2, es, ep, ho, hc, hd, _, hpr, _⟩ := dk_of I.hok h1
  have ep0 : ps = [] := by cases kv; rfl
  subst ep0
  have empty : es.toList = [] := by
    rcases z : es.toList with _ | _
    · rfl
    · rw [z] at hpr; cases hpr
  have noKeys : ReadsAll s.heap (es.toList.map (·.key)) (([] : List (PyData × PyData)).map (·.1)) [] := by rw [empty]; exact .nil
  have noVals : ReadsAll s.heap (es.toList.map (·.val)) (([] : List (PyData × PyData)).map (·.2)) [] := by rw [empty]; exact .nil
  have hu := ar.u64
  exact repr_of_reads' (.dict ho hc.1 hd noKeys noVals) (by decide) (fun _ z => by simp at z; rw [z] at hsm; simp at hsm) ar.show0 (by show X.A.units + 2 < cLine; omega) (fun _ _ z => z) (fun h' t tk kp => ⟨.str "{}", H, I.kept kp, ⟨t, rfl⟩, .pure rl (rep_str.mpr rfl) q⟩) (by decide)
end
end D

set_option Elab.async false
set_option linter.all false
set_option maxRecDepth 100000
set_option maxHeartbeats 4000000
/-! DS: enumerate of a tuple. -/
namespace D
open PySem PySem.Spec PyProof.Rows L2
/-- the enumerate object over the iterator at it, as it is made -/
def enumObj (it : Addr) : Obj := { cls := .type "enumerate", data := .fields #[.none, .bool false, .ref it, rawInt 0, .none, .none] }
theorem enum_made {v : Value} {o : Obj} {C : Heap → Prop} (B : Begins v o C) : Meets (Builtin.«enumerate.__new__» ⟨[.type "enumerate", v], []⟩) (fun _ R s => C s.heap ∧ R (.ok (.ret (.ref (s.heap.objs.size + 1)))) { s with heap := (s.heap.push o).push (enumObj s.heap.objs.size) }) :=
  .of_wp fun prog w A R s given => by
    obtain ⟨hp, gs, dr, tk, os⟩ := s
    have kind := sub_enumerate
    have size : (hp.push o).objs.size = hp.objs.size + 1 := Heap.size_push ..
    have start : ∀ {A' : Around} {E : Value → Shared → Prop} {Q : Value → Shared → Prop}, Q (.ref hp.objs.size) ⟨hp.push o, gs, dr, tk, os⟩ → wpAny (model prog w) A' (pyIter v) Q E ⟨hp, gs, dr, tk, os⟩ := B.iter prog w _ _ ⟨hp, gs, dr, tk, os⟩ _ given.1
    have made := given.2
    rw [← size] at made
    wp_walk using start
    refine wpAny_stack_any fun frames => wpAny_pure ?_
    split <;> (try (rename_i c _ _ _ _ _; cases c == Value.type "enumerate")) <;> (wp_walk using start; exact ⟨_, rfl, made⟩)
theorem enum_call {prog : Program} {w : World} {A : Around} {E : Value → Shared → Prop} {s : Shared} {v : Value} {o : Obj} {C : Heap → Prop} {Q : Value → Shared → Prop} (B : Begins v o C) (c : C s.heap)
    (q : Q (.ref (s.heap.objs.size + 1)) { s with heap := (s.heap.push o).push (enumObj s.heap.objs.size) }) : wpAny (model prog w) A (call (.type "enumerate") [v]) Q E s := by
  have last : ((s.heap.push o).push (enumObj s.heap.objs.size)).get? (s.heap.objs.size + 1) = some (enumObj s.heap.objs.size) := by
    rw [← Heap.size_push s.heap o]; exact Heap.get?_push_size _ rfl
  exact callType_new F.called_enumerate (by decide) (F.typeCall_enumerate_1 v) (F.newCall_enumerate_1 v) (fun x => F.args_object_init_2 x v) F.entry_enumerate_new (enum_made B) ⟨c, ⟨_, last, rfl⟩, q⟩
/-- enumerate over the tuple at a: turn i gives a new pair of i and item i -/
def IteT (K : PySem.W.Frag) (a : Addr) : L2.It where
  go i H := ∃ xs x, SqT K H a xs ∧ xs[i]? = some x
  stop i H := ∃ xs : List V, SqT K H a xs ∧ xs.length = i
  yld i H v H' := ∃ T x, v = .ref T ∧ H T = none ∧ H' = upd H T (.tup [.int (i : Nat), x]) ∧ ∀ xs, SqT K H a xs → xs[i]? = some x
/-- where its two records stand at turn i -/
def EnumAt (e it a : Addr) (i : Nat) (h : Heap) : Prop := (∃ old, IsEnum h e it ((i : Nat) : Int) old) ∧ h.IsTupleIter it a i
section
variable {P : Program} {w : World} {K : PySem.W.Frag} {a e it : Addr}
theorem EnumAt.keep {i : Nat} {h h' : Heap} (st : EnumAt e it a i h) (k : ∀ b ∈ [e, it], ∀ o, h.get? b = some o → h'.get? b = some o) : EnumAt e it a i h' :=
  ⟨st.1.imp fun _ q => k e (by simp) _ q, st.2.at fun o q => k it (by simp) o q⟩
/-- the library's walk of an enumerate, over a tuple's items -/
theorem enum_walk {A : Around} (hd : A.in1.handled = none) (ei : e ≠ it) (ai : a ≠ it) (ae : a ≠ e) (its : Array Value) :
    WalksT P w A e [e, it, a] [e, it] its.size (fun i vals => ∃ t x, its[i]? = some x ∧ vals = #[.int i t, x]) (fun i h => (∃ old, IsEnum h e it i old) ∧ h.IsTupleIter it a i ∧ h.IsTuple a its)
      (fun i T h => (∃ x, IsEnumOut h e it ((i : Int) + 1) x T) ∧ (h.IsTupleIter it a (i + 1) ∧ h.IsTuple a its) ∧ T ≠ e ∧ T ≠ it) :=
  WalksT.enumerateD (Draws.tuple hd it a ai its) e ei (by simp [ei, Ne.symm ae]) (by simp)
theorem turn_enumT {elts : List Expr} {kk : Nat} {tpos : Pos} (ei : e ≠ it) (ai : a ≠ it) (ae : a ≠ e) : Turn P w K (.Tuple elts kk tpos) (IteT K a) [e, it] e (EnumAt e it a) where
  mem := .head _
  keep := fun i h h' st k => st.keep k
  self := fun A i s Q E st q => wpAny_pyIter_enum st.1.choose_spec q
  obj := fun i h st => by
    obtain ⟨⟨old, he⟩, o, ho, _, dt⟩ := st
    refine List.forall_mem_cons.mpr ⟨⟨_, he, fun v z => nomatch z⟩, List.forall_mem_cons.mpr ⟨⟨o, ho, fun v z => ?_⟩, fun _ z => nomatch z⟩⟩
    rw [dt] at z; cases z
  done := by
    rintro X rfl rfl rfl calm i pins s σ H E I fp st ⟨xs, sq, rfl⟩
    obtain ⟨its, vals, tup, _⟩ := I.tuple sq
    have size : its.toArray.size = xs.length := by rw [List.size_toArray]; exact vals.length.symm
    refine (enum_walk (show X.A.in1.handled = none from I.ok.hd calm) ei ai ae its.toArray).done s _ E ?_ fun h' tk keep => ⟨rfl, I.turnedL (ch := [e, it]) keep fp⟩
    rw [size]; exact ⟨st.1, st.2, tup⟩
  item := by
    rintro X rfl rfl rfl calm i pins s σ H E I fp st ⟨xs, x, sq, hx⟩
    obtain ⟨its, vals, tup, _⟩ := I.tuple sq
    obtain ⟨u, hu, ru⟩ := vals.get hx
    have W := enum_walk (P := X.prog) (w := X.w) (A := X.A) (show X.A.in1.handled = none from I.ok.hd calm) ei ai ae its.toArray
    have lt : i < its.toArray.size := by rw [List.size_toArray]; exact (List.getElem?_eq_some_iff.mp hu).1
    refine W.item i s _ E lt ⟨st.1, st.2, tup⟩ fun T us h1 tk1 pair new isT mid keep1 => ⟨.ref T, rfl, W.go elts kk tpos i T _ _ E mid fun h2 st2 keep2 => ?_⟩
    obtain ⟨t, x', hx', rfl⟩ := pair
    obtain rfl : u = x' := by
      rw [show its.toArray[i]? = its[i]? by simp, hu] at hx'
      exact Option.some.inj hx'
    have made : ObjOk X.prog X.w (upd H T (.tup [.int (i : Nat), x])) h2 T (.tup [.int (i : Nat), x]) := by
      obtain ⟨o, ho, rest⟩ := isT
      exact ⟨by show 2 ≤ sizeLine; decide, [.int i t, u], .cons ⟨t, rfl⟩ (.cons ru .nil), o, keep2 T o (W.apart i T h1 mid) ho, rest⟩
    refine ⟨.ref T, _, I.turnedNew (t' := tk1) (ch := [e, it]) (fun b o off q => keep2 b o off (keep1 b o off q)) fp new made, rfl, ⟨T, x, rfl, I.hok.fresh new, rfl, fun ys hy => ?_⟩, ⟨st2.1, st2.2.1⟩, fun b hb => ?_⟩
    · rw [I.tuple_inj hy sq]; exact hx
    · have low : b < s.heap.objs.size := by
        obtain ⟨o, ho, _⟩ := (show ∀ b ∈ [e, it], ∃ o, s.heap.get? b = some o ∧ True from List.forall_mem_cons.mpr ⟨⟨_, st.1.choose_spec, trivial⟩, List.forall_mem_cons.mpr ⟨st.2.elim fun o q => ⟨o, q.1, trivial⟩, fun _ z => nomatch z⟩⟩) b hb
        exact Heap.lt_size ho
      rw [upd_ne (Nat.ne_of_lt (Nat.lt_of_lt_of_le low new))]
      exact (fp b hb).1
end
def iEnumT (K : PySem.W.Frag) (ta : TA) : TI := fun σ H R => ta σ H fun vs H1 => ∃ a xs, vs = [.ref a] ∧ SqT K H1 a xs ∧ R (IteT K a) H1
theorem pi_enumT {X : Cx} {arg : Expr} {ta : TA} {p pos tpos : Pos} {elts : List Expr} {kk : Nat} (hg : Gl X "enumerate") (hm : X.mg "enumerate" = none) (ha : PA X [arg] ta) (hs : starEach [arg] X.env = [(false, eval arg X.env)] := by rfl) :
    PI X (.Tuple elts kk tpos) (.Call (.Name "enumerate" p) [arg] [] pos) (iEnumT X.K ta) := by
  constructor
  intro pins s σ H R I h
  refine Call_ (ld_blt I hg hm boot_enumerate (PyProof.Rows.callWith_type1 (thn (ha.run pos pins s σ H _ I h) fun us s1 got => ?_) hs rfl))
  obtain ⟨_, H1, I1, rv, a, xs, rfl, sq, q⟩ := got
  obtain ⟨v, rfl, ru⟩ := rv.one
  obtain rfl : v = Value.ref a := ru
  obtain ⟨its, _, tup, _⟩ := I1.tuple sq
  have al : a < s1.heap.objs.size := tup.elim fun o q => Heap.lt_size q.1
  have size := Heap.size_push s1.heap { cls := .type "tuple_iterator", data := .fields #[.ref a, .int 0 0] }
  have last : IsEnum ((s1.heap.push { cls := .type "tuple_iterator", data := .fields #[.ref a, .int 0 0] }).push (enumObj s1.heap.objs.size)) (s1.heap.objs.size + 1) s1.heap.objs.size ((0 : Nat) : Int) .none := by
    rw [← size]; exact Heap.get?_push_size _ rfl
  refine enum_call (begins_tuple a its.toArray) tup (wpAny_pyIter_enum last ?_)
  refine ⟨s1.heap.objs.size + 1, [s1.heap.objs.size + 1, s1.heap.objs.size], EnumAt (s1.heap.objs.size + 1) s1.heap.objs.size a, IteT X.K a, H1, rfl, I1.kept (t' := s1.toks) fun _ _ z => Heap.get?_push_of_some _ (Heap.get?_push_of_some _ z),
    turn_enumT (Nat.succ_ne_self _) (Nat.ne_of_lt al) (Nat.ne_of_lt (Nat.lt_succ_of_lt al)), ⟨⟨_, last⟩, ⟨_, Heap.get?_push_of_some _ (Heap.get?_push_size _ rfl), rfl, rfl⟩⟩, fun b hb => ?_, q⟩
  have up : s1.heap.objs.size ≤ b := by
    have : b = s1.heap.objs.size + 1 ∨ b = s1.heap.objs.size := by simpa using hb
    exact this.elim (fun z => z ▸ Nat.le_succ _) fun z => z ▸ Nat.le_refl _
  exact I1.fpOk up (I1.hok.fresh up)
theorem wk_enumT {K : PySem.W.Frag} {F : Hp} {p : Addr} {xs : List A} {vs : List V} (h : SqT K F p vs) (r : RepL K F xs vs) : WkA K F (IteT K p) (enumA 0 xs) :=
  { goes := fun i H hi e => by
      rw [enumA_len] at hi
      have h1 : i < vs.length := by rw [r.len]; omega
      exact ⟨vs, vs[i], e.t h, by simp [h1]⟩
    stops := fun H e => ⟨vs, e.t h, by rw [enumA_len, r.len]⟩
    yields := fun i H x H' M F1 μ hi e rl yl => by
      obtain ⟨T, v, rfl, nT, rfl, g1⟩ := yl
      have h1 := g1 vs ((e.trans rl.sub).t h)
      obtain ⟨x1, k1, k2⟩ := r.rev h1
      obtain ⟨F2, ex, rl', rp⟩ := pair_new (x := .int (i : Nat)) rl nT (rep_int.mpr rfl) (k2.mono e)
      exact ⟨F2, _, ex, rl', by rw [enumA_get k1]; simp, rp⟩ }
section
variable {B : Bs} {X : Cx} {Γ : G} {μ : Mu} {R : List A → Mu → Prop} {e : Expr} {pos : Pos}
theorem wIt_enumT {p tpos : Pos} {elts : List Expr} {kk : Nat} (hm : X.mg "enumerate" = none) (h : wA B X [e] Γ μ fun zs μ1 => ∃ xs, zs = [.tup xs] ∧ R (enumA 0 xs) μ1) (hg : Gl X "enumerate" := by rfl) (hs : starEach [e] X.env = [(false, eval e X.env)] := by rfl) :
    wIt B X (.Tuple elts kk tpos) (.Call (.Name "enumerate" p) [e] [] pos) Γ μ R := fun σ M F H bo rs rl => rd_pi (pi_enumT hg hm pa_rd hs) (by
  refine (h σ M F H bo rs rl).imp fun us H1 ⟨zs, F1, μ1, e1, r1, p1, xs, ez, q1⟩ => ?_
  subst ez
  obtain ⟨v, rfl, h1⟩ := p1.one
  rw [rep_tup] at h1
  obtain ⟨p, vs, rfl, g1, g2⟩ := h1
  exact ⟨p, vs, rfl, r1.sub.t g1, _, F1, μ1, e1, r1, wk_enumT g1 g2, q1⟩)
end
end D

set_option Elab.async false
set_option linter.all false
set_option maxRecDepth 100000
set_option maxHeartbeats 4000000
/-! DC: loops and comprehensions over a list of ours that stays as it is meanwhile. -/
namespace D
open PySem PySem.Spec PyProof.Rows L2
/-- a list of ours, told by its cell: what it gives at each turn -/
theorem own_go {K : PySem.W.Frag} {μ : Mu} {M F H : Hp} {p : Addr} {xs : List A} {i : Nat} (r : Rel K μ M F H) (hp : μ p = some (.lst xs)) (hi : i < xs.length) : (Itl K p).go i H := by
  obtain ⟨_, o, h1, vs, rfl, h2⟩ := r.own p _ hp
  exact ⟨vs, vs[i]'(by rw [h2.len]; exact hi), .inl (.inl h1), by simp [h2.len, hi]⟩
theorem own_stop {K : PySem.W.Frag} {μ : Mu} {M F H : Hp} {p : Addr} {xs : List A} (r : Rel K μ M F H) (hp : μ p = some (.lst xs)) : (Itl K p).stop xs.length H := by
  obtain ⟨_, o, h1, vs, rfl, h2⟩ := r.own p _ hp
  exact ⟨vs, .inl (.inl h1), by rw [h2.len]; exact Nat.le_refl _⟩
theorem own_yld {K : PySem.W.Frag} {μ : Mu} {M F H H' : Hp} {p : Addr} {xs : List A} {i : Nat} {x : V} (r : Rel K μ M F H) (hp : μ p = some (.lst xs)) (hi : i < xs.length) (yl : (Itl K p).yld i H x H') : H' = H ∧ ∃ y, xs[i]? = some y ∧ Rep K F y x := by
  obtain ⟨_, o, h1, vs, rfl, h2⟩ := r.own p _ hp
  obtain ⟨rfl, g⟩ := yl
  obtain ⟨v, e1, e2⟩ := h2.get (List.getElem?_eq_getElem hi)
  have := g vs (.inl (.inl h1))
  rw [e1] at this; cases this
  exact ⟨rfl, _, List.getElem?_eq_getElem hi, e2⟩
section
variable {B : Bs} {X : Cx} {Γ : G} {μ : Mu} {Q : A → Mu → Prop} {Z : AD} {a e o i : Expr} {pos apos cpos : Pos} {tg : Expr} {body : List Stmt}
variable {elt iter c : Expr} {scope : Scope} {own : List (Str × Nat)} {ifs : List Expr}
/-- for tg in a list of ours, which the body leaves as it is -/
theorem wS_forO (h : wE B X a Γ μ fun x μ1 => ∃ p xs, x = .loc p ∧ μ1 p = some (.lst xs) ∧ ∃ I : Nat → G → Mu → Prop, I 0 Γ μ1 ∧ (∀ i Γ' μ', I i Γ' μ' → μ' p = some (.lst xs)) ∧
      (∀ (i : Nat) y Γ' μ', xs[i]? = some y → I i Γ' μ' → wG B X tg y Γ' μ' fun Γ2 μ2 => wSs B X body Γ2 μ2 { nx := I (i + 1), rt := Z.rt, ct := I (i + 1), bk := Z.nx }) ∧ (∀ Γ' μ', I xs.length Γ' μ' → Z.nx Γ' μ'))
    (hp : PassesOwn (model X.prog X.w) X.A X.env X.xe := by first | exact PassesOwn.never | assumption) (hc : X.calm = true := by rfl) (hs : ∀ x, foldedSetIterable a X.env x = pure x := by intro _; rfl) : wS B X (.For tg a body [] pos) Γ μ Z :=
  wS_of (ps_for hp hc (pi_list pe_rd) pg_rd pss_rd hs) fun σ M F H bo rs r => by
  refine ((h σ M F H bo rs r).imp fun v H1 q => ?_)
  obtain ⟨x, F1, μ1, e1, r1, p1, p, ys, ex, hp1, I, i0, keepP, turn, done⟩ := q
  subst ex; rw [rep_loc] at p1; subst p1
  obtain ⟨_, ob, g1, vs, rfl, g2⟩ := r1.own p _ hp1
  refine ⟨p, rfl, ⟨vs, .inl (.inl g1)⟩, fun i m σ' H' => m = ys.length - i ∧ i ≤ ys.length ∧ QS X.K M F1 (I i) σ' H', ⟨ys.length, by simp, Nat.zero_le _, Γ, F1, μ1, .refl _, rs.mono e1, r1, i0⟩, ?_⟩
  rintro i m σ' H' ⟨rfl, hi, Γ', F', μ', e2, rs2, r2, q⟩
  have hpi := keepP i Γ' μ' q
  by_cases lt : i < ys.length
  · refine .inr ⟨own_go r2 hpi lt, fun σ3 H3 => QS X.K M F1 (I (i + 1)) σ3 H3, fun σ3 H3 q3 => ⟨ys.length - (i + 1), by omega, rfl, lt, q3⟩, fun x H3 yl => ?_⟩
    obtain ⟨rfl, y, hy, rp⟩ := own_yld r2 hpi lt yl
    refine (turn i y Γ' μ' hy q σ' M F' H3 x (bo.mono (e1.trans e2)) rs2 r2 rp).imp fun σ4 H4 q4 => ?_
    obtain ⟨Γ4, F4, μ4, e4, rs4, r4, q4⟩ := q4
    have eF : Ex F1 F4 := e2.trans e4
    exact (q4 σ4 M F4 H4 (bo.mono (e1.trans eF)) rs4 r4).imp (fun _ _ q => q.mono eF) (fun _ _ q => q.mono (e1.trans eF)) (fun _ _ q => q.mono (e1.trans eF)) (fun _ _ q => q.mono eF)
  · obtain rfl : i = ys.length := by omega
    exact .inl ⟨own_stop r2 hpi, Γ', F', μ', e1.trans e2, rs2, r2, done Γ' μ' q⟩
def lcAskO (B : Bs) (X : Cx) (scope : Scope) (tg iter elt : Expr) (ifs : List Expr) (vs : List Nat) (Γ : G) (μ : Mu) (Q : A → Mu → Prop) : Prop :=
  wE B X iter Γ μ fun x μ1 => ∃ q ys, x = .loc q ∧ μ1 q = some (.lst ys) ∧ ys.length ≤ sizeLine ∧ ∃ J : Nat → List A → Mu → Prop, J 0 [] μ1 ∧ (∀ i acc μ', J i acc μ' → μ' q = some (.lst ys)) ∧ lcTurns B X scope tg elt ifs vs Γ ys J ∧ ∀ acc μ', J ys.length acc μ' → ∀ p, μ' p = none → Q (.loc p) (μ'.upd p (.lst acc))
theorem lc_coreO {ifs : List Expr} (hi : ifs = [] ∨ ∃ c, ifs = [c]) (h : lcAskO B X scope tg iter elt ifs (own.map (·.2)) Γ μ Q) {σ : L2.St} {M F H : Hp} (bo : B.ok M F) (rs : RelS X.K Γ F σ) (r : Rel X.K μ M F H) :
    tLc (iList X.K (rdE X iter)) (bkG X scope tg) (bkT X scope ifs) (bkE X scope elt) (own.map (·.2)) σ H (QE X.K M F Q) := by
  generalize hvs : own.map (·.2) = vs at h
  refine (h σ M F H bo rs r).imp fun v H2 q => ?_
  obtain ⟨x, F1, μ1, e1, r1, p1, q0, ys, ex, hq1, hz, J, j0, keepP, turn, done⟩ := q
  subst ex; rw [rep_loc] at p1; subst p1
  obtain ⟨_, ob, g1, vs0, rfl, g2⟩ := r1.own q0 _ hq1
  refine ⟨q0, rfl, ⟨vs0, .inl (.inl g1)⟩, fun p np => ?_⟩
  obtain ⟨hM, rN⟩ := r1.frmNew (o := .lst []) np
  refine ⟨fun i m H' => m = ys.length - i ∧ i ≤ ys.length ∧ ∃ F' μ' acc ws, Ex F1 F' ∧ Rel X.K μ' (upd M p (.lst ws)) F' H' ∧ RepL X.K F' acc ws ∧ acc.length ≤ i ∧ J i acc μ', ⟨ys.length, by simp, Nat.zero_le _, F1, μ1, [], [], .refl _, rN, .nil, Nat.le_refl _, j0⟩, ?_⟩
  rintro i m H' ⟨rfl, hi', F', μ', acc, ws, e2, r2, ra, hl, q⟩
  have hpi := keepP i acc μ' q
  have rs' : RelS X.K (wipeA Γ vs) F' (wipe σ vs) := (wipeA_rel rs vs).mono (e1.trans e2)
  have bo' : B.ok (upd M p (.lst ws)) F' := (bo.up (.new hM)).mono (e1.trans e2)
  by_cases lt : i < ys.length
  · refine .inr ⟨own_go r2 hpi lt, fun H3 => ∃ F' μ' acc ws, Ex F1 F' ∧ Rel X.K μ' (upd M p (.lst ws)) F' H3 ∧ RepL X.K F' acc ws ∧ acc.length ≤ i + 1 ∧ J (i + 1) acc μ', fun H3 q3 => ⟨ys.length - (i + 1), by omega, rfl, lt, q3⟩, fun x H3 yl => ?_⟩
    obtain ⟨rfl, y, hy, rp⟩ := own_yld r2 hpi lt yl
    have e3 : Ex F' F' := .refl _
    have r3 := r2
    intro s0 H0 C cl fp'
    refine (turn i y acc μ' hy q s0 H0 C cl fp' (wipe σ vs) _ F' H3 x bo' rs' r3 rp).imp fun σ4 H4 q4 => ?_
    obtain ⟨w4, Γ4, F4, μ4, e4, rs4, r4, q4⟩ := q4
    rw [hvs] at *
    have w5 : wipe σ4 vs = wipe σ vs := w4.trans (wipe_wipe vs fun _ h => h)
    refine ⟨w5, ?_⟩
    have elem : ∀ {F5 : Hp} {μ5 : Mu} {H5 : Hp}, Ex F4 F5 → Rel X.K μ5 (upd M p (.lst ws)) F5 H5 → (∀ s0 H0 C cl fp, wE B (bk X scope s0 H0 C cl fp) elt Γ4 μ5 fun z μ6 => J (i + 1) (acc ++ [z]) μ6) →
        bkE X scope elt σ4 H5 fun y H6 => ∃ acc', H6 p = some (.lst acc') ∧ acc'.length < sizeLine ∧ ∃ F' μ' acc ws, Ex F1 F' ∧ Rel X.K μ' (upd M p (.lst ws)) F' (upd H6 p (.lst (acc' ++ [y]))) ∧ RepL X.K F' acc ws ∧ acc.length ≤ i + 1 ∧ J (i + 1) acc μ' := by
      intro F5 μ5 H5 e5 r5 hE s0 H0 C cl fp6
      refine (hE s0 H0 C cl fp6 σ4 _ F5 H5 (bo'.mono ((e3.trans e4).trans e5)) (rs4.mono e5) r5).imp fun z6 H6 ⟨z, F6, μ6, e6, r6, p6, q6⟩ => ?_
      obtain ⟨_, _, hp6⟩ := r6.frm p _ upd_same
      have ex := ((e3.trans e4).trans e5).trans e6
      refine ⟨ws, hp6, by rw [ra.len]; omega, F6, μ6, acc ++ [z], ws ++ [z6], e2.trans ex, r6.frmWrite, (ra.mono ex).snoc p6, by simp; omega, q6⟩
    rcases hi with rfl | ⟨c, rfl⟩
    · have k := elem (.refl _) r4 q4
      simp only [bkT, tYes, if_true]
      exact k
    · intro s0 H0 C cl fp6
      refine (q4 s0 H0 C cl fp6 σ4 _ F4 H4 (bo'.mono (e3.trans e4)) rs4 r4).imp fun k H5 ⟨F5, μ5, e5, r5, k1, k2⟩ => ?_
      cases k with
      | true => exact iteT (elem e5 r5 (k1 rfl))
      | false => exact iteF ⟨F5, μ5, acc, ws, (e2.trans (e3.trans e4)).trans e5, r5, ra.mono ((e3.trans e4).trans e5), by omega, k2 rfl⟩
  · obtain rfl : i = ys.length := by omega
    obtain ⟨nμ, rO⟩ := r2.frmOut (m := .lst acc) hM ⟨ws, rfl, ra⟩
    exact .inl ⟨own_stop r2 hpi, .loc p, F', _, e1.trans e2, rO, rep_loc.mpr rfl, done acc μ' q p nμ⟩
theorem wE_lcO (own : List (Str × Nat)) (h : lcAskO B X scope tg iter elt ifs (own.map (·.2)) Γ μ Q) (hN : X.N.Nodup) (ok : BlkOk X.N X.env.scope scope own) (hi : ifs = [] ∨ ∃ c, ifs = [c] := by first | exact .inl rfl | exact .inr ⟨_, rfl⟩) (hc : X.calm = true := by rfl) (hs : ∀ x, foldedSetIterable iter X.env x = pure x := by intro _; rfl) :
    wE B X (.ListComp elt [⟨tg, iter, ifs, 0⟩] scope pos) Γ μ Q :=
  wE_of (pe_lc (own := own) hc hN (pi_list pe_rd) ok (fun s0 H0 C cl fp => bkG_pg s0 H0 C cl fp) (bk_pts hi) (fun s0 H0 C cl fp => bkE_pe s0 H0 C cl fp) hs) fun σ M F H bo rs r => lc_coreO hi h bo rs r
theorem wS_setLcO (own : List (Str × Nat)) (i : Nat) {y : Str} {py spos : Pos} (h : lcAskO B X scope tg iter elt ifs (own.map (·.2)) Γ μ fun z μ1 => Z.nx (Γ.set i (some z)) μ1) (hN : X.N.Nodup) (ok : BlkOk X.N X.env.scope scope own)
    (hsw : swapsWith (.ListComp elt [⟨tg, iter, ifs, 0⟩] scope pos) (some (.Name y py)) spos.line X.env = pure true)
    (hi : ifs = [] ∨ ∃ c, ifs = [c] := by first | exact .inl rfl | exact .inr ⟨_, rfl⟩) (hc : X.calm = true := by rfl) (hy : X.N[i]? = some y := by rfl) (hyl : X.env.scope.names.lookup y = some .local := by rfl) (hs : ∀ x, foldedSetIterable iter X.env x = pure x := by intro _; rfl) :
    wS B X (.Assign [.Name y py] (.ListComp elt [⟨tg, iter, ifs, 0⟩] scope pos) spos) Γ μ Z :=
  wS_of (ps_setLc (own := own) hc hN hy hyl hsw (pi_list pe_rd) ok (fun s0 H0 C cl fp => bkG_pg s0 H0 C cl fp) (bk_pts hi) (fun s0 H0 C cl fp => bkE_pe s0 H0 C cl fp) hs) fun σ M F H bo rs r => by
  have k := lc_coreO hi h bo rs r
  refine k.imp fun v H2 q => ?_
  obtain ⟨q0, e0, k0, q⟩ := q
  refine ⟨q0, e0, k0, fun p np => ?_⟩
  obtain ⟨W, w0, turn⟩ := q p np
  refine ⟨W, w0, fun i' m H' w => ?_⟩
  rcases turn i' m H' w with ⟨st, q⟩ | q
  · refine .inl ⟨st, ?_⟩
    obtain ⟨x, F', μ', ex, rl, rp, q⟩ := q
    exact ⟨_, F', μ', ex, (rs.mono ex).set rp, rl, q⟩
  · exact .inr q
theorem lcMapO {vs : List Nat} (h : wE B X iter Γ μ fun x μ1 => ∃ q ys, x = .loc q ∧ μ1 q = some (.lst ys) ∧ ys.length ≤ sizeLine ∧ ∃ zs : List A, zs.length = ys.length ∧
      (∀ (i : Nat) y z, ys[i]? = some y → zs[i]? = some z → ∀ s0 H0 C cl fp, wGw B (bk X scope s0 H0 C cl fp) tg vs y (wipeA Γ vs) μ1 fun Γ2 μ2 => μ2 = μ1 ∧ ∀ s0 H0 C cl fp, vE B (bk X scope s0 H0 C cl fp) elt Γ2 μ1 z) ∧
      ∀ p : Addr, μ1 p = none → Q (.loc p) (μ1.upd p (.lst zs))) : lcAskO B X scope tg iter elt [] vs Γ μ Q := wE.imp h fun x μ1 ⟨q, ys, ex, hq, hz, zs, hl, turn, done⟩ => by
  refine ⟨q, ys, ex, hq, hz, fun i acc μ' => acc = zs.take i ∧ μ' = μ1, ⟨by simp, rfl⟩, fun i acc μ' ⟨_, e⟩ => by rw [e]; exact hq, ?_, ?_⟩
  · rintro i y acc _ hy ⟨ea, rfl⟩ s0 H0 C cl fp'
    have hi : i < zs.length := by rw [hl]; exact (List.getElem?_eq_some_iff.mp hy).1
    have t := turn i y zs[i] hy (List.getElem?_eq_getElem hi) s0 H0 C cl fp'
    intro σ3 M3 F3 H3 v3 bo3 rs3 r3 rp3
    refine (t σ3 M3 F3 H3 v3 bo3 rs3 r3 rp3).imp fun σ4 H4 ⟨w4, Γ4, F4, μ4, e4, rs4, r4, em, q4⟩ => ⟨w4, Γ4, F4, μ4, e4, rs4, r4, ?_⟩
    subst em
    intro s0 H0 C cl fp6
    refine (q4 s0 H0 C cl fp6).use ⟨?_, rfl⟩
    rw [ea, List.take_succ, List.getElem?_eq_getElem hi]; rfl
  · rintro acc _ ⟨ea, rfl⟩ p np
    rw [ea, ← hl, List.take_length]
    exact done p np
theorem lcPickO {vs : List Nat} (h : wE B X iter Γ μ fun x μ1 => ∃ q ys, x = .loc q ∧ μ1 q = some (.lst ys) ∧ ys.length ≤ sizeLine ∧ ∃ (ks : List Bool) (zs : List A), ks.length = ys.length ∧ zs.length = ys.length ∧
      (∀ (i : Nat) y k z, ys[i]? = some y → ks[i]? = some k → zs[i]? = some z → ∀ s0 H0 C cl fp, wGw B (bk X scope s0 H0 C cl fp) tg vs y (wipeA Γ vs) μ1 fun Γ2 μ2 => μ2 = μ1 ∧ (∀ s0 H0 C cl fp, vT B (bk X scope s0 H0 C cl fp) c Γ2 μ1 k) ∧ (k = true → ∀ s0 H0 C cl fp, vE B (bk X scope s0 H0 C cl fp) elt Γ2 μ1 z)) ∧
      ∀ p : Addr, μ1 p = none → Q (.loc p) (μ1.upd p (.lst (pickA ks zs)))) : lcAskO B X scope tg iter elt [c] vs Γ μ Q := wE.imp h fun x μ1 ⟨q, ys, ex, hq, hz, ks, zs, hk, hl, turn, done⟩ => by
  refine ⟨q, ys, ex, hq, hz, fun i acc μ' => acc = pickA (ks.take i) (zs.take i) ∧ μ' = μ1, ⟨by simp [pickA], rfl⟩, fun i acc μ' ⟨_, e⟩ => by rw [e]; exact hq, ?_, ?_⟩
  · rintro i y acc _ hy ⟨ea, rfl⟩ s0 H0 C cl fp'
    have hy' := (List.getElem?_eq_some_iff.mp hy).1
    have hi : i < zs.length := by rw [hl]; exact hy'
    have hi' : i < ks.length := by rw [hk]; exact hy'
    have t := turn i y ks[i] zs[i] hy (List.getElem?_eq_getElem hi') (List.getElem?_eq_getElem hi) s0 H0 C cl fp'
    have en : pickA (ks.take (i + 1)) (zs.take (i + 1)) = acc ++ (if ks[i] then [zs[i]] else []) := by
      rw [ea, List.take_succ, List.take_succ, List.getElem?_eq_getElem hi, List.getElem?_eq_getElem hi']
      exact pickA_snoc _ _ _ _ (by simp; omega)
    intro σ3 M3 F3 H3 v3 bo3 rs3 r3 rp3
    refine (t σ3 M3 F3 H3 v3 bo3 rs3 r3 rp3).imp fun σ4 H4 ⟨w4, Γ4, F4, μ4, e4, rs4, r4, em, q4, q5⟩ => ⟨w4, Γ4, F4, μ4, e4, rs4, r4, ?_⟩
    subst em
    intro s0 H0 C cl fp6
    refine (q4 s0 H0 C cl fp6).use ⟨fun kt s0 H0 C cl fp7 => (q5 kt s0 H0 C cl fp7).use ⟨?_, rfl⟩, fun kf => ⟨?_, rfl⟩⟩
    · rw [en, kt]; rfl
    · rw [en, kf]; simp
  · rintro acc _ ⟨ea, rfl⟩ p np
    rw [ea, ← hl, List.take_length, hl, ← hk, List.take_length]
    exact done p np
/-- .. the list for good -/
theorem wE_lcFO (own : List (Str × Nat)) (h : wE B X iter Γ μ fun x μ1 => ∃ q ys, x = .loc q ∧ μ1 q = some (.lst ys) ∧ ys.length ≤ sizeLine ∧ ∃ zs : List A, zs.length = ys.length ∧
      (∀ (i : Nat) y z, ys[i]? = some y → zs[i]? = some z → ∀ s0 H0 C cl fp, wGw B (bk X scope s0 H0 C cl fp) tg (own.map (·.2)) y (wipeA Γ (own.map (·.2))) μ1 fun Γ2 μ2 => μ2 = μ1 ∧ ∀ s0 H0 C cl fp, vE B (bk X scope s0 H0 C cl fp) elt Γ2 μ1 z) ∧ Q (.lst zs) μ1)
    (hN : X.N.Nodup) (ok : BlkOk X.N X.env.scope scope own) (hc : X.calm = true := by rfl) (hs : ∀ x, foldedSetIterable iter X.env x = pure x := by intro _; rfl) : wE B X (.ListComp elt [⟨tg, iter, [], 0⟩] scope pos) Γ μ Q :=
  wE_frz (wE_lcO own (lcMapO (wE.imp h fun x μ1 ⟨q, ys, ex, hq, hz, zs, hl, turn, done⟩ => ⟨q, ys, ex, hq, hz, zs, hl, turn, fun p np => ⟨p, zs, rfl, Mu.upd_same, by rw [Mu.del_upd np]; exact done⟩⟩)) hN ok (.inl rfl) hc hs)
theorem wE_lcPFO (own : List (Str × Nat)) (h : wE B X iter Γ μ fun x μ1 => ∃ q ys, x = .loc q ∧ μ1 q = some (.lst ys) ∧ ys.length ≤ sizeLine ∧ ∃ (ks : List Bool) (zs : List A), ks.length = ys.length ∧ zs.length = ys.length ∧
      (∀ (i : Nat) y k z, ys[i]? = some y → ks[i]? = some k → zs[i]? = some z → ∀ s0 H0 C cl fp, wGw B (bk X scope s0 H0 C cl fp) tg (own.map (·.2)) y (wipeA Γ (own.map (·.2))) μ1 fun Γ2 μ2 => μ2 = μ1 ∧ (∀ s0 H0 C cl fp, vT B (bk X scope s0 H0 C cl fp) c Γ2 μ1 k) ∧ (k = true → ∀ s0 H0 C cl fp, vE B (bk X scope s0 H0 C cl fp) elt Γ2 μ1 z)) ∧ Q (.lst (pickA ks zs)) μ1)
    (hN : X.N.Nodup) (ok : BlkOk X.N X.env.scope scope own) (hc : X.calm = true := by rfl) (hs : ∀ x, foldedSetIterable iter X.env x = pure x := by intro _; rfl) : wE B X (.ListComp elt [⟨tg, iter, [c], 0⟩] scope pos) Γ μ Q :=
  wE_frz (wE_lcO own (lcPickO (wE.imp h fun x μ1 ⟨q, ys, ex, hq, hz, ks, zs, hk, hl, turn, done⟩ => ⟨q, ys, ex, hq, hz, ks, zs, hk, hl, turn, fun p np => ⟨p, _, rfl, Mu.upd_same, by rw [Mu.del_upd np]; exact done⟩⟩)) hN ok (.inr ⟨_, rfl⟩) hc hs)
theorem wS_setLcFO (own : List (Str × Nat)) (i : Nat) {y : Str} {py spos : Pos} (h : wE B X iter Γ μ fun x μ1 => ∃ q ys, x = .loc q ∧ μ1 q = some (.lst ys) ∧ ys.length ≤ sizeLine ∧ ∃ zs : List A, zs.length = ys.length ∧
      (∀ (i : Nat) y z, ys[i]? = some y → zs[i]? = some z → ∀ s0 H0 C cl fp, wGw B (bk X scope s0 H0 C cl fp) tg (own.map (·.2)) y (wipeA Γ (own.map (·.2))) μ1 fun Γ2 μ2 => μ2 = μ1 ∧ ∀ s0 H0 C cl fp, vE B (bk X scope s0 H0 C cl fp) elt Γ2 μ1 z) ∧ Z.nx (Γ.set i (some (.lst zs))) μ1)
    (hN : X.N.Nodup) (ok : BlkOk X.N X.env.scope scope own) (hsw : swapsWith (.ListComp elt [⟨tg, iter, [], 0⟩] scope pos) (some (.Name y py)) spos.line X.env = pure true) (hl : i < Γ.length := by exact Nat.le_of_ble_eq_true rfl)
    (hc : X.calm = true := by rfl) (hy : X.N[i]? = some y := by rfl) (hyl : X.env.scope.names.lookup y = some .local := by rfl) (hs : ∀ x, foldedSetIterable iter X.env x = pure x := by intro _; rfl) :
    wS B X (.Assign [.Name y py] (.ListComp elt [⟨tg, iter, [], 0⟩] scope pos) spos) Γ μ Z :=
  wS_frzNx i (wS_setLcO own i (lcMapO (wE.imp h fun x μ1 ⟨q, ys, ex, hq, hz, zs, hzl, turn, done⟩ => ⟨q, ys, ex, hq, hz, zs, hzl, turn, fun p np => ⟨p, zs, by rw [List.getElem?_set_self hl], Mu.upd_same, by rw [Mu.del_upd np, List.set_set]; exact done⟩⟩)) hN ok hsw (.inl rfl) hc hy hyl hs)
theorem wS_setLcPFO (own : List (Str × Nat)) (i : Nat) {y : Str} {py spos : Pos} (h : wE B X iter Γ μ fun x μ1 => ∃ q ys, x = .loc q ∧ μ1 q = some (.lst ys) ∧ ys.length ≤ sizeLine ∧ ∃ (ks : List Bool) (zs : List A), ks.length = ys.length ∧ zs.length = ys.length ∧
      (∀ (i : Nat) y k z, ys[i]? = some y → ks[i]? = some k → zs[i]? = some z → ∀ s0 H0 C cl fp, wGw B (bk X scope s0 H0 C cl fp) tg (own.map (·.2)) y (wipeA Γ (own.map (·.2))) μ1 fun Γ2 μ2 => μ2 = μ1 ∧ (∀ s0 H0 C cl fp, vT B (bk X scope s0 H0 C cl fp) c Γ2 μ1 k) ∧ (k = true → ∀ s0 H0 C cl fp, vE B (bk X scope s0 H0 C cl fp) elt Γ2 μ1 z)) ∧ Z.nx (Γ.set i (some (.lst (pickA ks zs)))) μ1)
    (hN : X.N.Nodup) (ok : BlkOk X.N X.env.scope scope own) (hsw : swapsWith (.ListComp elt [⟨tg, iter, [c], 0⟩] scope pos) (some (.Name y py)) spos.line X.env = pure true) (hl : i < Γ.length := by exact Nat.le_of_ble_eq_true rfl)
    (hc : X.calm = true := by rfl) (hy : X.N[i]? = some y := by rfl) (hyl : X.env.scope.names.lookup y = some .local := by rfl) (hs : ∀ x, foldedSetIterable iter X.env x = pure x := by intro _; rfl) :
    wS B X (.Assign [.Name y py] (.ListComp elt [⟨tg, iter, [c], 0⟩] scope pos) spos) Γ μ Z :=
  wS_frzNx i (wS_setLcO own i (lcPickO (wE.imp h fun x μ1 ⟨q, ys, ex, hq, hz, ks, zs, hk, hzl, turn, done⟩ => ⟨q, ys, ex, hq, hz, ks, zs, hk, hzl, turn, fun p np => ⟨p, _, by rw [List.getElem?_set_self hl], Mu.upd_same, by rw [Mu.del_upd np, List.set_set]; exact done⟩⟩)) hN ok hsw (.inr ⟨_, rfl⟩) hc hy hyl hs)
end
end D

set_option Elab.async false
set_option linter.all false
set_option maxRecDepth 100000
set_option maxHeartbeats 4000000
/-! DAA: small things of use. -/
namespace D
open PySem PySem.Spec PyProof.Rows L2
theorem log2_lt {i : Int} {k : Nat} (h : i.natAbs < 2 ^ k) (hk : 0 < k) : i.natAbs.log2 < k := by
  by_cases z : i.natAbs = 0
  · rw [z]; simpa using hk
  · exact (Nat.log2_lt z).mpr h
theorem cutA_mem {xs : List A} {lo hi : Option Int} {x : A} (h : x ∈ cutA xs lo hi) : x ∈ xs := by
  unfold cutA at h
  exact List.mem_of_mem_drop (List.mem_of_mem_take h)
theorem cutA_len (xs : List A) (lo hi : Option Int) : (cutA xs lo hi).length ≤ xs.length := by
  unfold cutA; rw [List.length_take, List.length_drop]; omega
theorem cutA_take (xs : List A) {k : Int} (h : 0 ≤ k) : cutA xs none (some k) = xs.take k.toNat := by
  unfold cutA
  have e : HT.sIx xs.length xs.length (some k) = min k.toNat xs.length := by
    have := HT.sIx_nat xs.length xs.length k.toNat
    rwa [show ((k.toNat : Nat) : Int) = k by omega] at this
  rw [e]
  show (xs.drop 0).take (min k.toNat xs.length - 0) = _
  rw [List.drop_zero, Nat.sub_zero]
  rcases Nat.le_total k.toNat xs.length with h1 | h1
  · rw [Nat.min_eq_left h1]
  · rw [Nat.min_eq_right h1, List.take_of_length_le h1, List.take_of_length_le (Nat.le_refl _)]
theorem cutA_drop (xs : List A) {k : Int} (h : 0 ≤ k) : cutA xs (some k) none = xs.drop k.toNat := by
  unfold cutA
  have e : HT.sIx xs.length 0 (some k) = min k.toNat xs.length := by
    have := HT.sIx_nat xs.length 0 k.toNat
    rwa [show ((k.toNat : Nat) : Int) = k by omega] at this
  rw [e]
  show (xs.drop (min k.toNat xs.length)).take (xs.length - min k.toNat xs.length) = _
  rcases Nat.le_total k.toNat xs.length with h1 | h1
  · rw [Nat.min_eq_left h1, List.take_of_length_le (by simp)]
  · rw [Nat.min_eq_right h1, List.drop_of_length_le (Nat.le_refl _), List.drop_of_length_le h1]; simp
theorem atI_mem {xs : List A} {i : Int} (h0 : 0 ≤ i) (h1 : i < xs.length) : ∃ y ∈ xs, atI xs i = some y := by
  have h : i.toNat < xs.length := by omega
  exact ⟨xs[i.toNat], List.getElem_mem h, atI_pos (List.getElem?_eq_getElem h) h0⟩
/-- an item of a list, of a tuple, whichever it is -/
theorem wI_lstEx {X : Cx} {μ : Mu} {Q : A → Mu → Prop} {xs : List A} {i : Int} (h0 : 0 ≤ i) (h1 : i < xs.length) (q : ∀ y ∈ xs, Q y μ) : wI X (.lst xs) (.int i) μ Q := by
  obtain ⟨y, hy, e⟩ := atI_mem h0 h1
  exact wI_lst e (q y hy)
theorem wI_tupEx {X : Cx} {μ : Mu} {Q : A → Mu → Prop} {xs : List A} {i : Int} (h0 : 0 ≤ i) (h1 : i < xs.length) (q : ∀ y ∈ xs, Q y μ) : wI X (.tup xs) (.int i) μ Q := by
  obtain ⟨y, hy, e⟩ := atI_mem h0 h1
  exact wI_tup e (q y hy)
/-! ### what stands but for some cells -/
def Ke (S : List Addr) (μ μ' : Mu) : Prop := ∀ q o, q ∉ S → μ q = some o → μ' q = some o
section
variable {S T : List Addr} {μ μ1 μ2 : Mu} {p : Addr} {o : MO}
theorem Ke.refl (S : List Addr) (μ : Mu) : Ke S μ μ := fun _ _ _ h => h
theorem Ke.trans (a : Ke S μ μ1) (b : Ke S μ1 μ2) : Ke S μ μ2 := fun q o h e => b q o h (a q o h e)
theorem Ke.mono (a : Ke S μ μ1) (h : ∀ x ∈ S, x ∈ T) : Ke T μ μ1 := fun q o n e => a q o (fun z => n (h q z)) e
theorem Ke.upd (h : p ∈ S) : Ke S μ (μ.upd p o) := fun q u n e => by
  have hq : q ≠ p := by rintro rfl; exact n h
  rw [Mu.upd_ne hq]; exact e
theorem Ke.put (a : Ke S μ μ1) (h : p ∈ S) : Ke S μ (μ1.upd p o) := a.trans (.upd h)
theorem Ke.sub (s : Sub μ μ1) : Ke S μ μ1 := fun q o _ e => s q o e
/-- a new cell needn't be told -/
theorem Ke.new (n : μ p = none) (a : Ke (p :: S) (μ.upd p o) μ1) : Ke S μ μ1 := fun q u h e => by
  have hq : q ≠ p := fun z => by rw [z, n] at e; cases e
  exact a q u (by simp [hq, h]) (by rw [Mu.upd_ne hq]; exact e)
theorem Ke.drop (n : μ p = none) (a : Ke (p :: S) μ μ1) : Ke S μ μ1 := fun q u h e => by
  have hq : q ≠ p := fun z => by rw [z, n] at e; cases e
  exact a q u (by simp [hq, h]) e
theorem Ke.all (h : ∀ p ∈ S, μ p = none) (a : Ke S μ μ1) : Sub μ μ1 := fun q o e => a q o (fun z => by rw [h q z] at e; cases e) e
end
/-! ### names to whole numbers, as a dict -/
abbrev Nm := List (Str × Int)
def putI (N : Nm) (w : Str) (n : Int) : Nm := if N.any (fun p => decide (p.1 = w)) = true then N.map (fun p => if p.1 = w then (p.1, n) else p) else N ++ [(w, n)]
theorem putA_PkI (N : Nm) (w : Str) (n : Int) : putA (Pk N) (.inr w) (.int n) = Pk (putI N w n) := by
  unfold putA putI
  have e : ((Pk N).any fun kv => decide (kv.1 = (.inr w : Key))) = N.any fun p => decide (p.1 = w) := by
    rw [List.any_map]
    congr 1
    funext p
    simp
  rw [e]
  split
  · show (N.map fun p => ((.inr p.1 : Key), A.int p.2)).map _ = (N.map _).map _
    rw [List.map_map, List.map_map]
    refine List.map_congr_left fun p _ => ?_
    simp only [Function.comp, Sum.inr.injEq]
    split <;> rfl
  · simp
theorem valI_put_same (N : Nm) (w : Str) (n : Int) : valI (putI N w n) w = some n := by
  unfold putI
  split
  · rename_i h
    obtain ⟨p, hp, e⟩ := List.any_eq_true.mp h
    clear h
    unfold valI
    induction N with
    | nil => cases hp
    | cons a N ih =>
      rw [List.map_cons, List.find?_cons]
      by_cases ha : a.1 = w
      · rw [if_pos ha]; simp [ha]
      · rw [if_neg ha]
        simp only [ha, decide_false]
        rcases List.mem_cons.mp hp with rfl | hp
        · exact absurd (of_decide_eq_true e) ha
        · exact ih hp
  · rename_i h
    have h2 : ∀ p ∈ N, ¬ p.1 = w := fun p hp z => h (List.any_eq_true.mpr ⟨p, hp, by simp [z]⟩)
    unfold valI
    rw [List.find?_append, List.find?_eq_none.mpr (fun p hp => by simpa using h2 p hp)]
    simp
theorem valI_put_ne (N : Nm) {w x : Str} (n : Int) (h : x ≠ w) : valI (putI N w n) x = valI N x := by
  unfold putI
  split
  · rename_i h0
    clear h0
    unfold valI
    induction N with
    | nil => rfl
    | cons a N ih =>
      rw [List.map_cons, List.find?_cons, List.find?_cons]
      by_cases ha : a.1 = w
      · rw [if_pos ha]
        have h3 : ¬ a.1 = x := fun z => h (z.symm.trans ha)
        simp only [h3, decide_false]
        exact ih
      · rw [if_neg ha]
        by_cases hx : a.1 = x
        · simp [hx]
        · simp only [hx, decide_false]
          exact ih
  · unfold valI
    rw [List.find?_append]
    cases e : N.find? (fun kv => decide (kv.1 = x)) with
    | some p => simp
    | none => simp [Ne.symm h]
theorem putI_len (N : Nm) (w : Str) (n : Int) : (putI N w n).length ≤ N.length + 1 := by
  unfold putI
  split
  · rw [List.length_map]; omega
  · rw [List.length_append]; simp
end D

set_option Elab.async false
set_option linter.all false
set_option maxRecDepth 100000
set_option maxHeartbeats 4000000
/-! P10: a program written straight: its rows, its deeds, as plain data (no program in sight). -/
namespace D
open PySem PySem.Spec PyProof.Rows L2
/-- the rows so far, the deeds so far -/
structure Gs where
  rows : List A
  deeds : Nat
/-- .. one deed more -/
def Gs.more (s : Gs) : Gs := { s with deeds := s.deeds + 1 }
/-- .. one row more -/
def Gs.put (s : Gs) (w : Str) (ps : List A) (m : A) : Gs := { s with rows := s.rows ++ [.tup [.str w, .tup ps, m]] }
def Gs.at (s : Gs) : Int := (s.rows.length : Nat)
/-- within both bounds -/
def Gs.good (s : Gs) : Prop := s.rows.length ≤ 5000 ∧ s.deeds ≤ 20000
/-- t comes behind s -/
structure Gs.le (s t : Gs) : Prop where
  rows : ∃ l, t.rows = s.rows ++ l
  deeds : s.deeds ≤ t.deeds
theorem Gs.le.refl (s : Gs) : s.le s := ⟨⟨[], by simp⟩, Nat.le_refl _⟩
theorem Gs.le.trans {s t u : Gs} (a : s.le t) (b : t.le u) : s.le u := by
  obtain ⟨⟨l, e1⟩, h1⟩ := a
  obtain ⟨⟨m, e2⟩, h2⟩ := b
  exact ⟨⟨l ++ m, by rw [e2, e1, List.append_assoc]⟩, Nat.le_trans h1 h2⟩
theorem Gs.le.good {s t : Gs} (h : s.le t) (g : t.good) : s.good := by
  obtain ⟨⟨l, e⟩, h⟩ := h
  obtain ⟨g1, g2⟩ := g
  rw [e, List.length_append] at g1
  exact ⟨by omega, by omega⟩
theorem Gs.le_more (s : Gs) : s.le s.more := ⟨⟨[], by simp [Gs.more]⟩, Nat.le_succ _⟩
theorem Gs.le_put (s : Gs) (w : Str) (ps : List A) (m : A) : s.le (s.put w ps m) := ⟨⟨_, rfl⟩, Nat.le_refl _⟩
/-! ### things have places -/
def plF (N : Nm) (s : Gs) : A → Int × Gs
  | .str w => ((valI N w).getD 0, s)
  | x => (s.at, s.put "number" [] x)
def plsF (N : Nm) : Gs → List A → List Int × Gs
  | s, [] => ([], s)
  | s, x :: xs => ((plF N s x).1 :: (plsF N (plF N s x).2 xs).1, (plsF N (plF N s x).2 xs).2)
theorem plF_le (N : Nm) (s : Gs) (x : A) : s.le (plF N s x).2 := by
  unfold plF
  split
  · exact .refl s
  · exact s.le_put ..
theorem plsF_le (N : Nm) : ∀ (xs : List A) (s : Gs), s.le (plsF N s xs).2
  | [], s => .refl s
  | x :: xs, s => (plF_le N s x).trans (plsF_le N xs _)
theorem plsF_len (N : Nm) : ∀ (xs : List A) (s : Gs), (plsF N s xs).1.length = xs.length
  | [], _ => rfl
  | x :: xs, s => by simp only [plsF, List.length_cons, plsF_len N xs]
theorem plsF_snoc (N : Nm) (x : A) : ∀ (xs : List A) (s : Gs), plsF N s (xs ++ [x]) = ((plsF N s xs).1 ++ [(plF N (plsF N s xs).2 x).1], (plF N (plsF N s xs).2 x).2)
  | [], s => rfl
  | y :: xs, s => by simp only [List.cons_append, plsF, plsF_snoc N x xs]
theorem plsF_app_le (N : Nm) (ys : List A) : ∀ (xs : List A) (s : Gs), (plsF N s xs).2.le (plsF N s (xs ++ ys)).2
  | [], s => plsF_le N ys s
  | x :: xs, s => plsF_app_le N ys xs _
/-! ### rows, bodies, parts -/
abbrev GoF := List It → Nm → Gs → Nm × Gs
def callF (ps : List Pt) (go : GoF) (c : Str) (is : List Int) (s : Gs) : Int × Gs :=
  match ps.find? fun p => decide (p.nm = c) with
  | none => (0, s)
  | some p => ((valI (go p.body (p.ins.zip is) s).1 p.give).getD 0, (go p.body (p.ins.zip is) s).2)
/-- what the place behind a row is -/
def behF (ps : List Pt) (go : GoF) (w : Str) (ts : List A) (N : Nm) (s : Gs) : Int × Gs :=
  if w = "power" then ((plsF N s (ts.take 1)).2.at, (plsF N s (ts.take 1)).2.put w ((plsF N s (ts.take 1)).1.map A.int) (ts.getD 1 .non))
  else if w = "call" then match ts with
    | .str c :: r => callF ps go c (plsF N s r).1 (plsF N s r).2
    | _ => (0, s)
  else if w = "copy" then ((plsF N s ts).1.headD 0, (plsF N s ts).2)
  else ((plsF N s ts).2.at, (plsF N s ts).2.put w ((plsF N s ts).1.map A.int) .non)
/-- n times over -/
def timesF (f : Nm × Gs → Nm × Gs) : Nat → Nm × Gs → Nm × Gs
  | 0, st => st
  | n + 1, st => timesF f n (f st)
theorem timesF_snoc (f : Nm × Gs → Nm × Gs) : ∀ (n : Nat) (st : Nm × Gs), timesF f (n + 1) st = f (timesF f n st)
  | 0, _ => rfl
  | n + 1, st => timesF_snoc f n (f st)
def oneF (ps : List Pt) (go : GoF) (st : Nm × Gs) : It → Nm × Gs
  | .row x w ts => (putI st.1 x (behF ps go w ts st.1 st.2.more).1, (behF ps go w ts st.1 st.2.more).2)
  | .rep n b => timesF (fun st => go b st.1 st.2.more) n.toNat st
def goF (ps : List Pt) : Nat → GoF
  | 0, _, N, s => (N, s)
  | f + 1, b, N, s => b.foldl (oneF ps (goF ps f)) (N, s)
/-- all comes behind what was -/
def GoUp (go : GoF) : Prop := ∀ (b : List It) (N : Nm) (s : Gs), s.le (go b N s).2
theorem callF_le {ps : List Pt} {go : GoF} (h : GoUp go) (c : Str) (is : List Int) (s : Gs) : s.le (callF ps go c is s).2 := by
  unfold callF
  split
  · exact .refl s
  · exact h ..
theorem behF_le {ps : List Pt} {go : GoF} (h : GoUp go) (w : Str) (ts : List A) (N : Nm) (s : Gs) : s.le (behF ps go w ts N s).2 := by
  unfold behF
  split
  · exact (plsF_le N _ s).trans (Gs.le_put ..)
  · split
    · split
      · exact (plsF_le N _ s).trans (callF_le h ..)
      · exact .refl s
    · split
      · exact plsF_le N _ s
      · exact (plsF_le N _ s).trans (Gs.le_put ..)
theorem timesF_le {f : Nm × Gs → Nm × Gs} (h : ∀ st : Nm × Gs, st.2.le (f st).2) : ∀ (n : Nat) (st : Nm × Gs), st.2.le (timesF f n st).2
  | 0, st => .refl _
  | n + 1, st => (h st).trans (timesF_le h n _)
theorem oneF_le {ps : List Pt} {go : GoF} (h : GoUp go) (st : Nm × Gs) : ∀ i : It, st.2.le (oneF ps go st i).2
  | .row x w ts => st.2.le_more.trans (behF_le h ..)
  | .rep n b => timesF_le (fun st => st.2.le_more.trans (h b st.1 st.2.more)) _ st
theorem fold_le {ps : List Pt} {go : GoF} (h : GoUp go) : ∀ (b : List It) (st : Nm × Gs), st.2.le (b.foldl (oneF ps go) st).2
  | [], st => .refl _
  | i :: b, st => (oneF_le h st i).trans (fold_le h b _)
theorem goF_up (ps : List Pt) : ∀ f, GoUp (goF ps f)
  | 0 => fun b N s => .refl s
  | f + 1 => fun b N s => fold_le (goF_up ps f) b (N, s)
/-! ### what a body must be: f steps down are enough, T the names told ahead -/
def RowFit (ps : List Pt) (fits : List Str → List It → Prop) (T : List Str) (w : Str) (ts : List A) : Prop :=
  (w = "call" ∧ ∃ c r p, ts = .str c :: r ∧ ps.find? (fun p => decide (p.nm = c)) = some p ∧ r.length = p.ins.length ∧ p.ins.length ≤ 4 ∧ p.ins.Nodup ∧ fits p.ins p.body ∧ p.give ∈ toldIts p.body p.ins ∧ ∀ a ∈ r, ThOk T a) ∨
  (w = "power" ∧ ∃ a k, ts = [a, .int k] ∧ ThOk T a) ∨ (w ≠ "call" ∧ w ≠ "power" ∧ ts ≠ [] ∧ ts.length ≤ 1000 ∧ ∀ a ∈ ts, ThOk T a)
def fitOne (ps : List Pt) (fits : List Str → List It → Prop) (T : List Str) : It → Prop
  | .row _ w ts => RowFit ps fits T w ts
  | .rep n b => 1 ≤ n ∧ n ≤ 200 ∧ fits T b
def fitAll (one : List Str → It → Prop) : List Str → List It → Prop
  | _, [] => True
  | T, i :: r => one T i ∧ fitAll one (i.told T) r
def fitsF (ps : List Pt) : Nat → List Str → List It → Prop
  | 0, _, _ => False
  | f + 1, T, b => fitAll (fitOne ps (fitsF ps f)) T b
theorem fitAll_at {one : List Str → It → Prop} : ∀ {b : List It} {T : List Str} {i : Nat} {x : It}, fitAll one T b → b[i]? = some x → one (toldIts (b.take i) T) x
  | y :: b, T, 0, x, h, e => by simp at e; subst e; exact h.1
  | y :: b, T, i + 1, x, h, e => by
    have := fitAll_at (i := i) h.2 (by simpa using e)
    simpa [toldIts] using this
/-! ### every told name has a place -/
def HasN (N : Nm) (T : List Str) : Prop := ∀ w ∈ T, ∃ i, valI N w = some i
theorem HasN.put {N : Nm} {T : List Str} (h : HasN N T) (x : Str) (i : Int) : HasN (putI N x i) (insT T x) := fun w hw => by
  by_cases e : w = x
  · subst e; exact ⟨i, valI_put_same N w i⟩
  · rw [valI_put_ne N i e]
    exact h w ((mem_insT.mp hw).resolve_right e)
theorem HasN.mono {N : Nm} {T T' : List Str} (h : HasN N T) (s : ∀ w ∈ T', w ∈ T) : HasN N T' := fun w hw => h w (s w hw)
mutual
theorem told_up : ∀ (i : It) (T : List Str), ∀ w ∈ T, w ∈ i.told T
  | .row x _ _, T, w, hw => by simp only [It.told]; exact mem_insT.mpr (.inl hw)
  | .rep _ b, T, w, hw => by simp only [It.told]; exact tolds_up b T w hw
theorem tolds_up : ∀ (b : List It) (T : List Str), ∀ w ∈ T, w ∈ toldIts b T
  | [], T, w, hw => hw
  | i :: r, T, w, hw => by simp only [toldIts]; exact tolds_up r _ w (told_up i T w hw)
end
mutual
theorem told_mono : ∀ (i : It) (T U : List Str), (∀ w ∈ T, w ∈ U) → ∀ w ∈ i.told T, w ∈ i.told U
  | .row x _ _, T, U, h, w, hw => by
    simp only [It.told] at hw ⊢
    exact mem_insT.mpr ((mem_insT.mp hw).imp (h w) id)
  | .rep _ b, T, U, h, w, hw => by simp only [It.told] at hw ⊢; exact tolds_mono b T U h w hw
theorem tolds_mono : ∀ (b : List It) (T U : List Str), (∀ w ∈ T, w ∈ U) → ∀ w ∈ toldIts b T, w ∈ toldIts b U
  | [], T, U, h, w, hw => h w hw
  | i :: r, T, U, h, w, hw => by simp only [toldIts] at hw ⊢; exact tolds_mono r _ _ (told_mono i T U h) w hw
end
theorem times_has {f : Nm × Gs → Nm × Gs} {T : List Str} (h : ∀ st, HasN st.1 T → HasN (f st).1 T) : ∀ (n : Nat) (st : Nm × Gs), HasN st.1 T → HasN (timesF f n st).1 T
  | 0, _, k => k
  | n + 1, st, k => times_has h n _ (h st k)
/-- behind a body all it tells has places -/
def GoHas (go : GoF) (fits : List Str → List It → Prop) : Prop := ∀ (b : List It) (N : Nm) (s : Gs) (T : List Str), fits T b → HasN N T → HasN (go b N s).1 (toldIts b T)
theorem one_has {ps : List Pt} {go : GoF} {fits : List Str → List It → Prop} (h : GoHas go fits) {T : List Str} (st : Nm × Gs) (k : HasN st.1 T) : ∀ i : It, fitOne ps fits T i → HasN (oneF ps go st i).1 (i.told T)
  | .row x w ts, _ => k.put x _
  | .rep n b, hf => by
    obtain ⟨h1, h2, hf⟩ := hf
    obtain ⟨m, hm⟩ : ∃ m, n.toNat = m + 1 := ⟨n.toNat - 1, by omega⟩
    simp only [oneF, It.told, hm, timesF]
    refine times_has (fun st q => ?_) m _ (h b _ _ T hf k)
    exact (h b st.1 _ T hf (q.mono (tolds_up b T)))
theorem fold_has {ps : List Pt} {go : GoF} {fits : List Str → List It → Prop} (h : GoHas go fits) : ∀ (b : List It) (T : List Str) (st : Nm × Gs), HasN st.1 T → fitAll (fitOne ps fits) T b → HasN (b.foldl (oneF ps go) st).1 (toldIts b T)
  | [], _, _, k, _ => k
  | i :: b, T, st, k, hf => fold_has h b _ _ (one_has h st k i hf.1) hf.2
theorem goF_has (ps : List Pt) : ∀ f, GoHas (goF ps f) (fitsF ps f)
  | 0 => fun _ _ _ _ h _ => h.elim
  | f + 1 => fun b N s T h k => fold_has (goF_has ps f) b T (N, s) k h
/-! ### the dict of names grows by the deeds -/
def GoLen (go : GoF) : Prop := ∀ (b : List It) (N : Nm) (s : Gs) (c : Nat), N.length ≤ c + s.deeds → (go b N s).1.length ≤ c + (go b N s).2.deeds
theorem times_len {f : Nm × Gs → Nm × Gs} {c : Nat} (h : ∀ st : Nm × Gs, st.1.length ≤ c + st.2.deeds → (f st).1.length ≤ c + (f st).2.deeds) : ∀ (n : Nat) (st : Nm × Gs), st.1.length ≤ c + st.2.deeds → (timesF f n st).1.length ≤ c + (timesF f n st).2.deeds
  | 0, _, k => k
  | n + 1, st, k => times_len h n _ (h st k)
theorem one_len {ps : List Pt} {go : GoF} (up : GoUp go) (h : GoLen go) {c : Nat} (st : Nm × Gs) (k : st.1.length ≤ c + st.2.deeds) : ∀ i : It, (oneF ps go st i).1.length ≤ c + (oneF ps go st i).2.deeds
  | .row x w ts => by
    have h1 := putI_len st.1 x (behF ps go w ts st.1 st.2.more).1
    have h2 := (behF_le (ps := ps) up w ts st.1 st.2.more).deeds
    have h3 : st.2.more.deeds = st.2.deeds + 1 := rfl
    simp only [oneF]
    omega
  | .rep n b => times_len (fun st k => h b st.1 st.2.more c (by have : st.2.more.deeds = st.2.deeds + 1 := rfl; omega)) _ _ k
theorem fold_len {ps : List Pt} {go : GoF} (up : GoUp go) (h : GoLen go) {c : Nat} : ∀ (b : List It) (st : Nm × Gs), st.1.length ≤ c + st.2.deeds → (b.foldl (oneF ps go) st).1.length ≤ c + (b.foldl (oneF ps go) st).2.deeds
  | [], _, k => k
  | i :: b, st, k => fold_len up h b _ (one_len up h st k i)
theorem goF_len (ps : List Pt) : ∀ f, GoLen (goF ps f)
  | 0 => fun _ _ _ _ k => k
  | f + 1 => fun b N s _ k => fold_len (goF_up ps f) (goF_len ps f) b (N, s) k
/-! ### step by step -/
theorem fold_snoc {α β : Type} (f : β → α → β) {b : List α} {i : Nat} {x : α} (h : b[i]? = some x) (st : β) : (b.take (i + 1)).foldl f st = f ((b.take i).foldl f st) x := by
  rw [List.take_add_one, h, List.foldl_append]; rfl
theorem fold_take_le {ps : List Pt} {go : GoF} (h : GoUp go) (b : List It) (i : Nat) (st : Nm × Gs) : ((b.take i).foldl (oneF ps go) st).2.le (b.foldl (oneF ps go) st).2 := by
  have k := fold_le (ps := ps) h (b.drop i) ((b.take i).foldl (oneF ps go) st)
  rwa [← List.foldl_append, List.take_append_drop] at k
theorem fitAll_take {one : List Str → It → Prop} : ∀ {b : List It} {T : List Str} (i : Nat), fitAll one T b → fitAll one T (b.take i)
  | [], _, i, _ => by simp [fitAll]
  | x :: b, T, 0, _ => by simp [fitAll]
  | x :: b, T, i + 1, h => by
    rw [List.take_succ_cons]
    exact ⟨h.1, fitAll_take i h.2⟩
theorem times_up {f : Nm × Gs → Nm × Gs} (h : ∀ st : Nm × Gs, st.2.le (f st).2) {j n : Nat} (le : j ≤ n) (st : Nm × Gs) : (timesF f j st).2.le (timesF f n st).2 := by
  obtain ⟨d, rfl⟩ := Nat.exists_eq_add_of_le le
  clear le
  induction d with
  | zero => exact .refl _
  | succ d ih =>
    refine ih.trans ?_
    rw [← Nat.add_assoc, timesF_snoc]
    exact h _
theorem aIts_map : ∀ b : List It, aIts b = b.map It.a
  | [] => rfl
  | x :: b => by simp [aIts, aIts_map b]
theorem aIts_at {b : List It} {i : Nat} {y : A} (h : (aIts b)[i]? = some y) : ∃ x, b[i]? = some x ∧ y = x.a := by
  rw [aIts_map] at h
  exact map_at h
end D

set_option Elab.async false
set_option linter.all false
set_option maxRecDepth 100000
set_option maxHeartbeats 4000000
/-! DD: comprehensions whose turns may raise. -/
namespace D
open PySem PySem.Spec PyProof.Rows L2
/-! ### an exception is noted at a frame -/
theorem note_frame {e1 e2 : Env} (h : e1.frame = e2.frame) (x : Value) : noteFrame x e1 = noteFrame x e2 := by
  unfold noteFrame PySem.frameOf
  rw [h]
section
variable {M : Model} {A : Around} {E : Value → Shared → Prop} {s : Shared} {env : Env} {outer : List Env} {B : Heap} {a L : Addr} {Zo : Obj → Prop}
/-- it has flown before, and was noted elsewhere last -/
theorem note_over {fl : Value} {Q : Unit → Shared → Prop} (st : HandSPX.Steady Zo) (hfr : A.frames = some (env :: outer)) (hf : env.frame = some L) (ne : fl ≠ rawInt L) (low : B.StaysIn s.heap) (new : B.get? a = none) (fr : s.heap.FunFrames B (env :: outer)) (tr : HandSPX.TracedZ s.heap B a Zo fl)
    (q : ∀ h', HandSPX.HeldZ B (env :: outer) a Zo L h' → s.heap.UpToSlots h' → Q () { s with heap := h' }) : wpAny M A (noteFrame (.ref a) env) Q E s := by
  obtain ⟨oe, vs, T, oT, ts, e1, z, e2, e3, nT, Te, t1, t2, t3⟩ := tr
  unfold noteFrame
  simp only [hf]
  refine wpAny_bind (wpAny_field e1 e2 e3 ?_)
  rw [if_pos (by simp)]
  refine wpAny_bind (wpAny_field t1 t2 t3 ?_)
  rw [if_neg (by simpa using ne)]
  refine wpAny_bind (wpAny_setField t1 t2 (Array.getElem?_eq_some_iff.mp t3).1 ?_)
  have same : ∀ b, b ≠ T → (s.heap.update T (Obj.mapFields (·.setIfInBounds 3 Value.none))).get? b = s.heap.get? b := fun b n => Heap.get?_update_other _ _ (Ne.symm n)
  have plain : ∀ b o, s.heap.get? b = some o → (∀ ws, o.data ≠ .fields ws) → (s.heap.update T (Obj.mapFields (·.setIfInBounds 3 Value.none))).get? b = some o := fun b o eb nf =>
    (same b (by rintro rfl; rw [t1] at eb; cases eb; exact nf _ t2)).trans eb
  refine HandSPX.wpAny_entryZ st hfr (fr.of_keeps fun b o eb nf => ⟨o, plain b o eb nf, rfl⟩) hf ((same a (Ne.symm Te)).trans e1) (fun b o eb => (same b (by rintro rfl; rw [nT] at eb; cases eb)).trans (low b o eb)) new e2 (Array.getElem?_eq_some_iff.mp e3).1 z fun h' noted => ?_
  exact q h' ⟨noted.1, new, noted.2.1, noted.2.2.1⟩ fun b o eb nf => noted.2.2.2 b o (plain b o eb nf) nf
end
/-! ### a heap without the object at C -/
section
variable {h h' B : Heap} {C a L : Addr} {l : List Env} {Zo : Obj → Prop}
theorem hid_iff {b : Addr} {o : Obj} : (PySem.W.hideAll h [C]).get? b = some o ↔ h.get? b = some o ∧ b ≠ C := by
  constructor
  · intro e
    refine ⟨PySem.W.of_hideAll _ e, ?_⟩
    rintro rfl
    rw [PySem.W.hideAll_none _ (.head _)] at e; cases e
  · exact fun e => PySem.W.hideAll_get _ e.1 (by simpa using e.2)
theorem hid_none {b : Addr} (e : h.get? b = none) : (PySem.W.hideAll h [C]).get? b = none := by
  refine Option.eq_none_iff_forall_ne_some.mpr fun o q => ?_
  have := (hid_iff.mp q).1
  rw [e] at this; cases this
theorem hid_other {b : Addr} (n : b ≠ C) : (PySem.W.hideAll h [C]).get? b = h.get? b := by
  rcases q : h.get? b with _ | o
  · exact hid_none q
  · exact hid_iff.mpr ⟨q, n⟩
/-- the dict at C has changed, and is no ground any more -/
theorem held_after {m' : Str → Option Value} (hd : HandSPX.HeldZ B l a Zo L h) (dict : ∃ o, h.get? C = some o ∧ ∀ vs, o.data ≠ .fields vs) (sb : Heap.SameBut C h h') (ns : h'.Ns C m') : HandSPX.HeldZ (PySem.W.hideAll B [C]) l a Zo L h' := by
  obtain ⟨low, new, fr, oe, vs, T, oT, ts, e1, z, e2, e3, nT, Te, t1, t2, t3⟩ := hd
  obtain ⟨oC, eC, nf⟩ := dict
  have ne : ∀ {b : Addr} {o : Obj} {ws : Array Value}, h.get? b = some o → o.data = .fields ws → b ≠ C := by
    rintro b o ws eb db rfl
    rw [eC] at eb; cases eb; exact nf _ db
  refine ⟨fun b o q => ?_, hid_none new, funFrames_none (Heap.FunFrames.sameBut sb ns fr) fun b m => hid_none (fr.mem m).1, oe, vs, T, oT, ts, (sb.2 a (ne e1 e2)).trans e1, z, e2, e3, hid_none nT, Te, (sb.2 T (ne t1 t2)).trans t1, t2, t3⟩
  obtain ⟨q, n⟩ := hid_iff.mp q
  exact (sb.2 b n).trans (low b o q)
end
/-! ### the comprehension's block, and how it ends -/
/-- the exception x leaves a block whose names stand at C -/
def OutOf (M : Model) (A : Around) (E : Value → Shared → Prop) (fr : Option Addr) (C : Addr) (x : Value) (s' : Shared) : Prop :=
  ∃ m, s'.heap.Ns C m ∧ ∀ h' m', h'.Ns C m' → Heap.SameBut C s'.heap h' → ∀ ce : Env, ce.locals = C → ce.frame = fr → wpAny M A (passOn "comprehension.variables-let-go" x ce : Sem Value) (fun _ _ => False) E { s' with heap := h' }
/-- the block's end: done, with acc made, or an exception -/
def BlockEnd (M : Model) (A : Around) (E : Value → Shared → Prop) (fr : Option Addr) (Q : Value → Shared → Prop) (acc : Value) (C : Addr) : Result → Shared → Prop
  | .ok _, s' => ∃ m, s'.heap.Ns C m ∧ ∀ h', Heap.SameBut C s'.heap h' → Q acc { s' with heap := h' }
  | .error x, s' => OutOf M A E fr C x s'
theorem comp_out {M : Model} {A : Around} {E : Value → Shared → Prop} {s : Shared} {env : Env} {e : Expr} {scope : Scope} {pos : Pos} {newAcc first : Sem Value} {c0 : Comprehension} {cs : List Comprehension} {cl : List (Str × Addr)} {Q : Value → Shared → Prop}
    (hcl : clausesOf e = c0 :: cs) (fold : ∀ x, foldedSetIterable c0.iter env x = pure x) (clo : closureFor scope env = pure cl) (kind : scope.kind = .function) (own : ∀ y ∈ scope.names, y.2 = .local → scope.names.lookup y.1 = some .local)
    (run : wpAny M A first (fun x s₁ => wpAny M A (pyIter x) (fun it s₂ => wpAny M A newAcc (fun acc s₃ => wpAny M A (newFunctionEnv scope env.globals cl [] env.qual none .none (some env))
      (fun ce s₄ => ce.frame = env.frame ∧ codeAny M A (.compStart e 0 it acc { ce with scope := relabel scope env }) (BlockEnd M A E env.frame Q acc ce.locals) s₄) E s₃) E s₂) E s₁) E s) :
    wpAny M A (comprehension e scope env pos newAcc false first none) Q E s := by
  unfold comprehension
  rw [clo, hcl]
  refine wpAny_bind (thn run fun x s₁ r1 => wpAny_bind (wpAny_standAt (wpAny_bind (wpAny_of_eq (fold x) (wpAny_bind (wpAny_holding (thn r1 fun it s₂ r2 => wpAny_standIf ?_)))))))
  refine wpAny_bind (thn r2 fun acc s₃ r3 => wpAny_bind (wpAny_pure (wpAny_bind (thn r3 fun ce s₄ r4 => ?_))))
  obtain ⟨frame, code⟩ := r4
  dsimp only
  have goes : ∀ {s' : Shared} {m : Str → Option Value} {R : Unit → Shared → Prop}, s'.heap.Ns ce.locals m → (∀ h' m', h'.Ns ce.locals m' → Heap.SameBut ce.locals s'.heap h' → R () { s' with heap := h' }) → ∀ cellsOf,
      wpAny M A (comprehension.letGo { ce with scope := relabel scope env } cellsOf (scope.names.filter fun x => (x.2 == .local || x.2 == .cell) && x.1 != (".0" : Str)).reverse) R E s' := by
    intro s' m R ns r cellsOf
    refine wpAny_comp_letGo (cenv := { ce with scope := relabel scope env }) kind _ s' m (fun y hy loc => ?_) ns r
    have mem : y ∈ scope.names := (List.mem_filter.mp (List.mem_reverse.mp hy)).1
    exact lookup_relabel_local (own y mem loc)
  refine wpAny_holding (wpAny_bind (wpAny_attempt (wpAny_holding (wpAny_run (codeAny_mono code fun r s' done => ?_)))))
  rcases r with x | f
  · obtain ⟨m, ns, out⟩ := done
    exact wpAny_bind (wpAny_holding (goes ns (fun h' m' ns' sb => wpAny_mono (out h' m' ns' sb _ rfl frame) (fun _ _ z => z.elim) fun _ _ z => z) _))
  · obtain ⟨m, ns, out⟩ := done
    exact wpAny_bind (wpAny_holding (goes ns (fun h' m' _ sb => wpAny_pure (out h' sb)) _))
/-! ### the block as a context -/
/-- the context of a block whose turns may raise -/
abbrev blkX (X : Cx) (s : Shared) (H : Hp) (scope : Scope) (ce : Env) (fp : List Addr) (xe : Value → Shared → Prop) : Cx := { X.blk s H scope ce fp with xe := xe }
theorem inv_xe {X : Cx} {pins : List (Addr × Obj)} {σ : L2.St} {H : Hp} {s : Shared} (xe : Value → Shared → Prop) (I : L2.Inv X pins σ H s) : L2.Inv { X with xe := xe } pins σ H s := by
  obtain ⟨⟨b1, b2, b3, b4, b5, b6, b7, b8, b9, b10, b11, b12, b13, b14, b15, b16, b17, b18⟩, a2, a3, a4, a5, a6, a7, a8, a9, a10, a11⟩ := I
  exact ⟨⟨b1, b2, b3, b4, b5, b6, b7, b8, b9, b10, b11, b12, b13, b14, b15, b16, b17, b18⟩, a2, a3, a4, a5, a6, a7, a8, a9, a10, a11⟩
section
variable {X : Cx} {pins pb : List (Addr × Obj)} {σ σb : L2.St} {H Hb : Hp} {s sI : Shared} {scope : Scope} {ce : Env} {fp : List Addr} {xe : Value → Shared → Prop}
/-- from the block back into the def, whatever has become of the block's dict -/
theorem inv_back (I : L2.Inv X pins σ H s) (J : L2.Inv (blkX X s H scope ce fp xe) pb σb Hb sI) (hC : ce.locals = s.heap.objs.size) (hfp : ∀ b ∈ fp, FpOk X pins H b) {h' : Heap} (same : ∀ b, b ≠ ce.locals → h'.get? b = sI.heap.get? b) :
    L2.Inv X pins σ Hb { sI with heap := h' } := by
  have old : ∀ {b : Addr} {o : Obj}, s.heap.get? b = some o → b ≠ ce.locals := by
    rintro b o e rfl
    have := Heap.lt_size e
    rw [hC] at this; exact Nat.lt_irrefl _ this
  have un : Un (frs X.stack) fp H Hb s.heap sI.heap := J.base
  have free : Hb ce.locals = none := J.free
  have un' : Un (frs X.stack) fp H Hb s.heap h' :=
    { keep := fun b o e n f x => (same b (old e)).trans (un.keep b o e n f x)
      slot := fun b o e n f x => (un.slot b o e n f x).imp fun sl q => (same b (old e)).trans q
      free := un.free
      there := fun b o e x => (un.there b o e x).imp fun o' q => (same b (old e)).trans q
      tups := un.tups
      frzs := un.frzs
      tbls := un.tbls }
  have ok' : HOk X.prog X.w Hb h' := fun b o q => by
    refine (J.hok b o q).stay (fun c u hc r => (same c ?_).trans r) (fun _ r => r) fun _ _ r => r
    rintro rfl
    rcases hc with rfl | hc
    · rw [free] at q; cases q
    · rw [free] at hc; cases hc
  exact I.call' (s' := { sI with heap := h' }) (ch := fp) J.os un' ok' J.bare fun b m => ⟨(hfp b m).2.2.2.1, (hfp b m).2.1, (hfp b m).2.2.2.2.1, (hfp b m).2.2.2.2.2⟩
/-- the dict of the block's names -/
theorem blk_dict (J : L2.Inv (blkX X s H scope ce fp xe) pb σb Hb sI) {h' : Heap} (up : sI.heap.UpToSlots h') : ∃ m, h'.Ns ce.locals m ∧ ∃ o, h'.get? ce.locals = some o ∧ ∀ vs, o.data ≠ .fields vs := by
  obtain ⟨m, ⟨o, es, ep, e, d, r⟩, _⟩ := J.loc
  have nf : ∀ vs, o.data ≠ .fields vs := fun vs z => by rw [d] at z; cases z
  obtain ⟨sl, e'⟩ := up _ _ e nf
  exact ⟨m, ⟨_, es, ep, e', d, r⟩, _, e', nf⟩
variable {W Wb : WX}
/-- what the block lets out is the def's to take -/
theorem blk_takes (hst : X.stack = X.env :: X.outer) (hfr : X.env.frame = some X.env.locals) (tk : Takes X W) (I : L2.Inv X pins σ H s) (hC : ce.locals = s.heap.objs.size) (hF : ce.frame = X.env.frame) (hfp : ∀ b ∈ fp, FpOk X pins H b) (hW : ∀ cls d σb Hb, Wb cls d σb Hb → W cls d σ Hb) :
    Takes (blkX X s H scope ce fp (notedBy (model X.prog X.w) X.A ce (OutOf (model X.prog X.w) X.A X.xe X.env.frame ce.locals))) Wb := by
  rintro u s' ⟨a, B, sI, pb, σb, Hb, cls, d, rfl, J, low, up, sky, na, os, ag, w⟩
  have frames : X.A.frames = some (X.env :: X.outer) := I.ok.frames.trans (congrArg some hst)
  have other : ce.locals ≠ X.env.locals := fun z => Nat.lt_irrefl _ (show s.heap.objs.size < s.heap.objs.size from (hC.symm.trans z) ▸ I.lt)
  have sky : Sky B (X.env :: X.outer) a (Zc cls d) ce.locals s'.heap := by rw [← hst]; exact sky
  have noted : ∀ h1, HandSPX.HeldZ B (X.env :: X.outer) a (Zc cls d) X.env.locals h1 → s'.heap.UpToSlots h1 → OutOf (model X.prog X.w) X.A X.xe X.env.frame ce.locals (.ref a) { s' with heap := h1 } := by
    intro h1 held up1
    obtain ⟨m, ns, dict⟩ := blk_dict J (up.trans up1)
    refine ⟨m, ns, fun h' m' ns' sb ce' hL hF' => ?_⟩
    have held' := held_after held dict sb ns'
    have frame : ce'.frame = some X.env.locals := hF'.trans hfr
    have fly : wpAny (model X.prog X.w) X.A (setFlight (.ref a) ce'.frame) (fun _ s4 => wpAny (model X.prog X.w) X.A (throw (.ref a) : Sem Value) (fun _ _ => False) X.xe s4) X.xe { s' with heap := h' } := by
      rw [frame]
      refine HandSPX.setFlight_onZ (s := { s' with heap := h' }) held' fun h2 held2 up2 => wpAny_throw (tk _ _ ?_)
      have K := inv_back (h' := PySem.W.hideAll sI.heap [ce.locals]) I J hC hfp fun b n => hid_other n
      refine ⟨a, PySem.W.hideAll B [ce.locals], _, pins, σ, Hb, cls, d, rfl, K, fun b o e nb => ?_, fun b o e nf => ?_, .inr (.inr (hst ▸ held2)), na, os, ag, hW _ _ _ _ w⟩
      · obtain ⟨e, n⟩ := hid_iff.mp e
        exact hid_iff.mpr ⟨low b o e nb, n⟩
      · obtain ⟨e, n⟩ := hid_iff.mp e
        obtain ⟨sl, q⟩ := (up.trans up1) b o e nf
        exact (up2 b { o with slots := sl } ((sb.2 b n).trans q) nf).imp fun _ q => q
    obtain ⟨_, _, _, oe, vs, T, _, _, e1, _, e3, e4, _⟩ := held'
    unfold PySem.passOn
    refine wpAny_bind (wpAny_field (s := { s' with heap := h' }) e1 e3 e4 ?_)
    rw [if_neg (by simp)]
    first | exact wpAny_bind fly | exact wpAny_bind (wpAny_pure (wpAny_bind fly))
  show wpAny (model X.prog X.w) X.A (noteFrame (.ref a) ce) (fun _ s'' => OutOf (model X.prog X.w) X.A X.xe X.env.frame ce.locals (.ref a) s'') _ s'
  rw [note_frame hF]
  rcases sky with ⟨hB, hn, hl, oe, vs, he, hz, hd, h1⟩ | fl | hh
  · exact HandSPX.look_newZ Zc.steady frames hl hfr he hB hn hd h1 hz noted
  · exact HandSPX.looks_onZ Zc.steady frames hfr fl noted
  · exact note_over Zc.steady frames hfr (fun z => other (Int.ofNat_inj.mp (Value.int.inj z).1)) hh.1 hh.2.1 hh.2.2.1 hh.2.2.2 noted
end
/-! ### its turns -/
theorem fp_ok {Z : Cx} {σ : L2.St} {H : Hp} {s : Shared} {fp : List Addr} (ex : Z.ex = fp) (pn : Z.pn = []) (I : L2.Inv Z [] σ H s) (hid : ∀ b ∈ fp, H b = none) : ∀ b ∈ fp, FpOk Z [] H b := by
  subst ex
  intro b m
  have apart := I.ok.exf b m
  refine ⟨hid b m, apart.1, I.ok.exfs b m, .inl m, fun x c e => apart.2 x c e, fun p q => ?_⟩
  rw [pn] at q; cases q
/-- one turn in the block Z: the next item, the target, the element, which goes to the end of the list at D -/
theorem one_turn {Z : Cx} {σw : L2.St} {H : Hp} {s : Shared} {fp : List Addr} {it D : Addr} {J : L2.It} {tn : Nat → Heap → Prop} {tg elt : Expr} {g : TG} {te : TE} {i : Nat} {Nx : Hp → Prop} {vs : List Nat} {R : Shared → Prop}
    (ex : Z.ex = fp) (pn : Z.pn = []) (calm : Z.calm = true) (T : Turn Z.prog Z.w Z.K tg J fp it tn) (pg : PG Z tg g) (pe : PE Z elt te) (I : L2.Inv Z [] σw H s) (at_ : tn i s.heap) (hid : ∀ b ∈ fp, H b = none) (go : J.go i H)
    (step : ∀ x H', J.yld i H x H' → g x σw H' fun σ2 H2 => wipe σ2 vs = σw ∧ te σ2 H2 fun y H4 => ∃ acc, H4 D = some (.lst acc) ∧ acc.length < sizeLine ∧ Nx (upd H4 D (.lst (acc ++ [y]))))
    (next : ∀ s' H', L2.Inv Z [] σw H' s' → tn (i + 1) s'.heap → (∀ b ∈ fp, H' b = none) → Nx H' → R s') :
    wpAny (model Z.prog Z.w) Z.A (pyNext (.ref it)) (fun r s1 => ∃ u, r = some u ∧ wpAny (model Z.prog Z.w) Z.A (letOwnedTupleGo tg (.ref it) u) (fun _ s2 => wpAny (model Z.prog Z.w) Z.A (assign tg Z.env u) (fun _ s3 =>
      wpAny (model Z.prog Z.w) Z.A (eval elt Z.env) (fun v s4 => wpAny (model Z.prog Z.w) Z.A (call (.builtin "list.append") [.ref D, v]) (fun _ s5 => R s5) Z.xe s4) Z.xe s3) Z.xe s2) Z.xe s1) Z.xe s := by
  refine thn (T.item Z rfl rfl rfl calm i [] s σw H Z.xe I (fp_ok ex pn I hid) at_ go) fun r s1 got => got.imp fun u got => ⟨got.1, thn got.2 fun _ s2 got => ?_⟩
  obtain ⟨x, H2, I2, rx, y2, at2, hid2⟩ := got
  have P2 := I2.pinned (fp_ok ex pn I2 hid2) (T.obj _ _ at2)
  refine thn (pg.run _ s2 σw H2 x u _ P2 rx (step x H2 y2)) fun _ s3 ⟨σ3, H3, P3, same, q3⟩ => thn (pe.run _ s3 σ3 H3 _ P3 q3) fun v s4 ⟨y, H4, P4, ry, acc, hD, lt, q4⟩ => ?_
  refine app_ok (X := Z) P4 hD lt ry fun s5 P5 => ?_
  have pin : ∀ b ∈ fp, ∀ o, s2.heap.get? b = some o → s5.heap.get? b = some o ∧ upd H4 D (.lst (acc ++ [y])) b = none := fun b m o e =>
    have k := P5.pin (b, o) (List.mem_append.mpr (.inr (List.mem_append.mpr (.inr (mem_pinsAt m e)))))
    ⟨k.1, k.2.1⟩
  have back : L2.Inv Z [] σw (upd H4 D (.lst (acc ++ [y]))) s5 := by
    refine (P5.unpinned (pins := [])).weak ?_ fun j w e => ?_
    · rw [← same, wipe_length]
    · rw [← same] at e; exact (wipe_some e).1
  refine next s5 _ back (T.keep _ _ _ at2 fun b m o e => (pin b m o e).1) (fun b m => ?_) q4
  obtain ⟨o, e, _⟩ := T.obj _ _ at2 b m
  exact (pin b m o e).2
/-- what the whole comprehension asks: D the new list, St what holds ahead of a turn, top more than all turns -/
def tLcX (wi : TI) (g : WX → TG) (te : WX → TE) (W : WX) (vs : List Nat) : TE := fun σ H Q => wi σ H fun J H1 => ∃ Wb : WX, (∀ cls d σb Hb, Wb cls d σb Hb → W cls d σ Hb) ∧ ∀ D, H1 D = none → ∃ (St : Nat → Hp → Prop) (top : Nat), St 0 (upd H1 D (.lst [])) ∧
  ∀ i H, St i H → (J.stop i H ∧ Q (.ref D) H) ∨ (i < top ∧ J.go i H ∧ ∀ x H', J.yld i H x H' → g Wb x (wipe σ vs) H' fun σ2 H2 => wipe σ2 vs = wipe σ vs ∧
    te Wb σ2 H2 fun y H4 => ∃ acc, H4 D = some (.lst acc) ∧ acc.length < sizeLine ∧ St (i + 1) (upd H4 D (.lst (acc ++ [y]))))
/-- a part of the block, read in any block of X that takes Wb -/
def InBlk (X : Cx) (scope : Scope) (Wb : WX) (R : Cx → Prop) : Prop := ∀ s H C cl fp xe, Takes (blkX X s H scope (compEnvC scope cl C X.env) fp xe) Wb → R (blkX X s H scope (compEnvC scope cl C X.env) fp xe)
theorem pe_lcX {X : Cx} {W : WX} {elt tg iter : Expr} {scope : Scope} {own : List (Str × Nat)} {pos : Pos} {wi : TI} {g : WX → TG} {te : WX → TE} (hst : X.stack = X.env :: X.outer) (hfr : X.env.frame = some X.env.locals) (tk : Takes X W) (calm : X.calm = true) (hN : X.N.Nodup)
    (hi : PI X tg iter wi) (ok : BlkOk X.N X.env.scope scope own) (hg : ∀ Wb, InBlk X scope Wb fun Z => PG Z tg (g Wb)) (he : ∀ Wb, InBlk X scope Wb fun Z => PE Z elt (te Wb)) (fold : ∀ x, foldedSetIterable iter X.env x = pure x := by intro _; rfl) :
    PE X (.ListComp elt [⟨tg, iter, [], 0⟩] scope pos) (tLcX wi g te W (own.map (·.2))) := by
  constructor
  intro pins s σ H Q I h
  rw [eval_ListComp]
  have captured : ∀ y ∈ scope.names, y.2 = .free → ∃ c, X.env.cells.lookup y.1 = some c := fun y m e => I.ok.has _ (ok.free y m e)
  refine comp_out rfl fold (closure_ok captured) ok.kind (fun y m e => e ▸ ok.uniq y m) (thn (hi.run pins s σ H _ I h) fun _ s1 r1 => thn r1 fun _ s2 r2 => ?_)
  obtain ⟨it, fp, tn, J, H2, rfl, I2, T, at2, ok2, Wb, hW, ask⟩ := r2
  refine wpAny_newObj_type (newEnv_comp ⟨rfl, ?_⟩) (by show 0 ≤ sizeLine; decide)
  obtain ⟨St, top, st0, turn⟩ := ask s2.heap.objs.size (I2.hok.fresh (Nat.le_refl _))
  let s3 : Shared := { s2 with heap := s2.heap.push { cls := .type "list", data := .seq ([] : List Value).toArray } }
  have put : ∀ b o, s2.heap.get? b = some o → s3.heap.get? b = some o := fun b o e => Heap.get?_push_of_some _ e
  have I3 : L2.Inv X pins σ (upd H2 s2.heap.objs.size (.lst [])) s3 := I2.laid (t' := s2.toks) put (Nat.le_refl _) ⟨Nat.zero_le _, [], 0, .nil, Heap.get?_push_size _ rfl⟩
  have low : ∀ b ∈ fp, b < s2.heap.objs.size := fun b m => (T.obj _ _ at2 b m).elim fun o e => Heap.lt_size e.1
  have ok3 : ∀ b ∈ fp, FpOk X pins (upd H2 s2.heap.objs.size (.lst [])) b := fun b m => ⟨(upd_ne (Nat.ne_of_lt (low b m))).trans (ok2 b m).1, (ok2 b m).2⟩
  have low3 : ∀ b ∈ fp, b < s3.heap.objs.size := fun b m => (Heap.size_push s2.heap _).symm ▸ Nat.lt_succ_of_lt (low b m)
  let ce := compEnvC scope (cellsFrom (s3.heap.objs.size + 1) scope.names (cloFrom X.env.cells scope.names [])) s3.heap.objs.size X.env
  let xb := notedBy (model X.prog X.w) X.A ce (OutOf (model X.prog X.w) X.A X.xe X.env.frame ce.locals)
  let Z : Cx := blkX X s3 (upd H2 s2.heap.objs.size (.lst [])) scope ce fp xb
  have tkZ : Takes Z Wb := blk_takes hst hfr tk I3 rfl rfl ok3 hW
  have pg : PG Z tg (g Wb) := hg Wb _ _ _ _ _ _ tkZ
  have pe : PE Z elt (te Wb) := he Wb _ _ _ _ _ _ tkZ
  let s4 : Shared := { s3 with heap := pushCells (s3.heap.push { cls := .type "dict", data := .dict #[] }) scope.names }
  have I4 : L2.Inv Z [] (wipe σ (own.map (·.2))) (upd H2 s2.heap.objs.size (.lst [])) s4 := inv_xe xb (block_start I3 ok hN fun b m => ⟨ok3 b m, low3 b m⟩)
  have at4 : tn 0 s4.heap := T.keep _ _ _ at2 fun b _ o e => pushCells_keeps _ _ _ _ (Heap.get?_push_of_some _ (put b o e))
  have loop : codeAny (model X.prog X.w) X.A (.compLoop (.ListComp elt [⟨tg, iter, [], 0⟩] scope pos) 0 (.ref it) (.ref s2.heap.objs.size) ce) (BlockEnd (model X.prog X.w) X.A X.xe X.env.frame (EP X pins σ Q) (.ref s2.heap.objs.size) ce.locals) s4 := by
    refine compLoop_any (fun n s' => ∃ i H', n = top - i ∧ L2.Inv Z [] (wipe σ (own.map (·.2))) H' s' ∧ tn i s'.heap ∧ (∀ b ∈ fp, H' b = none) ∧ St i H') ?_ top ⟨0, _, rfl, I4, at4, fun b m => (ok3 b m).1, st0⟩
    rintro n s5 ⟨i, H5, rfl, I5, at5, hid5, st5⟩
    rcases turn i H5 st5 with ⟨stop, q⟩ | ⟨lt, go, step⟩
    · refine thn (T.done Z rfl rfl rfl calm i [] s5 _ H5 xb I5 (fp_ok rfl rfl I5 hid5) at5 stop) fun r s6 ⟨hr, I6⟩ => ?_
      subst hr
      obtain ⟨m, ns, _⟩ := I6.loc
      exact ⟨m, ns, fun h' sb => ⟨.ref s2.heap.objs.size, H5, inv_back I3 I6 rfl ok3 fun b n => sb.2 b n, rfl, q⟩⟩
    · refine thn (one_turn (Z := Z) (R := fun s' => ∃ m, m < top - i ∧ ∃ i' H', m = top - i' ∧ L2.Inv Z [] (wipe σ (own.map (·.2))) H' s' ∧ tn i' s'.heap ∧ (∀ b ∈ fp, H' b = none) ∧ St i' H') rfl rfl calm T pg pe I5 at5 hid5 go step
        fun s' H' J' at' hid' st' => ⟨top - (i + 1), by omega, i + 1, H', rfl, J', at', hid', st'⟩) fun r s6 ⟨u, hr, rest⟩ => ?_
      subst hr
      exact thn rest fun _ s7 rest => thn rest fun _ s8 rest => wpAny_tests_nil rest
  exact codeAny_compStart_list loop (T.self X.A 0 _ _ _ at4 loop)
/-! ### over data -/
/-- the block of a comprehension whose turns may raise -/
abbrev bkX (X : Cx) (scope : Scope) (s0 : Shared) (H0 : Hp) (C : Addr) (cl : List (Str × Addr)) (fp : List Addr) (xe : Value → Shared → Prop) : Cx := blkX X s0 H0 scope (compEnvC scope cl C X.env) fp xe
theorem Ar.bkX {X : Cx} {k : Nat} (h : Ar X k) {scope : Scope} {s0 : Shared} {H0 : Hp} {C : Addr} {cl : List (Str × Addr)} {fp : List Addr} {xe : Value → Shared → Prop} : Ar (D.bkX X scope s0 H0 C cl fp xe) k := ⟨h.room, h.show0⟩
def bkGX (X : Cx) (scope : Scope) (tg : Expr) (Wb : WX) : TG := fun v σ H Q => ∀ s0 H0 C cl fp xe, Takes (bkX X scope s0 H0 C cl fp xe) Wb → rdG (bkX X scope s0 H0 C cl fp xe) tg v σ H Q
def bkEX (X : Cx) (scope : Scope) (e : Expr) (Wb : WX) : TE := fun σ H Q => ∀ s0 H0 C cl fp xe, Takes (bkX X scope s0 H0 C cl fp xe) Wb → rdE (bkX X scope s0 H0 C cl fp xe) e σ H Q
section
variable {B : Bs} {X : Cx} {Γ : G} {μ : Mu} {Q : A → Mu → Prop} {E1 : XW} {elt tg iter : Expr} {scope : Scope} {own : List (Str × Nat)} {pos : Pos}
/-- what is asked: J by the turn, the list so far, what may change; an exception of a turn leaves the def with its own names as they are -/
def lcAskX (B : Bs) (X : Cx) (scope : Scope) (tg iter elt : Expr) (vs : List Nat) (Γ : G) (μ : Mu) (Q : A → Mu → Prop) (E1 : XW) : Prop :=
  wIt B X tg iter Γ μ fun ys μ1 => ys.length ≤ sizeLine ∧ ∃ J : Nat → List A → Mu → Prop, J 0 [] μ1 ∧
    (∀ (i : Nat) y acc μ', ys[i]? = some y → J i acc μ' → ∀ B1 s0 H0 C cl fp xe, B.le B1 → Fly B1 (bkX X scope s0 H0 C cl fp xe) (fun cls d _ μ2 => E1 cls d Γ μ2) → wGw B1 (bkX X scope s0 H0 C cl fp xe) tg vs y (wipeA Γ vs) μ' fun Γ2 μ2 =>
      ∀ B2 s0 H0 C cl fp xe, B.le B2 → Fly B2 (bkX X scope s0 H0 C cl fp xe) (fun cls d _ μ3 => E1 cls d Γ μ3) → wE B2 (bkX X scope s0 H0 C cl fp xe) elt Γ2 μ2 fun z μ3 => J (i + 1) (acc ++ [z]) μ3) ∧
    ∀ acc μ', J ys.length acc μ' → ∀ p, μ' p = none → Q (.loc p) (μ'.upd p (.lst acc))
theorem lc_askX {vs : List Nat} (h : lcAskX B X scope tg iter elt vs Γ μ Q E1) {σ : L2.St} {M F H : Hp} (bo : B.ok M F) (rs : RelS X.K Γ F σ) (r : Rel X.K μ M F H) :
    tLcX (rdI X tg iter) (bkGX X scope tg) (bkEX X scope elt) (wxOf B X.K E1) vs σ H (QE X.K M F Q) := by
  refine ⟨fun pins s I0 => thn ((h σ M F H bo rs r).o pins s I0) fun v s1 h1 => thn h1 fun itv s2 h2 => ?_⟩
  obtain ⟨it, fp, tn, J0, H2, g1, g2, g3, g4, g5, ys, F1, μ1, e1, r1, wk, hz, J, j0, turn, done⟩ := h2
  refine ⟨it, fp, tn, J0, H2, g1, g2, g3, g4, g5, fun cls d _ Hb => ∃ F' μ', Ex F1 F' ∧ Rel X.K μ' M F' Hb ∧ E1 cls d Γ μ', fun cls d σb Hb ⟨F', μ', e, r', q⟩ => ⟨Γ, M, F', μ', bo.mono (e1.trans e), rs.mono (e1.trans e), r', q⟩, fun p np => ?_⟩
  obtain ⟨hM, rN⟩ := r1.frmNew (o := .lst []) np
  refine ⟨fun i H' => i ≤ ys.length ∧ ∃ F' μ' acc ws, Ex F1 F' ∧ Rel X.K μ' (upd M p (.lst ws)) F' H' ∧ RepL X.K F' acc ws ∧ acc.length = i ∧ J i acc μ', ys.length, ⟨Nat.zero_le _, F1, μ1, [], [], .refl _, rN, .nil, rfl, j0⟩, ?_⟩
  rintro i H' ⟨hi, F', μ', acc, ws, e2, r2, ra, hl, q⟩
  have fly : ∀ {F2 : Hp} {s0 : Shared} {H0 : Hp} {C : Addr} {cl : List (Str × Addr)} {fp : List Addr} {xe : Value → Shared → Prop}, Ex F1 F2 → Takes (bkX X scope s0 H0 C cl fp xe) (fun cls d _ Hb => ∃ F' μ', Ex F1 F' ∧ Rel X.K μ' M F' Hb ∧ E1 cls d Γ μ') →
      Fly ⟨upd M p (.lst ws), F2⟩ (bkX X scope s0 H0 C cl fp xe) (fun cls d _ μ2 => E1 cls d Γ μ2) := fun e tk =>
    ⟨tk.imp fun cls d σ' Hb ⟨Γ', M', F', μ', bo', rs', r', q⟩ => ⟨F', μ', e.trans bo'.f, r'.less (Ex.trans (.new hM) bo'.m), q⟩⟩
  have le : ∀ {F2 : Hp}, Ex F1 F2 → B.le ⟨upd M p (.lst ws), F2⟩ := fun e => (bo.up (.new hM)).mono (e1.trans e)
  by_cases lt : i < ys.length
  · refine .inr ⟨lt, wk.goes i H' lt (e2.trans r2.sub), fun x H3 yl => ?_⟩
    obtain ⟨F2, y, e3, r3, hy, rp⟩ := wk.yields i H' x H3 _ F' μ' lt e2 r2 yl
    have e23 := e2.trans e3
    intro s0 H0 C cl fp' xe tk
    refine (turn i y acc μ' hy q ⟨upd M p (.lst ws), F2⟩ s0 H0 C cl fp' xe (le e23) (fly e23 tk) (wipe σ vs) _ F2 H3 x (Bs.ok.own _ _) ((wipeA_rel rs vs).mono (e1.trans e23)) r3 rp).imp fun σ4 H4 q4 => ?_
    obtain ⟨w4, Γ4, F4, μ4, e4, rs4, r4, q4⟩ := q4
    refine ⟨w4.trans (wipe_wipe vs fun _ h => h), ?_⟩
    intro s0 H0 C cl fp' xe tk
    refine (q4 ⟨upd M p (.lst ws), F4⟩ s0 H0 C cl fp' xe (le (e23.trans e4)) (fly (e23.trans e4) tk) σ4 _ F4 H4 (Bs.ok.own _ _) rs4 r4).imp fun z6 H6 q6 => ?_
    obtain ⟨z, F6, μ6, e6, r6, p6, q6⟩ := q6
    have ex := (e3.trans e4).trans e6
    exact ⟨ws, (r6.frm p _ upd_same).2.2, by rw [ra.len]; omega, lt, F6, μ6, acc ++ [z], ws ++ [z6], e2.trans ex, r6.frmWrite, (ra.mono ex).snoc p6, by simp [hl], q6⟩
  · obtain rfl : i = ys.length := by omega
    obtain ⟨nμ, rO⟩ := r2.frmOut (m := .lst acc) hM ⟨ws, rfl, ra⟩
    exact .inl ⟨wk.stops H' (e2.trans r2.sub), .loc p, F', _, e1.trans e2, rO, rep_loc.mpr rfl, done acc μ' q p nμ⟩
/-- [elt for tg in iter], a turn of which may raise: a new list of ours -/
theorem wE_lcX (own : List (Str × Nat)) (fly : Fly B X E1) (h : lcAskX B X scope tg iter elt (own.map (·.2)) Γ μ Q E1) (hN : X.N.Nodup) (ok : BlkOk X.N X.env.scope scope own) (hst : X.stack = X.env :: X.outer := by rfl) (hfr : X.env.frame = some X.env.locals := by rfl) (hc : X.calm = true := by rfl)
    (hs : ∀ x, foldedSetIterable iter X.env x = pure x := by intro _; rfl) : wE B X (.ListComp elt [⟨tg, iter, [], 0⟩] scope pos) Γ μ Q :=
  wE_of (pe_lcX (own := own) hst hfr fly.o hc hN pi_rd ok (fun Wb s H C cl fp xe tk => ⟨fun pins s σ H v u Q I r h => (h _ _ _ _ _ _ tk).o pins s u I r⟩) (fun Wb s H C cl fp xe tk => ⟨fun pins s σ H Q I h => (h _ _ _ _ _ _ tk).o pins s I⟩) hs) fun σ M F H bo rs r => lc_askX h bo rs r
/-- .., the list as a value for good -/
theorem wE_lcFX (own : List (Str × Nat)) (fly : Fly B X E1) (h : lcAskX B X scope tg iter elt (own.map (·.2)) Γ μ (fun z μ1 => ∃ p xs, z = .loc p ∧ μ1 p = some (.lst xs) ∧ Q (.lst xs) (μ1.del p)) E1) (hN : X.N.Nodup) (ok : BlkOk X.N X.env.scope scope own) (hst : X.stack = X.env :: X.outer := by rfl)
    (hfr : X.env.frame = some X.env.locals := by rfl) (hc : X.calm = true := by rfl) (hs : ∀ x, foldedSetIterable iter X.env x = pure x := by intro _; rfl) : wE B X (.ListComp elt [⟨tg, iter, [], 0⟩] scope pos) Γ μ Q := wE_frz (wE_lcX own fly h hN ok hst hfr hc hs)
end
end D

set_option Elab.async false
set_option linter.all false
set_option maxRecDepth 100000
set_option maxHeartbeats 4000000
/-! DBB: a method without arguments that may let exceptions out; list.clear. -/
namespace D
open PySem PySem.Spec PyProof.Rows L2
section
variable {B : Bs} {X : Cx} {Γ : G} {μ : Mu} {Q : A → Mu → Prop} {E1 : XW} {o : Expr} {C : Addr} {m : Str} {k j : Nat} {cc : AC} {apos pos : Pos}
theorem wE_methX0 (cl : Cls X.K C) (Dm : CalMX X.prog X.w X.K X.mg X.base k C m cc) (ar : Ar X j) (hk : k ≤ j) (tk : Fly B X E1) (h : wE B X o Γ μ fun x μ1 => ∃ p dx fs, x = .loc p ∧ μ1 p = some (.ins C dx fs) ∧ fs.lookup m = none ∧ cc [.loc p] μ1 Q fun cls d μ' => E1 cls d Γ μ')
    {pl : Sem Bool} (ht : eval (.Call (.Attribute o m apos) [] [] pos) X.env = (eval o X.env >>= fun a => standAt apos.atName >>= fun _ => (holding [a] (getMethod a m pl) >>= fun g => callWith pos g.1 g.2 (backTo pos (starEach [] X.env)) (backToKw pos (keywordEach [] X.env)))) := by rfl) : wE B X (.Call (.Attribute o m apos) [] [] pos) Γ μ Q := by
  obtain ⟨fa, fd, ps, Fn, hm, bi⟩ := Dm.ex
  intro σ M F0 H bo rs rl
  refine ⟨fun pins s I => PySem.W.methodCall_KW (pl := pl) (thn ((h σ M F0 H bo rs rl).o pins s I) fun u s1 got => ?_) ht⟩
  obtain ⟨_, H1, I1, ru, _, F1, μ1, ex1, r1, p1, p, dx, fs, rfl, hp, hl, q1⟩ := got
  rw [rep_loc] at p1; subst p1
  obtain rfl : u = Value.ref p := ru
  obtain ⟨_, _, g1, ws, rfl, g2⟩ := r1.own p _ hp
  refine getmeth_ok I1 g1 cl hm (lookup_none g2 hl) (PySem.W.callWith_K0 (first := [.ref p]) I1.kIn hm.kp ?_)
  refine runT (us := [.ref p]) (vs := [.ref p]) (dvs := []) (E := fun cls d H' => ∃ F' μ', Ex F0 F' ∧ Rel X.K μ' M F' H' ∧ E1 cls d Γ μ') Fn (ar.mono hk) bi .nil tk.o (fun cls d H' ⟨F', μ', e1, r, q⟩ => ⟨Γ, M, F', μ', bo.mono e1, rs.mono e1, r, q⟩) I1 (.cons rfl .nil)
    ⟨[.loc p], F1, M, μ1, Q, _, .cons (rep_loc.mpr rfl) .nil, r1, q1, fun y μ' F' H' v q e1 r p1 => ⟨y, F', μ', ex1.trans e1, r, p1, q⟩, fun cls d μ' F' H' q e1 r => ⟨F', μ', ex1.trans e1, r, q⟩⟩
/-- o.clear(), a list of ours -/
theorem wE_clear {cpos : Pos} (h : wE B X o Γ μ fun x μ1 => ∃ p xs, x = .loc p ∧ μ1 p = some (.lst xs) ∧ Q .non (μ1.upd p (.lst []))) (hbase : attributeBase o "clear" X.env (eval o X.env) = eval o X.env := by rfl) (hline : (apos.endLine == cpos.line) = true := by rfl) :
    wE B X (.Call (.Attribute o "clear" apos) [] [] cpos) Γ μ Q :=
  wE_of (pe_bm0 PySem.F.plainAttrs_list PySem.F.slot_list_clear PySem.F.type_list_clear mt_clear pe_rd hbase hline) fun σ M F H bo rs r =>
    (h σ M F H bo rs r).imp fun v H1 ⟨x, F1, μ1, e1, r1, p1, p, xs, ex, hp, q1⟩ => by
      subst ex; rw [rep_loc] at p1
      obtain ⟨_, _, k1, vs, rfl, k2⟩ := r1.own p _ hp
      exact ⟨by rw [p1]; exact .inl ⟨rfl, _, .inl (.inl k1)⟩, p, vs, p1, rfl, k1, .non, F1, _, e1, r1.write hp (m' := .lst []) ⟨[], rfl, .nil⟩, rep_non.mpr rfl, q1⟩
end
end D

set_option Elab.async false
set_option linter.all false
set_option maxRecDepth 100000
set_option maxHeartbeats 4000000
/-! P10b: a Going as cells. -/
namespace D
open PySem PySem.Spec PyProof.Rows L2
/-- parts by their names -/
abbrev PtK (ps : List Pt) : List (Key × A) := ps.map fun p => ((.inr p.nm : Key), p.a)
/-- the Going at g: its rows at rl, its parts at pt -/
structure GoAt (CG : Addr) (ps : List Pt) (g dx rl pt : Addr) (s : Gs) (μ : Mu) : Prop where
  o : μ g = some (.ins CG dx [("parts", .loc pt), ("rows", .loc rl), ("deeds", .int (s.deeds : Nat))])
  rows : μ rl = some (.lst s.rows)
  parts : μ pt = some (.dic (PtK ps))
  ne1 : g ≠ rl
  ne2 : g ≠ pt
  ne3 : rl ≠ pt
section
variable {CG : Addr} {ps : List Pt} {g dx rl pt : Addr} {s : Gs} {μ : Mu}
theorem GoAt.more (h : GoAt CG ps g dx rl pt s μ) : GoAt CG ps g dx rl pt s.more (μ.upd g (.ins CG dx [("parts", .loc pt), ("rows", .loc rl), ("deeds", .int ((s.deeds : Nat) + 1))])) where
  o := by rw [Mu.upd_same]; rfl
  rows := by rw [Mu.upd_ne (Ne.symm h.ne1)]; exact h.rows
  parts := by rw [Mu.upd_ne (Ne.symm h.ne2)]; exact h.parts
  ne1 := h.ne1
  ne2 := h.ne2
  ne3 := h.ne3
theorem GoAt.put (h : GoAt CG ps g dx rl pt s μ) (w : Str) (is : List A) (m : A) : GoAt CG ps g dx rl pt (s.put w is m) (μ.upd rl (.lst (s.rows ++ [.tup [.str w, .tup is, m]]))) where
  o := by rw [Mu.upd_ne h.ne1]; exact h.o
  rows := Mu.upd_same
  parts := by rw [Mu.upd_ne (Ne.symm h.ne3)]; exact h.parts
  ne1 := h.ne1
  ne2 := h.ne2
  ne3 := h.ne3
/-- other cells may change -/
theorem GoAt.ke {S : List Addr} {μ' : Mu} (h : GoAt CG ps g dx rl pt s μ) (k : Ke S μ μ') (n1 : g ∉ S) (n2 : rl ∉ S) (n3 : pt ∉ S) : GoAt CG ps g dx rl pt s μ' :=
  ⟨k g _ n1 h.o, k rl _ n2 h.rows, k pt _ n3 h.parts, h.ne1, h.ne2, h.ne3⟩
end
/-- a thing of a row: a told name, or a number -/
def ThIs (N : Nm) (x : A) : Prop := (∃ w i, x = .str w ∧ valI N w = some i) ∨ ∃ n d, x = .tup [.int n, .int d]
theorem plF_str {N : Nm} {s : Gs} {w : Str} {i : Int} (h : valI N w = some i) : plF N s (.str w) = (i, s) := by simp only [plF, h, Option.getD_some]
theorem plF_num {N : Nm} {s : Gs} {n d : Int} : plF N s (.tup [.int n, .int d]) = (s.at, s.put "number" [] (.tup [.int n, .int d])) := rfl
theorem Gs.put_good {s : Gs} {w : Str} {is : List A} {m : A} (h : s.good) : (s.put w is m).good ↔ s.rows.length < 5000 := by
  have e : (s.put w is m).rows.length = s.rows.length + 1 := by simp [Gs.put]
  unfold Gs.good
  rw [e]
  exact ⟨fun z => by omega, fun z => ⟨z, h.2⟩⟩
theorem Gs.more_good {s : Gs} (h : s.good) : s.more.good ↔ s.deeds < 20000 := ⟨fun z => z.2, fun z => ⟨h.1, z⟩⟩
def isStr0 : A → Bool
  | .str _ => true
  | _ => false
theorem ThIs.isi {N : Nm} {x : A} {μ : Mu} (h : ThIs N x) : ∃ nm, tyN μ x = some nm ∧ kitB nm "str" = some (isStr0 x) := by
  rcases h with ⟨w, i, rfl, _⟩ | ⟨n, d, rfl⟩
  · exact ⟨"str", rfl, show kitB "str" "str" = some true by decide +kernel⟩
  · exact ⟨"tuple", rfl, show kitB "tuple" "str" = some false by decide +kernel⟩
theorem ThIs.str {N : Nm} {x : A} (h : ThIs N x) (k : isStr0 x = true) : ∃ w i, x = .str w ∧ valI N w = some i := by
  rcases h with ⟨w, i, rfl, e⟩ | ⟨n, d, rfl⟩
  · exact ⟨w, i, rfl, e⟩
  · cases k
theorem ThIs.num {N : Nm} {x : A} (h : ThIs N x) (k : isStr0 x = false) : ∃ n d, x = .tup [.int n, .int d] := by
  rcases h with ⟨w, i, rfl, e⟩ | h
  · cases k
  · exact h
theorem ThOk.is {N : Nm} {T : List Str} {x : A} (h : ThOk T x) (k : HasN N T) : ThIs N x := by
  rcases h with ⟨w, rfl, hw, _⟩ | ⟨n, d, rfl, _⟩
  · exact .inl ⟨w, _, rfl, (k w hw).choose_spec⟩
  · exact .inr ⟨n, d, rfl⟩
/-- a cell of names beside the Going's own -/
structure NmAt (g rl pt nl : Addr) (N : Nm) (μ : Mu) : Prop where
  n : μ nl = some (.dic (Pk N))
  ng : nl ≠ g
  nr : nl ≠ rl
  np : nl ≠ pt
theorem NmAt.ke {g rl pt nl : Addr} {N : Nm} {μ μ' : Mu} (h : NmAt g rl pt nl N μ) {S : List Addr} (k : Ke S μ μ') (o : nl ∉ S) : NmAt g rl pt nl N μ' := ⟨k nl _ o h.n, h.ng, h.nr, h.np⟩
/-! ### what Going's own recursion promises, k steps down -/
def c_Going_called (CG CTL : Addr) (k : Nat) : AC := fun xs μ Q E => ∃ (ps : List Pt) (g dx rl pt : Addr) (s : Gs) (c : Str) (is : List Int) (p : Pt), xs = [.loc g, .str c, .tup (is.map D.A.int)] ∧ GoAt CG ps g dx rl pt s μ ∧ s.good ∧ ps.find? (fun p => decide (p.nm = c)) = some p ∧ is.length = p.ins.length ∧ p.ins.length ≤ 4 ∧ p.ins.Nodup ∧ fitsF ps k p.ins p.body ∧ p.give ∈ toldIts p.body p.ins ∧
  ((callF ps (goF ps k) c is s).2.good → ∀ μ', GoAt CG ps g dx rl pt (callF ps (goF ps k) c is s).2 μ' → Ke [g, rl] μ μ' → Q (.int (callF ps (goF ps k) c is s).1) μ') ∧ (¬ (callF ps (goF ps k) c is s).2.good → ∀ μ', Ke [g, rl] μ μ' → E (.ref CTL) none μ')
def c_Going_go (CG CTL : Addr) (k : Nat) : AC := fun xs μ Q E => ∃ (ps : List Pt) (g dx rl pt nl : Addr) (s : Gs) (N : Nm) (T : List Str) (b : List It), xs = [.loc g, .tup (aIts b), .loc nl] ∧ GoAt CG ps g dx rl pt s μ ∧ s.good ∧ NmAt g rl pt nl N μ ∧ fitsF ps k T b ∧ HasN N T ∧ N.length ≤ 10 + s.deeds ∧
  ((goF ps k b N s).2.good → ∀ μ', GoAt CG ps g dx rl pt (goF ps k b N s).2 μ' → NmAt g rl pt nl (goF ps k b N s).1 μ' → Ke [g, rl, nl] μ μ' → Q .non μ') ∧ (¬ (goF ps k b N s).2.good → ∀ μ', Ke [g, rl, nl] μ μ' → E (.ref CTL) none μ')
/-! ### a whole program, from its inputs on -/
def stN : List Str → Nat → Nm
  | [], _ => []
  | w :: r, i => (w, (i : Int)) :: stN r (i + 1)
theorem stN_len : ∀ (l : List Str) (i : Nat), (stN l i).length = l.length
  | [], _ => rfl
  | w :: r, i => by simp [stN, stN_len r]
theorem stN_keys : ∀ (l : List Str) (i : Nat), (stN l i).map (·.1) = l
  | [], _ => rfl
  | w :: r, i => by simp [stN, stN_keys r]
theorem stN_snoc (w : Str) : ∀ (l : List Str) (i : Nat), stN (l ++ [w]) i = stN l i ++ [(w, ((i + l.length : Nat) : Int))]
  | [], i => by simp [stN]
  | x :: r, i => by
    have e : i + 1 + r.length = i + (x :: r).length := by simp only [List.length_cons]; omega
    simp only [List.cons_append, stN, stN_snoc w r, e]
theorem stN_has : ∀ (l : List Str) (i : Nat), HasN (stN l i) l
  | [], _ => fun w h => by cases h
  | x :: r, i => fun w h => by
    by_cases e : x = w
    · subst e; exact ⟨i, by simp [stN, valI]⟩
    · obtain ⟨j, hj⟩ := stN_has r (i + 1) w ((List.mem_cons.mp h).resolve_left (Ne.symm e))
      refine ⟨j, ?_⟩
      unfold valI at hj ⊢
      rw [stN, List.find?_cons]
      simp only [e, decide_false]
      exact hj
def inRow : A := .tup [.str "in", .tup [], .non]
def Pg.start (g : Pg) : Gs := ⟨g.ins.map fun _ => inRow, 0⟩
def Pg.run (g : Pg) (k : Nat) : Nm × Gs := goF g.parts k g.body (stN g.ins 0) g.start
def Pg.outsAt (g : Pg) (k : Nat) : List A := g.outs.map fun w => A.int ((valI (g.run k).1 w).getD 0)
end D

set_option Elab.async false
set_option linter.all false
set_option maxRecDepth 100000
set_option maxHeartbeats 4000000
/-! DCC: dict(zip(a, b)) of two tuples. -/
namespace D
open PySem PySem.Spec PyProof.Rows L2
section
variable {P : Program} {w : World} {z TI TO i1 i2 l1 l2 : Addr} {xs ys : Array Value}
/-- what a zip over two tuples goes by, at turn k -/
structure ZSt (TI i1 i2 l1 l2 : Addr) (xs ys : Array Value) (k : Nat) (h : Heap) : Prop where
  p : IsPair h TI (.ref i1) (.ref i2)
  a : h.IsTupleIter i1 l1 k
  b : h.IsTupleIter i2 l2 k
  x : h.IsTuple l1 xs
  y : h.IsTuple l2 ys
theorem ZSt.keep {k : Nat} {h h' : Heap} (st : ZSt TI i1 i2 l1 l2 xs ys k h) (q : ∀ c ∈ [TI, i1, i2, l1, l2], ∀ o, h.get? c = some o → h'.get? c = some o) : ZSt TI i1 i2 l1 l2 xs ys k h' :=
  ⟨q _ (by simp) _ st.p, st.a.at fun o => q _ (by simp) o, st.b.at fun o => q _ (by simp) o, st.x.at fun o => q _ (by simp) o, st.y.at fun o => q _ (by simp) o⟩
section
variable {A : Around} {E : Value → Shared → Prop} {s : Shared} {T : Addr} {f : Bool} {oT : Obj} {k : Nat} {u v : Value} {Q : Option Value → Shared → Prop}
/-- the next pair, an earlier one being out -/
theorem out_item (D : ZipApart z TI TO i1 i2 l1 l2) (hz : IsZipHeld s.heap z TI TO T f) (hT : s.heap.get? T = some oT) (st : ZSt TI i1 i2 l1 l2 xs ys k s.heap) (hu : xs[k]? = some u) (hv : ys[k]? = some v)
    (q : ∀ h', IsZipHeld h' z TI TO T true → ZSt TI i1 i2 l1 l2 xs ys (k + 1) h' → IsPair h' s.heap.objs.size u v → (∀ c o, c ≠ z → c ≠ i1 → c ≠ i2 → s.heap.get? c = some o → h'.get? c = some o) → Q (some (.ref s.heap.objs.size)) { s with heap := h' }) : wpAny (model P w) A (pyNext (.ref z)) Q E s := by
  have isZ : s.TypeIs (.ref z) "zip" := ⟨_, hz, rfl⟩
  unfold pyNext
  refine wpAny_bind (wpAny_attempt (wpAny_callSpecial?_slot (name := "__next__") isZ F.slot_zip_next (wpAny_call_entry F.slot_zip_next isZ F.entry_zip_next (Q := fun v s' => wpAny (model P w) A (pure (some v)) Q E s') ?_ (F.args_zip_next_1 _))))
  refine (show wpAny _ _ (field (.ref z) 2 >>= _) _ _ _ from wpAny_bind (wpAny_field hz rfl (x := .bool false) rfl (show wpAny _ _ (field (.ref z) 3 >>= _) _ _ _ from wpAny_bind (wpAny_field hz rfl (x := .ref TI) rfl (wpAny_bind (wpAny_seqItems st.p rfl ?_))))))
  refine (show wpAny _ _ (Builtin.SmallTypes.ownedTupleIsFree (.ref z) >>= _) _ _ _ from wpAny_bind (wpAny_tupleHeld_zip hz hT fun h1 hz1 e1 => ?_))
  simp only [Bool.false_eq_true, if_false]
  refine wpAny_bind ?_
  simp only [← Array.forIn_toList, List.forIn_cons, List.forIn_nil]
  have st1 : ZSt TI i1 i2 l1 l2 xs ys k h1 := st.keep fun c hc o e => e1.extBut c o (by
    rintro rfl
    simp only [List.mem_cons, List.not_mem_nil, or_false] at hc
    rcases hc with h | h | h | h | h
    · exact D.TIz h.symm
    · exact D.i1z h.symm
    · exact D.i2z h.symm
    · exact D.l1z h.symm
    · exact D.l2z h.symm) e
  refine wpAny_bind (wpAny_bind (wpAny_holding (show wpAny _ _ (Builtin.SmallTypes.nextOf (.ref i1) >>= _) _ _ _ from wpAny_bind (wpAny_nextOf_tuple_item (s := { s with heap := h1 }) st1.a st1.x hu fun h2 a2 e2 => wpAny_pure (wpAny_pure ?_)))))
  refine wpAny_bind (wpAny_bind (wpAny_holding (show wpAny _ _ (Builtin.SmallTypes.nextOf (.ref i2) >>= _) _ _ _ from wpAny_bind (wpAny_nextOf_tuple_item (s := { s with heap := h2 }) (st1.b.extBut e2.extBut D.i12.symm) (st1.y.extBut e2.extBut D.l2i1) hv fun h3 b3 e3 => wpAny_pure (wpAny_pure (wpAny_pure ?_))))))
  refine (show wpAny _ _ (newTuple [u, v] >>= _) _ _ _ from wpAny_bind (wpAny_newTuple (wpAny_pure ⟨_, rfl, wpAny_pure ?_⟩)))
  have size : h3.objs.size = s.heap.objs.size := by rw [e3.1, e2.1, e1.1]
  have up : ∀ c o, c ≠ i1 → c ≠ i2 → h1.get? c = some o → (h3.push { cls := .type "tuple", data := .seq #[u, v] }).get? c = some o := fun c o n1 n2 e => Heap.get?_push_of_some _ (e3.extBut c o n2 (e2.extBut c o n1 e))
  have last : IsPair (h3.push { cls := .type "tuple", data := .seq #[u, v] }) h3.objs.size u v := Heap.get?_push_size _ rfl
  show Q (some (.ref h3.objs.size)) _
  rw [size] at last ⊢
  exact q _ (up z _ D.i1z.symm D.i2z.symm hz1) ⟨up TI _ D.TIi1 D.TIi2 st1.p, (a2.extBut e3.extBut D.i12).at fun o => Heap.get?_push_of_some _, b3.at fun o => Heap.get?_push_of_some _, st1.x.at fun o => up l1 o D.l1i1 D.l1i2, st1.y.at fun o => up l2 o D.l2i1 D.l2i2⟩ last
    fun c o nz n1 n2 e => up c o n1 n2 (e1.extBut c o nz e)
/-- the end of a zip, an earlier pair being out -/
theorem out_done (hh : A.handled = none) (D : ZipApart z TI TO i1 i2 l1 l2) (hz : IsZipHeld s.heap z TI TO T f) (hT : s.heap.get? T = some oT) (st : ZSt TI i1 i2 l1 l2 xs ys k s.heap) (he : xs[k]? = none ∨ ys[k]? = none)
    (q : ∀ h', (∀ c o, c ≠ z → c ≠ i1 → c ≠ i2 → s.heap.get? c = some o → h'.get? c = some o) → Q none { s with heap := h' }) : wpAny (model P w) A (pyNext (.ref z)) Q E s := by
  have isZ : s.TypeIs (.ref z) "zip" := ⟨_, hz, rfl⟩
  have stop : ∀ h' e, (∀ c o, c ≠ z → c ≠ i1 → c ≠ i2 → s.heap.get? c = some o → h'.get? c = some o) → (∃ o, h'.get? e = some o ∧ o.cls = .type "StopIteration") → wpAny (model P w) A (isInstance (.ref e) (.type "StopIteration") >>= fun b => if b then pure none else throw (.ref e)) Q E { s with heap := h' } := fun h' e keep ⟨o, ho, hc⟩ =>
    wpAny_bind (wpAny_isInstance (T := "StopIteration") (b := true) ⟨o, ho, hc⟩ isSubtype_stop (wpAny_pure (q h' keep)))
  unfold pyNext
  refine wpAny_bind (wpAny_attempt (wpAny_callSpecial?_slot (name := "__next__") isZ F.slot_zip_next (wpAny_call_entry F.slot_zip_next isZ F.entry_zip_next ?_ (F.args_zip_next_1 _))))
  refine (show wpAny _ _ (field (.ref z) 2 >>= _) _ _ _ from wpAny_bind (wpAny_field hz rfl (x := .bool false) rfl (show wpAny _ _ (field (.ref z) 3 >>= _) _ _ _ from wpAny_bind (wpAny_field hz rfl (x := .ref TI) rfl (wpAny_bind (wpAny_seqItems st.p rfl ?_))))))
  refine (show wpAny _ _ (Builtin.SmallTypes.ownedTupleIsFree (.ref z) >>= _) _ _ _ from wpAny_bind (wpAny_tupleHeld_zip hz hT fun h1 hz1 e1 => ?_))
  simp only [Bool.false_eq_true, if_false]
  refine wpAny_bind ?_
  simp only [← Array.forIn_toList, List.forIn_cons, List.forIn_nil]
  have a1 : h1.IsTupleIter i1 l1 k := st.a.extBut e1.extBut D.i1z
  have x1 : h1.IsTuple l1 xs := st.x.extBut e1.extBut D.l1z
  refine wpAny_bind (wpAny_bind (wpAny_holding (show wpAny _ _ (Builtin.SmallTypes.nextOf (.ref i1) >>= _) _ _ _ from ?_)))
  cases hx : xs[k]? with
  | none => exact wpAny_bind (wpAny_nextOf_tuple_end (s := { s with heap := h1 }) hh a1 x1 hx fun h2 e e2 he => stop h2 e (fun c o n0 n1 _ g => e2 c o n1 (e1.extBut c o n0 g)) he)
  | some x =>
    have hy : ys[k]? = none := he.resolve_left (by rw [hx]; exact fun g => nomatch g)
    refine wpAny_bind (wpAny_nextOf_tuple_item (s := { s with heap := h1 }) a1 x1 hx fun h2 a2 e2 => wpAny_pure (wpAny_pure ?_))
    refine wpAny_bind (wpAny_bind (wpAny_holding (show wpAny _ _ (Builtin.SmallTypes.nextOf (.ref i2) >>= _) _ _ _ from ?_)))
    exact wpAny_bind (wpAny_nextOf_tuple_end (s := { s with heap := h2 }) hh ((st.b.extBut e1.extBut D.i2z).extBut e2.extBut D.i12.symm) ((st.y.extBut e1.extBut D.l2z).extBut e2.extBut D.l2i1) hy fun h3 e e3 he => stop h3 e (fun c o n0 n1 n2 g => e3 c o n2 (e2.extBut c o n1 (e1.extBut c o n0 g))) he)
end
/-- a zip over two tuples, before its first pair; behind it, while a dict is filled at d -/
def ZBeg (z TI TO : Addr) (h : Heap) : Prop := IsZip h z TI TO .none ∧ ∃ a b, IsPair h TO a b
def ZOut (z TI TO i1 i2 d : Addr) (h : Heap) : Prop := ∃ T f oT, IsZipHeld h z TI TO T f ∧ h.get? T = some oT ∧ T ≠ z ∧ T ≠ i1 ∧ T ≠ i2 ∧ T ≠ d
theorem src_zipT {A : Around} {d : Addr} (hh : A.handled = none) (D : ZipApart z TI TO i1 i2 l1 l2) (nd : d ∉ [z, TI, TO, i1, i2, l1, l2]) :
    PairSrc P w A z d [z, TO, i1, i2] (min xs.size ys.size) (fun i k v => xs[i]? = some k ∧ ys[i]? = some v) (fun i h => ZSt TI i1 i2 l1 l2 xs ys i h ∧ (ZBeg z TI TO h ∨ ZOut z TI TO i1 i2 d h)) := by
  have off : ∀ c ∈ [z, TI, TO, i1, i2, l1, l2], c ≠ d := fun c hc e => nd (e ▸ hc)
  refine ⟨fun hm => nd (by revert hm; simp only [List.mem_cons, List.not_mem_nil, or_false]; rintro (h | h | h | h) <;> simp [h]), fun i h h' st keep => ⟨st.1.keep fun c hc o e => keep c o (off c (by
      revert hc; simp only [List.mem_cons, List.not_mem_nil, or_false]; rintro (h | h | h | h | h) <;> simp [h])) e, ?_⟩, fun i s Q E lt st ds q => ?_, fun s Q E st q => ?_⟩
  · rcases st.2 with ⟨g1, a, b, g2⟩ | ⟨T, f, oT, g1, g2, n1, n2, n3, n4⟩
    · exact .inl ⟨keep z _ (off _ (by simp)) g1, a, b, keep TO _ (off _ (by simp)) g2⟩
    · exact .inr ⟨T, f, oT, keep z _ (off _ (by simp)) g1, keep T _ n4 g2, n1, n2, n3, n4⟩
  · obtain ⟨st, st2⟩ := st
    have hx : xs[i]? = some (xs[i]'(by omega)) := Array.getElem?_eq_getElem _
    have hy : ys[i]? = some (ys[i]'(by omega)) := Array.getElem?_eq_getElem _
    have new : ∀ {c o}, s.heap.get? c = some o → s.heap.objs.size ≠ c := fun e => Nat.ne_of_gt (Heap.lt_size e)
    rcases st2 with ⟨g1, a, b, g2⟩ | ⟨T, f, oT, g1, g2, n1, n2, n3, n4⟩
    · refine RZ.pyNext_zipT_item D g1 st.p g2 st.a st.b st.x st.y hx hy fun h' k1 k2 k3 k4 k5 k6 keep => ?_
      refine q _ _ _ h' s.toks ⟨hx, hy⟩ (.inl ⟨_, k5, rfl, _, rfl⟩) ⟨⟨keep TI _ D.TIz D.TITO D.TIi1 D.TIi2 st.p, k3, k4, st.x.at fun o => keep l1 o D.l1z D.l1TO D.l1i1 D.l1i2, st.y.at fun o => keep l2 o D.l2z D.l2TO D.l2i1 D.l2i2⟩, .inr ⟨s.heap.objs.size, false, _, k1, k5, new g1, st.a.elim fun o e => new e.1, st.b.elim fun o e => new e.1, Nat.ne_of_gt ds⟩⟩ fun c o hc e => ?_
      simp only [List.mem_cons, List.not_mem_nil, or_false, not_or] at hc
      exact keep c o hc.1 hc.2.1 hc.2.2.1 hc.2.2.2 e
    · refine out_item D g1 g2 st hx hy fun h' k1 k2 k3 keep => ?_
      refine q _ _ _ h' s.toks ⟨hx, hy⟩ (.inl ⟨_, k3, rfl, _, rfl⟩) ⟨k2, .inr ⟨T, true, oT, k1, keep T oT n1 n2 n3 g2, n1, n2, n3, n4⟩⟩ fun c o hc e => ?_
      simp only [List.mem_cons, List.not_mem_nil, or_false, not_or] at hc
      exact keep c o hc.1 hc.2.2.1 hc.2.2.2 e
  · obtain ⟨st, st2⟩ := st
    have he : xs[min xs.size ys.size]? = none ∨ ys[min xs.size ys.size]? = none := by
      rcases Nat.le_total xs.size ys.size with h | h
      · rw [Nat.min_eq_left h]; exact .inl (by simp)
      · rw [Nat.min_eq_right h]; exact .inr (by simp)
    rcases st2 with ⟨g1, a, b, g2⟩ | ⟨T, f, oT, g1, g2, _⟩
    · refine RZ.pyNext_zipT_end hh D g1 st.p g2 st.a st.b st.x st.y he fun h' keep => q h' s.toks fun c o hc e => ?_
      simp only [List.mem_cons, List.not_mem_nil, or_false, not_or] at hc
      exact keep c o hc.1 hc.2.1 hc.2.2.1 hc.2.2.2 e
    · refine out_done hh D g1 g2 st he fun h' keep => q h' s.toks fun c o hc e => ?_
      simp only [List.mem_cons, List.not_mem_nil, or_false, not_or] at hc
      exact keep c o hc.1 hc.2.2.1 hc.2.2.2 e
theorem arg_zipT (D : ZipApart z TI TO i1 i2 l1 l2) : PairArg P w "zip" z [z, TI, TO, i1, i2, l1, l2] [z, TO, i1, i2] (min xs.size ys.size) (fun i k v => xs[i]? = some k ∧ ys[i]? = some v) (fun h => ZSt TI i1 i2 l1 l2 xs ys 0 h ∧ ZBeg z TI TO h) where
  type := fun s ok => ⟨_, ok.2.1, rfl⟩
  notDict := by decide
  keep := fun h h' ok k => ⟨ok.1.keep fun c _ o => k c o, k _ _ ok.2.1, ok.2.2.imp fun a => Exists.imp fun b => k _ _⟩
  there := fun h ok => by
    obtain ⟨st, g, a, b, g2⟩ := ok
    refine List.forall_mem_cons.mpr ⟨⟨_, g⟩, List.forall_mem_cons.mpr ⟨⟨_, st.p⟩, List.forall_mem_cons.mpr ⟨⟨_, g2⟩, List.forall_mem_cons.mpr ⟨st.a.imp fun _ e => e.1, List.forall_mem_cons.mpr ⟨st.b.imp fun _ e => e.1, List.forall_mem_cons.mpr ⟨st.x.imp fun _ e => e.1, List.forall_mem_cons.mpr ⟨st.y.imp fun _ e => e.1, fun _ e => nomatch e⟩⟩⟩⟩⟩⟩⟩
  sub := by simp
  noKeys := fun A s Q E hA ok h => getAttrOr_miss_zip ok.2.1 rfl rfl rfl zip_no_keys (by decide +kernel) hA h
  iter := fun A s d Q E hA ok hd nd q => wpAny_pyIter_zip ok.2.1 (q z [z, TO, i1, i2] _ s.heap s.toks (src_zipT hA D nd) ⟨ok.1, .inl ok.2⟩ (fun _ _ e => e) fun b hb => .inl hb)
end
/-! ### at the layer of data -/
theorem zip_kv {vs : List V} {us : List Value} : ∀ {ks : List Key}, Vals vs us → KV (ks.zip vs) (ks.zip us)
  | [], _ => .nil
  | _ :: _, .nil => .nil
  | k :: ks, .cons r t => .cons ⟨rfl, r⟩ (zip_kv (ks := ks) t)
theorem zip_repK {K : PySem.W.Frag} {F : Hp} : ∀ {ks : List Key} {ys : List A} {vs : List V}, RepL K F ys vs → RepK K F (ks.zip ys) (ks.zip vs)
  | [], _, _, _ => rfl
  | k :: ks, [], _, h => by simp only [RepL] at h; subst h; rfl
  | k :: ks, y :: ys, _, h => by
    simp only [RepL] at h
    obtain ⟨v, r, rfl, h1, h2⟩ := h
    exact ⟨v, _, rfl, h1, zip_repK h2⟩
theorem keys_of {K : PySem.W.Frag} {F : Hp} : ∀ {ks : List Key} {vs : List V}, RepL K F (ks.map kA) vs → vs = ks.map kV
  | [], _, h => by simp only [List.map_nil, RepL] at h; exact h
  | k :: ks, _, h => by
    simp only [List.map_cons, RepL] at h
    obtain ⟨v, r, rfl, h1, h2⟩ := h
    rw [kA_rep h1, keys_of h2]; rfl
theorem keys_at {P : Program} {w : World} {ks : List Key} {us : List Value} (h : Vals (ks.map kV) us) {i : Nat} {u : Value} (hu : us[i]? = some u) : ∃ k, ks[i]? = some k ∧ (mixKind P w).is k u = true := by
  have lt : i < ks.length := by
    have e := h.length
    have := (List.getElem?_eq_some_iff.mp hu).1
    rw [List.length_map] at e; omega
  obtain ⟨u', g1, g2⟩ := h.get (i := i) (x := kV ks[i]) (by simp [lt])
  rw [hu] at g1; cases g1
  exact ⟨_, List.getElem?_eq_getElem lt, kV_is g2⟩
section
variable {B : Bs} {X : Cx} {Γ : G} {μ : Mu} {Q : A → Mu → Prop} {a b : Expr} {p p2 q0 pos : Pos}
/-- dict(zip(keys, values)), two tuples -/
theorem wE_dictZip (hm : X.mg "dict" = none) (hm2 : X.mg "zip" = none) (h : wA B X [a, b] Γ μ fun zs μ1 => ∃ (ks : List Key) (ys : List A), zs = [.tup (ks.map kA), .tup ys] ∧ ∀ p, μ1 p = none → Q (.loc p) (μ1.upd p (.dic (mergeA [] (ks.zip ys)))))
    (hg : Gl X "dict" := by rfl) (hg2 : Gl X "zip" := by rfl) (hc : X.calm = true := by rfl) (hs : starEach [a, b] X.env = (false, eval a X.env) :: starEach [b] X.env := by rfl) (hpl : (backTo q0 (starEach [b] X.env)).any (·.1) = false := by rfl) :
    wE B X (.Call (.Name "dict" p) [.Call (.Name "zip" p2) [a, b] [] q0] [] pos) Γ μ Q := by
  intro σ M F H bo rs rl
  refine ⟨fun pins s I => ?_⟩
  refine Call_ (ld_blt I hg hm boot_dict (PyProof.Rows.callWith_type1 (PyProof.Rows.args_cons ?_ rfl) rfl rfl))
  refine Call_ (ld_blt I hg2 hm2 boot_zip (PyProof.Rows.callWith_type1 (thn ((h σ M F H bo rs rl).o q0 pins s I) fun us s1 got => ?_) hs hpl))
  obtain ⟨vs, H1, I1, r1, zs, F1, μ1, ex, rl1, p1, ks, ys, rfl, q1⟩ := got
  obtain ⟨v1, v2, rfl, h1, h2⟩ := p1.two
  rw [rep_tup] at h1 h2
  obtain ⟨a1, vs1, rfl, t1, k1⟩ := h1
  obtain ⟨a2, vs2, rfl, t2, k2⟩ := h2
  obtain ⟨u1, u2, rfl, e1, e2⟩ := vals2 r1
  obtain rfl : u1 = Value.ref a1 := e1
  obtain rfl : u2 = Value.ref a2 := e2
  obtain ⟨its1, n1, g1, z1⟩ := I1.tuple (rl1.sub.t t1)
  obtain ⟨its2, n2, g2, z2⟩ := I1.tuple (rl1.sub.t t2)
  obtain rfl := keys_of k1
  obtain ⟨o1, m1, _⟩ := id g1
  obtain ⟨o2, m2, _⟩ := id g2
  refine RZ.call_zipT (show s1.heap.IsTuple a1 its1.toArray from g1) (show s1.heap.IsTuple a2 its2.toArray from g2) fun h' b1 b2 b3 b4 b5 b6 keep => PyProof.Rows.args_nil ?_
  have D5 := PySem.W.ktu_apart s1.heap.objs.size a1 a2 (Heap.lt_size m1) (Heap.lt_size m2)
  have len1 : its1.length = ks.length := by rw [← n1.length, List.length_map]
  have lenz : (ks.zip its2).length = min its1.toArray.size its2.toArray.size := by simp [len1]
  have kvw := zip_kv (ks := ks) n2
  have lenv := kvw.length
  have fits : min its1.toArray.size its2.toArray.size ≤ sizeLine := by
    have := n1.length
    rw [List.length_map] at z1 this
    simp only [List.size_toArray]
    omega
  refine PySem.call_dict_pairs (knd := mixKind X.prog X.w) (kvs := ks.zip its2) (s := { s1 with heap := h' }) (arg_zipT (xs := its1.toArray) (ys := its2.toArray) D5) (I1.ok.hd hc) ⟨⟨b2, b4, b5, (show s1.heap.IsTuple a1 its1.toArray from g1).at fun o => keep a1 o, (show s1.heap.IsTuple a2 its2.toArray from g2).at fun o => keep a2 o⟩, b1, _, _, b3⟩
    ⟨lenz, fun i key v hr => ?_⟩ fits fun h2 tk hd' keep2 => ?_
  · obtain ⟨c1, c2⟩ := hr
    rw [List.getElem?_toArray] at c1 c2
    obtain ⟨k, c3, c4⟩ := keys_at (P := X.prog) (w := X.w) n1 c1
    exact ⟨k, (List.getElem?_zip_eq_some (z := (k, v))).mpr ⟨c3, c2⟩, c4⟩
  · have low : s1.heap.objs.size ≤ h'.objs.size := by rw [b6]; omega
    have old : ∀ c o, s1.heap.get? c = some o → h2.get? c = some o := fun c o e => keep2 c o (by
      have lt := Heap.lt_size e
      simp only [List.mem_cons, List.not_mem_nil, or_false, not_or]
      exact ⟨Nat.ne_of_lt (Nat.lt_add_right 4 lt), Nat.ne_of_lt (Nat.lt_add_right 3 lt), Nat.ne_of_lt lt, Nat.ne_of_lt (Nat.lt_add_right 1 lt)⟩) (keep c o e)
    have hmod : (h'.objs.size == sysModules) = false := beq_eq_false_iff_ne.mpr (Nat.ne_of_gt (Nat.lt_of_lt_of_le I1.big low))
    have small : (mergeK [] (ks.zip vs2)).length ≤ sizeLine := by
      refine Nat.le_trans (length_mergeK _ []) ?_
      rw [List.length_nil, Nat.zero_add, lenv, lenz]
      exact fits
    have nH : H1 h'.objs.size = none := I1.hok.fresh low
    obtain ⟨nμ, rl2⟩ := rl1.new (m := .dic (mergeA [] (ks.zip ys))) nH ⟨_, rfl, merge_rep (zip_repK (ks := ks) k2) rfl⟩
    exact ⟨.ref h'.objs.size, _, I1.laid (t' := tk) old low (show ObjOk X.prog X.w _ _ _ (.dK (mergeK [] (ks.zip vs2))) from ⟨small, hmod, merged [] (ks.zip its2), KV.merge kvw .nil, hd'⟩), rfl, _, F1, _, ex, rl2, rep_loc.mpr rfl, q1 _ nμ⟩
end
end D

set_option Elab.async false
set_option linter.all false
set_option maxRecDepth 100000
set_option maxHeartbeats 4000000
/-! P10c: the law's own way of writing straight, as cells. -/
namespace D
open PySem PySem.Spec PyProof.Rows L2
/-- one turn of an item -/
def turnF (ps : List Pt) (go : GoF) : It → Nm × Gs → Nm × Gs
  | .row x w ts => fun st => oneF ps go st (.row x w ts)
  | .rep _ b => fun st => go b st.1 st.2.more
def turnsN : It → Nat
  | .row _ _ _ => 1
  | .rep n _ => n.toNat
theorem oneF_turns (ps : List Pt) (go : GoF) (st : Nm × Gs) (x : It) : oneF ps go st x = timesF (turnF ps go x) (turnsN x) st := by cases x <;> rfl
theorem turn_le {ps : List Pt} {go : GoF} (h : GoUp go) (x : It) (st : Nm × Gs) : st.2.more.le (turnF ps go x st).2 := by
  cases x with
  | row x w ts => exact behF_le h ..
  | rep n b => exact h b st.1 st.2.more
theorem turn_has {ps : List Pt} {go : GoF} {fits : List Str → List It → Prop} (h : GoHas go fits) {T : List Str} {x : It} (hf : fitOne ps fits T x) (st : Nm × Gs) (k : HasN st.1 T) : HasN (turnF ps go x st).1 T := by
  cases x with
  | row x w ts => exact (k.put x _).mono fun y hy => mem_insT.mpr (.inl hy)
  | rep n b => exact (h b _ _ T hf.2.2 k).mono (tolds_up b T)
theorem turn_len {ps : List Pt} {go : GoF} (up : GoUp go) (h : GoLen go) {c : Nat} (x : It) (st : Nm × Gs) (k : st.1.length ≤ c + st.2.deeds) : (turnF ps go x st).1.length ≤ c + (turnF ps go x st).2.deeds := by
  cases x with
  | row x w ts => exact one_len up h st k (.row x w ts)
  | rep n b => exact h b st.1 st.2.more c (by have e : st.2.more.deeds = st.2.deeds + 1 := rfl; omega)
/-- the law's rows at rl, its deeds at dl, its names at nl -/
structure LwAt (rl dl nl : Addr) (N : Nm) (s : Gs) (μ : Mu) : Prop where
  r : μ rl = some (.lst s.rows)
  d : μ dl = some (.lst [.int (s.deeds : Nat)])
  n : μ nl = some (.dic (Pk N))
  nr : nl ≠ rl
  nd : nl ≠ dl
  rd : rl ≠ dl
theorem LwAt.more {rl dl nl : Addr} {N : Nm} {s : Gs} {μ : Mu} (h : LwAt rl dl nl N s μ) : LwAt rl dl nl N s.more (μ.upd dl (.lst [.int ((s.deeds : Nat) + 1)])) :=
  ⟨by rw [Mu.upd_ne h.rd]; exact h.r, by rw [Mu.upd_same]; rfl, by rw [Mu.upd_ne h.nd]; exact h.n, h.nr, h.nd, h.rd⟩
def c__law_done (k : Nat) : AC := fun xs μ Q _ => ∃ (g : Pg) (rl nl dl : Addr) (s : Gs) (N : Nm) (T : List Str) (x w : Str) (ts : List A), xs = [g.a, (It.row x w ts).a, .loc rl, .loc nl, .loc dl] ∧ g.parts.length ≤ 6 ∧ LwAt rl dl nl N s.more μ ∧ s.more.good ∧ RowFit g.parts (fitsF g.parts k) T w ts ∧ HasN N T ∧ N.length ≤ 10 + s.deeds ∧
  ∀ (b : Bool) (μ' : Mu), Ke [rl, nl, dl] μ μ' → (b = true → LwAt rl dl nl (oneF g.parts (goF g.parts k) (N, s) (.row x w ts)).1 (oneF g.parts (goF g.parts k) (N, s) (.row x w ts)).2 μ' ∧ (oneF g.parts (goF g.parts k) (N, s) (.row x w ts)).2.deeds ≤ 20000 ∧ (oneF g.parts (goF g.parts k) (N, s) (.row x w ts)).2.rows.length ≤ 7000) →
    (b = false → ¬ (oneF g.parts (goF g.parts k) (N, s) (.row x w ts)).2.good) → Q (.bl b) μ'
def c__law_go (k : Nat) : AC := fun xs μ Q _ => ∃ (g : Pg) (rl nl dl : Addr) (s : Gs) (N : Nm) (T : List Str) (b : List It), xs = [g.a, .tup (aIts b), .loc rl, .loc nl, .loc dl] ∧ g.parts.length ≤ 6 ∧ LwAt rl dl nl N s μ ∧ s.deeds ≤ 20000 ∧ s.rows.length ≤ 7000 ∧ fitsF g.parts k T b ∧ HasN N T ∧ N.length ≤ 10 + s.deeds ∧
  ∀ (r : Bool) (μ' : Mu), Ke [rl, nl, dl] μ μ' → (r = true → LwAt rl dl nl (goF g.parts k b N s).1 (goF g.parts k b N s).2 μ' ∧ (goF g.parts k b N s).2.good) → (r = false → ¬ (goF g.parts k b N s).2.good) → Q (.bl r) μ'
theorem stN_at : ∀ (l : List Str) (i j : Nat), (stN l i)[j]? = l[j]?.map fun w => (w, ((i + j : Nat) : Int))
  | [], _, _ => by simp [stN]
  | x :: r, i, 0 => by simp [stN]
  | x :: r, i, j + 1 => by
    have e : i + 1 + j = i + (j + 1) := by omega
    simp only [stN, List.getElem?_cons_succ, stN_at r (i + 1) j, e]
theorem merge_stN {l : List Str} (h : l.Nodup) : mergeA [] (Pk (stN l 0)) = Pk (stN l 0) := by
  refine merge_nodup ?_
  have e : (Pk (stN l 0)).map (·.1) = l.map (Sum.inr : Str → Key) := by
    rw [show l.map (Sum.inr : Str → Key) = ((stN l 0).map (·.1)).map Sum.inr by rw [stN_keys]]
    simp [Pk, Function.comp_def]
  rw [e]
  exact List.Pairwise.map _ (fun a b hab e => hab (Sum.inr.inj e)) h
theorem LwAt.rows {rl dl nl : Addr} {N : Nm} {s s' : Gs} {μ μ' : Mu} (h : LwAt rl dl nl N s μ) (e : μ' rl = some (.lst s'.rows)) (d : s'.deeds = s.deeds) (k : Ke [rl] μ μ') : LwAt rl dl nl N s' μ' :=
  ⟨e, by rw [d]; exact k dl _ (by simpa using Ne.symm h.rd) h.d, k nl _ (by simpa using h.nr) h.n, h.nr, h.nd, h.rd⟩
theorem LwAt.new {rl dl nl p : Addr} {N : Nm} {s : Gs} {μ : Mu} {o : MO} (h : LwAt rl dl nl N s μ) (np : μ p = none) : LwAt rl dl nl N s (μ.upd p o) := by
  have n1 : rl ≠ p := fun z => by have := h.r; rw [z, np] at this; cases this
  have n2 : dl ≠ p := fun z => by have := h.d; rw [z, np] at this; cases this
  have n3 : nl ≠ p := fun z => by have := h.n; rw [z, np] at this; cases this
  exact ⟨by rw [Mu.upd_ne n1]; exact h.r, by rw [Mu.upd_ne n2]; exact h.d, by rw [Mu.upd_ne n3]; exact h.n, h.nr, h.nd, h.rd⟩
theorem LwAt.names {rl dl nl : Addr} {N N' : Nm} {s : Gs} {μ : Mu} (h : LwAt rl dl nl N s μ) : LwAt rl dl nl N' s (μ.upd nl (.dic (Pk N'))) :=
  ⟨by rw [Mu.upd_ne (Ne.symm h.nr)]; exact h.r, by rw [Mu.upd_ne (Ne.symm h.nd)]; exact h.d, Mu.upd_same, h.nr, h.nd, h.rd⟩
theorem plF_deeds (N : Nm) (s : Gs) (x : A) : (plF N s x).2.deeds = s.deeds := by
  unfold plF; split <;> rfl
theorem plsF_deeds (N : Nm) : ∀ (xs : List A) (s : Gs), (plsF N s xs).2.deeds = s.deeds
  | [], _ => rfl
  | x :: xs, s => by rw [plsF, plsF_deeds N xs, plF_deeds]
theorem plF_rows (N : Nm) (s : Gs) (x : A) : (plF N s x).2.rows.length ≤ s.rows.length + 1 := by
  unfold plF; split <;> simp [Gs.put]
theorem plsF_rows (N : Nm) : ∀ (xs : List A) (s : Gs), (plsF N s xs).2.rows.length ≤ s.rows.length + xs.length
  | [], _ => Nat.le_refl _
  | x :: xs, s => by
    have h1 := plsF_rows N xs (plF N s x).2
    have h2 := plF_rows N s x
    simp only [plsF, List.length_cons]
    omega
/-- what of a row's things wants places -/
theorem things_of {ps : List Pt} {fits : List Str → List It → Prop} {T : List Str} {w : Str} {ts : List A} (h : RowFit ps fits T w ts) : ∃ nh : List A, cutA ts (some (if decide (w = "call") = true then 1 else 0)) (some (((ts.length : Nat) : Int) - (if decide (w = "power") = true then 1 else 0))) = nh ∧ (∀ a ∈ nh, ThOk T a) ∧ nh.length ≤ 1000 ∧ (w ≠ "call" → nh = if w = "power" then ts.take 1 else ts) ∧
    (w = "call" → ∃ c p, ts = .str c :: nh ∧ ps.find? (fun p => decide (p.nm = c)) = some p ∧ nh.length = p.ins.length ∧ p.ins.length ≤ 4 ∧ p.ins.Nodup ∧ fits p.ins p.body ∧ p.give ∈ toldIts p.body p.ins) ∧ (w = "copy" → nh ≠ []) ∧ (w = "power" → ∃ a e, ts = [a, e]) := by
  rcases h with ⟨rfl, c, r, p, rfl, h1, h2, h3, h4, h5, h6, h7⟩ | ⟨rfl, a, e, rfl, ha⟩ | ⟨h1, h2, h3, h4, h5⟩
  · refine ⟨r, ?_, h7, by omega, fun z => absurd rfl z, fun _ => ⟨c, p, rfl, h1, h2, h3, h4, h5, h6⟩, fun z => absurd z (by decide +kernel), fun z => absurd z (by decide +kernel)⟩
    rw [if_pos (by decide), if_neg (by decide +kernel)]
    unfold cutA
    have e1 : HT.sIx (A.str c :: r).length 0 (some 1) = 1 := by
      have := HT.sIx_nat (A.str c :: r).length 0 1
      rw [show ((1 : Nat) : Int) = 1 from rfl] at this
      rw [this, List.length_cons]; omega
    have e2 : HT.sIx (A.str c :: r).length (A.str c :: r).length (some (((A.str c :: r).length : Nat) - 0 : Int)) = (A.str c :: r).length := by
      rw [Int.sub_zero, HT.sIx_nat]; omega
    rw [e1, e2]
    simp
  · refine ⟨[a], rfl, fun y hy => by rw [List.mem_singleton.mp hy]; exact ha, by simp, fun _ => rfl, fun z => absurd z (by decide +kernel), fun z => absurd z (by decide +kernel), fun _ => ⟨a, .int e, rfl⟩⟩
  · refine ⟨ts, ?_, h5, h4, fun _ => by rw [if_neg h2], fun z => absurd z h1, fun _ => h3, fun z => absurd z h2⟩
    rw [if_neg (by simpa using h1), if_neg (by simpa using h2)]
    unfold cutA
    have e1 : HT.sIx ts.length 0 (some 0) = 0 := by
      have := HT.sIx_nat ts.length 0 0
      rw [show ((0 : Nat) : Int) = 0 from rfl] at this
      rw [this]; omega
    have e2 : HT.sIx ts.length ts.length (some ((ts.length : Nat) - 0 : Int)) = ts.length := by
      rw [Int.sub_zero, HT.sIx_nat]; omega
    rw [e1, e2]
    simp
theorem behF_copy {ps : List Pt} {go : GoF} {ts : List A} {N : Nm} {s : Gs} : behF ps go "copy" ts N s = ((plsF N s ts).1.headD 0, (plsF N s ts).2) := by
  unfold behF
  rw [if_neg (by decide +kernel), if_neg (by decide +kernel), if_pos rfl]
theorem behF_put {ps : List Pt} {go : GoF} {w : Str} {ts nh : List A} {N : Nm} {s : Gs} (h1 : w ≠ "call") (h2 : w ≠ "copy") (e : nh = if w = "power" then ts.take 1 else ts) : behF ps go w ts N s = ((plsF N s nh).2.at, (plsF N s nh).2.put w ((plsF N s nh).1.map A.int) (if w = "power" then ts.getD 1 .non else .non)) := by
  unfold behF
  subst e
  split
  · rename_i h; subst h; rfl
  · first | rfl | rw [if_neg h1, if_neg h2]
theorem behF_call {ps : List Pt} {go : GoF} {c : Str} {r : List A} {N : Nm} {s : Gs} {p : Pt} (h : ps.find? (fun p => decide (p.nm = c)) = some p) : behF ps go "call" (.str c :: r) N s = ((valI (go p.body (p.ins.zip (plsF N s r).1) (plsF N s r).2).1 p.give).getD 0, (go p.body (p.ins.zip (plsF N s r).1) (plsF N s r).2).2) := by
  unfold behF
  rw [if_neg (by decide +kernel), if_pos rfl]
  simp only [callF, h]
theorem head_pick {α : Type} {f : α → Bool} {g : α → A} {l : List α} {p : α} (h : l.find? f = some p) : ((l.filter f).map g)[0]? = some (g p) := by
  rw [List.getElem?_map, ← List.head?_eq_getElem?, List.head?_filter, h]; rfl
theorem valA_PtK (c : Str) : ∀ ps : List Pt, valA (PtK ps) (.inr c) = (ps.find? fun p => decide (p.nm = c)).map Pt.a
  | [] => rfl
  | p :: ps => by
    have ih := valA_PtK c ps
    unfold valA at ih ⊢
    show Option.map _ (List.find? _ ((Sum.inr p.nm, p.a) :: PtK ps)) = _
    rw [List.find?_cons, List.find?_cons]
    by_cases e : p.nm = c
    · simp [e]
    · simp only [e, decide_false, Sum.inr.injEq]
      exact ih
theorem zip_Pk {ins : List Str} {is : List Int} : (ins.map (Sum.inr : Str → Key)).zip (is.map A.int) = Pk (ins.zip is) := by
  rw [List.zip_map]; rfl
theorem merge_zip {ins : List Str} {is : List Int} (h : ins.Nodup) (hl : is.length = ins.length) : mergeA [] ((ins.map (Sum.inr : Str → Key)).zip (is.map A.int)) = Pk (ins.zip is) := by
  rw [← zip_Pk]
  refine merge_nodup ?_
  rw [List.map_fst_zip (by simp [hl])]
  exact List.Pairwise.map _ (fun a b hab e => hab (Sum.inr.inj e)) h
theorem zip_has : ∀ {ins : List Str} {is : List Int}, is.length = ins.length → HasN (ins.zip is) ins
  | [], _, _ => fun w h => by cases h
  | x :: ins, [], h => by simp at h
  | x :: ins, i :: is, h => fun w hw => by
    by_cases e : x = w
    · subst e; exact ⟨i, by simp [valI]⟩
    · obtain ⟨j, hj⟩ := zip_has (ins := ins) (is := is) (by simpa using h) w ((List.mem_cons.mp hw).resolve_left (Ne.symm e))
      refine ⟨j, ?_⟩
      unfold valI at hj ⊢
      rw [List.zip_cons_cons, List.find?_cons]
      simp only [e, decide_false]
      exact hj
end D

set_option Elab.async false
set_option linter.all false
set_option maxRecDepth 100000
set_option maxHeartbeats 4000000
namespace D
open PySem PySem.Spec PyProof.Rows L2
def topS (i : Nat) : Stmt := PySem.Challenge.pw_slopehouse_k15_names_copies_and_calls.main.body.getD i (.Pass ⟨0, 0, 0, 0⟩)
/-- the names that nobody has taken, the constants, the classes -/
structure Txt (K : PySem.W.Frag) (mg : Str → Option Value) (w : World) (CL CP CG CTL CTe CPr CPo CNV CTG CCo CS pT : Addr) : Prop where
  b_range : mg "range" = none
  b_len : mg "len" = none
  b_isinstance : mg "isinstance" = none
  b_int : mg "int" = none
  b_bool : mg "bool" = none
  b_str : mg "str" = none
  b_tuple : mg "tuple" = none
  b_list : mg "list" = none
  b_dict : mg "dict" = none
  b_set : mg "set" = none
  b_all : mg "all" = none
  b_abs : mg "abs" = none
  b_sum : mg "sum" = none
  b_repr : mg "repr" = none
  b_enumerate : mg "enumerate" = none
  b_min : mg "min" = none
  b_zip : mg "zip" = none
  k_MOST_ROWS : Kn K mg "MOST_ROWS" (.int 5000)
  k_MOST_DONE : Kn K mg "MOST_DONE" (.int 20000)
  k_LETTERS : Kn K mg "LETTERS" (.str "abcdefghijklmnopqrstuvwxyz")
  k_BARRED : Kn K mg "BARRED" (.tup (BARS.map A.str))
  k_MOST_LETTERS : Kn K mg "MOST_LETTERS" (.int 8)
  k_MOST_POWER : Kn K mg "MOST_POWER" (.int 8)
  k_MOST_TURNS : Kn K mg "MOST_TURNS" (.int 200)
  k_MOST_DEEP : Kn K mg "MOST_DEEP" (.int 3)
  k_MOST_SIZE : Kn K mg "MOST_SIZE" (.int 80)
  k_MOST_INS : Kn K mg "MOST_INS" (.int 6)
  k_MOST_OUTS : Kn K mg "MOST_OUTS" (.int 4)
  k_MOST_PARTS : Kn K mg "MOST_PARTS" (.int 6)
  k_MOST_PART_INS : Kn K mg "MOST_PART_INS" (.int 4)
  k_TAKEN : Kn K mg "TAKEN" (.loc pT)
  d_TAKEN : KDi K w pT TAKENL
  cls_Looked : Cls K CL
  na_Looked_parts : NoAttr K CL "parts"
  na_Looked_many : NoAttr K CL "many"
  cls_Program : Cls K CP
  na_Program_told : NoAttr K CP "told"
  na_Program_many : NoAttr K CP "many"
  na_Program_rows_of_parts : NoAttr K CP "rows_of_parts"
  cls_Going : Cls K CG
  na_Going_parts : NoAttr K CG "parts"
  na_Going_rows : NoAttr K CG "rows"
  na_Going_deeds : NoAttr K CG "deeds"
  x_TooLong : ExcN K mg "TooLong" CTL
  k_BadText : Kn K mg "BadText" (.loc CTe)
  i_BadText : PySem.W.kitOne K (.ref CTL) (.ref CTe) = some false
  k_BadProgram : Kn K mg "BadProgram" (.loc CPr)
  i_BadProgram : PySem.W.kitOne K (.ref CTL) (.ref CPr) = some false
  k_TooLong : Kn K mg "TooLong" (.loc CTL)
  i_TooLong : PySem.W.kitOne K (.ref CTL) (.ref CTL) = some true
  k_BadPoint : Kn K mg "BadPoint" (.loc CPo)
  i_BadPoint : PySem.W.kitOne K (.ref CTL) (.ref CPo) = some false
  k_NoValue : Kn K mg "NoValue" (.loc CNV)
  i_NoValue : PySem.W.kitOne K (.ref CTL) (.ref CNV) = some false
  k_TooGreat : Kn K mg "TooGreat" (.loc CTG)
  i_TooGreat : PySem.W.kitOne K (.ref CTL) (.ref CTG) = some false
  k_Corner : Kn K mg "Corner" (.loc CCo)
  i_Corner : PySem.W.kitOne K (.ref CTL) (.ref CCo) = some false
  i_ValueError : PySem.W.kitOne K (.ref CTL) (.type "ValueError") = some true
  e_TooLong : ExcC K CTL
  g_SlopeError : mg "SlopeError" = some (.ref CS)
  m_TooLong : PySem.W.exmOne K (.ref CTL) (.ref CS) = some true
  b_ValueError : mg "ValueError" = none
end D

set_option Elab.async false
set_option linter.all false
set_option maxRecDepth 100000
set_option maxHeartbeats 4000000
namespace D
open PySem PySem.Spec PyProof.Rows L2
local macro_rules | `(tactic| walk_at "mul") => `(tactic| first | refine wO_mul (mulR (by first | decide | omega) (by first | decide | omega)) ?_ | refine wO_mul (mulL (by first | decide | omega) (by first | decide | omega)) ?_)
local macro_rules | `(tactic| walk_at "mod") => `(tactic| refine wO_mod (by first | decide | omega) ?_)
local macro_rules | `(tactic| walk_at "fdiv") => `(tactic| refine wO_fdiv (by first | decide | omega) (divS (by first | decide | omega)) ?_)
local macro_rules | `(tactic| walk_at "ix") => `(tactic| first | refine wI_tup (by rfl) ?_ | refine wI_lst (by rfl) ?_)
local macro_rules | `(tactic| walk_at "sl") => `(tactic| first | refine wSl_tup ?_ | refine wSl_lstF ?_)
local macro_rules | `(tactic| walk_at "obj") => `(tactic| refine ⟨_, _, _, rfl, by assumption, rfl, ?_⟩)
local macro_rules | `(tactic| walk_at "len") => `(tactic| first | refine wC_len (.tup _) ?_ | refine wC_len (.lst _) ?_ | refine wC_len (.loc (by assumption)) ?_)
section
variable {P : Program} {w : World} {mg : Str → Option Value} {base : Heap} {K : PySem.W.Frag} {CL CP CG CTL CTe CPr CPo CNV CTG CCo CS pT : Addr} {k : Nat}
abbrev s_Going_count : Stmt := (bodyC (topS 12)).getD 1 (.Pass ⟨0, 0, 0, 0⟩)
abbrev N_Going_count : List Str := ["self"]
theorem sc_Going_count : FnScope N_Going_count ["self"] (defScope s_Going_count) := ⟨rfl, rfl, rfl, by decide +kernel, rfl, by decide +kernel, by decide +kernel⟩
def c_Going_count (CG CTL : Addr) : AC := fun xs μ Q E => ∃ (ps : List Pt) (g dx rl pt : Addr) (s : Gs), xs = [.loc g] ∧ GoAt CG ps g dx rl pt s μ ∧ s.good ∧ (s.more.good → ∀ μ', GoAt CG ps g dx rl pt s.more μ' → Ke [g] μ μ' → Q .non μ') ∧ (¬ s.more.good → ∀ μ', Ke [g] μ μ' → E (.ref CTL) none μ')
theorem ok_Going_count {n : Nat}  {f : Addr} {fd : FuncData} (TX : Txt K mg w CL CP CG CTL CTe CPr CPo CNV CTG CCo CS pT)  (F : Fun K "count" "Going.count" s_Going_count f fd) : FnD P w K mg base (L2.CX P w) (n + 1) f fd ["self"] (c_Going_count CG CTL) := by
  refine fnDX F sc_Going_count (fun xs μ Q E hc => by obtain ⟨ps, g, dx, rl, pt, s, rfl, go, gd, q1, q2⟩ := hc; rfl) (fun cdv Ao outer s H E xs μ Q E0 ar hc tk pa => ?_)
  obtain ⟨ps, g, dx, rl, pt, s, rfl, go, gd, q1, q2⟩ := hc
  have nd := sc_Going_count.nd
  refine wSs_cons (wS_if (wT_cmp (wE_fld TX.cls_Going TX.na_Going_deeds (wE_name 0 rfl ?_))))
  refine ⟨g, dx, _, _, rfl, go.o, rfl, ?_⟩
  refine wE_glob TX.k_MOST_DONE ?_
  refine wO_eqI ?_
  refine ⟨_, rfl, ?_⟩
  refine ⟨fun hk => ?_, fun hk => ?_⟩
  refine wSs_cons (wS_raise TX.x_TooLong tk ?_)
  have e : s.deeds = 20000 := by have := of_decide_eq_true hk; omega
  exact q2 (fun z => by have := (Gs.more_good gd).mp z; omega) _ (.refl _ _)
  refine wSs_nil ?_
  refine wSs_cons (wS_fld TX.cls_Going TX.na_Going_deeds (wE_bin (wE_fld TX.cls_Going TX.na_Going_deeds (wE_name 0 rfl ?_))))
  refine ⟨g, dx, _, _, rfl, go.o, rfl, ?_⟩
  refine wE_int ?_
  refine wO_add ?_
  refine wE_name 0 rfl ?_
  refine ⟨g, dx, _, rfl, go.o, by show 3 < 1000; decide, ?_⟩
  refine wSs_nil ?_
  have ne : s.deeds < 20000 := by have h1 := of_decide_eq_false hk; have := gd.2; omega
  exact q1 ((Gs.more_good gd).mpr ne) _ go.more (.upd (by simp))

abbrev s_Going_put : Stmt := (bodyC (topS 12)).getD 2 (.Pass ⟨0, 0, 0, 0⟩)
abbrev N_Going_put : List Str := ["self", "word", "places", "more"]
theorem sc_Going_put : FnScope N_Going_put ["self", "word", "places", "more"] (defScope s_Going_put) := ⟨rfl, rfl, rfl, by decide +kernel, rfl, by decide +kernel, by decide +kernel⟩
def c_Going_put (CG CTL : Addr) : AC := fun xs μ Q E => ∃ (ps : List Pt) (g dx rl pt : Addr) (s : Gs) (w : Str) (is : List D.A) (m : D.A), xs = [.loc g, .str w, .tup is, m] ∧ GoAt CG ps g dx rl pt s μ ∧ s.good ∧ ((s.put w is m).good → ∀ μ', GoAt CG ps g dx rl pt (s.put w is m) μ' → Ke [rl] μ μ' → Q (.int s.at) μ') ∧ (¬ (s.put w is m).good → ∀ μ', Ke [rl] μ μ' → E (.ref CTL) none μ')
theorem ok_Going_put {n : Nat}  {f : Addr} {fd : FuncData} (TX : Txt K mg w CL CP CG CTL CTe CPr CPo CNV CTG CCo CS pT)  (F : Fun K "put" "Going.put" s_Going_put f fd) : FnD P w K mg base (L2.CX P w) (n + 1) f fd ["self", "word", "places", "more"] (c_Going_put CG CTL) := by
  refine fnDX F sc_Going_put (fun xs μ Q E hc => by obtain ⟨ps, g, dx, rl, pt, s, w, is, m, rfl, go, gd, q1, q2⟩ := hc; rfl) (fun cdv Ao outer s H E xs μ Q E0 ar hc tk pa => ?_)
  obtain ⟨ps, g, dx, rl, pt, s, w, is, m, rfl, go, gd, q1, q2⟩ := hc
  have nd := sc_Going_put.nd
  refine wSs_cons (wS_if (wT_cmp (wE_callB (id := "len") TX.b_len (by decide +kernel) (wA_cons (wE_fld TX.cls_Going TX.na_Going_rows (wE_name 0 rfl ?_))))))
  refine ⟨g, dx, _, _, rfl, go.o, rfl, ?_⟩
  refine wA_nil ?_
  refine wC_len (.loc go.rows) ?_
  refine wE_glob TX.k_MOST_ROWS ?_
  refine wO_eqI ?_
  refine ⟨_, rfl, ?_⟩
  refine ⟨fun hk => ?_, fun hk => ?_⟩
  refine wSs_cons (wS_raise TX.x_TooLong tk ?_)
  have e : s.rows.length = 5000 := by have := of_decide_eq_true hk; omega
  exact q2 (fun z => by have := (Gs.put_good gd).mp z; omega) _ (.refl _ _)
  refine wSs_nil ?_
  refine wSs_cons (wS_expr (wE_append (wE_fld TX.cls_Going TX.na_Going_rows (wE_name 0 rfl ?_))))
  refine ⟨g, dx, _, _, rfl, go.o, rfl, ?_⟩
  refine ⟨rl, _, rfl, go.rows, ?_⟩
  refine wE_tup (wA_cons (wE_name 1 rfl (wA_cons (wE_name 2 rfl (wA_cons (wE_name 3 rfl (wA_nil ⟨by show 3 ≤ sizeLine; decide, ?_⟩)))))))
  refine ⟨_, go.rows, szLt (by have := gd.1; omega), ?_⟩
  refine wSs_cons (wS_ret (wE_bin (wE_callB (id := "len") TX.b_len (by decide +kernel) (wA_cons (wE_fld TX.cls_Going TX.na_Going_rows (wE_name 0 rfl ?_))))))
  have go2 := go.put w is m
  refine ⟨g, dx, _, _, rfl, go2.o, rfl, ?_⟩
  refine wA_nil ?_
  refine wC_len (.loc go2.rows) ?_
  refine wE_int ?_
  refine wO_sub ?_
  have ne : s.rows.length < 5000 := by have h1 := of_decide_eq_false hk; have := gd.1; omega
  have k := q1 ((Gs.put_good gd).mpr ne) _ go2 (.upd (by simp))
  have e : (((s.put w is m).rows.length : Nat) : Int) - 1 = s.at := by simp [Gs.put, Gs.at]
  rw [← e] at k
  exact k

end
end D

set_option Elab.async false
set_option linter.all false
set_option maxRecDepth 100000
set_option maxHeartbeats 4000000
namespace D
open PySem PySem.Spec PyProof.Rows L2
local macro_rules | `(tactic| walk_at "mul") => `(tactic| first | refine wO_mul (mulR (by first | decide | omega) (by first | decide | omega)) ?_ | refine wO_mul (mulL (by first | decide | omega) (by first | decide | omega)) ?_)
local macro_rules | `(tactic| walk_at "mod") => `(tactic| refine wO_mod (by first | decide | omega) ?_)
local macro_rules | `(tactic| walk_at "fdiv") => `(tactic| refine wO_fdiv (by first | decide | omega) (divS (by first | decide | omega)) ?_)
local macro_rules | `(tactic| walk_at "ix") => `(tactic| first | refine wI_tup (by rfl) ?_ | refine wI_lst (by rfl) ?_)
local macro_rules | `(tactic| walk_at "sl") => `(tactic| first | refine wSl_tup ?_ | refine wSl_lstF ?_)
local macro_rules | `(tactic| walk_at "obj") => `(tactic| refine ⟨_, _, _, rfl, by assumption, rfl, ?_⟩)
local macro_rules | `(tactic| walk_at "len") => `(tactic| first | refine wC_len (.tup _) ?_ | refine wC_len (.lst _) ?_ | refine wC_len (.loc (by assumption)) ?_)
section
variable {P : Program} {w : World} {mg : Str → Option Value} {base : Heap} {K : PySem.W.Frag} {CL CP CG CTL CTe CPr CPo CNV CTG CCo CS pT : Addr} {k : Nat}
abbrev s_Going_place_of : Stmt := (bodyC (topS 12)).getD 3 (.Pass ⟨0, 0, 0, 0⟩)
abbrev N_Going_place_of : List Str := ["self", "thing", "names"]
theorem sc_Going_place_of : FnScope N_Going_place_of ["self", "thing", "names"] (defScope s_Going_place_of) := ⟨rfl, rfl, rfl, by decide +kernel, rfl, by decide +kernel, by decide +kernel⟩
def c_Going_place_of (CG CTL : Addr) : AC := fun xs μ Q E => ∃ (ps : List Pt) (g dx rl pt nl : Addr) (s : Gs) (N : Nm) (x : D.A), xs = [.loc g, x, .loc nl] ∧ GoAt CG ps g dx rl pt s μ ∧ s.good ∧ μ nl = some (.dic (Pk N)) ∧ ThIs N x ∧ ((plF N s x).2.good → ∀ μ', GoAt CG ps g dx rl pt (plF N s x).2 μ' → Ke [rl] μ μ' → Q (.int (plF N s x).1) μ') ∧ (¬ (plF N s x).2.good → ∀ μ', Ke [rl] μ μ' → E (.ref CTL) none μ')
theorem ok_Going_place_of {n : Nat}  {f : Addr} {fd : FuncData} (TX : Txt K mg w CL CP CG CTL CTe CPr CPo CNV CTG CCo CS pT) (CM_Going_put : CalMX P w K mg base n CG "put" (c_Going_put CG CTL)) (F : Fun K "place_of" "Going.place_of" s_Going_place_of f fd) : FnD P w K mg base (L2.CX P w) (n + 1) f fd ["self", "thing", "names"] (c_Going_place_of CG CTL) := by
  refine fnDX F sc_Going_place_of (fun xs μ Q E hc => by obtain ⟨ps, g, dx, rl, pt, nl, s, N, x, rfl, go, gd, hN, th, q1, q2⟩ := hc; rfl) (fun cdv Ao outer s H E xs μ Q E0 ar hc tk pa => ?_)
  obtain ⟨ps, g, dx, rl, pt, nl, s, N, x, rfl, go, gd, hN, th, q1, q2⟩ := hc
  have nd := sc_Going_place_of.nd
  refine wSs_cons (wS_if (wT_val (wE_callB (id := "isinstance") TX.b_isinstance (by decide +kernel) (wA_cons (wE_name 1 rfl (wA_cons (wE_type (n := "str") TX.b_str (by decide +kernel) (wA_nil ?_))))))))
  obtain ⟨nm, t1, t2⟩ := th.isi (μ := μ)
  refine wC_isi t1 t2 ?_
  refine ⟨_, rfl, ?_⟩
  refine ⟨fun hk => ?_, fun hk => ?_⟩
  refine wSs_cons (wS_ret (wE_dget ar (wE_name 2 rfl (wE_name 1 rfl ?_))))
  obtain ⟨w, i, rfl, e⟩ := th.str hk
  refine ⟨nl, _, _, _, rfl, hN, rfl, by rw [valA_Pk, e]; rfl, ?_⟩
  rw [plF_str e] at q1
  exact q1 gd μ go (.refl _ _)
  refine wSs_nil ?_
  refine wSs_cons (wS_ret (wE_methX TX.cls_Going CM_Going_put ar (by omega) tk (wE_name 0 rfl ?_)))
  obtain ⟨n, d, rfl⟩ := th.num hk
  refine ⟨g, dx, _, rfl, go.o, rfl, ?_⟩
  refine wA_cons (wE_str (wA_cons (wE_tup (wA_nil ⟨by show 0 ≤ sizeLine; decide, (wA_cons (wE_name 1 rfl (wA_nil ?_)))⟩))))
  refine ⟨ps, g, dx, rl, pt, s, _, _, _, rfl, go, gd, fun h μ' go' ke => ?_, fun h μ' ke => q2 h μ' ke⟩
  exact q1 h μ' go' ke

end
end D

set_option Elab.async false
set_option linter.all false
set_option maxRecDepth 100000
set_option maxHeartbeats 4000000
namespace D
open PySem PySem.Spec PyProof.Rows L2
local macro_rules | `(tactic| walk_at "mul") => `(tactic| first | refine wO_mul (mulR (by first | decide | omega) (by first | decide | omega)) ?_ | refine wO_mul (mulL (by first | decide | omega) (by first | decide | omega)) ?_)
local macro_rules | `(tactic| walk_at "mod") => `(tactic| refine wO_mod (by first | decide | omega) ?_)
local macro_rules | `(tactic| walk_at "fdiv") => `(tactic| refine wO_fdiv (by first | decide | omega) (divS (by first | decide | omega)) ?_)
local macro_rules | `(tactic| walk_at "ix") => `(tactic| first | refine wI_tup (by rfl) ?_ | refine wI_lst (by rfl) ?_)
local macro_rules | `(tactic| walk_at "sl") => `(tactic| first | refine wSl_tup ?_ | refine wSl_lstF ?_)
local macro_rules | `(tactic| walk_at "obj") => `(tactic| refine ⟨_, _, _, rfl, by assumption, rfl, ?_⟩)
local macro_rules | `(tactic| walk_at "len") => `(tactic| first | refine wC_len (.tup _) ?_ | refine wC_len (.lst _) ?_ | refine wC_len (.loc (by assumption)) ?_)
section
variable {P : Program} {w : World} {mg : Str → Option Value} {base : Heap} {K : PySem.W.Frag} {CL CP CG CTL CTe CPr CPo CNV CTG CCo CS pT : Addr} {k : Nat}
abbrev s_Going_places_of : Stmt := (bodyC (topS 12)).getD 4 (.Pass ⟨0, 0, 0, 0⟩)
abbrev N_Going_places_of : List Str := ["self", "things", "names", "thing"]
theorem sc_Going_places_of : FnScope N_Going_places_of ["self", "things", "names"] (defScope s_Going_places_of) := ⟨rfl, rfl, rfl, by decide +kernel, rfl, by decide +kernel, by decide +kernel⟩
def c_Going_places_of (CG CTL : Addr) : AC := fun xs μ Q E => ∃ (ps : List Pt) (g dx rl pt nl : Addr) (s : Gs) (N : Nm) (ts : List D.A), xs = [.loc g, .tup ts, .loc nl] ∧ GoAt CG ps g dx rl pt s μ ∧ s.good ∧ μ nl = some (.dic (Pk N)) ∧ nl ≠ rl ∧ ts.length ≤ 1000 ∧ (∀ x ∈ ts, ThIs N x) ∧
  ((plsF N s ts).2.good → ∀ μ', GoAt CG ps g dx rl pt (plsF N s ts).2 μ' → Ke [rl] μ μ' → Q (.tup ((plsF N s ts).1.map D.A.int)) μ') ∧ (¬ (plsF N s ts).2.good → ∀ μ', Ke [rl] μ μ' → E (.ref CTL) none μ')
theorem ok_Going_places_of {n : Nat}  {f : Addr} {fd : FuncData} (TX : Txt K mg w CL CP CG CTL CTe CPr CPo CNV CTG CCo CS pT) (CM_Going_place_of : CalMX P w K mg base n CG "place_of" (c_Going_place_of CG CTL)) (F : Fun K "places_of" "Going.places_of" s_Going_places_of f fd) : FnD P w K mg base (L2.CX P w) (n + 1) f fd ["self", "things", "names"] (c_Going_places_of CG CTL) := by
  refine fnDX F sc_Going_places_of (fun xs μ Q E hc => by obtain ⟨ps, g, dx, rl, pt, nl, s, N, ts, rfl, go, gd, hN, nr, hz, ths, q1, q2⟩ := hc; rfl) (fun cdv Ao outer s H E xs μ Q E0 ar hc tk pa => ?_)
  obtain ⟨ps, g, dx, rl, pt, nl, s, N, ts, rfl, go, gd, hN, nr, hz, ths, q1, q2⟩ := hc
  have nd := sc_Going_places_of.nd
  refine wSs_cons (wS_ret (wE_callTy (T := "tuple") TX.b_tuple (by decide +kernel) (wA_cons (wE_lcFX [("thing", 3)] tk (wIt_tup (wE_name 1 rfl ⟨_, rfl, ?_⟩)) nd (blkOk_by (N := N_Going_places_of) (sc := defScope s_Going_places_of) (by decide +kernel))))))
  have take_ : ∀ i, (plsF N s (ts.take i)).2.le (plsF N s ts).2 := fun i => by
    have k := plsF_app_le N (ts.drop i) (ts.take i) s
    rwa [List.take_append_drop] at k
  refine ⟨szOk (by omega), fun i acc μ1 => (plsF N s (ts.take i)).2.good ∧ acc = (plsF N s (ts.take i)).1.map D.A.int ∧ GoAt CG ps g dx rl pt (plsF N s (ts.take i)).2 μ1 ∧ Ke [rl] μ μ1, ⟨gd, rfl, go, .refl _ _⟩, fun i y acc μ1 hy hJ B1 s0 H0 C cl fp xe le1 fly1 => ?_, fun acc μ1 hJ p np => ?_⟩
  obtain ⟨g1, rfl, go1, ke1⟩ := hJ
  have hx := ths y (List.mem_of_getElem? hy)
  have step : ts.take (i + 1) = ts.take i ++ [y] := by rw [List.take_add_one, hy]; rfl
  refine wGw_name 3 (fun B2 s0 H0 C cl fp xe le2 tk => (wE_methX TX.cls_Going CM_Going_place_of ar.bkX (by omega) tk (wE_name 0 rfl ?_))) nd
  refine ⟨g, dx, _, rfl, go1.o, rfl, ?_⟩
  refine wA_cons (wE_name 3 rfl (wA_cons (wE_name 2 rfl (wA_nil ?_))))
  refine ⟨ps, g, dx, rl, pt, nl, _, N, y, rfl, go1, g1, ke1 nl _ (by simpa using nr) hN, hx, fun h μ2 go2 ke2 => ?_, fun h μ2 ke2 => ?_⟩
  · show (plsF N s (ts.take (i + 1))).2.good ∧ _ = (plsF N s (ts.take (i + 1))).1.map D.A.int ∧ GoAt CG ps g dx rl pt (plsF N s (ts.take (i + 1))).2 _ ∧ Ke [rl] μ _
    rw [step, plsF_snoc]
    exact ⟨h, by simp, go2, ke1.trans ke2⟩
  · have k := take_ (i + 1)
    rw [step, plsF_snoc] at k
    exact q2 (fun z => h (k.good z)) _ (ke1.trans ke2)
  obtain ⟨g1, rfl, go1, ke1⟩ := hJ
  refine ⟨p, _, rfl, Mu.upd_same, ?_⟩
  rw [Mu.del_upd np]
  rw [List.take_length] at g1 go1 ⊢
  refine wA_nil ?_
  refine wC_tuple (.lst _) ?_
  exact q1 g1 _ go1 ke1

end
end D

set_option Elab.async false
set_option linter.all false
set_option maxRecDepth 100000
set_option maxHeartbeats 4000000
namespace D
open PySem PySem.Spec PyProof.Rows L2
local macro_rules | `(tactic| walk_at "mul") => `(tactic| first | refine wO_mul (mulR (by first | decide | omega) (by first | decide | omega)) ?_ | refine wO_mul (mulL (by first | decide | omega) (by first | decide | omega)) ?_)
local macro_rules | `(tactic| walk_at "mod") => `(tactic| refine wO_mod (by first | decide | omega) ?_)
local macro_rules | `(tactic| walk_at "fdiv") => `(tactic| refine wO_fdiv (by first | decide | omega) (divS (by first | decide | omega)) ?_)
local macro_rules | `(tactic| walk_at "ix") => `(tactic| first | refine wI_tup (by rfl) ?_ | refine wI_lst (by rfl) ?_)
local macro_rules | `(tactic| walk_at "sl") => `(tactic| first | refine wSl_tup ?_ | refine wSl_lstF ?_)
local macro_rules | `(tactic| walk_at "obj") => `(tactic| refine ⟨_, _, _, rfl, by assumption, rfl, ?_⟩)
local macro_rules | `(tactic| walk_at "len") => `(tactic| first | refine wC_len (.tup _) ?_ | refine wC_len (.lst _) ?_ | refine wC_len (.loc (by assumption)) ?_)
section
variable {P : Program} {w : World} {mg : Str → Option Value} {base : Heap} {K : PySem.W.Frag} {CL CP CG CTL CTe CPr CPo CNV CTG CCo CS pT : Addr} {k : Nat}
abbrev s_Going_place_behind : Stmt := (bodyC (topS 12)).getD 6 (.Pass ⟨0, 0, 0, 0⟩)
abbrev N_Going_place_behind : List Str := ["self", "word", "things", "names", "places"]
theorem sc_Going_place_behind : FnScope N_Going_place_behind ["self", "word", "things", "names"] (defScope s_Going_place_behind) := ⟨rfl, rfl, rfl, by decide +kernel, rfl, by decide +kernel, by decide +kernel⟩
def c_Going_place_behind (CG CTL : Addr) (k : Nat) : AC := fun xs μ Q E => ∃ (ps : List Pt) (g dx rl pt nl : Addr) (s : Gs) (N : Nm) (T : List Str) (w : Str) (ts : List D.A), xs = [.loc g, .str w, .tup ts, .loc nl] ∧ GoAt CG ps g dx rl pt s μ ∧ s.good ∧ NmAt g rl pt nl N μ ∧ RowFit ps (fitsF ps k) T w ts ∧ HasN N T ∧
  ((behF ps (goF ps k) w ts N s).2.good → ∀ μ', GoAt CG ps g dx rl pt (behF ps (goF ps k) w ts N s).2 μ' → Ke [g, rl] μ μ' → Q (.int (behF ps (goF ps k) w ts N s).1) μ') ∧ (¬ (behF ps (goF ps k) w ts N s).2.good → ∀ μ', Ke [g, rl] μ μ' → E (.ref CTL) none μ')
theorem ok_Going_place_behind {n : Nat}  {f : Addr} {fd : FuncData} (TX : Txt K mg w CL CP CG CTL CTe CPr CPo CNV CTG CCo CS pT) (CM_Going_put : CalMX P w K mg base n CG "put" (c_Going_put CG CTL)) (CM_Going_places_of : CalMX P w K mg base n CG "places_of" (c_Going_places_of CG CTL)) (CM_Going_called : CalMX P w K mg base n CG "called" (c_Going_called CG CTL k)) (F : Fun K "place_behind" "Going.place_behind" s_Going_place_behind f fd) : FnD P w K mg base (L2.CX P w) (n + 1) f fd ["self", "word", "things", "names"] (c_Going_place_behind CG CTL k) := by
  refine fnDX F sc_Going_place_behind (fun xs μ Q E hc => by obtain ⟨ps, g, dx, rl, pt, nl, s, N, T, w, ts, rfl, go, gd, hN, fit, hT, q1, q2⟩ := hc; rfl) (fun cdv Ao outer s H E xs μ Q E0 ar hc tk pa => ?_)
  obtain ⟨ps, g, dx, rl, pt, nl, s, N, T, w, ts, rfl, go, gd, hN, fit, hT, q1, q2⟩ := hc
  have nd := sc_Going_place_behind.nd
  refine wSs_cons (wS_if (wT_cmp (wE_name 1 rfl (wE_str ?_))))
  refine wO_eqS ?_
  refine ⟨_, rfl, ?_⟩
  refine ⟨fun hk => ?_, fun hk => ?_⟩
  refine wSs_cons (wS_ret (wE_methX TX.cls_Going CM_Going_put ar (by omega) tk (wE_name 0 rfl ?_)))
  obtain rfl : w = "power" := of_decide_eq_true hk
  obtain ⟨a, e, rfl, ta⟩ : ∃ a e, ts = [a, .int e] ∧ ThOk T a := by
    rcases fit with ⟨z, _⟩ | ⟨_, a, e, h⟩ | ⟨_, z, _⟩
    · exact absurd z (by decide +kernel)
    · exact ⟨a, e, h⟩
    · exact absurd rfl z
  have eb : behF ps (goF ps k) "power" [a, .int e] N s = ((plsF N s [a]).2.at, (plsF N s [a]).2.put "power" ((plsF N s [a]).1.map D.A.int) (.int e)) := rfl
  rw [eb] at q1 q2
  refine ⟨g, dx, _, rfl, go.o, rfl, ?_⟩
  refine wA_cons (wE_name 1 rfl (wA_cons (wE_methX TX.cls_Going CM_Going_places_of ar (by omega) tk (wE_name 0 rfl ?_))))
  refine ⟨g, dx, _, rfl, go.o, rfl, ?_⟩
  refine wA_cons (wE_slice (wE_name 2 rfl (wE_int ⟨_, rfl, ?_⟩)))
  refine wSl_tup ?_
  rw [show cutA [a, D.A.int e] none (some 1) = [a] from rfl]
  refine wA_cons (wE_name 3 rfl (wA_nil ?_))
  refine ⟨ps, g, dx, rl, pt, nl, s, N, [a], rfl, go, gd, hN.n, hN.nr, by simp, fun x hx => ?_, fun h μ1 go1 ke1 => ?_, fun h μ1 ke => q2 (fun z => h ((Gs.le_put _ _ _ _).good z)) _ (ke.mono (by simp))⟩
  · rw [List.mem_singleton.mp hx]; exact ta.is hT
  refine wA_cons (wE_ix (wE_name 2 rfl (wE_int ?_)))
  refine wI_tup (i := 1) (y := .int e) rfl ?_
  refine wA_nil ?_
  refine ⟨ps, g, dx, rl, pt, _, "power", (plsF N s [a]).1.map D.A.int, .int e, rfl, go1, h, fun h2 μ2 go2 ke2 => ?_, fun h2 μ2 ke2 => q2 h2 _ ((ke1.mono (by simp)).trans (ke2.mono (by simp)))⟩
  exact q1 h2 μ2 go2 ((ke1.mono (by simp)).trans (ke2.mono (by simp)))
  refine wSs_nil ?_
  refine wSs_cons (wS_if (wT_cmp (wE_name 1 rfl (wE_str ?_))))
  have np : w ≠ "power" := of_decide_eq_false hk
  refine wO_eqS ?_
  refine ⟨_, rfl, ?_⟩
  refine ⟨fun hk => ?_, fun hk => ?_⟩
  refine wSs_cons (wS_ret (wE_methX TX.cls_Going CM_Going_called ar (by omega) tk (wE_name 0 rfl ?_)))
  obtain rfl : w = "call" := of_decide_eq_true hk
  obtain ⟨c, r, p, rfl, hp, hl, h4, hnd, hfit, hgive, hr⟩ : ∃ c r p, ts = .str c :: r ∧ ps.find? (fun p => decide (p.nm = c)) = some p ∧ r.length = p.ins.length ∧ p.ins.length ≤ 4 ∧ p.ins.Nodup ∧ fitsF ps k p.ins p.body ∧ p.give ∈ toldIts p.body p.ins ∧ ∀ a ∈ r, ThOk T a := by
    rcases fit with ⟨_, h⟩ | ⟨z, _⟩ | ⟨z, _⟩
    · exact h
    · exact absurd z (by decide +kernel)
    · exact absurd rfl z
  have eb : behF ps (goF ps k) "call" (.str c :: r) N s = callF ps (goF ps k) c (plsF N s r).1 (plsF N s r).2 := rfl
  rw [eb] at q1 q2
  refine ⟨g, dx, _, rfl, go.o, rfl, ?_⟩
  refine wA_cons (wE_ix (wE_name 2 rfl (wE_int ?_)))
  refine wI_tup (atI_pos (i := 0) (y := .str c) (by rfl) (by decide)) ?_
  refine wA_cons (wE_methX TX.cls_Going CM_Going_places_of ar (by omega) tk (wE_name 0 rfl ?_))
  refine ⟨g, dx, _, rfl, go.o, rfl, ?_⟩
  refine wA_cons (wE_slice (wE_name 2 rfl (wE_int ⟨_, rfl, ?_⟩)))
  refine wSl_tup ?_
  rw [show cutA (D.A.str c :: r) (some 1) none = r from cut1 _]
  refine wA_cons (wE_name 3 rfl (wA_nil ?_))
  refine ⟨ps, g, dx, rl, pt, nl, s, N, r, rfl, go, gd, hN.n, hN.nr, by omega, fun x hx => (hr x hx).is hT, fun h μ1 go1 ke1 => ?_, fun h μ1 ke => q2 (fun z => h ((callF_le (goF_up ps k) _ _ _).good z)) _ (ke.mono (by simp))⟩
  refine wA_nil ?_
  refine ⟨ps, g, dx, rl, pt, _, c, (plsF N s r).1, p, rfl, go1, h, hp, by rw [plsF_len]; exact hl, h4, hnd, hfit, hgive, fun h2 μ2 go2 ke2 => ?_, fun h2 μ2 ke2 => q2 h2 _ ((ke1.mono (by simp)).trans ke2)⟩
  exact q1 h2 μ2 go2 ((ke1.mono (by simp)).trans ke2)
  refine wSs_nil ?_
  refine wSs_cons (wS_set 4 (wE_methX TX.cls_Going CM_Going_places_of ar (by omega) tk (wE_name 0 rfl ?_)) nd)
  have nc : w ≠ "call" := of_decide_eq_false hk
  obtain ⟨nz, hz, hts⟩ : ts ≠ [] ∧ ts.length ≤ 1000 ∧ ∀ a ∈ ts, ThOk T a := by
    rcases fit with ⟨z, _⟩ | ⟨z, _⟩ | ⟨_, _, h⟩
    · exact absurd z nc
    · exact absurd z np
    · exact h
  have eb : behF ps (goF ps k) w ts N s = if w = "copy" then ((plsF N s ts).1.headD 0, (plsF N s ts).2) else ((plsF N s ts).2.at, (plsF N s ts).2.put w ((plsF N s ts).1.map D.A.int) .non) := by
    unfold behF; rw [if_neg np, if_neg nc]
  rw [eb] at q1 q2
  have le : (plsF N s ts).2.le (if w = "copy" then ((plsF N s ts).1.headD 0, (plsF N s ts).2) else ((plsF N s ts).2.at, (plsF N s ts).2.put w ((plsF N s ts).1.map D.A.int) .non) : Int × Gs).2 := by
    split
    · exact .refl _
    · exact Gs.le_put ..
  refine ⟨g, dx, _, rfl, go.o, rfl, ?_⟩
  refine wA_cons (wE_name 2 rfl (wA_cons (wE_name 3 rfl (wA_nil ?_))))
  refine ⟨ps, g, dx, rl, pt, nl, s, N, ts, rfl, go, gd, hN.n, hN.nr, hz, fun x hx => (hts x hx).is hT, fun h μ1 go1 ke1 => ?_, fun h μ1 ke => q2 (fun z => h (le.good z)) _ (ke.mono (by simp))⟩
  refine wSs_cons (wS_ret ?_)
  refine wE_if (wT_cmp (wE_name 1 rfl (wE_str ?_)))
  refine wO_eqS ?_
  refine ⟨_, rfl, ?_⟩
  refine ⟨fun hk => ?_, fun hk => ?_⟩
  refine wE_ix (wE_name 4 rfl (wE_int ?_))
  obtain ⟨i0, is, ei⟩ : ∃ i0 is, (plsF N s ts).1 = i0 :: is := by
    cases ts with
    | nil => exact absurd rfl nz
    | cons x xs => exact ⟨_, _, rfl⟩
  rw [ei]
  refine wI_tup (atI_pos (i := 0) (y := .int i0) (by rfl) (by decide)) ?_
  rw [if_pos (of_decide_eq_true hk), ei] at q1
  exact q1 h μ1 go1 (ke1.mono (by simp))
  refine wE_methX TX.cls_Going CM_Going_put ar (by omega) tk (wE_name 0 rfl ?_)
  have nw : w ≠ "copy" := of_decide_eq_false hk
  rw [if_neg nw] at q1 q2
  refine ⟨g, dx, _, rfl, go1.o, rfl, ?_⟩
  refine wA_cons (wE_name 1 rfl (wA_cons (wE_name 4 rfl (wA_cons (wE_non (wA_nil ?_))))))
  refine ⟨ps, g, dx, rl, pt, _, w, (plsF N s ts).1.map D.A.int, .non, rfl, go1, h, fun h2 μ2 go2 ke2 => ?_, fun h2 μ2 ke2 => q2 h2 _ ((ke1.mono (by simp)).trans (ke2.mono (by simp)))⟩
  exact q1 h2 μ2 go2 ((ke1.mono (by simp)).trans (ke2.mono (by simp)))

end
end D

set_option Elab.async false
set_option linter.all false
set_option maxRecDepth 100000
set_option maxHeartbeats 4000000
namespace D
open PySem PySem.Spec PyProof.Rows L2
local macro_rules | `(tactic| walk_at "mul") => `(tactic| first | refine wO_mul (mulR (by first | decide | omega) (by first | decide | omega)) ?_ | refine wO_mul (mulL (by first | decide | omega) (by first | decide | omega)) ?_)
local macro_rules | `(tactic| walk_at "mod") => `(tactic| refine wO_mod (by first | decide | omega) ?_)
local macro_rules | `(tactic| walk_at "fdiv") => `(tactic| refine wO_fdiv (by first | decide | omega) (divS (by first | decide | omega)) ?_)
local macro_rules | `(tactic| walk_at "ix") => `(tactic| first | refine wI_tup (by rfl) ?_ | refine wI_lst (by rfl) ?_)
local macro_rules | `(tactic| walk_at "sl") => `(tactic| first | refine wSl_tup ?_ | refine wSl_lstF ?_)
local macro_rules | `(tactic| walk_at "obj") => `(tactic| refine ⟨_, _, _, rfl, by assumption, rfl, ?_⟩)
local macro_rules | `(tactic| walk_at "len") => `(tactic| first | refine wC_len (.tup _) ?_ | refine wC_len (.lst _) ?_ | refine wC_len (.loc (by assumption)) ?_)
section
variable {P : Program} {w : World} {mg : Str → Option Value} {base : Heap} {K : PySem.W.Frag} {CL CP CG CTL CTe CPr CPo CNV CTG CCo CS pT : Addr} {k : Nat}
abbrev s_Going_go : Stmt := (bodyC (topS 12)).getD 7 (.Pass ⟨0, 0, 0, 0⟩)
abbrev N_Going_go : List Str := ["self", "body", "names", "one", "turn"]
theorem sc_Going_go : FnScope N_Going_go ["self", "body", "names"] (defScope s_Going_go) := ⟨rfl, rfl, rfl, by decide +kernel, rfl, by decide +kernel, by decide +kernel⟩
theorem ok_Going_go {n : Nat}  {f : Addr} {fd : FuncData} (TX : Txt K mg w CL CP CG CTL CTe CPr CPo CNV CTG CCo CS pT) (CM_Going_count : CalMX P w K mg base n CG "count" (c_Going_count CG CTL)) (CM_Going_place_behind : CalMX P w K mg base n CG "place_behind" (c_Going_place_behind CG CTL k)) (CM_Going_go : CalMX P w K mg base n CG "go" (c_Going_go CG CTL k)) (F : Fun K "go" "Going.go" s_Going_go f fd) : FnD P w K mg base (L2.CX P w) (n + 1) f fd ["self", "body", "names"] (c_Going_go CG CTL (k + 1)) := by
  refine fnDX F sc_Going_go (fun xs μ Q E hc => by obtain ⟨ps, g, dx, rl, pt, nl, s, N, T, b, rfl, go, gd, hN, fit, hT, hl, q1, q2⟩ := hc; rfl) (fun cdv Ao outer s H E xs μ Q E0 ar hc tk pa => ?_)
  obtain ⟨ps, g, dx, rl, pt, nl, s, N, T, b, rfl, go, gd, hN, fit, hT, hl, q1, q2⟩ := hc
  have nd := sc_Going_go.nd
  refine wSs_cons (wS_for (wIt_tup (wE_name 1 rfl ⟨_, rfl, ?_⟩)))
  have up := goF_up ps k
  have fin : ∀ i, ((b.take i).foldl (oneF ps (goF ps k)) (N, s)).2.le (goF ps (k + 1) b N s).2 := fun i => fold_take_le up b i (N, s)
  refine ⟨fun i Γ' μ' => ∃ x1 x2, Γ' = [some (.loc g), some (.tup (aIts b)), some (.loc nl), x1, x2] ∧ ((b.take i).foldl (oneF ps (goF ps k)) (N, s)).2.good ∧ GoAt CG ps g dx rl pt ((b.take i).foldl (oneF ps (goF ps k)) (N, s)).2 μ' ∧ NmAt g rl pt nl ((b.take i).foldl (oneF ps (goF ps k)) (N, s)).1 μ' ∧ Ke [g, rl, nl] μ μ', ⟨_, _, rfl, gd, go, hN, .refl _ _⟩, fun i y Γ' μ' hy hI => ?_, fun Γ' μ' hI => ?_⟩
  obtain ⟨x1, x2, rfl, gd1, go1, nm1, ke1⟩ := hI
  obtain ⟨x, hx, rfl⟩ := aIts_at hy
  have es := fold_snoc (oneF ps (goF ps k)) hx (N, s)
  have fi := fin (i + 1)
  have has1 : HasN ((b.take i).foldl (oneF ps (goF ps k)) (N, s)).1 (toldIts (b.take i) T) := fold_has (goF_has ps k) (b.take i) T (N, s) hT (fitAll_take i fit)
  have len1 : ((b.take i).foldl (oneF ps (goF ps k)) (N, s)).1.length ≤ 10 + ((b.take i).foldl (oneF ps (goF ps k)) (N, s)).2.deeds := fold_len up (goF_len ps k) (b.take i) (N, s) hl
  have fit1 : fitOne ps (fitsF ps k) (toldIts (b.take i) T) x := fitAll_at fit hx
  rw [es] at fi
  generalize (b.take i).foldl (oneF ps (goF ps k)) (N, s) = st at gd1 go1 nm1 has1 len1 fi es
  generalize toldIts (b.take i) T = T1 at has1 fit1
  obtain ⟨N1, s1⟩ := st
  have nm1 : NmAt g rl pt nl N1 _ := nm1
  have len1 : N1.length ≤ 10 + s1.deeds := len1
  refine wG_name 3 ?_ nd
  refine wSs_cut (fun Γ' μ' => ∃ x1 x2, Γ' = [some (.loc g), some (.tup (aIts b)), some (.loc nl), x1, x2] ∧ (oneF ps (goF ps k) (N1, s1) x).2.good ∧ GoAt CG ps g dx rl pt (oneF ps (goF ps k) (N1, s1) x).2 μ' ∧ NmAt g rl pt nl (oneF ps (goF ps k) (N1, s1) x).1 μ' ∧ Ke [g, rl, nl] μ μ') ?_ (fun Γ' μ' hP => ?_)
  obtain ⟨w0, rest, ea⟩ : ∃ w0 rest, x.a = .tup (.str w0 :: rest) := by cases x <;> exact ⟨_, _, rfl⟩
  refine wS_if (wT_cmp (wE_ix (wE_name 3 rfl (wE_int ?_))))
  rw [ea]
  refine wI_tup (atI_pos (i := 0) (y := .str w0) (by rfl) (by decide)) ?_
  refine wE_str ?_
  refine wO_eqS ?_
  refine ⟨_, rfl, ?_⟩
  refine ⟨fun hk => ?_, fun hk => ?_⟩
  refine wSs_cons (wS_expr (wE_methX0 TX.cls_Going CM_Going_count ar (by omega) tk (wE_name 0 rfl ?_)))
  obtain ⟨x0, w1, ts, rfl⟩ : ∃ x0 w1 ts, x = .row x0 w1 ts := by
    cases x with
    | row x0 w1 ts => exact ⟨_, _, _, rfl⟩
    | rep n b1 =>
      have e2 : w0 = "repeat" := by simp only [It.a] at ea; cases ea; rfl
      exact absurd ((of_decide_eq_true hk).symm.trans e2) (by decide +kernel)
  cases (show D.A.tup [.str "row", .str x0, .str w1, .tup ts] = D.A.tup (.str w0 :: rest) from ea)
  refine ⟨g, dx, _, rfl, go1.o, rfl, ?_⟩
  refine ⟨ps, g, dx, rl, pt, s1, rfl, go1, gd1, fun h μ2 go2 ke2 => ?_, fun h μ2 ke => q2 (fun z => h (((behF_le up w1 ts N1 s1.more).trans fi).good z)) _ (ke1.trans (ke.mono (by simp)))⟩
  have nm2 := nm1.ke ke2 (by simpa using nm1.ng)
  refine wSs_cons (wS_dput ar (wE_methX TX.cls_Going CM_Going_place_behind ar (by omega) tk (wE_name 0 rfl ?_)))
  refine ⟨g, dx, _, rfl, go2.o, rfl, ?_⟩
  refine wA_cons (wE_ix (wE_name 3 rfl (wE_int ?_)))
  refine wI_tup (atI_pos (i := 2) (y := .str w1) (by rfl) (by decide)) ?_
  refine wA_cons (wE_ix (wE_name 3 rfl (wE_int ?_)))
  refine wI_tup (atI_pos (i := 3) (y := .tup ts) (by rfl) (by decide)) ?_
  refine wA_cons (wE_name 2 rfl (wA_nil ?_))
  refine ⟨ps, g, dx, rl, pt, nl, s1.more, N1, T1, w1, ts, rfl, go2, h, nm2, fit1, has1, fun h3 μ3 go3 ke3 => ?_, fun h3 μ3 ke => q2 (fun z => h3 (fi.good z)) _ ((ke1.trans (ke2.mono (by simp))).trans (ke.mono (by simp)))⟩
  have nm3 := nm2.ke ke3 (by simp [nm1.ng, nm1.nr])
  refine wE_name 2 rfl (wE_ix (wE_name 3 rfl (wE_int ?_)))
  refine wI_tup (atI_pos (i := 1) (y := .str x0) (by rfl) (by decide)) ?_
  refine ⟨nl, _, .inr x0, rfl, nm3.n, rfl, szLt (by have := h.2; have e3 : s1.more.deeds = s1.deeds + 1 := rfl; rw [List.length_map]; omega), ?_⟩
  rw [putA_PkI]
  refine wSs_nil ?_
  exact ⟨_, _, rfl, h3, go3.ke (.upd (S := [nl]) (by simp)) (by simpa using Ne.symm nm1.ng) (by simpa using Ne.symm nm1.nr) (by simpa using Ne.symm nm1.np), ⟨Mu.upd_same, nm1.ng, nm1.nr, nm1.np⟩, ((ke1.trans (ke2.mono (by simp))).trans (ke3.mono (by simp))).put (by simp)⟩
  refine wSs_cons (wS_for (wIt_range1 TX.b_range (wA_cons (wE_ix (wE_name 3 rfl (wE_int ?_))))))
  obtain ⟨n1, b1, rfl⟩ : ∃ n1 b1, x = .rep n1 b1 := by
    cases x with
    | rep n1 b1 => exact ⟨_, _, rfl⟩
    | row x0 w1 ts =>
      have e2 : w0 = "row" := by simp only [It.a] at ea; cases ea; rfl
      exact absurd e2 (of_decide_eq_false hk)
  cases (show D.A.tup [.str "repeat", .int n1, .tup (aIts b1)] = D.A.tup (.str w0 :: rest) from ea)
  obtain ⟨lo1, hi1, fitb⟩ : 1 ≤ n1 ∧ n1 ≤ 200 ∧ fitsF ps k T1 b1 := fit1
  refine wI_tup (atI_pos (i := 1) (y := .int n1) (by rfl) (by decide)) ?_
  refine wA_nil ⟨_, rfl, by omega, by omega, ?_⟩
  have upF : ∀ st : Nm × Gs, st.2.le (goF ps k b1 st.1 st.2.more).2 := fun st => st.2.le_more.trans (up b1 st.1 st.2.more)
  refine ⟨fun j Γ' μ' => ∃ x2, Γ' = [some (.loc g), some (.tup (aIts b)), some (.loc nl), some (It.rep n1 b1).a, x2] ∧ (timesF (fun st => goF ps k b1 st.1 st.2.more) j (N1, s1)).2.good ∧ GoAt CG ps g dx rl pt (timesF (fun st => goF ps k b1 st.1 st.2.more) j (N1, s1)).2 μ' ∧ NmAt g rl pt nl (timesF (fun st => goF ps k b1 st.1 st.2.more) j (N1, s1)).1 μ' ∧ Ke [g, rl, nl] μ μ', ⟨_, rfl, gd1, go1, nm1, ke1⟩, fun j y Γ' μ' hy hI => ?_, fun Γ' μ' hI => ?_⟩
  obtain ⟨x3, rfl, gd2, go2, nm2, ke2⟩ := hI
  obtain ⟨lt, rfl⟩ := rgA_at hy
  have es2 := timesF_snoc (fun st : Nm × Gs => goF ps k b1 st.1 st.2.more) j (N1, s1)
  have fj : (timesF (fun st : Nm × Gs => goF ps k b1 st.1 st.2.more) (j + 1) (N1, s1)).2.le (goF ps (k + 1) b N s).2 := (times_up upF (by omega) _).trans fi
  have has2 : HasN (timesF (fun st : Nm × Gs => goF ps k b1 st.1 st.2.more) j (N1, s1)).1 T1 := times_has (fun st q => (goF_has ps k b1 _ _ T1 fitb q).mono (tolds_up b1 T1)) j _ has1
  have len2 : (timesF (fun st : Nm × Gs => goF ps k b1 st.1 st.2.more) j (N1, s1)).1.length ≤ 10 + (timesF (fun st : Nm × Gs => goF ps k b1 st.1 st.2.more) j (N1, s1)).2.deeds := times_len (fun st q => goF_len ps k b1 _ _ 10 (by have e : st.2.more.deeds = st.2.deeds + 1 := rfl; omega)) j _ len1
  rw [es2] at fj
  generalize timesF (fun st : Nm × Gs => goF ps k b1 st.1 st.2.more) j (N1, s1) = st2 at gd2 go2 nm2 has2 len2 fj es2
  obtain ⟨N2, s2⟩ := st2
  have nm2 : NmAt g rl pt nl N2 _ := nm2
  have len2 : N2.length ≤ 10 + s2.deeds := len2
  refine wG_name 4 ?_ nd
  refine wSs_cons (wS_expr (wE_methX0 TX.cls_Going CM_Going_count ar (by omega) tk (wE_name 0 rfl ?_)))
  refine ⟨g, dx, _, rfl, go2.o, rfl, ?_⟩
  refine ⟨ps, g, dx, rl, pt, s2, rfl, go2, gd2, fun h μ3 go3 ke3 => ?_, fun h μ3 ke => q2 (fun z => h (((up b1 N2 s2.more).trans fj).good z)) _ (ke2.trans (ke.mono (by simp)))⟩
  have nm3 := nm2.ke ke3 (by simpa using nm1.ng)
  refine wSs_cons (wS_expr (wE_methX TX.cls_Going CM_Going_go ar (by omega) tk (wE_name 0 rfl ?_)))
  refine ⟨g, dx, _, rfl, go3.o, rfl, ?_⟩
  refine wA_cons (wE_ix (wE_name 3 rfl (wE_int ?_)))
  refine wI_tup (atI_pos (i := 2) (y := .tup (aIts b1)) (by rfl) (by decide)) ?_
  refine wA_cons (wE_name 2 rfl (wA_nil ?_))
  refine ⟨ps, g, dx, rl, pt, nl, s2.more, N2, T1, b1, rfl, go3, h, nm3, fitb, has2, (by have e : s2.more.deeds = s2.deeds + 1 := rfl; omega), fun h4 μ4 go4 nm4 ke4 => ?_, fun h4 μ4 ke4 => q2 (fun z => h4 (fj.good z)) _ ((ke2.trans (ke3.mono (by simp))).trans ke4)⟩
  refine wSs_nil ?_
  refine ⟨_, rfl, ?_⟩
  rw [es2]
  exact ⟨h4, go4, nm4, (ke2.trans (ke3.mono (by simp))).trans ke4⟩
  obtain ⟨x3, rfl, gd2, go2, nm2, ke2⟩ := hI
  rw [rgA_len] at gd2 go2 nm2
  refine wSs_nil ?_
  exact ⟨_, _, rfl, gd2, go2, nm2, ke2⟩
  refine wSs_nil ?_
  obtain ⟨x3, x4, rfl, h1, h2, h3, h4⟩ := hP
  refine ⟨x3, x4, rfl, ?_⟩
  rw [es]
  exact ⟨h1, h2, h3, h4⟩
  obtain ⟨x1, x2, rfl, gd1, go1, nm1, ke1⟩ := hI
  rw [aIts_len, List.take_length] at gd1 go1 nm1
  refine wSs_nil ?_
  exact q1 gd1 _ go1 nm1 ke1

end
end D

set_option Elab.async false
set_option linter.all false
set_option maxRecDepth 100000
set_option maxHeartbeats 4000000
namespace D
open PySem PySem.Spec PyProof.Rows L2
local macro_rules | `(tactic| walk_at "mul") => `(tactic| first | refine wO_mul (mulR (by first | decide | omega) (by first | decide | omega)) ?_ | refine wO_mul (mulL (by first | decide | omega) (by first | decide | omega)) ?_)
local macro_rules | `(tactic| walk_at "mod") => `(tactic| refine wO_mod (by first | decide | omega) ?_)
local macro_rules | `(tactic| walk_at "fdiv") => `(tactic| refine wO_fdiv (by first | decide | omega) (divS (by first | decide | omega)) ?_)
local macro_rules | `(tactic| walk_at "ix") => `(tactic| first | refine wI_tup (by rfl) ?_ | refine wI_lst (by rfl) ?_)
local macro_rules | `(tactic| walk_at "sl") => `(tactic| first | refine wSl_tup ?_ | refine wSl_lstF ?_)
local macro_rules | `(tactic| walk_at "obj") => `(tactic| refine ⟨_, _, _, rfl, by assumption, rfl, ?_⟩)
local macro_rules | `(tactic| walk_at "len") => `(tactic| first | refine wC_len (.tup _) ?_ | refine wC_len (.lst _) ?_ | refine wC_len (.loc (by assumption)) ?_)
section
variable {P : Program} {w : World} {mg : Str → Option Value} {base : Heap} {K : PySem.W.Frag} {CL CP CG CTL CTe CPr CPo CNV CTG CCo CS pT : Addr} {k : Nat}
abbrev s_Going___init__ : Stmt := (bodyC (topS 12)).getD 0 (.Pass ⟨0, 0, 0, 0⟩)
abbrev N_Going___init__ : List Str := ["self", "parts", "part"]
theorem sc_Going___init__ : FnScope N_Going___init__ ["self", "parts"] (defScope s_Going___init__) := ⟨rfl, rfl, rfl, by decide +kernel, rfl, by decide +kernel, by decide +kernel⟩
def c_Going___init__ (CG : Addr) : AC := fun xs μ Q _ => ∃ (p dx : Addr) (ps : List Pt), xs = [.loc p, .tup (ps.map Pt.a)] ∧ μ p = some (.ins CG dx []) ∧ (ps.map (·.nm)).Nodup ∧ ps.length ≤ 6 ∧ ∀ (rl pt : Addr) (μ' : Mu), GoAt CG ps p dx rl pt ⟨[], 0⟩ μ' → μ rl = none → μ pt = none → Ke [p] μ μ' → Q .non μ'
theorem merge_PtK {ps : List Pt} (h : (ps.map (·.nm)).Nodup) : mergeA [] (PtK ps) = PtK ps := by
  refine merge_nodup ?_
  have e : (PtK ps).map (·.1) = (ps.map (·.nm)).map Sum.inr := by simp [PtK, Function.comp_def]
  rw [e]
  exact List.Pairwise.map _ (fun a b hab e => hab (Sum.inr.inj e)) h
theorem ok_Going___init__ {n : Nat}  {f : Addr} {fd : FuncData} (TX : Txt K mg w CL CP CG CTL CTe CPr CPo CNV CTG CCo CS pT)  (F : Fun K "__init__" "Going.__init__" s_Going___init__ f fd) : FnD P w K mg base CX0 (n + 1) f fd ["self", "parts"] (c_Going___init__ CG) := by
  refine fnD F sc_Going___init__ (fun xs μ Q E hc => by obtain ⟨p, dx, ps, rfl, hp, nd6, l6, q⟩ := hc; rfl) (fun cdv Ao outer s H E xs μ Q E0 ar hc => ?_)
  obtain ⟨p, dx, ps, rfl, hp, nd6, l6, q⟩ := hc
  have nd := sc_Going___init__.nd
  refine wSs_cons (wS_fld TX.cls_Going TX.na_Going_parts (wE_callTy (T := "dict") TX.b_dict (by decide +kernel) (wA_cons (wE_lcF (own := [("part", 2)]) (wIt_tup (wE_name 1 rfl ⟨_, rfl, ?_⟩)) nd (blkOk_by (N := N_Going___init__) (sc := defScope s_Going___init__) (by decide +kernel))))))
  refine ⟨szOk (by rw [List.length_map]; omega), (PtK ps).map (fun kv => D.A.tup [kA kv.1, kv.2]), by simp, fun i y z hy hz s0 H0 C cl fp => ?_, ?_⟩
  obtain ⟨q1, g1, rfl⟩ := map_at hy
  obtain ⟨kv, g2, rfl⟩ := map_at hz
  obtain ⟨q2, g3, rfl⟩ := map_at g2
  obtain rfl : q1 = q2 := Option.some.inj (g1.symm.trans g3)
  refine wGw_name 2 (⟨rfl, fun s0 H0 C cl fp => (wE_tup (wA_cons (wE_ix (wE_name 2 rfl (wE_int ?_)))))⟩) nd
  walk_at "ix"
  refine wA_cons (wE_name 2 rfl (wA_nil ⟨by show 2 ≤ sizeLine; decide, ?_⟩))
  refine ⟨?_, .refl _⟩
  rfl
  refine wA_nil ?_
  refine wC_dictP rfl (.lst _) (fun pt npt => ?_)
  rw [merge_PtK nd6]
  have n1 : pt ≠ p := fun z => by rw [z, hp] at npt; cases npt
  refine wE_name 0 rfl ?_
  refine ⟨p, dx, [], rfl, by rw [Mu.upd_ne (Ne.symm n1)]; exact hp, by show 0 < 1000; decide, ?_⟩
  refine wSs_cons (wS_fld TX.cls_Going TX.na_Going_rows (wE_lst (wA_nil ⟨by show 0 ≤ sizeLine; decide, fun pl npl => (wE_name 0 rfl ?_)⟩)))
  have n2 : pl ≠ p := fun z => by rw [z, Mu.upd_same] at npl; cases npl
  have npl2 : (μ.upd pt (.dic (PtK ps))) pl = none := by rw [Mu.upd_ne n2] at npl; exact npl
  have n3 : pl ≠ pt := fun z => by rw [z, Mu.upd_same] at npl2; cases npl2
  have npl3 : μ pl = none := by rw [Mu.upd_ne n3] at npl2; exact npl2
  refine ⟨p, dx, _, rfl, by rw [Mu.upd_ne (Ne.symm n2)]; exact Mu.upd_same, by show 1 < 1000; decide, ?_⟩
  refine wSs_cons (wS_fld TX.cls_Going TX.na_Going_deeds (wE_int (wE_name 0 rfl ?_)))
  refine ⟨p, dx, _, rfl, Mu.upd_same, by show 2 < 1000; decide, ?_⟩
  refine wSs_nil ?_
  refine q pl pt _ ⟨Mu.upd_same, ?_, ?_, Ne.symm n2, Ne.symm n1, n3⟩ npl3 npt ?_
  · rw [Mu.upd_ne n2, Mu.upd_ne n2, Mu.upd_same]
  · rw [Mu.upd_ne n1, Mu.upd_ne n1, Mu.upd_ne (Ne.symm n3), Mu.upd_ne n1, Mu.upd_same]
  · intro z o hz e
    have h1 : z ≠ p := fun k => hz (by simp [k])
    have h2 : z ≠ pt := fun k => by rw [k, npt] at e; cases e
    have h3 : z ≠ pl := fun k => by rw [k, npl3] at e; cases e
    rw [Mu.upd_ne h1, Mu.upd_ne h1, Mu.upd_ne h3, Mu.upd_ne h1, Mu.upd_ne h2]
    exact e

end
end D

set_option Elab.async false
set_option linter.all false
set_option maxRecDepth 100000
set_option maxHeartbeats 4000000
namespace D
open PySem PySem.Spec PyProof.Rows L2
local macro_rules | `(tactic| walk_at "mul") => `(tactic| first | refine wO_mul (mulR (by first | decide | omega) (by first | decide | omega)) ?_ | refine wO_mul (mulL (by first | decide | omega) (by first | decide | omega)) ?_)
local macro_rules | `(tactic| walk_at "mod") => `(tactic| refine wO_mod (by first | decide | omega) ?_)
local macro_rules | `(tactic| walk_at "fdiv") => `(tactic| refine wO_fdiv (by first | decide | omega) (divS (by first | decide | omega)) ?_)
local macro_rules | `(tactic| walk_at "ix") => `(tactic| first | refine wI_tup (by rfl) ?_ | refine wI_lst (by rfl) ?_)
local macro_rules | `(tactic| walk_at "sl") => `(tactic| first | refine wSl_tup ?_ | refine wSl_lstF ?_)
local macro_rules | `(tactic| walk_at "obj") => `(tactic| refine ⟨_, _, _, rfl, by assumption, rfl, ?_⟩)
local macro_rules | `(tactic| walk_at "len") => `(tactic| first | refine wC_len (.tup _) ?_ | refine wC_len (.lst _) ?_ | refine wC_len (.loc (by assumption)) ?_)
section
variable {P : Program} {w : World} {mg : Str → Option Value} {base : Heap} {K : PySem.W.Frag} {CL CP CG CTL CTe CPr CPo CNV CTG CCo CS pT : Addr} {k : Nat}
abbrev s_is_whole : Stmt := topS 15
abbrev N_is_whole : List Str := ["thing"]
theorem sc_is_whole : FnScope N_is_whole ["thing"] (defScope s_is_whole) := ⟨rfl, rfl, rfl, by decide +kernel, rfl, by decide +kernel, by decide +kernel⟩
def wholeA : D.A → Bool
  | .int _ => true
  | _ => false
/-- things whose built-in class is known -/
def Kd (μ : Mu) (x : D.A) : Prop := ∃ nm k, tyN μ x = some nm ∧ kitB nm "int" = some k ∧ (k = false → wholeA x = false) ∧ ∃ k2, kitB nm "bool" = some k2 ∧ (k = true → wholeA x = !k2)
def c_is_whole : AC := fun xs μ Q _ => ∃ x : D.A, xs = [x] ∧ Kd μ x ∧ Q (.bl (wholeA x)) μ
theorem ok_is_whole {n : Nat}  {f : Addr} {fd : FuncData} (TX : Txt K mg w CL CP CG CTL CTe CPr CPo CNV CTG CCo CS pT)  (F : Fun K "is_whole" "is_whole" s_is_whole f fd) : FnD P w K mg base CX0 (n + 1) f fd ["thing"] c_is_whole := by
  refine fnD F sc_is_whole (fun xs μ Q E hc => by obtain ⟨x, rfl, hx, q⟩ := hc; rfl) (fun cdv Ao outer s H E xs μ Q E0 ar hc => ?_)
  obtain ⟨x, rfl, hx, q⟩ := hc
  obtain ⟨nm, k, t1, t2, t3, k2, t4, t5⟩ := hx
  have nd := sc_is_whole.nd
  refine wSs_cons (wS_ret ?_)
  refine wE_and (wE_callB (id := "isinstance") TX.b_isinstance (by decide +kernel) (wA_cons (wE_name 0 rfl (wA_cons (wE_type (n := "int") TX.b_int (by decide +kernel) (wA_nil ?_))))))
  refine wC_isi t1 t2 ?_
  refine ⟨_, rfl, and_flip (fun hk => ?_) (fun hk => ?_)⟩
  · rw [t3 hk] at q; exact q
  rw [t5 hk] at q
  refine wE_one (wE_not (wE_callB (id := "isinstance") TX.b_isinstance (by decide +kernel) (wA_cons (wE_name 0 rfl (wA_cons (wE_type (n := "bool") TX.b_bool (by decide +kernel) (wA_nil ?_)))))))
  refine wC_isi t1 t4 ?_
  refine ⟨_, rfl, ?_⟩
  exact q

abbrev s_common : Stmt := topS 16
abbrev N_common : List Str := ["one", "other"]
theorem sc_common : FnScope N_common ["one", "other"] (defScope s_common) := ⟨rfl, rfl, rfl, by decide +kernel, rfl, by decide +kernel, by decide +kernel⟩
def c_common : AC := fun xs μ Q _ => ∃ a b : Int, xs = [.int a, .int b] ∧ Q (.int (Int.gcd a b : Nat)) μ
theorem ok_common {n : Nat}  {f : Addr} {fd : FuncData} (TX : Txt K mg w CL CP CG CTL CTe CPr CPo CNV CTG CCo CS pT)  (F : Fun K "common" "common" s_common f fd) : FnD P w K mg base CX0 (n + 1) f fd ["one", "other"] c_common := by
  refine fnD F sc_common (fun xs μ Q E hc => by obtain ⟨a, b, rfl, q⟩ := hc; rfl) (fun cdv Ao outer s H E xs μ Q E0 ar hc => ?_)
  obtain ⟨a, b, rfl, q⟩ := hc
  have nd := sc_common.nd
  refine wSs_cons (wS_par 0 1 (wA_cons (wE_callB (id := "abs") TX.b_abs (by decide +kernel) (wA_cons (wE_name 0 rfl (wA_nil ?_))))) nd)
  refine wC_abs ?_
  refine wA_cons (wE_callB (id := "abs") TX.b_abs (by decide +kernel) (wA_cons (wE_name 1 rfl (wA_nil ?_))))
  refine wC_abs ?_
  refine wA_nil ⟨_, _, rfl, (wSs_cons ?_)⟩
  refine wS_while (fun m Γ' μ' => ∃ x y : Nat, Γ' = [some (.int x), some (.int y)] ∧ μ = μ' ∧ Nat.gcd x y = Int.gcd a b ∧ y ≤ m) b.natAbs ⟨a.natAbs, b.natAbs, ?_, rfl, rfl, Nat.le_refl _⟩ (fun m Γ' μ' hW => ?_)
  · have e1 : (if a < 0 then -a else a) = (a.natAbs : Int) := by split <;> omega
    have e2 : (if b < 0 then -b else b) = (b.natAbs : Int) := by split <;> omega
    rw [e1, e2]; rfl
  obtain ⟨x, y, rfl, rfl, hg, hy⟩ := hW
  refine wT_cmp (wE_name 1 rfl (wE_int ?_))
  refine wO_gt ?_
  refine ⟨_, rfl, ?_⟩
  refine ⟨fun hk => ?_, fun hk => ?_⟩
  have hk2 : (0 : Int) < y := of_decide_eq_true hk
  refine wSs_cons (wS_par 0 1 (wA_cons (wE_name 1 rfl (wA_cons (wE_bin (wE_name 0 rfl (wE_name 1 rfl ?_)))))) nd)
  walk_at "mod"
  refine wA_nil ⟨_, _, rfl, (wSs_nil ?_)⟩
  refine ⟨x % y, Nat.lt_of_lt_of_le (Nat.mod_lt _ (by omega)) hy, y, x % y, rfl, rfl, ?_, Nat.le_refl _⟩
  rw [← hg, Nat.gcd_comm x y, Nat.gcd_rec y x, Nat.gcd_comm]
  have hk2 : ¬ (0 : Int) < y := of_decide_eq_false hk
  obtain rfl : y = 0 := by omega
  rw [Nat.gcd_zero_right] at hg
  refine wSs_cons (wS_ret (wE_name 0 rfl ?_))
  rw [hg]; exact q

abbrev s_is_fraction : Stmt := topS 17
abbrev N_is_fraction : List Str := ["thing"]
theorem sc_is_fraction : FnScope N_is_fraction ["thing"] (defScope s_is_fraction) := ⟨rfl, rfl, rfl, by decide +kernel, rfl, by decide +kernel, by decide +kernel⟩
/-- two numbers in lowest terms, the lower one above nought -/
def isFr : D.A → Bool
  | .tup [.int n, .int d] => decide (0 < d) && decide (Int.gcd n d = 1)
  | _ => false
theorem isFr_not {x : D.A} (h : ∀ n d : Int, x ≠ .tup [.int n, .int d]) : isFr x = false := by
  unfold isFr
  split
  · exact absurd rfl (h _ _)
  · rfl
/-- what may be asked: no tuple, or a tuple of things whose class is known -/
def FrK (μ : Mu) (x : D.A) : Prop := (∃ nm, tyN μ x = some nm ∧ kitB nm "tuple" = some false ∧ isFr x = false) ∨ ∃ ys, x = .tup ys ∧ ∀ y ∈ ys, Kd μ y
def c_is_fraction : AC := fun xs μ Q _ => ∃ x : D.A, xs = [x] ∧ FrK μ x ∧ Q (.bl (isFr x)) μ
theorem ok_is_fraction {n : Nat}  {f : Addr} {fd : FuncData} (TX : Txt K mg w CL CP CG CTL CTe CPr CPo CNV CTG CCo CS pT) (C_is_whole : Cal P w K mg base n "is_whole" c_is_whole) (C_common : Cal P w K mg base n "common" c_common) (F : Fun K "is_fraction" "is_fraction" s_is_fraction f fd) : FnD P w K mg base CX0 (n + 1) f fd ["thing"] c_is_fraction := by
  refine fnD F sc_is_fraction (fun xs μ Q E hc => by obtain ⟨x, rfl, hx, q⟩ := hc; rfl) (fun cdv Ao outer s H E xs μ Q E0 ar hc => ?_)
  obtain ⟨x, rfl, hx, q⟩ := hc
  have nd := sc_is_fraction.nd
  refine wSs_cons (wS_if ?_)
  refine wT.imp (QB := fun k μ' => μ = μ' ∧ (k = true → isFr x = false) ∧ (k = false → ∃ n d : Int, x = .tup [.int n, .int d])) ?_ (fun k μ' hq => ?_)
  refine wT_chain (wW_or (wT_not (wT_val (wE_callB (id := "isinstance") TX.b_isinstance (by decide +kernel) (wA_cons (wE_name 0 rfl (wA_cons (wE_type (n := "tuple") TX.b_tuple (by decide +kernel) (wA_nil ?_)))))))))
  have e1 : ∃ nm k, tyN μ x = some nm ∧ kitB nm "tuple" = some k ∧ (k = false → isFr x = false) ∧ (k = true → ∃ ys, x = .tup ys ∧ ∀ y ∈ ys, Kd μ y) := by
    rcases hx with ⟨nm, t1, t2, t3⟩ | ⟨ys, rfl, h⟩
    · exact ⟨nm, false, t1, t2, (fun _ => t3), fun z => nomatch z⟩
    · exact ⟨_, true, rfl, rfl, (fun z => nomatch z), fun _ => ⟨ys, rfl, h⟩⟩
  obtain ⟨nm, k, t1, t2, t3, t4⟩ := e1
  refine wC_isi t1 t2 ?_
  refine ⟨_, rfl, ?_⟩
  refine ⟨fun hk => ?_, fun hk => ?_⟩
  · exact ⟨rfl, fun _ => t3 (by simpa using hk), fun z => nomatch z⟩
  obtain ⟨ys, rfl, hy⟩ := t4 (by simpa using hk)
  refine wW_or (wT_cmp (wE_callB (id := "len") TX.b_len (by decide +kernel) (wA_cons (wE_name 0 rfl (wA_nil ?_)))))
  refine wC_len (.tup _) ?_
  refine wE_int ?_
  refine wO_neI ?_
  refine ⟨_, rfl, ?_⟩
  refine ⟨fun hk => ?_, fun hk => ?_⟩
  · refine ⟨rfl, fun _ => ?_, fun z => nomatch z⟩
    have hk2 : ¬ ((ys.length : Int) = 2) := by simpa using hk
    refine isFr_not fun n d z => ?_
    have z2 := (D.A.tup.injEq _ _).mp z
    rw [z2] at hk2
    exact hk2 rfl
  obtain ⟨u, v, rfl⟩ : ∃ u v, ys = [u, v] := by
    have hk2 : (ys.length : Int) = 2 := by simpa using hk
    have h2 : ys.length = 2 := by omega
    rcases ys with _ | ⟨u, _ | ⟨v, _ | ⟨_, _⟩⟩⟩ <;> simp at h2
    exact ⟨u, v, rfl⟩
  refine wW_or (wT_not (wT_val (wE_cal C_is_whole ar (by omega) (wA_cons (wE_ix (wE_name 0 rfl (wE_int ?_)))))))
  walk_at "ix"
  refine wA_nil ?_
  refine ⟨u, rfl, hy u (by simp), ?_⟩
  refine ⟨_, rfl, ?_⟩
  refine ⟨fun hk => ?_, fun hk => ?_⟩
  · refine ⟨rfl, fun _ => ?_, fun z => nomatch z⟩
    have hk2 : wholeA u = false := by simpa using hk
    refine isFr_not fun n d z => ?_
    simp only [D.A.tup.injEq, List.cons.injEq] at z
    rw [z.1] at hk2
    simp [wholeA] at hk2
  obtain ⟨n, rfl⟩ : ∃ n, u = .int n := by
    have hk2 : wholeA u = true := by simpa using hk
    cases u with
    | int n => exact ⟨n, rfl⟩
    | _ => simp [wholeA] at hk2
  refine wW_or1 (wT_not (wT_val (wE_cal C_is_whole ar (by omega) (wA_cons (wE_ix (wE_name 0 rfl (wE_int ?_)))))))
  walk_at "ix"
  refine wA_nil ?_
  refine ⟨v, rfl, hy v (by simp), ?_⟩
  refine ⟨_, rfl, ?_⟩
  refine ⟨rfl, fun z => ?_, fun z => ?_⟩
  · have hk2 : wholeA v = false := by simpa using z
    refine isFr_not fun n d z => ?_
    simp only [D.A.tup.injEq, List.cons.injEq] at z
    rw [z.2.1] at hk2
    simp [wholeA] at hk2
  · have hk2 : wholeA v = true := by simpa using z
    cases v with
    | int d => exact ⟨n, d, rfl⟩
    | _ => simp [wholeA] at hk2
  obtain ⟨rfl, g1, g2⟩ := hq
  refine ⟨fun hk => ?_, fun hk => ?_⟩
  refine wSs_cons (wS_ret (wE_bl ?_))
  rw [g1 hk] at q; exact q
  obtain ⟨n, d, rfl⟩ := g2 hk
  refine wSs_nil ?_
  refine wSs_cons (wS_ret ?_)
  refine wE_and (wE_cmp (wE_ix (wE_name 0 rfl (wE_int ?_))))
  walk_at "ix"
  refine wE_int ?_
  refine wO_gt ?_
  refine ⟨_, rfl, and_flip (fun hk => ?_) (fun hk => ?_)⟩
  · have e : isFr (.tup [.int n, .int d]) = false := by simp only [isFr, hk, Bool.false_and]
    rw [e] at q; exact q
  have e : isFr (.tup [.int n, .int d]) = decide ((Int.gcd n d : Int) = 1) := by
    simp only [isFr, hk, Bool.true_and]
    exact decide_eq_decide.mpr (by omega)
  rw [e] at q
  refine wE_one (wE_cmp (wE_cal C_common ar (by omega) (wA_cons (wE_ix (wE_name 0 rfl (wE_int ?_))))))
  walk_at "ix"
  refine wA_cons (wE_ix (wE_name 0 rfl (wE_int ?_)))
  walk_at "ix"
  refine wA_nil ?_
  refine ⟨n, d, rfl, ?_⟩
  refine wE_int ?_
  refine wO_eqI ?_
  exact q

abbrev s_is_name : Stmt := topS 31
abbrev N_is_name : List Str := ["thing", "sign"]
theorem sc_is_name : FnScope N_is_name ["thing"] (defScope s_is_name) := ⟨rfl, rfl, rfl, by decide +kernel, rfl, by decide +kernel, by decide +kernel⟩
theorem split_bars : Txt.split "in out part give call repeat end plus less times over power most least size pick copy" " " = BARS := by decide +kernel
def c_is_name : AC := fun xs μ Q _ => ∃ (x : D.A) (nm : String) (k : Bool), xs = [x] ∧ tyN μ x = some nm ∧ kitB nm "str" = some k ∧ (k = true → ∃ w, x = .str w ∧ w.length ≤ 1000) ∧ (k = false → isNm x = false) ∧ Q (.bl (isNm x)) μ
theorem ok_is_name {n : Nat}  {f : Addr} {fd : FuncData} (TX : Txt K mg w CL CP CG CTL CTe CPr CPo CNV CTG CCo CS pT)  (F : Fun K "is_name" "is_name" s_is_name f fd) : FnD P w K mg base CX0 (n + 1) f fd ["thing"] c_is_name := by
  refine fnD F sc_is_name (fun xs μ Q E hc => by obtain ⟨x, nm, k, rfl, t1, t2, t3, t4, q⟩ := hc; rfl) (fun cdv Ao outer s H E xs μ Q E0 ar hc => ?_)
  obtain ⟨x, nm, k, rfl, t1, t2, t3, t4, q⟩ := hc
  have nd := sc_is_name.nd
  refine wSs_cons (wS_if ?_)
  refine wT.imp (QB := fun k' μ' => μ = μ' ∧ (k' = true → isNm x = false) ∧ (k' = false → ∃ w, x = .str w ∧ w.length ≤ 1000 ∧ isNm x = letA w)) ?_ (fun k μ' hq => ?_)
  refine wT_chain (wW_or (wT_not (wT_val (wE_callB (id := "isinstance") TX.b_isinstance (by decide +kernel) (wA_cons (wE_name 0 rfl (wA_cons (wE_type (n := "str") TX.b_str (by decide +kernel) (wA_nil ?_)))))))))
  refine wC_isi t1 t2 ?_
  refine ⟨_, rfl, ?_⟩
  refine ⟨fun hk => ?_, fun hk => ?_⟩
  · exact ⟨rfl, fun _ => t4 (by simpa using hk), fun z => nomatch z⟩
  obtain ⟨w, rfl, hw⟩ := t3 (by simpa using hk)
  refine wW_or (wT_not (wT_chain2 (wE_int (wE_callB (id := "len") TX.b_len (by decide +kernel) (wA_cons (wE_name 0 rfl (wA_nil ?_)))))))
  refine wC_lenS (szOk (by omega)) ?_
  refine wO_le ?_
  refine ⟨_, rfl, and_flip (fun hk => ?_) (fun hk => ?_)⟩
  · exact ⟨fun _ => ⟨rfl, fun _ => by simp only [isNm]; rw [hk]; rfl, fun z => nomatch z⟩, fun z => nomatch z⟩
  have h1 := hk
  refine wE_glob TX.k_MOST_LETTERS ?_
  refine wO_le ?_
  refine ⟨_, rfl, ?_⟩
  refine ⟨fun hk => ?_, fun hk => ?_⟩
  · have h2 : decide ((w.length : Int) ≤ 8) = false := by simpa using hk
    exact ⟨rfl, fun _ => by simp only [isNm]; rw [h1, h2]; rfl, fun z => nomatch z⟩
  have h2 : decide ((w.length : Int) ≤ 8) = true := by simpa using hk
  refine wW_or1 (wT_cmp (wE_name 0 rfl (wE_glob TX.k_BARRED ?_)))
  refine wO_in (.tup _) rfl (by rfl) ?_
  refine ⟨_, rfl, ?_⟩
  refine ⟨rfl, fun z => ?_, fun z => ⟨w, rfl, hw, ?_⟩⟩
  · simp only [isNm]; rw [h1, h2, z]; rfl
  · simp only [isNm]; rw [h1, h2, z]; rfl
  obtain ⟨rfl, g1, g2⟩ := hq
  refine ⟨fun hk => ?_, fun hk => ?_⟩
  refine wSs_cons (wS_ret (wE_bl ?_))
  rw [g1 hk] at q; exact q
  obtain ⟨w, rfl, hw, e⟩ := g2 hk
  rw [e] at q
  refine wSs_nil ?_
  refine wSs_cons (wS_ret (wE_callB (id := "all") TX.b_all (by decide +kernel) (wA_cons (wE_lcF (own := [("sign", 1)]) (wIt_str (wE_name 0 rfl ⟨_, rfl, ?_⟩)) nd (blkOk_by (N := N_is_name) (sc := defScope s_is_name) (by decide +kernel))))))
  refine ⟨szOk (by simp only [signsA, List.length_map]; show w.cps.toList.length ≤ _; rw [Array.length_toList]; exact Nat.le_trans hw (by decide)), (w.cps.toList.map fun ch => decide (ch ∈ LETS.cps.toList)).map D.A.bl, by simp [signsA], fun j y z hy hz s0 H0 C cl fp => ?_, ?_⟩
  obtain ⟨ch, h3, rfl⟩ := map_at hy
  obtain ⟨bz, h4, rfl⟩ := map_at hz
  obtain ⟨ch2, h5, rfl⟩ := map_at h4
  obtain rfl : ch = ch2 := Option.some.inj (h3.symm.trans h5)
  refine wGw_name 1 (⟨rfl, fun s0 H0 C cl fp => (wE_cmp (wE_name 1 rfl (wE_glob TX.k_LETTERS ?_)))⟩) nd
  refine wO_inSign ?_
  refine ⟨?_, .refl _⟩
  rfl
  refine wA_nil ?_
  refine wC_all rfl (.lst _) ?_
  rw [show ((w.cps.toList.map fun ch => decide (ch ∈ LETS.cps.toList)).all id) = letA w by unfold letA; rw [List.all_map]; rfl]
  exact q

abbrev s_are_names : Stmt := topS 32
abbrev N_are_names : List Str := ["thing", "most", "name"]
theorem sc_are_names : FnScope N_are_names ["thing", "most"] (defScope s_are_names) := ⟨rfl, rfl, rfl, by decide +kernel, rfl, by decide +kernel, by decide +kernel⟩
def c_are_names : AC := fun xs μ Q _ => ∃ (ws : List Str) (most : Int), xs = [.tup (ws.map D.A.str), .int most] ∧ 1 ≤ ws.length ∧ (ws.length : Int) ≤ most ∧ ws.length ≤ 1000 ∧ (∀ w ∈ ws, isNm (.str w) = true) ∧ Q (.bl true) μ
theorem ok_are_names {n : Nat}  {f : Addr} {fd : FuncData} (TX : Txt K mg w CL CP CG CTL CTe CPr CPo CNV CTG CCo CS pT) (C_is_name : Cal P w K mg base n "is_name" c_is_name) (F : Fun K "are_names" "are_names" s_are_names f fd) : FnD P w K mg base CX0 (n + 1) f fd ["thing", "most"] c_are_names := by
  refine fnD F sc_are_names (fun xs μ Q E hc => by obtain ⟨ws, most, rfl, h1, h2, h3, h4, q⟩ := hc; rfl) (fun cdv Ao outer s H E xs μ Q E0 ar hc => ?_)
  obtain ⟨ws, most, rfl, h1, h2, h3, h4, q⟩ := hc
  have nd := sc_are_names.nd
  refine wSs_cons (wS_ret ?_)
  refine wE_and (wE_callB (id := "isinstance") TX.b_isinstance (by decide +kernel) (wA_cons (wE_name 0 rfl (wA_cons (wE_type (n := "tuple") TX.b_tuple (by decide +kernel) (wA_nil ?_))))))
  refine wC_isi (n := "tuple") (k := true) rfl rfl ?_
  refine ⟨_, rfl, and_flip (fun hk => ?_) (fun hk => ?_)⟩
  · exact nomatch hk
  refine wE_and (wE_chain2 (wE_int (wE_callB (id := "len") TX.b_len (by decide +kernel) (wA_cons (wE_name 0 rfl (wA_nil ?_))))))
  refine wC_len (.tup _) ?_
  rw [List.length_map]
  refine wO_le ?_
  refine ⟨_, rfl, and_flip (fun hk => ?_) (fun hk => ?_)⟩
  · exact absurd (of_decide_eq_false hk) (by omega)
  refine wE_name 1 rfl ?_
  refine wO_le ?_
  refine ⟨_, rfl, and_flip (fun hk => ?_) (fun hk => ?_)⟩
  · exact absurd (of_decide_eq_false hk) (by omega)
  refine wE_one (wE_callB (id := "all") TX.b_all (by decide +kernel) (wA_cons (wE_lcF (own := [("name", 2)]) (wIt_tup (wE_name 0 rfl ⟨_, rfl, ?_⟩)) nd (blkOk_by (N := N_are_names) (sc := defScope s_are_names) (by decide +kernel)))))
  refine ⟨szOk (by rw [List.length_map]; omega), (ws.map fun _ => true).map D.A.bl, by simp, fun i y z hy hz s0 H0 C cl fp => ?_, ?_⟩
  obtain ⟨w, g1, rfl⟩ := map_at hy
  obtain ⟨bz, g2, rfl⟩ := map_at hz
  obtain ⟨w2, g3, rfl⟩ := map_at g2
  have hw1 := h4 w (List.mem_of_getElem? g1)
  refine wGw_name 2 (⟨rfl, fun s0 H0 C cl fp => (wE_cal C_is_name ar.bk (by omega) (wA_cons (wE_name 2 rfl (wA_nil ?_))))⟩) nd
  refine ⟨.str w, "str", true, rfl, rfl, rfl, (fun _ => ⟨w, rfl, by have := isNm_wd hw1; omega⟩), (fun z => nomatch z), ?_⟩
  rw [hw1]
  refine ⟨?_, .refl _⟩
  rfl
  refine wA_nil ?_
  refine wC_all rfl (.lst _) ?_
  rw [show ((ws.map fun _ => true).all id) = true by simp]
  exact q

abbrev s_are_unlike : Stmt := topS 33
abbrev N_are_unlike : List Str := ["names"]
theorem sc_are_unlike : FnScope N_are_unlike ["names"] (defScope s_are_unlike) := ⟨rfl, rfl, rfl, by decide +kernel, rfl, by decide +kernel, by decide +kernel⟩
def c_are_unlike : AC := fun xs μ Q _ => ∃ ws : List Str, xs = [.tup (ws.map D.A.str)] ∧ ws.length ≤ 1000 ∧ ws.Nodup ∧ Q (.bl true) μ
theorem ok_are_unlike {n : Nat}  {f : Addr} {fd : FuncData} (TX : Txt K mg w CL CP CG CTL CTe CPr CPo CNV CTG CCo CS pT)  (F : Fun K "are_unlike" "are_unlike" s_are_unlike f fd) : FnD P w K mg base CX0 (n + 1) f fd ["names"] c_are_unlike := by
  refine fnD F sc_are_unlike (fun xs μ Q E hc => by obtain ⟨ws, rfl, h1, h2, q⟩ := hc; rfl) (fun cdv Ao outer s H E xs μ Q E0 ar hc => ?_)
  obtain ⟨ws, rfl, h1, h2, q⟩ := hc
  have nd := sc_are_unlike.nd
  refine wSs_cons (wS_ret (wE_cmp (wE_lenSet TX.b_len TX.b_set (wE_name 0 rfl ?_))))
  refine ⟨ws, rfl, h1, ?_⟩
  rw [unl_nodup _ ws rfl h2]
  refine wE_callB (id := "len") TX.b_len (by decide +kernel) (wA_cons (wE_name 0 rfl (wA_nil ?_)))
  refine wC_len (.tup _) ?_
  rw [List.length_map]
  refine wO_eqI ?_
  rw [decide_eq_true rfl]; exact q

abbrev s_is_among : Stmt := topS 34
abbrev N_is_among : List Str := ["thing", "least", "most"]
theorem sc_is_among : FnScope N_is_among ["thing", "least", "most"] (defScope s_is_among) := ⟨rfl, rfl, rfl, by decide +kernel, rfl, by decide +kernel, by decide +kernel⟩
def c_is_among : AC := fun xs μ Q _ => ∃ i j k : Int, xs = [.int i, .int j, .int k] ∧ j ≤ i ∧ i ≤ k ∧ Q (.bl true) μ
theorem ok_is_among {n : Nat}  {f : Addr} {fd : FuncData} (TX : Txt K mg w CL CP CG CTL CTe CPr CPo CNV CTG CCo CS pT) (C_is_whole : Cal P w K mg base n "is_whole" c_is_whole) (F : Fun K "is_among" "is_among" s_is_among f fd) : FnD P w K mg base CX0 (n + 1) f fd ["thing", "least", "most"] c_is_among := by
  refine fnD F sc_is_among (fun xs μ Q E hc => by obtain ⟨i, j, k, rfl, h1, h2, q⟩ := hc; rfl) (fun cdv Ao outer s H E xs μ Q E0 ar hc => ?_)
  obtain ⟨i, j, k, rfl, h1, h2, q⟩ := hc
  have nd := sc_is_among.nd
  refine wSs_cons (wS_ret ?_)
  refine wE_and (wE_cal C_is_whole ar (by omega) (wA_cons (wE_name 0 rfl (wA_nil ?_))))
  refine ⟨_, rfl, ⟨"int", true, rfl, rfl, (fun z => nomatch z), false, rfl, fun _ => rfl⟩, ?_⟩
  refine ⟨_, rfl, and_flip (fun hk => ?_) (fun hk => ?_)⟩
  · exact nomatch hk
  refine wE_one (wE_chain2 (wE_name 1 rfl (wE_name 0 rfl ?_)))
  refine wO_le ?_
  refine ⟨_, rfl, and_flip (fun hk => ?_) (fun hk => ?_)⟩
  · exact absurd (of_decide_eq_false hk) (by omega)
  refine wE_name 2 rfl ?_
  refine wO_le ?_
  rw [decide_eq_true h2]; exact q

abbrev s_is_thing : Stmt := topS 35
abbrev N_is_thing : List Str := ["thing", "told"]
theorem sc_is_thing : FnScope N_is_thing ["thing", "told"] (defScope s_is_thing) := ⟨rfl, rfl, rfl, by decide +kernel, rfl, by decide +kernel, by decide +kernel⟩
theorem isFr_fr {n d : Int} (h : Fr n d) : isFr (.tup [.int n, .int d]) = true := by simp only [isFr, Bool.and_eq_true, decide_eq_true_eq]; exact ⟨h.pos, h.low⟩
theorem Kd_int {μ : Mu} (i : Int) : Kd μ (.int i) := ⟨"int", true, rfl, rfl, (fun z => nomatch z), false, rfl, fun _ => rfl⟩
def c_is_thing : AC := fun xs μ Q _ => ∃ (x : D.A) (t : Addr) (T : List Str), xs = [x, .loc t] ∧ μ t = some (.dic (Tk T)) ∧ ThOk T x ∧ Q (.bl true) μ
theorem ok_is_thing {n : Nat}  {f : Addr} {fd : FuncData} (TX : Txt K mg w CL CP CG CTL CTe CPr CPo CNV CTG CCo CS pT) (C_is_fraction : Cal P w K mg base n "is_fraction" c_is_fraction) (F : Fun K "is_thing" "is_thing" s_is_thing f fd) : FnD P w K mg base CX0 (n + 1) f fd ["thing", "told"] c_is_thing := by
  refine fnD F sc_is_thing (fun xs μ Q E hc => by obtain ⟨x, t, T, rfl, ht, hx, q⟩ := hc; rfl) (fun cdv Ao outer s H E xs μ Q E0 ar hc => ?_)
  obtain ⟨x, t, T, rfl, ht, hx, q⟩ := hc
  obtain ⟨nm, k, t1, t2, t3, t4⟩ : ∃ nm k, tyN μ x = some nm ∧ kitB nm "str" = some k ∧ (k = true → ∃ w, x = .str w ∧ w ∈ T) ∧ (k = false → ∃ n d, x = .tup [.int n, .int d] ∧ Fr n d) := by
    rcases hx with ⟨w, rfl, h1, _⟩ | ⟨n, d, rfl, h⟩
    · exact ⟨_, true, rfl, rfl, (fun _ => ⟨w, rfl, h1⟩), fun z => nomatch z⟩
    · exact ⟨_, false, rfl, rfl, (fun z => nomatch z), fun _ => ⟨n, d, rfl, h⟩⟩
  have nd := sc_is_thing.nd
  refine wSs_cons (wS_ret ?_)
  refine wE_or ?_
  refine wE.imp (Q := fun z μ' => μ = μ' ∧ z = .bl k) ?_ (fun z μ' hz => ?_)
  refine wE_and (wE_callB (id := "isinstance") TX.b_isinstance (by decide +kernel) (wA_cons (wE_name 0 rfl (wA_cons (wE_type (n := "str") TX.b_str (by decide +kernel) (wA_nil ?_))))))
  refine wC_isi t1 t2 ?_
  refine ⟨_, rfl, and_flip (fun hk => ?_) (fun hk => ?_)⟩
  · exact ⟨rfl, by rw [hk]⟩
  obtain ⟨w, rfl, hw⟩ := t3 hk
  refine wE_one (wE_inD ar (wE_name 0 rfl (wE_name 1 rfl ?_)))
  refine ⟨t, _, .inr w, rfl, ht, rfl, rfl, ?_⟩
  rw [valA_Tk, if_pos hw, hk]; rfl
  obtain ⟨rfl, rfl⟩ := hz
  refine ⟨_, rfl, fun hk => ?_, fun hk => ?_⟩
  · exact q
  obtain ⟨n, d, rfl, hfr⟩ := t4 hk
  refine wE_one (wE_cal C_is_fraction ar (by omega) (wA_cons (wE_name 0 rfl (wA_nil ?_))))
  refine ⟨_, rfl, .inr ⟨_, rfl, fun y hy => ?_⟩, ?_⟩
  · simp only [List.mem_cons, List.not_mem_nil, or_false] at hy
    rcases hy with rfl | rfl <;> exact Kd_int _
  rw [isFr_fr hfr]
  exact q

abbrev s_is_call : Stmt := topS 36
abbrev N_is_call : List Str := ["things", "told", "parts", "thing"]
theorem sc_is_call : FnScope N_is_call ["things", "told", "parts"] (defScope s_is_call) := ⟨rfl, rfl, rfl, by decide +kernel, rfl, by decide +kernel, by decide +kernel⟩
theorem eqvU (xs : List D.A) : PyData.eqv (toD (.tup xs)) (toD (.tup [])) = xs.isEmpty := by
  cases xs with
  | nil => simp [toD, toDs, PyData.eqv, PyData.eqvAll]
  | cons x xs => simp [toD, toDs, PyData.eqv, PyData.eqvAll]
theorem datU : DatOk (.tup []) := ⟨rfl, by simp [deep, deeps]⟩
/-- == () -/
theorem wO_eqU {X : Cx} {μ : Mu} {Q : D.A → Mu → Prop} {xs : List D.A} (hu : X.A.units + 64 < cLine) (hx : DatOk (.tup xs)) (q : Q (.bl xs.isEmpty) μ) : wO X (compareOp .Eq) (.tup xs) (.tup []) μ Q := wO_eqD hu hx datU (by rw [eqvU]; exact q)
theorem atI0 (x : D.A) (r : List D.A) : atI (x :: r) 0 = some x := atI_pos rfl (Int.le_refl _)
theorem cutA1 (x : D.A) (r : List D.A) : cutA (x :: r) (some 1) none = r := by rw [cut1]; rfl
def c_is_call : AC := fun xs μ Q _ => ∃ (c : Str) (r : List D.A) (t pp : Addr) (T : List Str) (Pn : List (Str × Int)), xs = [.tup (.str c :: r), .loc t, .loc pp] ∧ μ t = some (.dic (Tk T)) ∧ μ pp = some (.dic (Pk Pn)) ∧ valI Pn c = some (r.length : Int) ∧ r.length ≤ 1000 ∧ letA c = true ∧ (∀ a ∈ r, ThOk T a) ∧ Q (.bl true) μ
theorem ok_is_call {n : Nat}  {f : Addr} {fd : FuncData} (TX : Txt K mg w CL CP CG CTL CTe CPr CPo CNV CTG CCo CS pT) (C_is_thing : Cal P w K mg base n "is_thing" c_is_thing) (F : Fun K "is_call" "is_call" s_is_call f fd) : FnD P w K mg base CX0 (n + 1) f fd ["things", "told", "parts"] c_is_call := by
  refine fnD F sc_is_call (fun xs μ Q E hc => by obtain ⟨c, r, t, pp, T, Pn, rfl, ht, hp, hv, hr, hc, ha, q⟩ := hc; rfl) (fun cdv Ao outer s H E xs μ Q E0 ar hc => ?_)
  obtain ⟨c, r, t, pp, T, Pn, rfl, ht, hp, hv, hr, hc, ha, q⟩ := hc
  have dat : DatOk (.tup (.str c :: r)) := ⟨by simp only [isD, isDs, strOk_let hc, isDs_all fun a h => (ha a h).dat.1, Bool.and_self], by
    have := deeps_le (n := 1) fun a h => (ha a h).dat.2
    simp only [deep, deeps]; omega⟩
  have nd := sc_is_call.nd
  refine wSs_cons (wS_if ?_)
  refine wT.imp (QB := fun k μ' => μ = μ' ∧ k = false) ?_ (fun k μ' hq => ?_)
  refine wT_chain (wW_or (wT_cmp (wE_name 0 rfl (wE_tup (wA_nil ⟨by show 0 ≤ sizeLine; decide, ?_⟩)))))
  refine wO_eqU ar.u64 dat ?_
  refine ⟨_, rfl, ?_⟩
  refine ⟨fun hk => ?_, fun hk => ?_⟩
  · exact nomatch hk
  refine wW_or (wT_not (wT_val (wE_callB (id := "isinstance") TX.b_isinstance (by decide +kernel) (wA_cons (wE_ix (wE_name 0 rfl (wE_int ?_)))))))
  refine wI_tup (atI0 _ _) ?_
  refine wA_cons (wE_type (n := "str") TX.b_str (by decide +kernel) (wA_nil ?_))
  refine wC_isi (n := "str") (k := true) rfl rfl ?_
  refine ⟨_, rfl, ?_⟩
  refine ⟨fun hk => ?_, fun hk => ?_⟩
  · exact nomatch hk
  refine wW_or1 (wT_cmp (wE_dget2 ar (wE_name 2 rfl ?_)))
  refine ⟨pp, _, rfl, hp, ?_⟩
  refine wE_ix (wE_name 0 rfl (wE_int ?_))
  refine wI_tup (atI0 _ _) ?_
  refine wE_neg (wE_int ⟨_, rfl, ?_⟩)
  refine ⟨_, .inr c, hp, rfl, ?_⟩
  rw [valA_Pk, hv]
  refine wE_bin (wE_callB (id := "len") TX.b_len (by decide +kernel) (wA_cons (wE_name 0 rfl (wA_nil ?_))))
  refine wC_len (.tup _) ?_
  refine wE_int ?_
  refine wO_sub ?_
  refine wO_neI ?_
  refine ⟨_, rfl, ?_⟩
  refine ⟨rfl, ?_⟩
  have e : (r.length : Int) = ((D.A.str c :: r).length : Int) - 1 := by rw [List.length_cons]; omega
  rw [decide_eq_true e]; rfl
  obtain ⟨rfl, rfl⟩ := hq
  refine ⟨fun hk => ?_, fun hk => ?_⟩
  refine wSs_cons (wS_ret (wE_bl ?_))
  exact nomatch hk
  refine wSs_nil ?_
  refine wSs_cons (wS_ret (wE_callB (id := "all") TX.b_all (by decide +kernel) (wA_cons (wE_lcF (own := [("thing", 3)]) (wIt_tup (wE_slice (wE_name 0 rfl (wE_int ⟨_, rfl, ?_⟩)))) nd (blkOk_by (N := N_is_call) (sc := defScope s_is_call) (by decide +kernel))))))
  refine wSl_tup ?_
  rw [cutA1]
  refine ⟨_, rfl, ?_⟩
  refine ⟨szOk (by omega), (r.map fun _ => true).map D.A.bl, by simp, fun i y z hy hz s0 H0 C cl fp => ?_, ?_⟩
  obtain ⟨bz, g2, rfl⟩ := map_at hz
  obtain ⟨w2, g3, rfl⟩ := map_at g2
  refine wGw_name 3 (⟨rfl, fun s0 H0 C cl fp => (wE_cal C_is_thing ar.bk (by omega) (wA_cons (wE_name 3 rfl (wA_cons (wE_name 1 rfl (wA_nil ?_))))))⟩) nd
  refine ⟨_, t, T, rfl, ht, ha y (List.mem_of_getElem? hy), ?_⟩
  refine ⟨?_, .refl _⟩
  rfl
  refine wA_nil ?_
  refine wC_all rfl (.lst _) ?_
  rw [show ((r.map fun _ => true).all id) = true by simp]
  exact q

abbrev s_is_doing : Stmt := topS 37
abbrev N_is_doing : List Str := ["word", "things", "told", "parts", "thing"]
theorem sc_is_doing : FnScope N_is_doing ["word", "things", "told", "parts"] (defScope s_is_doing) := ⟨rfl, rfl, rfl, by decide +kernel, rfl, by decide +kernel, by decide +kernel⟩
def c_is_doing : AC := fun xs μ Q _ => ∃ (w : Str) (ts : List D.A) (t pp : Addr) (T : List Str) (Pn : List (Str × Int)), xs = [.str w, .tup ts, .loc t, .loc pp] ∧ μ t = some (.dic (Tk T)) ∧ μ pp = some (.dic (Pk Pn)) ∧ RowOk Pn T w ts ∧ ts.length ≤ 1000 ∧ Q (.bl true) μ
theorem ok_is_doing {n : Nat}  {f : Addr} {fd : FuncData} (TX : Txt K mg w CL CP CG CTL CTe CPr CPo CNV CTG CCo CS pT) (C_is_call : Cal P w K mg base n "is_call" c_is_call) (C_is_thing : Cal P w K mg base n "is_thing" c_is_thing) (C_is_among : Cal P w K mg base n "is_among" c_is_among) (F : Fun K "is_doing" "is_doing" s_is_doing f fd) : FnD P w K mg base CX0 (n + 1) f fd ["word", "things", "told", "parts"] c_is_doing := by
  refine fnD F sc_is_doing (fun xs μ Q E hc => by obtain ⟨w, ts, t, pp, T, Pn, rfl, ht, hp, ho, hl, q⟩ := hc; rfl) (fun cdv Ao outer s H E xs μ Q E0 ar hc => ?_)
  obtain ⟨w, ts, t, pp, T, Pn, rfl, ht, hp, ho, hl, q⟩ := hc
  have nd := sc_is_doing.nd
  refine wSs_cons (wS_if ?_)
  refine wT.imp (QB := fun k μ' => μ = μ' ∧ k = false) ?_ (fun k μ' hq => ?_)
  refine wT_chain (wW_or (wT_not (wT_val (wE_callB (id := "isinstance") TX.b_isinstance (by decide +kernel) (wA_cons (wE_name 0 rfl (wA_cons (wE_type (n := "str") TX.b_str (by decide +kernel) (wA_nil ?_)))))))))
  refine wC_isi (n := "str") (k := true) rfl rfl ?_
  refine ⟨_, rfl, ?_⟩
  refine ⟨fun hk => ?_, fun hk => ?_⟩
  · exact nomatch hk
  refine wW_or1 (wT_not (wT_val (wE_callB (id := "isinstance") TX.b_isinstance (by decide +kernel) (wA_cons (wE_name 1 rfl (wA_cons (wE_type (n := "tuple") TX.b_tuple (by decide +kernel) (wA_nil ?_))))))))
  refine wC_isi (n := "tuple") (k := true) rfl rfl ?_
  refine ⟨_, rfl, ?_⟩
  exact ⟨rfl, rfl⟩
  obtain ⟨rfl, rfl⟩ := hq
  refine ⟨fun hk => ?_, fun hk => ?_⟩
  refine wSs_cons (wS_ret (wE_bl ?_))
  exact nomatch hk
  refine wSs_nil ?_
  refine wSs_cons (wS_if (wT_cmp (wE_name 0 rfl (wE_str ?_))))
  refine wO_eqS ?_
  refine ⟨_, rfl, ?_⟩
  refine ⟨fun hk => ?_, fun hk => ?_⟩
  have e : w = "call" := of_decide_eq_true hk
  obtain ⟨c, r, rfl, h3, h4, h5, h6⟩ : ∃ c r, ts = .str c :: r ∧ valI Pn c = some (r.length : Int) ∧ letA c = true ∧ c.length ≤ 8 ∧ ∀ a ∈ r, ThOk T a := by
    rcases ho with ⟨_, h⟩ | ⟨h, _⟩ | ⟨h, _⟩
    · exact h
    · rw [e] at h; exact absurd h (by decide)
    · exact absurd e h
  refine wSs_cons (wS_ret (wE_cal C_is_call ar (by omega) (wA_cons (wE_name 1 rfl (wA_cons (wE_name 2 rfl (wA_cons (wE_name 3 rfl (wA_nil ?_)))))))))
  refine ⟨c, r, t, pp, T, Pn, rfl, ht, hp, h3, by simp at hl; omega, h4, h6, ?_⟩
  exact q
  have e : w ≠ "call" := of_decide_eq_false hk
  have ho2 : (w = "power" ∧ ∃ a k, ts = [a, .int k] ∧ ThOk T a ∧ -8 ≤ k ∧ k ≤ 8) ∨ (w ≠ "power" ∧ valI TAKENL w = some (ts.length : Int) ∧ ∀ a ∈ ts, ThOk T a) := by
    rcases ho with ⟨h, _⟩ | ⟨h, h2⟩ | ⟨_, h⟩
    · exact absurd h e
    · exact .inl ⟨h, h2⟩
    · exact .inr h
  have hv : valI TAKENL w = some (ts.length : Int) := by
    rcases ho2 with ⟨h, a, k, rfl, _⟩ | ⟨_, h, _⟩
    · subst h; exact (by decide : valI TAKENL "power" = some 2)
    · exact h
  refine wSs_nil ?_
  refine wSs_cons (wS_if (wT_cmp (wE_kget TX.d_TAKEN (wE_glob TX.k_TAKEN ⟨rfl, (wE_name 0 rfl (wE_neg (wE_int ⟨_, rfl, ?_⟩)))⟩))))
  refine ⟨w, _, rfl, rfl, ?_⟩
  rw [hv]
  refine wE_callB (id := "len") TX.b_len (by decide +kernel) (wA_cons (wE_name 1 rfl (wA_nil ?_)))
  refine wC_len (.tup _) ?_
  refine wO_neI ?_
  refine ⟨_, rfl, ?_⟩
  refine ⟨fun hk => ?_, fun hk => ?_⟩
  refine wSs_cons (wS_ret (wE_bl ?_))
  exact absurd hk (by simp)
  refine wSs_nil ?_
  refine wSs_cons (wS_if (wT_cmp (wE_name 0 rfl (wE_str ?_))))
  refine wO_eqS ?_
  refine ⟨_, rfl, ?_⟩
  refine ⟨fun hk => ?_, fun hk => ?_⟩
  have e2 : w = "power" := of_decide_eq_true hk
  obtain ⟨a, k, rfl, h3, h4, h5⟩ : ∃ a k, ts = [a, .int k] ∧ ThOk T a ∧ -8 ≤ k ∧ k ≤ 8 := by
    rcases ho2 with ⟨_, h⟩ | ⟨h, _⟩
    · exact h
    · exact absurd e2 h
  refine wSs_cons (wS_ret ?_)
  refine wE_and (wE_cal C_is_thing ar (by omega) (wA_cons (wE_ix (wE_name 1 rfl (wE_int ?_)))))
  walk_at "ix"
  refine wA_cons (wE_name 2 rfl (wA_nil ?_))
  refine ⟨a, t, T, rfl, ht, h3, ?_⟩
  refine ⟨_, rfl, and_flip (fun hk => ?_) (fun hk => ?_)⟩
  · exact nomatch hk
  refine wE_one (wE_cal C_is_among ar (by omega) (wA_cons (wE_ix (wE_name 1 rfl (wE_int ?_)))))
  walk_at "ix"
  refine wA_cons (wE_bin (wE_int (wE_glob TX.k_MOST_POWER ?_)))
  refine wO_sub ?_
  refine wA_cons (wE_glob TX.k_MOST_POWER (wA_nil ?_))
  refine ⟨k, _, 8, rfl, by omega, by omega, ?_⟩
  exact q
  have e2 : w ≠ "power" := of_decide_eq_false hk
  have ha : ∀ a ∈ ts, ThOk T a := by
    rcases ho2 with ⟨h, _⟩ | ⟨_, _, h⟩
    · exact absurd h e2
    · exact h
  refine wSs_nil ?_
  refine wSs_cons (wS_ret (wE_callB (id := "all") TX.b_all (by decide +kernel) (wA_cons (wE_lcF (own := [("thing", 4)]) (wIt_tup (wE_name 1 rfl ⟨_, rfl, ?_⟩)) nd (blkOk_by (N := N_is_doing) (sc := defScope s_is_doing) (by decide +kernel))))))
  refine ⟨szOk (by omega), (ts.map fun _ => true).map D.A.bl, by simp, fun i y z hy hz s0 H0 C cl fp => ?_, ?_⟩
  obtain ⟨bz, g2, rfl⟩ := map_at hz
  obtain ⟨w2, g3, rfl⟩ := map_at g2
  refine wGw_name 4 (⟨rfl, fun s0 H0 C cl fp => (wE_cal C_is_thing ar.bk (by omega) (wA_cons (wE_name 4 rfl (wA_cons (wE_name 2 rfl (wA_nil ?_))))))⟩) nd
  refine ⟨_, t, T, rfl, ht, ha y (List.mem_of_getElem? hy), ?_⟩
  refine ⟨?_, .refl _⟩
  rfl
  refine wA_nil ?_
  refine wC_all rfl (.lst _) ?_
  rw [show ((ts.map fun _ => true).all id) = true by simp]
  exact q

end
end D

set_option Elab.async false
set_option linter.all false
set_option maxRecDepth 100000
set_option maxHeartbeats 4000000
namespace D
open PySem PySem.Spec PyProof.Rows L2
local macro_rules | `(tactic| walk_at "mul") => `(tactic| first | refine wO_mul (mulR (by first | decide | omega) (by first | decide | omega)) ?_ | refine wO_mul (mulL (by first | decide | omega) (by first | decide | omega)) ?_)
local macro_rules | `(tactic| walk_at "mod") => `(tactic| refine wO_mod (by first | decide | omega) ?_)
local macro_rules | `(tactic| walk_at "fdiv") => `(tactic| refine wO_fdiv (by first | decide | omega) (divS (by first | decide | omega)) ?_)
local macro_rules | `(tactic| walk_at "ix") => `(tactic| first | refine wI_tup (by rfl) ?_ | refine wI_lst (by rfl) ?_)
local macro_rules | `(tactic| walk_at "sl") => `(tactic| first | refine wSl_tup ?_ | refine wSl_lstF ?_)
local macro_rules | `(tactic| walk_at "obj") => `(tactic| refine ⟨_, _, _, rfl, by assumption, rfl, ?_⟩)
local macro_rules | `(tactic| walk_at "len") => `(tactic| first | refine wC_len (.tup _) ?_ | refine wC_len (.lst _) ?_ | refine wC_len (.loc (by assumption)) ?_)
section
variable {P : Program} {w : World} {mg : Str → Option Value} {base : Heap} {K : PySem.W.Frag} {CL CP CG CTL CTe CPr CPo CNV CTG CCo CS pT : Addr} {k : Nat}
abbrev s_Looked___init__ : Stmt := (bodyC (topS 38)).getD 0 (.Pass ⟨0, 0, 0, 0⟩)
abbrev N_Looked___init__ : List Str := ["self"]
theorem sc_Looked___init__ : FnScope N_Looked___init__ ["self"] (defScope s_Looked___init__) := ⟨rfl, rfl, rfl, by decide +kernel, rfl, by decide +kernel, by decide +kernel⟩
abbrev LkF (pp : Addr) (m : Int) : List (Str × D.A) := [("parts", .loc pp), ("many", .int m)]
/-- what is looked by: p, its parts at pp, so many things so far -/
structure Lk (CL p pp : Addr) (m : Int) (Pn : List (Str × Int)) (μ : Mu) : Prop where
  ex : ∃ dx, μ p = some (.ins CL dx (LkF pp m))
  pa : μ pp = some (.dic (Pk Pn))
  ne : pp ≠ p
def But (p : Addr) (μ μ' : Mu) : Prop := ∀ q o, q ≠ p → μ q = some o → μ' q = some o
theorem But.ls {p t : Addr} {μ μ' : Mu} (h : But p μ μ') : Ls p t μ μ' := fun q o h1 _ h3 => h q o h1 h3
theorem Lk.sub {CL p pp : Addr} {m : Int} {Pn : List (Str × Int)} {μ μ' : Mu} (h : Lk CL p pp m Pn μ) (s : Sub μ μ') : Lk CL p pp m Pn μ' := ⟨let ⟨dx, e⟩ := h.ex; ⟨dx, s _ _ e⟩, s _ _ h.pa, h.ne⟩
theorem putMany {pp : Addr} {m k : Int} : putL "many" (.int k) (LkF pp m) = LkF pp k := rfl
def c_Looked___init__ (CL : Addr) : AC := fun xs μ Q _ => ∃ (p dx : Addr), xs = [.loc p] ∧ μ p = some (.ins CL dx []) ∧ ∀ (pp : Addr) (μ' : Mu), Lk CL p pp 0 [] μ' → μ pp = none → But p μ μ' → Q .non μ'
theorem ok_Looked___init__ {n : Nat}  {f : Addr} {fd : FuncData} (TX : Txt K mg w CL CP CG CTL CTe CPr CPo CNV CTG CCo CS pT)  (F : Fun K "__init__" "Looked.__init__" s_Looked___init__ f fd) : FnD P w K mg base CX0 (n + 1) f fd ["self"] (c_Looked___init__ CL) := by
  refine fnD F sc_Looked___init__ (fun xs μ Q E hc => by obtain ⟨p, dx, rfl, hp, q⟩ := hc; rfl) (fun cdv Ao outer s H E xs μ Q E0 ar hc => ?_)
  obtain ⟨p, dx, rfl, hp, q⟩ := hc
  have nd := sc_Looked___init__.nd
  refine wSs_cons (wS_fld TX.cls_Looked TX.na_Looked_parts (wE_dnew ?_))
  refine fun pp npp => ?_
  have ne : pp ≠ p := fun z => by rw [z, hp] at npp; cases npp
  refine wE_name 0 rfl ?_
  refine ⟨p, dx, [], rfl, by rw [Mu.upd_ne (Ne.symm ne)]; exact hp, by decide, ?_⟩
  refine wSs_cons (wS_fld TX.cls_Looked TX.na_Looked_many (wE_int (wE_name 0 rfl ?_)))
  refine ⟨p, dx, _, rfl, Mu.upd_same, by show 1 < 1000; decide, ?_⟩
  refine wSs_nil ?_
  refine q pp _ ⟨⟨dx, Mu.upd_same⟩, by rw [Mu.upd_ne ne, Mu.upd_ne ne, Mu.upd_same]; rfl, ne⟩ npp (fun z o hz h => ?_)
  rw [Mu.upd_ne hz, Mu.upd_ne hz, Mu.upd_ne (fun e => by rw [e, npp] at h; cases h)]
  exact h

abbrev s_Looked_is_more : Stmt := (bodyC (topS 38)).getD 1 (.Pass ⟨0, 0, 0, 0⟩)
abbrev N_Looked_is_more : List Str := ["self", "many"]
theorem sc_Looked_is_more : FnScope N_Looked_is_more ["self", "many"] (defScope s_Looked_is_more) := ⟨rfl, rfl, rfl, by decide +kernel, rfl, by decide +kernel, by decide +kernel⟩
def c_Looked_is_more (CL : Addr) : AC := fun xs μ Q _ => ∃ (p pp : Addr) (m k : Int) (Pn : List (Str × Int)), xs = [.loc p, .int k] ∧ Lk CL p pp m Pn μ ∧ m + k ≤ 80 ∧ ∀ μ' : Mu, Lk CL p pp (m + k) Pn μ' → But p μ μ' → Q (.bl true) μ'
theorem ok_Looked_is_more {n : Nat}  {f : Addr} {fd : FuncData} (TX : Txt K mg w CL CP CG CTL CTe CPr CPo CNV CTG CCo CS pT)  (F : Fun K "is_more" "Looked.is_more" s_Looked_is_more f fd) : FnD P w K mg base CX0 (n + 1) f fd ["self", "many"] (c_Looked_is_more CL) := by
  refine fnD F sc_Looked_is_more (fun xs μ Q E hc => by obtain ⟨p, pp, m, k, Pn, rfl, lk, hm, q⟩ := hc; rfl) (fun cdv Ao outer s H E xs μ Q E0 ar hc => ?_)
  obtain ⟨p, pp, m, k, Pn, rfl, lk, hm, q⟩ := hc
  obtain ⟨dx, hp⟩ := lk.ex
  have nd := sc_Looked_is_more.nd
  refine wSs_cons (wS_fldadd TX.cls_Looked TX.na_Looked_many (wE_name 0 rfl ?_))
  refine ⟨p, dx, _, m, rfl, hp, rfl, ?_⟩
  refine wE_name 1 rfl ?_
  refine ⟨k, dx, _, rfl, hp, by show 2 < 1000; decide, ?_⟩
  rw [putMany]
  refine wSs_cons (wS_ret (wE_cmp (wE_fld TX.cls_Looked TX.na_Looked_many (wE_name 0 rfl ?_))))
  refine ⟨p, dx, _, .int (m + k), rfl, Mu.upd_same, rfl, ?_⟩
  refine wE_glob TX.k_MOST_SIZE ?_
  refine wO_le ?_
  rw [decide_eq_true hm]
  refine q _ ⟨⟨dx, Mu.upd_same⟩, by rw [Mu.upd_ne lk.ne]; exact lk.pa, lk.ne⟩ (fun z o hz h => by rw [Mu.upd_ne hz]; exact h)

abbrev s_Looked_is_item : Stmt := (bodyC (topS 38)).getD 2 (.Pass ⟨0, 0, 0, 0⟩)
abbrev N_Looked_is_item : List Str := ["self", "thing", "told", "deep"]
theorem sc_Looked_is_item : FnScope N_Looked_is_item ["self", "thing", "told", "deep"] (defScope s_Looked_is_item) := ⟨rfl, rfl, rfl, by decide +kernel, rfl, by decide +kernel, by decide +kernel⟩
theorem FnD.or {P : Program} {w : World} {K : PySem.W.Frag} {mg : Str → Option Value} {base : Heap} {CX : CXT} {k : Nat} {f : Addr} {fd : FuncData} {ps : List Str} {c1 c2 : AC} (F1 : FnD P w K mg base CX k f fd ps c1) (F2 : FnD P w K mg base CX k f fd ps c2) :
    FnD P w K mg base CX k f fd ps (fun xs μ Q E => c1 xs μ Q E ∨ c2 xs μ Q E) where
  len := fun xs μ Q E h => h.elim (F1.len xs μ Q E) (F2.len xs μ Q E)
  run := fun A outer s H args us vs Q E hr hg e0 hb hv ⟨xs, F, M, μ, Q0, E0, h1, h2, h3, h4⟩ => h3.elim (fun h3 => F1.run A outer s H args us vs Q E hr hg e0 hb hv ⟨xs, F, M, μ, Q0, E0, h1, h2, h3, h4⟩) (fun h3 => F2.run A outer s H args us vs Q E hr hg e0 hb hv ⟨xs, F, M, μ, Q0, E0, h1, h2, h3, h4⟩)
theorem but_at {p t : Addr} {μ μ' : Mu} {o : MO} (h : But p μ μ') (ht : t ≠ p) (e : μ t = some o) : μ' t = some o := h t o ht e
theorem Lk.upd_t {CL p pp t : Addr} {m : Int} {Pn : List (Str × Int)} {μ : Mu} {o : MO} (h : Lk CL p pp m Pn μ) (h1 : t ≠ p) (h2 : t ≠ pp) : Lk CL p pp m Pn (μ.upd t o) :=
  ⟨let ⟨dx, e⟩ := h.ex; ⟨dx, by rw [Mu.upd_ne (Ne.symm h1)]; exact e⟩, by rw [Mu.upd_ne (Ne.symm h2)]; exact h.pa, h.ne⟩
def c_Looked_is_item_row (CL : Addr) : AC := fun xs μ Q _ => ∃ (p pp t : Addr) (m : Int) (Pn : List (Str × Int)) (T : List Str) (x wd : Str) (ts : List D.A) (d : Nat), xs = [.loc p, (It.row x wd ts).a, .loc t, .int d] ∧ Lk CL p pp m Pn μ ∧ μ t = some (.dic (Tk T)) ∧ t ≠ p ∧ t ≠ pp ∧ m + 1 ≤ 80 ∧ T.length ≤ 1000 ∧ ts.length ≤ 1000 ∧ It.ok Pn d T (.row x wd ts) ∧
  ∀ μ' : Mu, Lk CL p pp (m + 1) Pn μ' → μ' t = some (.dic (Tk (insT T x))) → Ls p t μ μ' → Q (.bl true) μ'
theorem ok_Looked_is_item_row {n : Nat}  {f : Addr} {fd : FuncData} (TX : Txt K mg w CL CP CG CTL CTe CPr CPo CNV CTG CCo CS pT) (C_is_name : Cal P w K mg base n "is_name" c_is_name) (C_is_doing : Cal P w K mg base n "is_doing" c_is_doing) (CM_Looked_is_more : CalM P w K mg base n CL "is_more" (c_Looked_is_more CL)) (F : Fun K "is_item" "Looked.is_item" s_Looked_is_item f fd) : FnD P w K mg base CX0 (n + 1) f fd ["self", "thing", "told", "deep"] (c_Looked_is_item_row CL) := by
  refine fnD F sc_Looked_is_item (fun xs μ Q E hc => by obtain ⟨p, pp, t, m, Pn, T, x, wd, ts, d, rfl, lk, ht, tp, tpp, hm, hT, hts, ok, q⟩ := hc; rfl) (fun cdv Ao outer s H E xs μ Q E0 ar hc => ?_)
  obtain ⟨p, pp, t, m, Pn, T, x, wd, ts, d, rfl, lk, ht, tp, tpp, hm, hT, hts, ok, q⟩ := hc
  have dat := It.dat ok
  simp only [It.ok] at ok
  obtain ⟨d3, hx, ho⟩ := ok
  have dat2 : DatOk (It.row x wd ts).a := ⟨dat.1, by have := dat.2; omega⟩
  simp only [It.a] at dat2 ⊢
  have nd := sc_Looked_is_item.nd
  refine wSs_cons (wS_if ?_)
  refine wT.imp (QB := fun k μ' => k = false ∧ Lk CL p pp (m + 1) Pn μ' ∧ But p μ μ') ?_ (fun k μ' hq => ?_)
  refine wT_chain (wW_or (wT_not (wT_val (wE_callB (id := "isinstance") TX.b_isinstance (by decide +kernel) (wA_cons (wE_name 1 rfl (wA_cons (wE_type (n := "tuple") TX.b_tuple (by decide +kernel) (wA_nil ?_)))))))))
  refine wC_isi (n := "tuple") (k := true) rfl rfl ?_
  refine ⟨_, rfl, ?_⟩
  refine ⟨fun hk => ?_, fun hk => ?_⟩
  · exact nomatch hk
  refine wW_or (wT_cmp (wE_name 1 rfl (wE_tup (wA_nil ⟨by show 0 ≤ sizeLine; decide, ?_⟩))))
  refine wO_eqU ar.u64 dat2 ?_
  refine ⟨_, rfl, ?_⟩
  refine ⟨fun hk => ?_, fun hk => ?_⟩
  · exact nomatch hk
  refine wW_or1 (wT_not (wT_val (wE_meth TX.cls_Looked CM_Looked_is_more ar (by omega) (wE_name 0 rfl ?_))))
  obtain ⟨dx, hp⟩ := lk.ex
  refine ⟨p, dx, _, rfl, hp, rfl, ?_⟩
  refine wA_cons (wE_int (wA_nil ?_))
  refine ⟨p, pp, m, 1, Pn, rfl, lk, hm, fun μ1 lk1 b1 => ?_⟩
  refine ⟨_, rfl, ?_⟩
  exact ⟨rfl, lk1, b1⟩
  obtain ⟨rfl, lk1, b1⟩ := hq
  have ht1 := but_at b1 tp ht
  refine ⟨fun hk => ?_, fun hk => ?_⟩
  refine wSs_cons (wS_ret (wE_bl ?_))
  exact nomatch hk
  refine wSs_nil ?_
  refine wSs_cons (wS_if ?_)
  refine wT.imp (QB := fun k μ2 => k = false ∧ μ' = μ2) ?_ (fun k μ2 hq => ?_)
  refine wT_chain (wW_and (wT_cmp (wE_ix (wE_name 1 rfl (wE_int ?_)))))
  walk_at "ix"
  refine wE_str ?_
  refine wO_eqS ?_
  refine ⟨_, rfl, ?_⟩
  refine and_flip (fun hk => ?_) (fun hk => ?_)
  · exact ⟨rfl, rfl⟩
  have bad := of_decide_eq_true hk
  refine wW_and1 (wT_cmp (wE_callB (id := "len") TX.b_len (by decide +kernel) (wA_cons (wE_name 1 rfl (wA_nil ?_)))))
  refine wC_len (.tup _) ?_
  refine wE_int ?_
  refine wO_eqI ?_
  refine ⟨_, rfl, ?_⟩
  exact absurd bad (by decide)
  obtain ⟨rfl, rfl⟩ := hq
  refine ⟨fun hk => ?_, fun hk => ?_⟩
  · exact nomatch hk
  refine wSs_nil ?_
  refine wSs_cons (wS_if ?_)
  refine wT.imp (QB := fun k μ2 => k = false ∧ μ' = μ2) ?_ (fun k μ2 hq => ?_)
  refine wT_chain (wW_or (wT_cmp (wE_ix (wE_name 1 rfl (wE_int ?_)))))
  walk_at "ix"
  refine wE_str ?_
  refine wO_neS ?_
  refine ⟨_, rfl, ?_⟩
  refine ⟨fun hk => ?_, fun hk => ?_⟩
  · exact absurd hk (by decide)
  refine wW_or (wT_cmp (wE_callB (id := "len") TX.b_len (by decide +kernel) (wA_cons (wE_name 1 rfl (wA_nil ?_)))))
  refine wC_len (.tup _) ?_
  refine wE_int ?_
  refine wO_neI ?_
  refine ⟨_, rfl, ?_⟩
  refine ⟨fun hk => ?_, fun hk => ?_⟩
  · exact absurd hk (by simp)
  refine wW_or1 (wT_not (wT_val (wE_cal C_is_name ar (by omega) (wA_cons (wE_ix (wE_name 1 rfl (wE_int ?_)))))))
  walk_at "ix"
  refine wA_nil ?_
  refine ⟨.str x, "str", true, rfl, rfl, rfl, (fun _ => ⟨x, rfl, by have := isNm_wd hx; omega⟩), (fun z => nomatch z), ?_⟩
  rw [hx]
  refine ⟨_, rfl, ?_⟩
  exact ⟨rfl, rfl⟩
  obtain ⟨rfl, rfl⟩ := hq
  refine ⟨fun hk => ?_, fun hk => ?_⟩
  refine wSs_cons (wS_ret (wE_bl ?_))
  exact nomatch hk
  refine wSs_nil ?_
  refine wSs_cons (wS_if (wT_not (wT_val (wE_cal C_is_doing ar (by omega) (wA_cons (wE_ix (wE_name 1 rfl (wE_int ?_))))))))
  walk_at "ix"
  refine wA_cons (wE_ix (wE_name 1 rfl (wE_int ?_)))
  walk_at "ix"
  refine wA_cons (wE_name 2 rfl (wA_cons (wE_fld TX.cls_Looked TX.na_Looked_parts (wE_name 0 rfl ?_))))
  obtain ⟨dx, hp1⟩ := lk1.ex
  refine ⟨p, dx, _, .loc pp, rfl, hp1, rfl, ?_⟩
  refine wA_nil ?_
  refine ⟨wd, ts, t, pp, T, Pn, rfl, ht1, lk1.pa, ho, hts, ?_⟩
  refine ⟨_, rfl, ?_⟩
  refine ⟨fun hk => ?_, fun hk => ?_⟩
  refine wSs_cons (wS_ret (wE_bl ?_))
  exact nomatch hk
  refine wSs_nil ?_
  refine wSs_cons (wS_dput ar (wE_bl (wE_name 2 rfl (wE_ix (wE_name 1 rfl (wE_int ?_))))))
  walk_at "ix"
  refine ⟨t, _, .inr x, rfl, ht1, rfl, szLt (by rw [List.length_map]; omega), ?_⟩
  rw [putA_Tk]
  refine wSs_cons (wS_ret (wE_bl ?_))
  refine q _ (lk1.upd_t tp tpp) Mu.upd_same (fun z o h1 h2 h3 => by rw [Mu.upd_ne h2]; exact b1 z o h1 h3)

/-- a body -/
def c_Looked_is_body (CL : Addr) (lo : Nat) : AC := fun xs μ Q _ => ∃ (p pp t : Addr) (m : Int) (Pn : List (Str × Int)) (T : List Str) (b : List It) (d : Nat), xs = [.loc p, .tup (aIts b), .loc t, .int d] ∧ Lk CL p pp m Pn μ ∧ μ t = some (.dic (Tk T)) ∧ t ≠ p ∧ t ≠ pp ∧ m + sizeIts b ≤ 80 ∧ T.length + sizeIts b ≤ 1000 ∧ lo ≤ d ∧ tsIts b ∧ okIts Pn d T b ∧
  ∀ μ' : Mu, Lk CL p pp (m + sizeIts b) Pn μ' → μ' t = some (.dic (Tk (toldIts b T))) → Ls p t μ μ' → Q (.bl true) μ'
def c_Looked_is_item_rep (CL : Addr) (lo : Nat) : AC := fun xs μ Q _ => ∃ (p pp t : Addr) (m : Int) (Pn : List (Str × Int)) (T : List Str) (k : Int) (b : List It) (d : Nat), xs = [.loc p, (It.rep k b).a, .loc t, .int d] ∧ Lk CL p pp m Pn μ ∧ μ t = some (.dic (Tk T)) ∧ t ≠ p ∧ t ≠ pp ∧ m + 1 + sizeIts b ≤ 80 ∧ T.length + 1 + sizeIts b ≤ 1000 ∧ lo ≤ d ∧ tsIts b ∧ It.ok Pn d T (.rep k b) ∧
  ∀ μ' : Mu, Lk CL p pp (m + 1 + sizeIts b) Pn μ' → μ' t = some (.dic (Tk (toldIts b T))) → Ls p t μ μ' → Q (.bl true) μ'
theorem ok_Looked_is_item_rep {n : Nat} {lo : Nat} {f : Addr} {fd : FuncData} (TX : Txt K mg w CL CP CG CTL CTe CPr CPo CNV CTG CCo CS pT) (C_is_among : Cal P w K mg base n "is_among" c_is_among) (CM_Looked_is_more : CalM P w K mg base n CL "is_more" (c_Looked_is_more CL)) (CM_Looked_is_body : CalM P w K mg base n CL "is_body" (c_Looked_is_body CL (lo + 1))) (F : Fun K "is_item" "Looked.is_item" s_Looked_is_item f fd) : FnD P w K mg base CX0 (n + 1) f fd ["self", "thing", "told", "deep"] (c_Looked_is_item_rep CL lo) := by
  refine fnD F sc_Looked_is_item (fun xs μ Q E hc => by obtain ⟨p, pp, t, m, Pn, T, k, b, d, rfl, lk, ht, tp, tpp, hm, hT, hlo, hts, ok, q⟩ := hc; rfl) (fun cdv Ao outer s H E xs μ Q E0 ar hc => ?_)
  obtain ⟨p, pp, t, m, Pn, T, k, b, d, rfl, lk, ht, tp, tpp, hm, hT, hlo, hts, ok, q⟩ := hc
  have dat := It.dat ok
  simp only [It.ok] at ok
  obtain ⟨d3, k1, k2, ob⟩ := ok
  have dat2 : DatOk (It.rep k b).a := ⟨dat.1, by have := dat.2; omega⟩
  simp only [It.a] at dat2 ⊢
  have nd := sc_Looked_is_item.nd
  refine wSs_cons (wS_if ?_)
  refine wT.imp (QB := fun k μ' => k = false ∧ Lk CL p pp (m + 1) Pn μ' ∧ But p μ μ') ?_ (fun kb μ' hq => ?_)
  refine wT_chain (wW_or (wT_not (wT_val (wE_callB (id := "isinstance") TX.b_isinstance (by decide +kernel) (wA_cons (wE_name 1 rfl (wA_cons (wE_type (n := "tuple") TX.b_tuple (by decide +kernel) (wA_nil ?_)))))))))
  refine wC_isi (n := "tuple") (k := true) rfl rfl ?_
  refine ⟨_, rfl, ?_⟩
  refine ⟨fun hk => ?_, fun hk => ?_⟩
  · exact nomatch hk
  refine wW_or (wT_cmp (wE_name 1 rfl (wE_tup (wA_nil ⟨by show 0 ≤ sizeLine; decide, ?_⟩))))
  refine wO_eqU ar.u64 dat2 ?_
  refine ⟨_, rfl, ?_⟩
  refine ⟨fun hk => ?_, fun hk => ?_⟩
  · exact nomatch hk
  refine wW_or1 (wT_not (wT_val (wE_meth TX.cls_Looked CM_Looked_is_more ar (by omega) (wE_name 0 rfl ?_))))
  obtain ⟨dx, hp⟩ := lk.ex
  refine ⟨p, dx, _, rfl, hp, rfl, ?_⟩
  refine wA_cons (wE_int (wA_nil ?_))
  refine ⟨p, pp, m, 1, Pn, rfl, lk, by omega, fun μ1 lk1 b1 => ?_⟩
  refine ⟨_, rfl, ?_⟩
  exact ⟨rfl, lk1, b1⟩
  obtain ⟨rfl, lk1, b1⟩ := hq
  have ht1 := but_at b1 tp ht
  refine ⟨fun hk => ?_, fun hk => ?_⟩
  refine wSs_cons (wS_ret (wE_bl ?_))
  exact nomatch hk
  refine wSs_nil ?_
  refine wSs_cons (wS_if ?_)
  refine wT.imp (QB := fun k μ2 => k = true ∧ μ' = μ2) ?_ (fun kb μ2 hq => ?_)
  refine wT_chain (wW_and (wT_cmp (wE_ix (wE_name 1 rfl (wE_int ?_)))))
  walk_at "ix"
  refine wE_str ?_
  refine wO_eqS ?_
  refine ⟨_, rfl, ?_⟩
  refine and_flip (fun hk => ?_) (fun hk => ?_)
  · exact absurd hk (by decide)
  refine wW_and1 (wT_cmp (wE_callB (id := "len") TX.b_len (by decide +kernel) (wA_cons (wE_name 1 rfl (wA_nil ?_)))))
  refine wC_len (.tup _) ?_
  refine wE_int ?_
  refine wO_eqI ?_
  refine ⟨_, rfl, ?_⟩
  exact ⟨rfl, rfl⟩
  obtain ⟨rfl, rfl⟩ := hq
  refine and_flip (fun hk => ?_) (fun hk => ?_)
  · exact nomatch hk
  refine wSs_cons (wS_if ?_)
  refine wT.imp (QB := fun k μ2 => k = false ∧ μ' = μ2) ?_ (fun kb μ2 hq => ?_)
  refine wT_chain (wW_or (wT_cmp (wE_name 3 rfl (wE_glob TX.k_MOST_DEEP ?_))))
  refine wO_eqI ?_
  refine ⟨_, rfl, ?_⟩
  refine ⟨fun hk => ?_, fun hk => ?_⟩
  · exact absurd (of_decide_eq_true hk) (by omega)
  refine wW_or1 (wT_not (wT_val (wE_cal C_is_among ar (by omega) (wA_cons (wE_ix (wE_name 1 rfl (wE_int ?_)))))))
  walk_at "ix"
  refine wA_cons (wE_int (wA_cons (wE_glob TX.k_MOST_TURNS (wA_nil ?_))))
  refine ⟨k, 1, 200, rfl, k1, k2, ?_⟩
  refine ⟨_, rfl, ?_⟩
  exact ⟨rfl, rfl⟩
  obtain ⟨rfl, rfl⟩ := hq
  refine ⟨fun hk => ?_, fun hk => ?_⟩
  refine wSs_cons (wS_ret (wE_bl ?_))
  exact nomatch hk
  refine wSs_nil ?_
  refine wSs_cons (wS_ret (wE_meth TX.cls_Looked CM_Looked_is_body ar (by omega) (wE_name 0 rfl ?_)))
  obtain ⟨dx, hp1⟩ := lk1.ex
  refine ⟨p, dx, _, rfl, hp1, rfl, ?_⟩
  refine wA_cons (wE_ix (wE_name 1 rfl (wE_int ?_)))
  walk_at "ix"
  refine wA_cons (wE_name 2 rfl (wA_cons (wE_bin (wE_name 3 rfl (wE_int ?_)))))
  refine wO_add ?_
  refine wA_nil ?_
  refine ⟨p, pp, t, m + 1, Pn, T, b, d + 1, rfl, lk1, ht1, tp, tpp, hm, by omega, by omega, hts, ob, fun μ3 lk3 ht3 ls3 => ?_⟩
  exact q μ3 lk3 ht3 (b1.ls.trans ls3)

abbrev s_Looked_is_body : Stmt := (bodyC (topS 38)).getD 3 (.Pass ⟨0, 0, 0, 0⟩)
abbrev N_Looked_is_body : List Str := ["self", "thing", "told", "deep", "item"]
theorem sc_Looked_is_body : FnScope N_Looked_is_body ["self", "thing", "told", "deep"] (defScope s_Looked_is_body) := ⟨rfl, rfl, rfl, by decide +kernel, rfl, by decide +kernel, by decide +kernel⟩
/-- any item -/
def c_Looked_is_item (CL : Addr) (lo : Nat) : AC := fun xs μ Q _ => ∃ (p pp t : Addr) (m : Int) (Pn : List (Str × Int)) (T : List Str) (i : It) (d : Nat), xs = [.loc p, i.a, .loc t, .int d] ∧ Lk CL p pp m Pn μ ∧ μ t = some (.dic (Tk T)) ∧ t ≠ p ∧ t ≠ pp ∧ m + i.size ≤ 80 ∧ T.length + i.size ≤ 1000 ∧ lo ≤ d ∧ i.tsOk ∧ i.ok Pn d T ∧
  ∀ μ' : Mu, Lk CL p pp (m + i.size) Pn μ' → μ' t = some (.dic (Tk (i.told T))) → Ls p t μ μ' → Q (.bl true) μ'
theorem item_or {CL : Addr} {lo : Nat} {xs : List D.A} {μ : Mu} {Q : D.A → Mu → Prop} {E : Value → Option Addr → Mu → Prop} (h : c_Looked_is_item CL lo xs μ Q E) : c_Looked_is_item_row CL xs μ Q E ∨ c_Looked_is_item_rep CL lo xs μ Q E := by
  obtain ⟨p, pp, t, m, Pn, T, i, d, rfl, lk, ht, tp, tpp, hm, hT, hlo, hts, ok, q⟩ := h
  cases i with
  | row x wd ts =>
    simp only [It.size, It.told, It.tsOk] at *
    exact .inl ⟨p, pp, t, m, Pn, T, x, wd, ts, d, rfl, lk, ht, tp, tpp, by omega, by omega, hts, ok, q⟩
  | rep k b =>
    simp only [It.size, It.told, It.tsOk] at *
    refine .inr ⟨p, pp, t, m, Pn, T, k, b, d, rfl, lk, ht, tp, tpp, by omega, by omega, hlo, hts, ok, fun μ' h1 => q μ' ?_⟩
    have e : m + ((1 + sizeIts b : Nat) : Int) = m + 1 + (sizeIts b : Nat) := by omega
    rw [e]; exact h1
theorem aIts_get : ∀ {b : List It} {i : Nat} {y : D.A}, (aIts b)[i]? = some y → ∃ it, b[i]? = some it ∧ y = it.a
  | [], _, _, h => by simp [aIts] at h
  | x :: b, 0, y, h => by simp [aIts] at h; exact ⟨x, rfl, h.symm⟩
  | x :: b, i + 1, y, h => by
    simp only [aIts, List.getElem?_cons_succ] at h ⊢
    exact aIts_get h
theorem ok_Looked_is_body {n : Nat} {lo : Nat} {f : Addr} {fd : FuncData} (TX : Txt K mg w CL CP CG CTL CTe CPr CPo CNV CTG CCo CS pT) (CM_Looked_is_item : CalM P w K mg base n CL "is_item" (c_Looked_is_item CL lo)) (F : Fun K "is_body" "Looked.is_body" s_Looked_is_body f fd) : FnD P w K mg base CX0 (n + 1) f fd ["self", "thing", "told", "deep"] (c_Looked_is_body CL lo) := by
  refine fnD F sc_Looked_is_body (fun xs μ Q E hc => by obtain ⟨p, pp, t, m, Pn, T, b, d, rfl, lk, ht, tp, tpp, hm, hT, hlo, hts, ok, q⟩ := hc; rfl) (fun cdv Ao outer s H E xs μ Q E0 ar hc => ?_)
  obtain ⟨p, pp, t, m, Pn, T, b, d, rfl, lk, ht, tp, tpp, hm, hT, hlo, hts, ok, q⟩ := hc
  have hbl := len_size b
  have nd := sc_Looked_is_body.nd
  refine wSs_cons (wS_ret ?_)
  refine wE_and (wE_callB (id := "isinstance") TX.b_isinstance (by decide +kernel) (wA_cons (wE_name 1 rfl (wA_cons (wE_type (n := "tuple") TX.b_tuple (by decide +kernel) (wA_nil ?_))))))
  refine wC_isi (n := "tuple") (k := true) rfl rfl ?_
  refine ⟨_, rfl, and_flip (fun hk => ?_) (fun hk => ?_)⟩
  · exact nomatch hk
  refine wE_one (wE_callB (id := "all") TX.b_all (by decide +kernel) (wA_cons (wE_lc [("item", 4)] (wIt_tup (wE_name 1 rfl ⟨_, rfl, ?_⟩)) nd (blkOk_by (N := N_Looked_is_body) (sc := defScope s_Looked_is_body) (by decide +kernel)))))
  refine ⟨szOk (by rw [aIts_len]; omega), fun i acc μ' => acc = (List.replicate i true).map D.A.bl ∧ ∃ (Ti : List Str) (mi : Int), Lk CL p pp mi Pn μ' ∧ μ' t = some (.dic (Tk Ti)) ∧ Ls p t μ μ' ∧ tsIts (b.drop i) ∧ okIts Pn d Ti (b.drop i) ∧ mi + sizeIts (b.drop i) = m + sizeIts b ∧ Ti.length + sizeIts (b.drop i) ≤ 1000 ∧ toldIts (b.drop i) Ti = toldIts b T, ⟨rfl, T, m, lk, ht, Ls.refl _, hts, ok, rfl, hT, rfl⟩, fun i y acc μ' hy hJ s0 H0 C cl fp => ?_, fun acc μ' hJ pl npl => ?_⟩
  obtain ⟨rfl, Ti, mi, lki, hti, lsi, htsi, oki, em, hTi, et⟩ := hJ
  obtain ⟨it, hit, rfl⟩ := aIts_get hy
  have ed : b.drop i = it :: b.drop (i + 1) := by
    have hl := (List.getElem?_eq_some_iff.mp hit).1
    rw [List.drop_eq_getElem_cons hl]
    rw [List.getElem?_eq_getElem hl] at hit
    rw [Option.some.inj hit]
  rw [ed] at htsi oki em hTi et
  simp only [okIts, sizeIts, toldIts, tsIts] at htsi oki em hTi et
  refine wGw_name 4 (fun s0 H0 C cl fp => (wE_meth TX.cls_Looked CM_Looked_is_item ar.bk (by omega) (wE_name 0 rfl ?_))) nd
  obtain ⟨dx, hp⟩ := lki.ex
  refine ⟨p, dx, _, rfl, hp, rfl, ?_⟩
  refine wA_cons (wE_name 4 rfl (wA_cons (wE_name 2 rfl (wA_cons (wE_name 3 rfl (wA_nil ?_))))))
  refine ⟨p, pp, t, mi, Pn, Ti, it, d, rfl, lki, hti, tp, tpp, by omega, by omega, hlo, htsi.1, oki.1, fun μ2 lk2 ht2 ls2 => ?_⟩
  refine ⟨by rw [List.replicate_succ', List.map_append]; rfl, it.told Ti, _, lk2, ht2, lsi.trans ls2, htsi.2, oki.2, by omega, ?_, et⟩
  have := told_len it Ti
  omega
  obtain ⟨rfl, Ti, mi, lki, hti, lsi, htsi, oki, em, hTi, et⟩ := hJ
  rw [aIts_len, List.drop_length] at em et
  simp only [sizeIts, toldIts] at em et
  subst et
  have e0 : mi = m + (sizeIts b : Nat) := by omega
  subst e0
  refine wA_nil ?_
  refine wC_all rfl (.loc Mu.upd_same) ?_
  rw [show ((List.replicate (aIts b).length true).all id) = true by simp]
  exact q _ (lki.sub (Sub.new npl)) (Sub.new npl _ _ hti) (lsi.trans fun z o _ _ h => Sub.new npl z o h)

end
end D

set_option Elab.async false
set_option linter.all false
set_option maxRecDepth 100000
set_option maxHeartbeats 4000000
namespace D
open PySem PySem.Spec PyProof.Rows L2
local macro_rules | `(tactic| walk_at "mul") => `(tactic| first | refine wO_mul (mulR (by first | decide | omega) (by first | decide | omega)) ?_ | refine wO_mul (mulL (by first | decide | omega) (by first | decide | omega)) ?_)
local macro_rules | `(tactic| walk_at "mod") => `(tactic| refine wO_mod (by first | decide | omega) ?_)
local macro_rules | `(tactic| walk_at "fdiv") => `(tactic| refine wO_fdiv (by first | decide | omega) (divS (by first | decide | omega)) ?_)
local macro_rules | `(tactic| walk_at "ix") => `(tactic| first | refine wI_tup (by rfl) ?_ | refine wI_lst (by rfl) ?_)
local macro_rules | `(tactic| walk_at "sl") => `(tactic| first | refine wSl_tup ?_ | refine wSl_lstF ?_)
local macro_rules | `(tactic| walk_at "obj") => `(tactic| refine ⟨_, _, _, rfl, by assumption, rfl, ?_⟩)
local macro_rules | `(tactic| walk_at "len") => `(tactic| first | refine wC_len (.tup _) ?_ | refine wC_len (.lst _) ?_ | refine wC_len (.loc (by assumption)) ?_)
section
variable {P : Program} {w : World} {mg : Str → Option Value} {base : Heap} {K : PySem.W.Frag} {CL CP CG CTL CTe CPr CPo CNV CTG CCo CS pT : Addr} {k : Nat}
abbrev s_Looked_is_part : Stmt := (bodyC (topS 38)).getD 4 (.Pass ⟨0, 0, 0, 0⟩)
abbrev N_Looked_is_part : List Str := ["self", "thing", "told", "name"]
theorem sc_Looked_is_part : FnScope N_Looked_is_part ["self", "thing"] (defScope s_Looked_is_part) := ⟨rfl, rfl, rfl, by decide +kernel, rfl, by decide +kernel, by decide +kernel⟩
theorem Lk.old {CL p pp : Addr} {m : Int} {Pn : List (Str × Int)} {μ : Mu} (h : Lk CL p pp m Pn μ) {t : Addr} (n : μ t = none) : t ≠ p ∧ t ≠ pp := by
  obtain ⟨dx, e⟩ := h.ex
  have e2 := h.pa
  exact ⟨fun z => by (rw [z, e] at n; cases n), fun z => by (rw [z, e2] at n; cases n)⟩
def c_Looked_is_part (CL : Addr) : AC := fun xs μ Q _ => ∃ (p pp : Addr) (m : Int) (Pn : List (Str × Int)) (q : Pt), xs = [.loc p, q.a] ∧ Lk CL p pp m Pn μ ∧ 0 ≤ m ∧ q.ok Pn ∧ m + q.size ≤ 80 ∧ Pn.length ≤ 1000 ∧
  ∀ μ' : Mu, Lk CL p pp (m + q.size) (Pn ++ [(q.nm, (q.ins.length : Int))]) μ' → Ls p pp μ μ' → Q (.bl true) μ'
theorem ok_Looked_is_part {n : Nat}  {f : Addr} {fd : FuncData} (TX : Txt K mg w CL CP CG CTL CTe CPr CPo CNV CTG CCo CS pT) (C_is_name : Cal P w K mg base n "is_name" c_is_name) (C_are_names : Cal P w K mg base n "are_names" c_are_names) (C_are_unlike : Cal P w K mg base n "are_unlike" c_are_unlike) (CM_Looked_is_more : CalM P w K mg base n CL "is_more" (c_Looked_is_more CL)) (CM_Looked_is_body : CalM P w K mg base n CL "is_body" (c_Looked_is_body CL 0)) (F : Fun K "is_part" "Looked.is_part" s_Looked_is_part f fd) : FnD P w K mg base CX0 (n + 1) f fd ["self", "thing"] (c_Looked_is_part CL) := by
  refine fnD F sc_Looked_is_part (fun xs μ Q E hc => by obtain ⟨p, pp, m, Pn, ⟨nm, ins, body, give⟩, rfl, lk, m0, ok, hm, hP, q⟩ := hc; rfl) (fun cdv Ao outer s H E xs μ Q E0 ar hc => ?_)
  obtain ⟨p, pp, m, Pn, ⟨nm, ins, body, give⟩, rfl, lk, m0, ok, hm, hP, q⟩ := hc
  have hnm := ok.nm
  have hnew := ok.new
  have hi1 := ok.i1
  have hi4 := ok.i4
  have hins := ok.ins
  have hunl := ok.unl
  have hgive := ok.give
  simp only [Pt.size] at hm q hnm hnew hi1 hi4 hins hunl hgive
  simp only [Pt.a]
  have nd := sc_Looked_is_part.nd
  refine wSs_cons (wS_if ?_)
  refine wT.imp (QB := fun k μ' => μ = μ' ∧ k = false) ?_ (fun k μ' hq => ?_)
  refine wT_chain (wW_or (wT_not (wT_val (wE_callB (id := "isinstance") TX.b_isinstance (by decide +kernel) (wA_cons (wE_name 1 rfl (wA_cons (wE_type (n := "tuple") TX.b_tuple (by decide +kernel) (wA_nil ?_)))))))))
  refine wC_isi (n := "tuple") (k := true) rfl rfl ?_
  refine ⟨_, rfl, ?_⟩
  refine ⟨fun hk => ?_, fun hk => ?_⟩
  · exact nomatch hk
  refine wW_or (wT_cmp (wE_callB (id := "len") TX.b_len (by decide +kernel) (wA_cons (wE_name 1 rfl (wA_nil ?_)))))
  refine wC_len (.tup _) ?_
  refine wE_int ?_
  refine wO_neI ?_
  refine ⟨_, rfl, ?_⟩
  refine ⟨fun hk => ?_, fun hk => ?_⟩
  · exact absurd hk (by simp)
  refine wW_or (wT_not (wT_val (wE_cal C_is_name ar (by omega) (wA_cons (wE_ix (wE_name 1 rfl (wE_int ?_)))))))
  walk_at "ix"
  refine wA_nil ?_
  refine ⟨.str nm, "str", true, rfl, rfl, rfl, (fun _ => ⟨nm, rfl, by have := isNm_wd hnm; omega⟩), (fun z => nomatch z), ?_⟩
  rw [hnm]
  refine ⟨_, rfl, ?_⟩
  refine ⟨fun hk => ?_, fun hk => ?_⟩
  · exact nomatch hk
  refine wW_or1 (wT_inD ar (wE_ix (wE_name 1 rfl (wE_int ?_))))
  walk_at "ix"
  refine wE_fld TX.cls_Looked TX.na_Looked_parts (wE_name 0 rfl ?_)
  obtain ⟨dx, hp⟩ := lk.ex
  refine ⟨p, dx, _, .loc pp, rfl, hp, rfl, ?_⟩
  refine ⟨pp, _, .inr nm, rfl, lk.pa, rfl, ?_⟩
  refine ⟨rfl, ?_⟩
  rw [valA_Pk, hnew]; rfl
  obtain ⟨rfl, rfl⟩ := hq
  refine ⟨fun hk => ?_, fun hk => ?_⟩
  refine wSs_cons (wS_ret (wE_bl ?_))
  exact nomatch hk
  refine wSs_nil ?_
  refine wSs_cons (wS_if ?_)
  refine wT.imp (QB := fun k μ' => k = false ∧ Lk CL p pp (m + (2 + ins.length)) Pn μ' ∧ But p μ μ') ?_ (fun k μ' hq => ?_)
  refine wT_chain (wW_or (wT_not (wT_val (wE_cal C_are_names ar (by omega) (wA_cons (wE_ix (wE_name 1 rfl (wE_int ?_))))))))
  walk_at "ix"
  refine wA_cons (wE_glob TX.k_MOST_PART_INS (wA_nil ?_))
  refine ⟨ins, 4, rfl, hi1, by omega, by omega, hins, ?_⟩
  refine ⟨_, rfl, ?_⟩
  refine ⟨fun hk => ?_, fun hk => ?_⟩
  · exact nomatch hk
  refine wW_or (wT_not (wT_val (wE_cal C_are_unlike ar (by omega) (wA_cons (wE_ix (wE_name 1 rfl (wE_int ?_)))))))
  walk_at "ix"
  refine wA_nil ?_
  refine ⟨ins, rfl, by omega, hunl, ?_⟩
  refine ⟨_, rfl, ?_⟩
  refine ⟨fun hk => ?_, fun hk => ?_⟩
  · exact nomatch hk
  refine wW_or1 (wT_not (wT_val (wE_meth TX.cls_Looked CM_Looked_is_more ar (by omega) (wE_name 0 rfl ?_))))
  obtain ⟨dx, hp⟩ := lk.ex
  refine ⟨p, dx, _, rfl, hp, rfl, ?_⟩
  refine wA_cons (wE_bin (wE_int (wE_callB (id := "len") TX.b_len (by decide +kernel) (wA_cons (wE_ix (wE_name 1 rfl (wE_int ?_)))))))
  walk_at "ix"
  refine wA_nil ?_
  refine wC_len (.tup _) ?_
  rw [List.length_map]
  refine wO_add ?_
  refine wA_nil ?_
  refine ⟨p, pp, m, _, Pn, rfl, lk, by omega, fun μ1 lk1 b1 => ?_⟩
  refine ⟨_, rfl, ?_⟩
  exact ⟨rfl, lk1, b1⟩
  obtain ⟨rfl, lk1, b1⟩ := hq
  refine ⟨fun hk => ?_, fun hk => ?_⟩
  refine wSs_cons (wS_ret (wE_bl ?_))
  exact nomatch hk
  refine wSs_nil ?_
  refine wSs_cons (wS_set 2 (wE_callTy (T := "dict") TX.b_dict (by decide +kernel) (wA_cons (wE_lcF (own := [("name", 3)]) (wIt_tup (wE_ix (wE_name 1 rfl (wE_int ?_)))) nd (blkOk_by (N := N_Looked_is_part) (sc := defScope s_Looked_is_part) (by decide +kernel))))) nd)
  walk_at "ix"
  refine ⟨_, rfl, ?_⟩
  refine ⟨szOk (by rw [List.length_map]; omega), (Tk ins).map (fun kv => A.tup [kA kv.1, kv.2]), by simp, fun i y z hy hz s0 H0 C cl fp => ?_, ?_⟩
  obtain ⟨w1, g1, rfl⟩ := map_at hy
  obtain ⟨kv, g2, rfl⟩ := map_at hz
  obtain ⟨w2, g3, rfl⟩ := map_at g2
  obtain rfl : w1 = w2 := Option.some.inj (g1.symm.trans g3)
  refine wGw_name 3 (⟨rfl, fun s0 H0 C cl fp => (wE_tup (wA_cons (wE_name 3 rfl (wA_cons (wE_bl (wA_nil ⟨by show 2 ≤ sizeLine; decide, ?_⟩))))))⟩) nd
  refine ⟨?_, .refl _⟩
  rfl
  refine wA_nil ?_
  refine wC_dictP rfl (.lst _) (fun t nt => ?_)
  rw [merge_Tk hunl]
  have lk2 := lk1.sub (Sub.new (m := .dic (Tk ins)) nt)
  obtain ⟨tp, tpp⟩ := lk1.old nt
  refine wSs_cons (wS_if ?_)
  refine wT.imp (QB := fun k μ2 => k = false ∧ Lk CL p pp (m + (2 + ins.length) + sizeIts body) Pn μ2 ∧ Ls p t (μ'.upd t (.dic (Tk ins))) μ2) ?_ (fun k μ2 hq => ?_)
  refine wT_chain (wW_or (wT_not (wT_val (wE_meth TX.cls_Looked CM_Looked_is_body ar (by omega) (wE_name 0 rfl ?_)))))
  obtain ⟨dx, hp⟩ := lk2.ex
  refine ⟨p, dx, _, rfl, hp, rfl, ?_⟩
  refine wA_cons (wE_ix (wE_name 1 rfl (wE_int ?_)))
  walk_at "ix"
  refine wA_cons (wE_name 2 rfl (wA_cons (wE_int (wA_nil ?_))))
  refine ⟨p, pp, t, _, Pn, ins, body, 0, rfl, lk2, Mu.upd_same, tp, tpp, by omega, by omega, Nat.le_refl _, ok.ts, ok.body, fun μ3 lk3 ht3 ls3 => ?_⟩
  refine ⟨_, rfl, ?_⟩
  refine ⟨fun hk => ?_, fun hk => ?_⟩
  · exact nomatch hk
  refine wW_or (wT_not (wT_val (wE_callB (id := "isinstance") TX.b_isinstance (by decide +kernel) (wA_cons (wE_ix (wE_name 1 rfl (wE_int ?_)))))))
  walk_at "ix"
  refine wA_cons (wE_type (n := "str") TX.b_str (by decide +kernel) (wA_nil ?_))
  refine wC_isi (n := "str") (k := true) rfl rfl ?_
  refine ⟨_, rfl, ?_⟩
  refine ⟨fun hk => ?_, fun hk => ?_⟩
  · exact nomatch hk
  refine wW_or1 (wT_notInD ar (wE_ix (wE_name 1 rfl (wE_int ?_))))
  walk_at "ix"
  refine wE_name 2 rfl ?_
  refine ⟨t, _, .inr give, rfl, ht3, rfl, ?_⟩
  refine ⟨?_, lk3, ls3⟩
  rw [valA_Tk, if_pos hgive]; rfl
  obtain ⟨rfl, lk4, ls4⟩ := hq
  refine ⟨fun hk => ?_, fun hk => ?_⟩
  refine wSs_cons (wS_ret (wE_bl ?_))
  exact nomatch hk
  refine wSs_nil ?_
  refine wSs_cons (wS_dput ar (wE_callB (id := "len") TX.b_len (by decide +kernel) (wA_cons (wE_ix (wE_name 1 rfl (wE_int ?_))))))
  walk_at "ix"
  refine wA_nil ?_
  refine wC_len (.tup _) ?_
  rw [List.length_map]
  refine wE_fld TX.cls_Looked TX.na_Looked_parts (wE_name 0 rfl ?_)
  obtain ⟨dx, hp4⟩ := lk4.ex
  refine ⟨p, dx, _, .loc pp, rfl, hp4, rfl, ?_⟩
  refine wE_ix (wE_name 1 rfl (wE_int ?_))
  walk_at "ix"
  refine ⟨pp, _, .inr nm, rfl, lk4.pa, rfl, szLt (by rw [List.length_map]; omega), ?_⟩
  rw [putA_Pk hnew]
  refine wSs_cons (wS_ret (wE_bl ?_))
  have e : m + ((2 + ins.length + sizeIts body : Nat) : Int) = m + (2 + (ins.length : Int)) + (sizeIts body : Nat) := by omega
  refine q _ ?_ (fun z o h1 h2 h3 => ?_)
  · rw [e]; exact ⟨⟨dx, by rw [Mu.upd_ne (Ne.symm lk.ne)]; exact hp4⟩, Mu.upd_same, lk.ne⟩
  · rw [Mu.upd_ne h2]
    have h4 := b1 z o h1 h3
    have h5 : z ≠ t := fun e => by rw [e, nt] at h4; cases h4
    exact ls4 z o h1 h5 (by rw [Mu.upd_ne h5]; exact h4)

abbrev s_Looked_is_program : Stmt := (bodyC (topS 38)).getD 5 (.Pass ⟨0, 0, 0, 0⟩)
abbrev N_Looked_is_program : List Str := ["self", "thing", "part", "told", "name"]
theorem sc_Looked_is_program : FnScope N_Looked_is_program ["self", "thing"] (defScope s_Looked_is_program) := ⟨rfl, rfl, rfl, by decide +kernel, rfl, by decide +kernel, by decide +kernel⟩
def c_Looked_is_program (CL : Addr) : AC := fun xs μ Q _ => ∃ (p pp : Addr) (g : Pg), xs = [.loc p, g.a] ∧ Lk CL p pp 0 [] μ ∧ g.ok ∧ ∀ μ' : Mu, Lk CL p pp g.size (pnPts g.parts) μ' → Ls p pp μ μ' → Q (.bl true) μ'
theorem sizePts_cons (q : Pt) (r : List Pt) : sizePts (q :: r) = q.size + sizePts r := by simp [sizePts]
theorem ok_Looked_is_program {n : Nat}  {f : Addr} {fd : FuncData} (TX : Txt K mg w CL CP CG CTL CTe CPr CPo CNV CTG CCo CS pT) (C_are_names : Cal P w K mg base n "are_names" c_are_names) (C_are_unlike : Cal P w K mg base n "are_unlike" c_are_unlike) (CM_Looked_is_part : CalM P w K mg base n CL "is_part" (c_Looked_is_part CL)) (CM_Looked_is_more : CalM P w K mg base n CL "is_more" (c_Looked_is_more CL)) (CM_Looked_is_body : CalM P w K mg base n CL "is_body" (c_Looked_is_body CL 0)) (F : Fun K "is_program" "Looked.is_program" s_Looked_is_program f fd) : FnD P w K mg base CX0 (n + 1) f fd ["self", "thing"] (c_Looked_is_program CL) := by
  refine fnD F sc_Looked_is_program (fun xs μ Q E hc => by obtain ⟨p, pp, ⟨parts, ins, body, outs⟩, rfl, lk, ok, q⟩ := hc; rfl) (fun cdv Ao outer s H E xs μ Q E0 ar hc => ?_)
  obtain ⟨p, pp, ⟨parts, ins, body, outs⟩, rfl, lk, ok, q⟩ := hc
  have h6 := ok.p6
  have hpa := ok.parts
  have hi1 := ok.i1
  have hi6 := ok.i6
  have hins := ok.ins
  have hunl := ok.unl
  have ho1 := ok.o1
  have ho4 := ok.o4
  have houts := ok.outs
  have hm := ok.size
  simp only [Pg.size] at hm q h6 hpa hi1 hi6 hins hunl ho1 ho4 houts
  simp only [Pg.a]
  have nd := sc_Looked_is_program.nd
  refine wSs_cons (wS_if ?_)
  refine wT.imp (QB := fun k μ' => μ = μ' ∧ k = false) ?_ (fun k μ' hq => ?_)
  refine wT_chain (wW_or (wT_not (wT_val (wE_callB (id := "isinstance") TX.b_isinstance (by decide +kernel) (wA_cons (wE_name 1 rfl (wA_cons (wE_type (n := "tuple") TX.b_tuple (by decide +kernel) (wA_nil ?_)))))))))
  refine wC_isi (n := "tuple") (k := true) rfl rfl ?_
  refine ⟨_, rfl, ?_⟩
  refine ⟨fun hk => ?_, fun hk => ?_⟩
  · exact nomatch hk
  refine wW_or (wT_cmp (wE_callB (id := "len") TX.b_len (by decide +kernel) (wA_cons (wE_name 1 rfl (wA_nil ?_)))))
  refine wC_len (.tup _) ?_
  refine wE_int ?_
  refine wO_neI ?_
  refine ⟨_, rfl, ?_⟩
  refine ⟨fun hk => ?_, fun hk => ?_⟩
  · exact absurd hk (by simp)
  refine wW_or1 (wT_not (wT_val (wE_callB (id := "isinstance") TX.b_isinstance (by decide +kernel) (wA_cons (wE_ix (wE_name 1 rfl (wE_int ?_)))))))
  walk_at "ix"
  refine wA_cons (wE_type (n := "tuple") TX.b_tuple (by decide +kernel) (wA_nil ?_))
  refine wC_isi (n := "tuple") (k := true) rfl rfl ?_
  refine ⟨_, rfl, ?_⟩
  exact ⟨rfl, rfl⟩
  obtain ⟨rfl, rfl⟩ := hq
  refine ⟨fun hk => ?_, fun hk => ?_⟩
  refine wSs_cons (wS_ret (wE_bl ?_))
  exact nomatch hk
  refine wSs_nil ?_
  refine wSs_cons (wS_if ?_)
  refine wT.imp (QB := fun k μ' => k = false ∧ Lk CL p pp (sizePts parts) (pnPts parts) μ' ∧ Ls p pp μ μ') ?_ (fun k μ' hq => ?_)
  refine wT_chain (wW_or (wT_cmp (wE_callB (id := "len") TX.b_len (by decide +kernel) (wA_cons (wE_ix (wE_name 1 rfl (wE_int ?_)))))))
  walk_at "ix"
  refine wA_nil ?_
  refine wC_len (.tup _) ?_
  rw [List.length_map]
  refine wE_glob TX.k_MOST_PARTS ?_
  refine wO_gt ?_
  refine ⟨_, rfl, ?_⟩
  refine ⟨fun hk => ?_, fun hk => ?_⟩
  · exact absurd (of_decide_eq_true hk) (by omega)
  refine wW_or1 (wT_not (wT_val (wE_callB (id := "all") TX.b_all (by decide +kernel) (wA_cons (wE_lc [("part", 2)] (wIt_tup (wE_ix (wE_name 1 rfl (wE_int ?_)))) nd (blkOk_by (N := N_Looked_is_program) (sc := defScope s_Looked_is_program) (by decide +kernel)))))))
  walk_at "ix"
  refine ⟨_, rfl, ?_⟩
  refine ⟨szOk (by rw [List.length_map]; omega), fun i acc μ' => acc = (List.replicate i true).map D.A.bl ∧ ∃ (Pn : List (Str × Int)) (mi : Int), Lk CL p pp mi Pn μ' ∧ Ls p pp μ μ' ∧ okPts Pn (parts.drop i) ∧ mi + sizePts (parts.drop i) = sizePts parts ∧ 0 ≤ mi ∧ Pn ++ pnPts (parts.drop i) = pnPts parts, ⟨rfl, [], 0, lk, Ls.refl _, hpa, by simp, Int.le_refl _, rfl⟩, fun i y acc μ' hy hJ s0 H0 C cl fp => ?_, fun acc μ' hJ pl npl => ?_⟩
  obtain ⟨rfl, Pn, mi, lki, lsi, oki, em, m0, eP⟩ := hJ
  obtain ⟨pt, hit, rfl⟩ := map_at hy
  have ed : parts.drop i = pt :: parts.drop (i + 1) := by
    have hl := (List.getElem?_eq_some_iff.mp hit).1
    rw [List.drop_eq_getElem_cons hl]
    rw [List.getElem?_eq_getElem hl] at hit
    rw [Option.some.inj hit]
  rw [ed] at oki em eP
  rw [sizePts_cons] at em
  simp only [okPts] at oki
  have hPl : Pn.length ≤ 6 := by
    have := congrArg List.length eP
    simp only [List.length_append, List.length_map] at this
    omega
  refine wGw_name 2 (fun s0 H0 C cl fp => (wE_meth TX.cls_Looked CM_Looked_is_part ar.bk (by omega) (wE_name 0 rfl ?_))) nd
  obtain ⟨dx, hp⟩ := lki.ex
  refine ⟨p, dx, _, rfl, hp, rfl, ?_⟩
  refine wA_cons (wE_name 2 rfl (wA_nil ?_))
  refine ⟨p, pp, mi, Pn, pt, rfl, lki, m0, oki.1, by omega, by omega, fun μ2 lk2 ls2 => ?_⟩
  exact ⟨by rw [List.replicate_succ', List.map_append]; rfl, _, _, lk2, lsi.trans ls2, oki.2, by omega, by omega, by rw [List.append_assoc]; exact eP⟩
  obtain ⟨rfl, Pn, mi, lki, lsi, oki, em, m0, eP⟩ := hJ
  rw [List.length_map, List.drop_length] at em eP
  have e1 : mi = (sizePts parts : Nat) := by simp [sizePts] at em ⊢; omega
  have e2 : Pn = pnPts parts := by simpa using eP
  subst e1
  subst e2
  refine wA_nil ?_
  refine wC_all rfl (.loc Mu.upd_same) ?_
  rw [show ((List.replicate (parts.map Pt.a).length true).all id) = true by simp]
  refine ⟨_, rfl, ?_⟩
  exact ⟨rfl, lki.sub (Sub.new npl), lsi.trans fun z o _ _ h => Sub.new npl z o h⟩
  obtain ⟨rfl, lk1, ls1⟩ := hq
  refine ⟨fun hk => ?_, fun hk => ?_⟩
  refine wSs_cons (wS_ret (wE_bl ?_))
  exact nomatch hk
  refine wSs_nil ?_
  refine wSs_cons (wS_if ?_)
  refine wT.imp (QB := fun k μ2 => k = false ∧ Lk CL p pp (sizePts parts + ins.length) (pnPts parts) μ2 ∧ But p μ' μ2) ?_ (fun k μ2 hq => ?_)
  refine wT_chain (wW_or (wT_not (wT_val (wE_cal C_are_names ar (by omega) (wA_cons (wE_ix (wE_name 1 rfl (wE_int ?_))))))))
  walk_at "ix"
  refine wA_cons (wE_glob TX.k_MOST_INS (wA_nil ?_))
  refine ⟨ins, 6, rfl, hi1, by omega, by omega, hins, ?_⟩
  refine ⟨_, rfl, ?_⟩
  refine ⟨fun hk => ?_, fun hk => ?_⟩
  · exact nomatch hk
  refine wW_or (wT_not (wT_val (wE_cal C_are_unlike ar (by omega) (wA_cons (wE_ix (wE_name 1 rfl (wE_int ?_)))))))
  walk_at "ix"
  refine wA_nil ?_
  refine ⟨ins, rfl, by omega, hunl, ?_⟩
  refine ⟨_, rfl, ?_⟩
  refine ⟨fun hk => ?_, fun hk => ?_⟩
  · exact nomatch hk
  refine wW_or1 (wT_not (wT_val (wE_meth TX.cls_Looked CM_Looked_is_more ar (by omega) (wE_name 0 rfl ?_))))
  obtain ⟨dx, hp⟩ := lk1.ex
  refine ⟨p, dx, _, rfl, hp, rfl, ?_⟩
  refine wA_cons (wE_callB (id := "len") TX.b_len (by decide +kernel) (wA_cons (wE_ix (wE_name 1 rfl (wE_int ?_)))))
  walk_at "ix"
  refine wA_nil ?_
  refine wC_len (.tup _) ?_
  rw [List.length_map]
  refine wA_nil ?_
  refine ⟨p, pp, _, _, _, rfl, lk1, by omega, fun μ1 lk2 b2 => ?_⟩
  refine ⟨_, rfl, ?_⟩
  exact ⟨rfl, lk2, b2⟩
  obtain ⟨rfl, lk2, b2⟩ := hq
  refine ⟨fun hk => ?_, fun hk => ?_⟩
  refine wSs_cons (wS_ret (wE_bl ?_))
  exact nomatch hk
  refine wSs_nil ?_
  refine wSs_cons (wS_set 3 (wE_callTy (T := "dict") TX.b_dict (by decide +kernel) (wA_cons (wE_lcF (own := [("name", 4)]) (wIt_tup (wE_ix (wE_name 1 rfl (wE_int ?_)))) nd (blkOk_by (N := N_Looked_is_program) (sc := defScope s_Looked_is_program) (by decide +kernel))))) nd)
  walk_at "ix"
  refine ⟨_, rfl, ?_⟩
  refine ⟨szOk (by rw [List.length_map]; omega), (Tk ins).map (fun kv => A.tup [kA kv.1, kv.2]), by simp, fun i y z hy hz s0 H0 C cl fp => ?_, ?_⟩
  obtain ⟨w1, g1, rfl⟩ := map_at hy
  obtain ⟨kv, g2, rfl⟩ := map_at hz
  obtain ⟨w2, g3, rfl⟩ := map_at g2
  obtain rfl : w1 = w2 := Option.some.inj (g1.symm.trans g3)
  refine wGw_name 4 (⟨rfl, fun s0 H0 C cl fp => (wE_tup (wA_cons (wE_name 4 rfl (wA_cons (wE_bl (wA_nil ⟨by show 2 ≤ sizeLine; decide, ?_⟩))))))⟩) nd
  refine ⟨?_, .refl _⟩
  rfl
  refine wA_nil ?_
  refine wC_dictP rfl (.lst _) (fun t nt => ?_)
  rw [merge_Tk hunl]
  have lk3 := lk2.sub (Sub.new (m := .dic (Tk ins)) nt)
  obtain ⟨tp, tpp⟩ := lk2.old nt
  refine wSs_cons (wS_if ?_)
  refine wT.imp (QB := fun k μ3 => k = false ∧ Lk CL p pp (sizePts parts + ins.length + sizeIts body) (pnPts parts) μ3 ∧ Ls p t (μ2.upd t (.dic (Tk ins))) μ3 ∧ μ3 t = some (.dic (Tk (toldIts body ins)))) ?_ (fun k μ3 hq => ?_)
  refine wT_chain (wW_or (wT_not (wT_val (wE_meth TX.cls_Looked CM_Looked_is_body ar (by omega) (wE_name 0 rfl ?_)))))
  obtain ⟨dx, hp⟩ := lk3.ex
  refine ⟨p, dx, _, rfl, hp, rfl, ?_⟩
  refine wA_cons (wE_ix (wE_name 1 rfl (wE_int ?_)))
  walk_at "ix"
  refine wA_cons (wE_name 3 rfl (wA_cons (wE_int (wA_nil ?_))))
  refine ⟨p, pp, t, _, _, ins, body, 0, rfl, lk3, Mu.upd_same, tp, tpp, by omega, by omega, Nat.le_refl _, ok.ts, ok.body, fun μ4 lk4 ht4 ls4 => ?_⟩
  refine ⟨_, rfl, ?_⟩
  refine ⟨fun hk => ?_, fun hk => ?_⟩
  · exact nomatch hk
  refine wW_or1 (wT_not (wT_val (wE_cal C_are_names ar (by omega) (wA_cons (wE_ix (wE_name 1 rfl (wE_int ?_)))))))
  walk_at "ix"
  refine wA_cons (wE_glob TX.k_MOST_OUTS (wA_nil ?_))
  refine ⟨outs, 4, rfl, ho1, by omega, by omega, fun w hw => (houts w hw).1, ?_⟩
  refine ⟨_, rfl, ?_⟩
  exact ⟨rfl, lk4, ls4, ht4⟩
  obtain ⟨rfl, lk5, ls5, ht5⟩ := hq
  refine ⟨fun hk => ?_, fun hk => ?_⟩
  refine wSs_cons (wS_ret (wE_bl ?_))
  exact nomatch hk
  refine wSs_nil ?_
  refine wSs_cons (wS_ret ?_)
  refine wE_and (wE_meth TX.cls_Looked CM_Looked_is_more ar (by omega) (wE_name 0 rfl ?_))
  obtain ⟨dx, hp⟩ := lk5.ex
  refine ⟨p, dx, _, rfl, hp, rfl, ?_⟩
  refine wA_cons (wE_callB (id := "len") TX.b_len (by decide +kernel) (wA_cons (wE_ix (wE_name 1 rfl (wE_int ?_)))))
  walk_at "ix"
  refine wA_nil ?_
  refine wC_len (.tup _) ?_
  rw [List.length_map]
  refine wA_nil ?_
  refine ⟨p, pp, _, _, _, rfl, lk5, by omega, fun μ6 lk6 b6 => ?_⟩
  have ht6 := but_at b6 tp ht5
  refine ⟨_, rfl, and_flip (fun hk => ?_) (fun hk => ?_)⟩
  · exact nomatch hk
  refine wE_one (wE_callB (id := "all") TX.b_all (by decide +kernel) (wA_cons (wE_lcF (own := [("name", 4)]) (wIt_tup (wE_ix (wE_name 1 rfl (wE_int ?_)))) nd (blkOk_by (N := N_Looked_is_program) (sc := defScope s_Looked_is_program) (by decide +kernel)))))
  walk_at "ix"
  refine ⟨_, rfl, ?_⟩
  refine ⟨szOk (by rw [List.length_map]; omega), (outs.map fun _ => true).map D.A.bl, by simp, fun i y z hy hz s0 H0 C cl fp => ?_, ?_⟩
  obtain ⟨w1, g1, rfl⟩ := map_at hy
  obtain ⟨bz, g2, rfl⟩ := map_at hz
  obtain ⟨w2, g3, rfl⟩ := map_at g2
  have hw1 := (houts w1 (List.mem_of_getElem? g1)).2
  refine wGw_name 4 (⟨rfl, fun s0 H0 C cl fp => (wE_inD ar.bk (wE_name 4 rfl (wE_name 3 rfl ?_)))⟩) nd
  refine ⟨t, _, .inr w1, rfl, ht6, rfl, ?_⟩
  refine ⟨?_, .refl _⟩
  rw [valA_Tk, if_pos hw1]; rfl
  refine wA_nil ?_
  refine wC_all rfl (.lst _) ?_
  rw [show ((outs.map fun _ => true).all id) = true by simp]
  have e : ((sizePts parts + ins.length + sizeIts body + outs.length : Nat) : Int) = (sizePts parts : Int) + ins.length + sizeIts body + outs.length := by omega
  refine q _ (by rw [e]; exact lk6) (fun z o h1 h2 h3 => ?_)
  have h4 := b2 z o h1 (ls1 z o h1 h2 h3)
  have h5 : z ≠ t := fun e => by rw [e, nt] at h4; cases h4
  exact b6 z o h1 (ls5 z o h1 h5 (by rw [Mu.upd_ne h5]; exact h4))

end
end D

set_option Elab.async false
set_option linter.all false
set_option maxRecDepth 100000
set_option maxHeartbeats 4000000
namespace D
open PySem PySem.Spec PyProof.Rows L2
local macro_rules | `(tactic| walk_at "mul") => `(tactic| first | refine wO_mul (mulR (by first | decide | omega) (by first | decide | omega)) ?_ | refine wO_mul (mulL (by first | decide | omega) (by first | decide | omega)) ?_)
local macro_rules | `(tactic| walk_at "mod") => `(tactic| refine wO_mod (by first | decide | omega) ?_)
local macro_rules | `(tactic| walk_at "fdiv") => `(tactic| refine wO_fdiv (by first | decide | omega) (divS (by first | decide | omega)) ?_)
local macro_rules | `(tactic| walk_at "ix") => `(tactic| first | refine wI_tup (by rfl) ?_ | refine wI_lst (by rfl) ?_)
local macro_rules | `(tactic| walk_at "sl") => `(tactic| first | refine wSl_tup ?_ | refine wSl_lstF ?_)
local macro_rules | `(tactic| walk_at "obj") => `(tactic| refine ⟨_, _, _, rfl, by assumption, rfl, ?_⟩)
local macro_rules | `(tactic| walk_at "len") => `(tactic| first | refine wC_len (.tup _) ?_ | refine wC_len (.lst _) ?_ | refine wC_len (.loc (by assumption)) ?_)
section
variable {P : Program} {w : World} {mg : Str → Option Value} {base : Heap} {K : PySem.W.Frag} {CL CP CG CTL CTe CPr CPo CNV CTG CCo CS pT : Addr} {k : Nat}
abbrev s_Program___init__ : Stmt := (bodyC (topS 39)).getD 0 (.Pass ⟨0, 0, 0, 0⟩)
abbrev N_Program___init__ : List Str := ["self", "plain", "looked", "one"]
theorem sc_Program___init__ : FnScope N_Program___init__ ["self", "plain"] (defScope s_Program___init__) := ⟨rfl, rfl, rfl, by decide +kernel, rfl, by decide +kernel, by decide +kernel⟩
abbrev Rp (g : Pg) : List (Key × D.A) := g.parts.map fun q => ((.inr q.nm : Key), q.a)
abbrev PgF (g : Pg) (rp : Addr) : List (Str × D.A) := [("told", g.a), ("many", .int g.size), ("rows_of_parts", .loc rp)]
/-- a program that stands -/
def PgAt (CP p : Addr) (g : Pg) (μ : Mu) : Prop := ∃ dx rp, μ p = some (.ins CP dx (PgF g rp)) ∧ μ rp = some (.dic (Rp g)) ∧ rp ≠ p
theorem PgAt.sub {CP p : Addr} {g : Pg} {μ μ' : Mu} (h : PgAt CP p g μ) (s : Sub μ μ') : PgAt CP p g μ' := by
  obtain ⟨dx, rp, h1, h2, h3⟩ := h
  exact ⟨dx, rp, s _ _ h1, s _ _ h2, h3⟩
theorem merge_Rp {g : Pg} (h : g.ok) : mergeA [] (Rp g) = Rp g := by
  refine merge_nodup ?_
  have h1 := (okPts_nodup h.parts).1
  rw [List.map_map, show ((fun x : Key × D.A => x.1) ∘ fun q : Pt => ((.inr q.nm : Key), q.a)) = fun q => (.inr q.nm : Key) from rfl, show (g.parts.map fun q => (.inr q.nm : Key)) = (g.parts.map (·.nm)).map Sum.inr by rw [List.map_map]; rfl]
  exact List.Pairwise.map _ (fun a b hab e => hab (Sum.inr.inj e)) h1
def c_Program___init__ (CP : Addr) : AC := fun xs μ Q _ => ∃ (p dx : Addr) (g : Pg), xs = [.loc p, g.a] ∧ μ p = some (.ins CP dx []) ∧ g.ok ∧ ∀ μ' : Mu, PgAt CP p g μ' → But p μ μ' → Q .non μ'
theorem ok_Program___init__ {n : Nat}  {f : Addr} {fd : FuncData} (TX : Txt K mg w CL CP CG CTL CTe CPr CPo CNV CTG CCo CS pT) (CK_Looked : CalK P w K mg base n "Looked" CL (c_Looked___init__ CL)) (CM_Looked_is_program : CalM P w K mg base n CL "is_program" (c_Looked_is_program CL)) (F : Fun K "__init__" "Program.__init__" s_Program___init__ f fd) : FnD P w K mg base CX0 (n + 2) f fd ["self", "plain"] (c_Program___init__ CP) := by
  refine fnD F sc_Program___init__ (fun xs μ Q E hc => by obtain ⟨p, dx, g, rfl, hp, ok, q⟩ := hc; rfl) (fun cdv Ao outer s H E xs μ Q E0 ar hc => ?_)
  obtain ⟨p, dx, g, rfl, hp, ok, q⟩ := hc
  have nd := sc_Program___init__.nd
  refine wSs_cons (wS_set 2 (wE_make0 CK_Looked ar (by omega) ?_) nd)
  refine fun lp ldx nlp => ⟨lp, ldx, rfl, Mu.upd_same, fun lpp μ1 lk1 npp b1 => ⟨rfl, ?_⟩⟩
  have n1 : p ≠ lp := fun z => by rw [z, nlp] at hp; cases hp
  have hp0 : (μ.upd lp (.ins CL ldx [])) p = some (.ins CP dx []) := by rw [Mu.upd_ne n1]; exact hp
  have n2 : p ≠ lpp := fun z => by rw [z, npp] at hp0; cases hp0
  have hp1 := b1 p _ n1 hp0
  refine wSs_cons (wS_if (wT_not (wT_val (wE_meth TX.cls_Looked CM_Looked_is_program ar (by omega) (wE_name 2 rfl ?_)))))
  obtain ⟨dx2, hl⟩ := lk1.ex
  refine ⟨lp, dx2, _, rfl, hl, rfl, ?_⟩
  refine wA_cons (wE_name 1 rfl (wA_nil ?_))
  refine ⟨lp, lpp, g, rfl, lk1, ok, fun μ2 lk2 ls2 => ?_⟩
  have hp2 := ls2 p _ n1 n2 hp1
  obtain ⟨dx3, hl2⟩ := lk2.ex
  refine ⟨_, rfl, ?_⟩
  refine ⟨fun hk => ?_, fun hk => ?_⟩
  refine wSs_cons ?_
  exact nomatch hk
  refine wSs_nil ?_
  refine wSs_cons (wS_fld TX.cls_Program TX.na_Program_told (wE_name 1 rfl (wE_name 0 rfl ?_)))
  refine ⟨p, dx, [], rfl, hp2, by show 0 < 1000; decide, ?_⟩
  refine wSs_cons (wS_fld TX.cls_Program TX.na_Program_many (wE_fld TX.cls_Looked TX.na_Looked_many (wE_name 2 rfl ?_)))
  refine ⟨lp, dx3, _, .int g.size, rfl, by rw [Mu.upd_ne (Ne.symm n1)]; exact hl2, rfl, ?_⟩
  refine wE_name 0 rfl ?_
  refine ⟨p, dx, _, rfl, Mu.upd_same, by show 1 < 1000; decide, ?_⟩
  refine wSs_cons (wS_fld TX.cls_Program TX.na_Program_rows_of_parts (wE_callTy (T := "dict") TX.b_dict (by decide +kernel) (wA_cons (wE_lcF (own := [("one", 3)]) (wIt_tup (wE_ix (wE_name 1 rfl (wE_int ?_)))) nd (blkOk_by (N := N_Program___init__) (sc := defScope s_Program___init__) (by decide +kernel))))))
  walk_at "ix"
  refine ⟨_, rfl, ?_⟩
  refine ⟨szOk (by rw [List.length_map]; have := ok.p6; omega), (Rp g).map (fun kv => A.tup [kA kv.1, kv.2]), by simp, fun i y z hy hz s0 H0 C cl fp => ?_, ?_⟩
  obtain ⟨q1, g1, rfl⟩ := map_at hy
  obtain ⟨kv, g2, rfl⟩ := map_at hz
  obtain ⟨q2, g3, rfl⟩ := map_at g2
  obtain rfl : q1 = q2 := Option.some.inj (g1.symm.trans g3)
  refine wGw_name 3 (⟨rfl, fun s0 H0 C cl fp => (wE_tup (wA_cons (wE_ix (wE_name 3 rfl (wE_int ?_)))))⟩) nd
  walk_at "ix"
  refine wA_cons (wE_name 3 rfl (wA_nil ⟨by show 2 ≤ sizeLine; decide, ?_⟩))
  refine ⟨?_, .refl _⟩
  rfl
  refine wA_nil ?_
  refine wC_dictP rfl (.lst _) (fun rp nrp => ?_)
  rw [merge_Rp ok]
  have n3 : rp ≠ p := fun z => by rw [z, Mu.upd_same] at nrp; cases nrp
  refine wE_name 0 rfl ?_
  refine ⟨p, dx, _, rfl, by rw [Mu.upd_ne (Ne.symm n3)]; exact Mu.upd_same, by show 2 < 1000; decide, ?_⟩
  refine wSs_nil ?_
  refine q _ ⟨dx, rp, Mu.upd_same, by rw [Mu.upd_ne n3]; exact Mu.upd_same, n3⟩ (fun z o h1 h2 => ?_)
  rw [Mu.upd_ne h1]
  have h3 : z ≠ lp := fun e => by rw [e, nlp] at h2; cases h2
  have h4 : (μ.upd lp (.ins CL ldx [])) z = some o := by rw [Mu.upd_ne h3]; exact h2
  have h5 : z ≠ lpp := fun e => by rw [e, npp] at h4; cases h4
  have h6 := ls2 z o h3 h5 (b1 z o h3 h4)
  have h7 : z ≠ rp := fun e => by
    rw [Mu.upd_ne n3, Mu.upd_ne n3] at nrp
    rw [e, nrp] at h6; cases h6
  rw [Mu.upd_ne h7, Mu.upd_ne h1, Mu.upd_ne h1]
  exact h6

abbrev s_Program_plain : Stmt := (bodyC (topS 39)).getD 1 (.Pass ⟨0, 0, 0, 0⟩)
abbrev N_Program_plain : List Str := ["self"]
theorem sc_Program_plain : FnScope N_Program_plain ["self"] (defScope s_Program_plain) := ⟨rfl, rfl, rfl, by decide +kernel, rfl, by decide +kernel, by decide +kernel⟩
def c_Program_plain (CP : Addr) : AC := fun xs μ Q _ => ∃ (p : Addr) (g : Pg), xs = [.loc p] ∧ PgAt CP p g μ ∧ Q g.a μ
theorem ok_Program_plain {n : Nat}  {f : Addr} {fd : FuncData} (TX : Txt K mg w CL CP CG CTL CTe CPr CPo CNV CTG CCo CS pT)  (F : Fun K "plain" "Program.plain" s_Program_plain f fd) : FnD P w K mg base CX0 (n + 1) f fd ["self"] (c_Program_plain CP) := by
  refine fnD F sc_Program_plain (fun xs μ Q E hc => by obtain ⟨p, g, rfl, ⟨dx, rp, h1, h2, h3⟩, q⟩ := hc; rfl) (fun cdv Ao outer s H E xs μ Q E0 ar hc => ?_)
  obtain ⟨p, g, rfl, ⟨dx, rp, h1, h2, h3⟩, q⟩ := hc
  have nd := sc_Program_plain.nd
  refine wSs_cons (wS_ret (wE_fld TX.cls_Program TX.na_Program_told (wE_name 0 rfl ?_)))
  refine ⟨p, dx, _, g.a, rfl, h1, rfl, ?_⟩
  exact q

abbrev s_Program_ins : Stmt := (bodyC (topS 39)).getD 2 (.Pass ⟨0, 0, 0, 0⟩)
abbrev N_Program_ins : List Str := ["self"]
theorem sc_Program_ins : FnScope N_Program_ins ["self"] (defScope s_Program_ins) := ⟨rfl, rfl, rfl, by decide +kernel, rfl, by decide +kernel, by decide +kernel⟩
def c_Program_ins (CP : Addr) : AC := fun xs μ Q _ => ∃ (p : Addr) (g : Pg), xs = [.loc p] ∧ PgAt CP p g μ ∧ ∀ l : Addr, μ l = none → Q (.loc l) (μ.upd l (.lst (g.ins.map D.A.str)))
theorem ok_Program_ins {n : Nat}  {f : Addr} {fd : FuncData} (TX : Txt K mg w CL CP CG CTL CTe CPr CPo CNV CTG CCo CS pT)  (F : Fun K "ins" "Program.ins" s_Program_ins f fd) : FnD P w K mg base CX0 (n + 1) f fd ["self"] (c_Program_ins CP) := by
  refine fnD F sc_Program_ins (fun xs μ Q E hc => by obtain ⟨p, g, rfl, ⟨dx, rp, h1, h2, h3⟩, q⟩ := hc; rfl) (fun cdv Ao outer s H E xs μ Q E0 ar hc => ?_)
  obtain ⟨p, g, rfl, ⟨dx, rp, h1, h2, h3⟩, q⟩ := hc
  have nd := sc_Program_ins.nd
  refine wSs_cons (wS_ret (wE_callTy (T := "list") TX.b_list (by decide +kernel) (wA_cons (wE_ix (wE_fld TX.cls_Program TX.na_Program_told (wE_name 0 rfl ?_))))))
  refine ⟨p, dx, _, g.a, rfl, h1, rfl, ?_⟩
  simp only [Pg.a]
  refine wE_int ?_
  walk_at "ix"
  refine wA_nil ?_
  refine wC_list (.tup _) (fun l nl => ?_)
  exact q l nl

abbrev s_Program_outs : Stmt := (bodyC (topS 39)).getD 3 (.Pass ⟨0, 0, 0, 0⟩)
abbrev N_Program_outs : List Str := ["self"]
theorem sc_Program_outs : FnScope N_Program_outs ["self"] (defScope s_Program_outs) := ⟨rfl, rfl, rfl, by decide +kernel, rfl, by decide +kernel, by decide +kernel⟩
def c_Program_outs (CP : Addr) : AC := fun xs μ Q _ => ∃ (p : Addr) (g : Pg), xs = [.loc p] ∧ PgAt CP p g μ ∧ ∀ l : Addr, μ l = none → Q (.loc l) (μ.upd l (.lst (g.outs.map D.A.str)))
theorem ok_Program_outs {n : Nat}  {f : Addr} {fd : FuncData} (TX : Txt K mg w CL CP CG CTL CTe CPr CPo CNV CTG CCo CS pT)  (F : Fun K "outs" "Program.outs" s_Program_outs f fd) : FnD P w K mg base CX0 (n + 1) f fd ["self"] (c_Program_outs CP) := by
  refine fnD F sc_Program_outs (fun xs μ Q E hc => by obtain ⟨p, g, rfl, ⟨dx, rp, h1, h2, h3⟩, q⟩ := hc; rfl) (fun cdv Ao outer s H E xs μ Q E0 ar hc => ?_)
  obtain ⟨p, g, rfl, ⟨dx, rp, h1, h2, h3⟩, q⟩ := hc
  have nd := sc_Program_outs.nd
  refine wSs_cons (wS_ret (wE_callTy (T := "list") TX.b_list (by decide +kernel) (wA_cons (wE_ix (wE_fld TX.cls_Program TX.na_Program_told (wE_name 0 rfl ?_))))))
  refine ⟨p, dx, _, g.a, rfl, h1, rfl, ?_⟩
  simp only [Pg.a]
  refine wE_int ?_
  walk_at "ix"
  refine wA_nil ?_
  refine wC_list (.tup _) (fun l nl => ?_)
  exact q l nl

abbrev s_Program_body : Stmt := (bodyC (topS 39)).getD 4 (.Pass ⟨0, 0, 0, 0⟩)
abbrev N_Program_body : List Str := ["self"]
theorem sc_Program_body : FnScope N_Program_body ["self"] (defScope s_Program_body) := ⟨rfl, rfl, rfl, by decide +kernel, rfl, by decide +kernel, by decide +kernel⟩
def c_Program_body (CP : Addr) : AC := fun xs μ Q _ => ∃ (p : Addr) (g : Pg), xs = [.loc p] ∧ PgAt CP p g μ ∧ Q (.tup (aIts g.body)) μ
theorem ok_Program_body {n : Nat}  {f : Addr} {fd : FuncData} (TX : Txt K mg w CL CP CG CTL CTe CPr CPo CNV CTG CCo CS pT)  (F : Fun K "body" "Program.body" s_Program_body f fd) : FnD P w K mg base CX0 (n + 1) f fd ["self"] (c_Program_body CP) := by
  refine fnD F sc_Program_body (fun xs μ Q E hc => by obtain ⟨p, g, rfl, ⟨dx, rp, h1, h2, h3⟩, q⟩ := hc; rfl) (fun cdv Ao outer s H E xs μ Q E0 ar hc => ?_)
  obtain ⟨p, g, rfl, ⟨dx, rp, h1, h2, h3⟩, q⟩ := hc
  have nd := sc_Program_body.nd
  refine wSs_cons (wS_ret (wE_ix (wE_fld TX.cls_Program TX.na_Program_told (wE_name 0 rfl ?_))))
  refine ⟨p, dx, _, g.a, rfl, h1, rfl, ?_⟩
  simp only [Pg.a]
  refine wE_int ?_
  walk_at "ix"
  exact q

abbrev s_Program_part : Stmt := (bodyC (topS 39)).getD 5 (.Pass ⟨0, 0, 0, 0⟩)
abbrev N_Program_part : List Str := ["self", "name"]
theorem sc_Program_part : FnScope N_Program_part ["self", "name"] (defScope s_Program_part) := ⟨rfl, rfl, rfl, by decide +kernel, rfl, by decide +kernel, by decide +kernel⟩
def c_Program_part (CP : Addr) : AC := fun xs μ Q _ => ∃ (p : Addr) (g : Pg) (n : Str), xs = [.loc p, .str n] ∧ PgAt CP p g μ ∧ Q ((valA (Rp g) (.inr n)).getD .non) μ
theorem ok_Program_part {n : Nat}  {f : Addr} {fd : FuncData} (TX : Txt K mg w CL CP CG CTL CTe CPr CPo CNV CTG CCo CS pT)  (F : Fun K "part" "Program.part" s_Program_part f fd) : FnD P w K mg base CX0 (n + 1) f fd ["self", "name"] (c_Program_part CP) := by
  refine fnD F sc_Program_part (fun xs μ Q E hc => by obtain ⟨p, g, n, rfl, ⟨dx, rp, h1, h2, h3⟩, q⟩ := hc; rfl) (fun cdv Ao outer s H E xs μ Q E0 ar hc => ?_)
  obtain ⟨p, g, n, rfl, ⟨dx, rp, h1, h2, h3⟩, q⟩ := hc
  have nd := sc_Program_part.nd
  refine wSs_cons (wS_ret (wE_dget2 ar (wE_fld TX.cls_Program TX.na_Program_rows_of_parts (wE_name 0 rfl ?_))))
  refine ⟨p, dx, _, .loc rp, rfl, h1, rfl, ?_⟩
  refine ⟨rp, _, rfl, h2, ?_⟩
  refine wE_name 1 rfl (wE_non ?_)
  refine ⟨_, .inr n, h2, rfl, ?_⟩
  exact q

abbrev s_Program_size : Stmt := (bodyC (topS 39)).getD 6 (.Pass ⟨0, 0, 0, 0⟩)
abbrev N_Program_size : List Str := ["self"]
theorem sc_Program_size : FnScope N_Program_size ["self"] (defScope s_Program_size) := ⟨rfl, rfl, rfl, by decide +kernel, rfl, by decide +kernel, by decide +kernel⟩
def c_Program_size (CP : Addr) : AC := fun xs μ Q _ => ∃ (p : Addr) (g : Pg), xs = [.loc p] ∧ PgAt CP p g μ ∧ Q (.int g.size) μ
theorem ok_Program_size {n : Nat}  {f : Addr} {fd : FuncData} (TX : Txt K mg w CL CP CG CTL CTe CPr CPo CNV CTG CCo CS pT)  (F : Fun K "size" "Program.size" s_Program_size f fd) : FnD P w K mg base CX0 (n + 1) f fd ["self"] (c_Program_size CP) := by
  refine fnD F sc_Program_size (fun xs μ Q E hc => by obtain ⟨p, g, rfl, ⟨dx, rp, h1, h2, h3⟩, q⟩ := hc; rfl) (fun cdv Ao outer s H E xs μ Q E0 ar hc => ?_)
  obtain ⟨p, g, rfl, ⟨dx, rp, h1, h2, h3⟩, q⟩ := hc
  have nd := sc_Program_size.nd
  refine wSs_cons (wS_ret (wE_fld TX.cls_Program TX.na_Program_many (wE_name 0 rfl ?_)))
  refine ⟨p, dx, _, .int g.size, rfl, h1, rfl, ?_⟩
  exact q

end
end D

set_option Elab.async false
set_option linter.all false
set_option maxRecDepth 100000
set_option maxHeartbeats 4000000
namespace D
open PySem PySem.Spec PyProof.Rows L2
local macro_rules | `(tactic| walk_at "mul") => `(tactic| first | refine wO_mul (mulR (by first | decide | omega) (by first | decide | omega)) ?_ | refine wO_mul (mulL (by first | decide | omega) (by first | decide | omega)) ?_)
local macro_rules | `(tactic| walk_at "mod") => `(tactic| refine wO_mod (by first | decide | omega) ?_)
local macro_rules | `(tactic| walk_at "fdiv") => `(tactic| refine wO_fdiv (by first | decide | omega) (divS (by first | decide | omega)) ?_)
local macro_rules | `(tactic| walk_at "ix") => `(tactic| first | refine wI_tup (by rfl) ?_ | refine wI_lst (by rfl) ?_)
local macro_rules | `(tactic| walk_at "sl") => `(tactic| first | refine wSl_tup ?_ | refine wSl_lstF ?_)
local macro_rules | `(tactic| walk_at "obj") => `(tactic| refine ⟨_, _, _, rfl, by assumption, rfl, ?_⟩)
local macro_rules | `(tactic| walk_at "len") => `(tactic| first | refine wC_len (.tup _) ?_ | refine wC_len (.lst _) ?_ | refine wC_len (.loc (by assumption)) ?_)
section
variable {P : Program} {w : World} {mg : Str → Option Value} {base : Heap} {K : PySem.W.Frag} {CL CP CG CTL CTe CPr CPo CNV CTG CCo CS pT : Addr} {k : Nat}
abbrev s_straight : Stmt := topS 13
abbrev N_straight : List Str := ["program", "parts", "ins", "body", "outs", "going", "names", "name"]
theorem sc_straight : FnScope N_straight ["program"] (defScope s_straight) := ⟨rfl, rfl, rfl, by decide +kernel, rfl, by decide +kernel, by decide +kernel⟩
def c_straight (CP CG CTL : Addr) (k : Nat) : AC := fun xs μ Q E => ∃ (p : Addr) (g : Pg), xs = [.loc p] ∧ PgAt CP p g μ ∧ g.ok ∧ fitsF g.parts k g.ins g.body ∧
  ((g.run k).2.good → ∀ (rl ol : Addr) (μ' : Mu), Sub μ μ' → μ rl = none → μ ol = none → rl ≠ ol → μ' rl = some (.lst (g.run k).2.rows) → μ' ol = some (.lst (g.outsAt k)) → Q (.tup [.loc rl, .loc ol]) μ') ∧ (¬ (g.run k).2.good → ∀ μ', Sub μ μ' → E (.ref CTL) none μ')
theorem ok_straight {n : Nat}  {f : Addr} {fd : FuncData} (TX : Txt K mg w CL CP CG CTL CTe CPr CPo CNV CTG CCo CS pT) (CM_Program_plain : CalM P w K mg base n CP "plain" (c_Program_plain CP)) (CK_Going : CalK P w K mg base n "Going" CG (c_Going___init__ CG)) (CM_Going_put : CalMX P w K mg base n CG "put" (c_Going_put CG CTL)) (CM_Going_go : CalMX P w K mg base n CG "go" (c_Going_go CG CTL k)) (F : Fun K "straight" "straight" s_straight f fd) : FnD P w K mg base (L2.CX P w) (n + 2) f fd ["program"] (c_straight CP CG CTL k) := by
  refine fnDX F sc_straight (fun xs μ Q E hc => by obtain ⟨p, g, rfl, pg, ok, fit, q1, q2⟩ := hc; rfl) (fun cdv Ao outer s H E xs μ Q E0 ar hc tk pa => ?_)
  obtain ⟨p, g, rfl, pg, ok, fit, q1, q2⟩ := hc
  have nd := sc_straight.nd
  refine wSs_cons (wS_asg (wE_meth0 TX.cls_Program CM_Program_plain ar (by omega) (wE_name 0 rfl ?_)))
  obtain ⟨dx, rp, e1, e2, e3⟩ := id pg
  refine ⟨p, dx, _, rfl, e1, rfl, ?_⟩
  refine ⟨p, g, rfl, pg, ?_⟩
  refine wG_tup (wGs_cons (wG_name 1 (wGs_cons (wG_name 2 (wGs_cons (wG_name 3 (wGs_cons (wG_name 4 (wGs_nil (wSs_cons (wS_set 5 (wE_make CK_Going ar (by omega) (wA_cons (wE_name 1 rfl (wA_nil ?_)))) nd))) nd)) nd)) nd)) nd))
  refine fun gp gdx ngp => ⟨gp, gdx, g.parts, rfl, Mu.upd_same, (okPts_nodup ok.parts).1, ok.p6, fun rl pt μ1 go1 nrl npt ke1 => ⟨rfl, ?_⟩⟩
  have ngr : gp ≠ rl := go1.ne1
  have nrl0 : μ rl = none := by rw [Mu.upd_ne (Ne.symm ngr)] at nrl; exact nrl
  have npt0 : μ pt = none := by rw [Mu.upd_ne (Ne.symm go1.ne2)] at npt; exact npt
  have st1 : Ke [gp, rl] μ μ1 := (Ke.upd (S := [gp, rl]) (by simp)).trans (ke1.mono (by simp))
  have none1 : ∀ z ∈ [gp, rl], μ z = none := by
    intro z hz
    rcases (show z = gp ∨ z = rl by simpa using hz) with rfl | rfl
    · exact ngp
    · exact nrl0
  refine wSs_cons (wS_set 6 (wE_callTy (T := "dict") TX.b_dict (by decide +kernel) (wA_cons (wE_lcFX [("name", 7)] tk (wIt_tup (wE_name 2 rfl ⟨_, rfl, ?_⟩)) nd (blkOk_by (N := N_straight) (sc := defScope s_straight) (by decide +kernel))))) nd)
  refine ⟨szOk (by rw [List.length_map]; have := ok.i6; omega), fun i acc μ2 => acc = (stN (g.ins.take i) 0).map (fun q => D.A.tup [.str q.1, .int q.2]) ∧ GoAt CG g.parts gp gdx rl pt ⟨(g.ins.take i).map fun _ => inRow, 0⟩ μ2 ∧ Ke [rl] μ1 μ2, ⟨rfl, go1, .refl _ _⟩, fun i y acc μ2 hy hJ B1 s0 H0 C cl fp xe le1 fly1 => ?_, fun acc μ2 hJ q nq => ?_⟩
  obtain ⟨rfl, go2, ke2⟩ := hJ
  obtain ⟨w1, hw, rfl⟩ := map_at hy
  have lt : i < g.ins.length := (List.getElem?_eq_some_iff.mp hw).1
  have step : g.ins.take (i + 1) = g.ins.take i ++ [w1] := by rw [List.take_add_one, hw]; rfl
  have len : (g.ins.take i).length = i := by rw [List.length_take]; omega
  refine wGw_name 7 (fun B2 s0 H0 C cl fp xe le2 tk => (wE_tup (wA_cons (wE_name 7 rfl (wA_cons (wE_methX TX.cls_Going CM_Going_put ar.bkX (by omega) tk (wE_name 5 rfl ?_))))))) nd
  refine ⟨gp, gdx, _, rfl, go2.o, rfl, ?_⟩
  refine wA_cons (wE_str (wA_cons (wE_tup (wA_nil ⟨by show 0 ≤ sizeLine; decide, (wA_cons (wE_non (wA_nil ?_)))⟩))))
  have i6 := ok.i6
  have gd2 : (⟨(g.ins.take i).map fun _ => inRow, 0⟩ : Gs).good := ⟨by show ((g.ins.take i).map fun _ => inRow).length ≤ 5000; rw [List.length_map, len]; omega, Nat.zero_le _⟩
  have gd3 : ((⟨(g.ins.take i).map fun _ => inRow, 0⟩ : Gs).put "in" [] .non).good := (Gs.put_good gd2).mpr (by show ((g.ins.take i).map fun _ => inRow).length < 5000; rw [List.length_map, len]; omega)
  refine ⟨g.parts, gp, gdx, rl, pt, _, "in", [], .non, rfl, go2, gd2, fun h μ3 go3 ke3 => ?_, fun h => absurd gd3 h⟩
  refine wA_nil ⟨by show 2 ≤ sizeLine; decide, ?_⟩
  show _ = (stN (g.ins.take (i + 1)) 0).map (fun q => D.A.tup [.str q.1, .int q.2]) ∧ GoAt CG g.parts gp gdx rl pt ⟨(g.ins.take (i + 1)).map fun _ => inRow, 0⟩ _ ∧ Ke [rl] μ1 _
  rw [step, stN_snoc, List.map_append, List.map_append]
  refine ⟨?_, go3, ke2.trans ke3⟩
  simp [Gs.at, show min i g.ins.length = i by omega]
  obtain ⟨rfl, go2, ke2⟩ := hJ
  rw [List.length_map, List.take_length] at go2 ⊢
  refine ⟨q, _, rfl, Mu.upd_same, ?_⟩
  rw [Mu.del_upd nq]
  refine wA_nil ?_
  refine wC_dictP (kvs := Pk (stN g.ins 0)) rfl (by rw [show (stN g.ins 0).map (fun q => D.A.tup [.str q.1, .int q.2]) = (Pk (stN g.ins 0)).map (fun kv => D.A.tup [kA kv.1, kv.2]) by simp [Pk, kA, Function.comp_def]]; exact .lst _) (fun nl nnl => ?_)
  have nk : mergeA [] (Pk (stN g.ins 0)) = Pk (stN g.ins 0) := by
    refine merge_nodup ?_
    have e : (Pk (stN g.ins 0)).map (·.1) = g.ins.map (Sum.inr : Str → Key) := by
      rw [show g.ins.map (Sum.inr : Str → Key) = ((stN g.ins 0).map (·.1)).map Sum.inr by rw [stN_keys]]
      simp [Pk, Function.comp_def]
    rw [e]
    exact List.Pairwise.map _ (fun a b hab e => hab (Sum.inr.inj e)) ok.unl
  rw [nk]
  have m1 : nl ≠ gp := fun z => by rw [z, go2.o] at nnl; cases nnl
  have m2 : nl ≠ rl := fun z => by rw [z, go2.rows] at nnl; cases nnl
  have m3 : nl ≠ pt := fun z => by rw [z, go2.parts] at nnl; cases nnl
  have go3 := go2.ke (.upd (S := [nl]) (p := nl) (o := .dic (Pk (stN g.ins 0))) (by simp)) (by simpa using Ne.symm m1) (by simpa using Ne.symm m2) (by simpa using Ne.symm m3)
  have sub3 : Ke [gp, rl, nl] μ (_ : Mu) := ((st1.trans (ke2.mono (by simp))).mono (by simp)).trans (.upd (S := [gp, rl, nl]) (p := nl) (o := .dic (Pk (stN g.ins 0))) (by simp))
  have nnl0 : μ nl = none := by
    cases z : μ nl with
    | none => rfl
    | some o => have := (st1.trans (ke2.mono (by simp))) nl o (by simp [m1, m2]) z; rw [nnl] at this; cases this
  have none3 : ∀ z ∈ [gp, rl, nl], μ z = none := by
    intro z hz
    rcases (show z = gp ∨ z = rl ∨ z = nl by simpa using hz) with rfl | rfl | rfl
    · exact ngp
    · exact nrl0
    · exact nnl0
  refine wSs_cons (wS_expr (wE_methX TX.cls_Going CM_Going_go ar (by omega) tk (wE_name 5 rfl ?_)))
  refine ⟨gp, gdx, _, rfl, go3.o, rfl, ?_⟩
  refine wA_cons (wE_name 3 rfl (wA_cons (wE_name 6 rfl (wA_nil ?_))))
  refine ⟨g.parts, gp, gdx, rl, pt, nl, g.start, stN g.ins 0, g.ins, g.body, rfl, go3, ⟨by show (g.ins.map fun _ => inRow).length ≤ 5000; rw [List.length_map]; have := ok.i6; omega, Nat.zero_le _⟩, ⟨Mu.upd_same, m1, m2, m3⟩, fit, stN_has _ _, by rw [stN_len]; have := ok.i6; omega, fun h μ4 go4 nm4 ke4 => ?_, fun h μ4 ke4 => q2 h _ ((sub3.trans ke4).all none3)⟩
  refine wSs_cons (wS_ret (wE_tup (wA_cons (wE_fld TX.cls_Going TX.na_Going_rows (wE_name 5 rfl ?_)))))
  refine ⟨gp, gdx, _, _, rfl, go4.o, rfl, ?_⟩
  refine wA_cons (wE_lc [("name", 7)] (lcMap (wIt_tup (wE_name 4 rfl ⟨_, rfl, ?_⟩))) nd (blkOk_by (N := N_straight) (sc := defScope s_straight) (by decide +kernel)))
  have hall : HasN (g.run k).1 (toldIts g.body g.ins) := goF_has g.parts k g.body (stN g.ins 0) g.start g.ins fit (stN_has _ _)
  refine ⟨szOk (by rw [List.length_map]; have := ok.o4; omega), g.outsAt k, by simp [Pg.outsAt], fun i y z hy hz s0 H0 C cl fp => ?_, fun ol nol => ?_⟩
  obtain ⟨w1, hw, rfl⟩ := map_at hy
  obtain ⟨w2, hw2, rfl⟩ := map_at hz
  obtain rfl : w1 = w2 := Option.some.inj (hw.symm.trans hw2)
  obtain ⟨i1, hi⟩ := hall w1 (ok.outs w1 (List.mem_of_getElem? hw)).2
  refine wGw_name 7 (⟨rfl, fun s0 H0 C cl fp => (wE_dget ar.bk (wE_name 6 rfl (wE_name 7 rfl ?_)))⟩) nd
  refine ⟨nl, _, .inr w1, .int i1, rfl, nm4.n, rfl, by rw [valA_Pk, show valI (goF g.parts k g.body (stN g.ins 0) g.start).1 w1 = some i1 from hi]; rfl, ?_⟩
  refine ⟨?_, .refl _⟩
  rw [hi]; rfl
  refine wA_nil ⟨by show 2 ≤ sizeLine; decide, ?_⟩
  have all4 : Sub μ μ4 := (sub3.trans ke4).all none3
  have nol0 : μ ol = none := by
    cases z : μ ol with
    | none => rfl
    | some o => have := all4 ol o z; rw [nol] at this; cases this
  have ne : ol ≠ rl := fun z => by rw [z, go4.rows] at nol; cases nol
  exact q1 h rl ol _ (all4.trans (Sub.new nol)) nrl0 nol0 (Ne.symm ne) (by rw [Mu.upd_ne (Ne.symm ne)]; exact go4.rows) Mu.upd_same

end
end D

set_option Elab.async false
set_option linter.all false
set_option maxRecDepth 100000
set_option maxHeartbeats 4000000
namespace D
open PySem PySem.Spec PyProof.Rows L2
local macro_rules | `(tactic| walk_at "mul") => `(tactic| first | refine wO_mul (mulR (by first | decide | omega) (by first | decide | omega)) ?_ | refine wO_mul (mulL (by first | decide | omega) (by first | decide | omega)) ?_)
local macro_rules | `(tactic| walk_at "mod") => `(tactic| refine wO_mod (by first | decide | omega) ?_)
local macro_rules | `(tactic| walk_at "fdiv") => `(tactic| refine wO_fdiv (by first | decide | omega) (divS (by first | decide | omega)) ?_)
local macro_rules | `(tactic| walk_at "ix") => `(tactic| first | refine wI_tup (by rfl) ?_ | refine wI_lst (by rfl) ?_)
local macro_rules | `(tactic| walk_at "sl") => `(tactic| first | refine wSl_tup ?_ | refine wSl_lstF ?_)
local macro_rules | `(tactic| walk_at "obj") => `(tactic| refine ⟨_, _, _, rfl, by assumption, rfl, ?_⟩)
local macro_rules | `(tactic| walk_at "len") => `(tactic| first | refine wC_len (.tup _) ?_ | refine wC_len (.lst _) ?_ | refine wC_len (.loc (by assumption)) ?_)
section
variable {P : Program} {w : World} {mg : Str → Option Value} {base : Heap} {K : PySem.W.Frag} {CL CP CG CTL CTe CPr CPo CNV CTG CCo CS pT : Addr} {k : Nat}
abbrev s__law_mixed : Stmt := topS 41
abbrev N__law_mixed : List Str := ["_law_cell", "_law_k", "_law_number"]
theorem sc__law_mixed : FnScope N__law_mixed ["_law_cell", "_law_k"] (defScope s__law_mixed) := ⟨rfl, rfl, rfl, by decide +kernel, rfl, by decide +kernel, by decide +kernel⟩
def c__law_mixed : AC := fun xs μ Q _ => ∃ i k : Int, xs = [.int i, .int k] ∧ -(2 ^ 60) < i ∧ i < 2 ^ 60 ∧ 0 ≤ k ∧ k < 2 ^ 50 ∧ ∀ r : Int, 0 ≤ r → r < 2 ^ 30 → Q (.int r) μ
theorem ok__law_mixed {n : Nat}  {f : Addr} {fd : FuncData} (TX : Txt K mg w CL CP CG CTL CTe CPr CPo CNV CTG CCo CS pT)  (F : Fun K "_law_mixed" "_law_mixed" s__law_mixed f fd) : FnD P w K mg base CX0 (n + 1) f fd ["_law_cell", "_law_k"] c__law_mixed := by
  refine fnD F sc__law_mixed (fun xs μ Q E hc => by obtain ⟨i, k, rfl, i1, i2, k0, k1, q⟩ := hc; rfl) (fun cdv Ao outer s H E xs μ Q E0 ar hc => ?_)
  obtain ⟨i, k, rfl, i1, i2, k0, k1, q⟩ := hc
  have nd := sc__law_mixed.nd
  refine wSs_cons (wS_set 2 (wE_bin (wE_bin (wE_bin (wE_bin (wE_bin (wE_name 0 rfl (wE_bin (wE_int (wE_bin (wE_int (wE_name 1 rfl ?_))))))))))) nd)
  walk_at "mul"
  refine wO_add ?_
  walk_at "mul"
  refine wE_int ?_
  walk_at "mul"
  refine wE_int ?_
  walk_at "mod"
  refine wE_bin (wE_bin (wE_int (wE_name 1 rfl ?_)))
  walk_at "mul"
  refine wE_name 1 rfl ?_
  walk_at "mul"
  refine wO_add ?_
  refine wE_bin (wE_int (wE_name 1 rfl ?_))
  walk_at "mul"
  refine wO_add ?_
  refine wSs_cons (wS_ret (wE_bin (wE_bin (wE_bin (wE_name 2 rfl (wE_int ?_))))))
  walk_at "mul"
  refine wE_int ?_
  walk_at "mod"
  refine wE_int ?_
  walk_at "fdiv"
  exact q _ (by omega) (by omega)

abbrev s__law_folded : Stmt := topS 42
abbrev N__law_folded : List Str := ["_law_script", "_law_found", "_law_k", "_law_cell"]
theorem sc__law_folded : FnScope N__law_folded ["_law_script"] (defScope s__law_folded) := ⟨rfl, rfl, rfl, by decide +kernel, rfl, by decide +kernel, by decide +kernel⟩
def c__law_folded : AC := fun xs μ Q _ => ∃ ns : List Int, xs = [.fls (ns.map A.int)] ∧ ns.length ≤ 63 ∧ ∀ fs : List Int, G64 fs → Q (.lst (fs.map A.int)) μ
theorem ok__law_folded {n : Nat}  {f : Addr} {fd : FuncData} (TX : Txt K mg w CL CP CG CTL CTe CPr CPo CNV CTG CCo CS pT)  (F : Fun K "_law_folded" "_law_folded" s__law_folded f fd) : FnD P w K mg base CX0 (n + 1) f fd ["_law_script"] c__law_folded := by
  refine fnD F sc__law_folded (fun xs μ Q E hc => by obtain ⟨ns, rfl, hn, q⟩ := hc; rfl) (fun cdv Ao outer s H E xs μ Q E0 ar hc => ?_)
  obtain ⟨ns, rfl, hn, q⟩ := hc
  have nd := sc__law_folded.nd
  refine wSs_cons (wS_setLc [("_law_k", 2)] 1 (lcMap (wIt_range1 TX.b_range (wA_cons (wE_int (wA_nil ⟨_, rfl, by omega, by omega, ?_⟩))))) nd (blkOk_by (N := N__law_folded) (sc := defScope s__law_folded) (by decide +kernel)) (sw_true rfl rfl rfl (by decide +kernel)))
  refine ⟨by rw [rgA_len]; decide, (List.range 64).map (fun (i : Nat) => A.int (17 + (i : Int))), by simp [rgA_len], fun i y z hy hz s0 H0 C cl fp => ?_, fun p np => ?_⟩
  obtain ⟨hi, rfl⟩ := rgA_at hy
  refine wGw_name 2 (⟨rfl, fun s0 H0 C cl fp => (wE_bin (wE_int (wE_name 2 rfl ?_)))⟩) nd
  refine wO_add ?_
  refine ⟨?_, .refl _⟩
  obtain ⟨_, rfl⟩ := mapR_at hz
  rw [Int.zero_add]
  refine wSs_cons (wS_for (wIt_enum TX.b_enumerate (wA_cons (wE_name 0 rfl (wA_nil ⟨_, .inr rfl, ?_⟩)))))
  refine ⟨fun i Γ' μ' => ∃ (fs : List Int) (a b : Option D.A), Γ' = [some (.fls (ns.map A.int)), some (.loc p), a, b] ∧ μ' = μ.upd p (.lst (fs.map A.int)) ∧ G64 fs, ⟨(List.range 64).map (fun (i : Nat) => 17 + (i : Int)), _, _, rfl, by rw [List.map_map]; rfl, by simp, ?_⟩, fun i y Γ' μ' hy hI => ?_, fun Γ' μ' hI => ?_⟩
  · intro v hv
    simp only [List.mem_map, List.mem_range] at hv
    obtain ⟨j, hj, rfl⟩ := hv
    omega
  obtain ⟨fs, a, b, rfl, rfl, hg⟩ := hI
  obtain ⟨x, hx, rfl⟩ := enumA_at hy
  obtain ⟨cell, hc, rfl⟩ := map_at hx
  have hi : i < 63 := by have := (List.getElem?_eq_some_iff.mp hc).1; omega
  refine wG_tup (wGs_cons (wG_name 2 (wGs_cons (wG_name 3 (wGs_nil ?_) nd)) nd))
  refine wSs_cons (wS_asg (wE_bin (wE_bin (wE_bin (wE_ix (wE_name 1 rfl (wE_bin (wE_name 2 rfl (wE_int ?_)))))))))
  walk_at "mod"
  obtain ⟨v, hv, v0, v1⟩ := hg.at (i := (i : Int) % 64) (by omega) (by omega)
  refine wI_loc Mu.upd_same hv ?_
  refine wE_int ?_
  walk_at "mul"
  refine wE_name 3 rfl ?_
  refine wO_add ?_
  refine wE_int ?_
  walk_at "mod"
  refine wG_sub (wE_name 1 rfl (wE_bin (wE_name 2 rfl (wE_int ?_))))
  walk_at "mod"
  refine ⟨_, _, _, _, rfl, rfl, Mu.upd_same, ixN_pos (by omega) (by rw [List.length_map, hg.1]; omega), ?_⟩
  refine wSs_nil ?_
  exact ⟨_, _, _, rfl, by rw [Mu.upd_upd, set_map], hg.set _ (by omega) (by omega)⟩
  obtain ⟨fs, a, b, rfl, rfl, hg⟩ := hI
  refine wSs_cons (wS_for (wIt_range2 TX.b_range (wA_cons (wE_int (wA_cons (wE_int (wA_nil ⟨_, _, rfl, by omega, ?_⟩)))))))
  refine ⟨fun i Γ' μ' => ∃ (fs : List Int) (a b : Option D.A), Γ' = [some (.fls (ns.map A.int)), some (.loc p), a, b] ∧ μ' = μ.upd p (.lst (fs.map A.int)) ∧ G64 fs, ⟨fs, _, _, rfl, rfl, hg⟩, fun i y Γ' μ' hy hI => ?_, fun Γ' μ' hI => ?_⟩
  obtain ⟨fs, a, b, rfl, rfl, hg⟩ := hI
  obtain ⟨hi, rfl⟩ := rgA_at hy
  refine wG_name 2 ?_ nd
  refine wSs_cons (wS_asg (wE_bin (wE_bin (wE_ix (wE_name 1 rfl (wE_name 2 rfl ?_))))))
  obtain ⟨v, hv, v0, v1⟩ := hg.at (i := 1 + (i : Int)) (by omega) (by omega)
  refine wI_loc Mu.upd_same hv ?_
  refine wE_bin (wE_ix (wE_name 1 rfl (wE_bin (wE_name 2 rfl (wE_int ?_)))))
  refine wO_sub ?_
  obtain ⟨v2, hv2, v20, v21⟩ := hg.at (i := 1 + (i : Int) - 1) (by omega) (by omega)
  refine wI_loc Mu.upd_same hv2 ?_
  refine wE_int ?_
  walk_at "mul"
  refine wO_add ?_
  refine wE_int ?_
  walk_at "mod"
  refine wG_sub (wE_name 1 rfl (wE_name 2 rfl ?_))
  refine ⟨_, _, _, _, rfl, rfl, Mu.upd_same, ixN_pos (by omega) (by rw [List.length_map, hg.1]; omega), ?_⟩
  refine wSs_nil ?_
  exact ⟨_, _, _, rfl, by rw [Mu.upd_upd, set_map], hg.set _ (by omega) (by omega)⟩
  obtain ⟨fs, a, b, rfl, rfl, hg⟩ := hI
  refine wSs_frz 1 Mu.upd_same rfl ?_
  rw [Mu.del_upd np]
  refine wSs_cons (wS_ret (wE_name 1 rfl ?_))
  exact q fs hg

abbrev s__law_draw : Stmt := topS 43
abbrev N__law_draw : List Str := ["_law_m", "_law_many", "_law_k", "_law_at", "_law_cell"]
theorem sc__law_draw : FnScope N__law_draw ["_law_m", "_law_many"] (defScope s__law_draw) := ⟨rfl, rfl, rfl, by decide +kernel, rfl, by decide +kernel, by decide +kernel⟩
def c__law_draw : AC := fun xs μ Q _ => ∃ (m l : Addr) (many : Int) (c : Nat) (rm : Int) (mo : Option (List Str)), xs = [.loc m, .int many] ∧ 0 < many ∧ many < 2 ^ 100 ∧ Lx m l c rm mo μ ∧ c < 2 ^ 40 ∧ ∀ (r : Int) (μ' : Mu), 0 ≤ r → r < many → Lx m l (c + 1) rm mo μ' → Ls m l μ μ' → Q (.int r) μ'
theorem ok__law_draw {n : Nat}  {f : Addr} {fd : FuncData} (TX : Txt K mg w CL CP CG CTL CTe CPr CPo CNV CTG CCo CS pT) (C__law_mixed : Cal P w K mg base n "_law_mixed" c__law_mixed) (F : Fun K "_law_draw" "_law_draw" s__law_draw f fd) : FnD P w K mg base CX0 (n + 1) f fd ["_law_m", "_law_many"] c__law_draw := by
  refine fnD F sc__law_draw (fun xs μ Q E hc => by obtain ⟨m, l, many, c, room, mo, rfl, m0, m1, lw, hc, q⟩ := hc; rfl) (fun cdv Ao outer s H E xs μ Q E0 ar hc => ?_)
  obtain ⟨m, l, many, c, room, mo, rfl, m0, m1, lw, hc, q⟩ := hc
  obtain ⟨⟨fs, left, at_, g1, g2, hg, hl, a0, a1⟩, ne⟩ := lw
  have nd := sc__law_draw.nd
  refine wSs_cons (wS_set 2 (wE_dget ar (wE_name 0 rfl (wE_str ?_))) nd)
  refine ⟨_, _, .inr "at", _, rfl, g1, rfl, rfl, ?_⟩
  refine wSs_cons (wS_dput ar (wE_bin (wE_name 2 rfl (wE_int ?_))))
  refine wO_add ?_
  refine wE_name 0 rfl (wE_str ?_)
  refine ⟨_, _, .inr "at", rfl, g1, rfl, szLt (by have := @dicL_len fs l at_ room mo; omega), ?_⟩
  rw [dicL_at]
  generalize hμ : μ.upd m _ = μ1
  have k1 : μ1 m = some (.dic (dicL fs l (at_ + 1) room mo)) := by rw [← hμ]; exact Mu.upd_same
  have k2 : μ1 l = some (.lst (left.map A.int)) := by rw [← hμ, Mu.upd_ne ne]; exact g2
  have kl : Ls m l μ μ1 := by rw [← hμ]; exact Ls.m
  refine wSs_cut (fun Γ' μ' => (∃ a b, Γ' = [some (.loc m), some (.int many), some (.int at_), a, b]) ∧ μ' = μ1) ?_ (fun Γ' μ' hP => ?_)
  refine wS_if (wT_cmp (wE_dget ar (wE_name 0 rfl (wE_str ?_))))
  refine ⟨_, _, .inr "left", _, rfl, k1, rfl, rfl, ?_⟩
  refine wE_lstF (wA_nil ⟨by show 0 ≤ sizeLine; decide, ?_⟩)
  refine wO_neL ar.u64 (.loc k2) (.lst []) (datInts left) datNil ?_
  rw [eqvNil]
  refine ⟨_, rfl, ?_⟩
  refine ⟨fun hk => ?_, fun hk => ?_⟩
  have hne : left ≠ [] := fun z => by subst z; simp at hk
  have hll : 0 < left.length := List.length_pos_iff.mpr hne
  refine wSs_cons (wS_set 3 (wE_bin (wE_name 2 rfl (wE_callB (id := "len") TX.b_len (by decide +kernel) (wA_cons (wE_dget ar (wE_name 0 rfl (wE_str ?_))))))) nd)
  refine ⟨_, _, .inr "left", _, rfl, k1, rfl, rfl, ?_⟩
  refine wA_nil ?_
  refine wC_len (.loc k2) ?_
  rw [List.length_map]
  walk_at "mod"
  refine wSs_cons (wS_set 4 (wE_ix (wE_dget ar (wE_name 0 rfl (wE_str ?_)))) nd)
  refine ⟨_, _, .inr "left", _, rfl, k1, rfl, rfl, ?_⟩
  refine wE_name 3 rfl ?_
  have hi : at_ % (left.length : Int) < left.length := Int.emod_lt_of_pos _ (by omega)
  have h0 : 0 ≤ at_ % (left.length : Int) := Int.emod_nonneg _ (by omega)
  have hn : (at_ % (left.length : Int)).toNat < left.length := by omega
  refine wI_loc k2 (y := .int left[(at_ % (left.length : Int)).toNat]) (atI_pos (by rw [List.getElem?_map, List.getElem?_eq_getElem hn]; rfl) h0) ?_
  refine wSs_cons (wS_if (wT_cmp (wE_name 4 rfl (wE_int ?_))))
  refine wO_gt ?_
  refine ⟨_, rfl, ?_⟩
  refine ⟨fun hk => ?_, fun hk => ?_⟩
  have hp : 0 < left[(at_ % (left.length : Int)).toNat] := of_decide_eq_true hk
  refine wSs_cons (wS_asg (wE_bin (wE_name 4 rfl (wE_name 1 rfl ?_))))
  refine wO_fdiv m0 (PyProof.noPylong_of_log2 (log2_100 m0 m1)) ?_
  refine wG_sub (wE_dget ar (wE_name 0 rfl (wE_str ?_)))
  refine ⟨_, _, .inr "left", _, rfl, k1, rfl, rfl, ?_⟩
  refine wE_name 3 rfl ?_
  refine ⟨_, _, _, _, rfl, rfl, k2, ixN_pos h0 (by rw [List.length_map]; omega), ?_⟩
  refine wSs_cons (wS_ret (wE_bin (wE_name 4 rfl (wE_name 1 rfl ?_))))
  refine wO_mod m0 ?_
  refine q _ _ (Int.emod_nonneg _ (by omega)) (Int.emod_lt_of_pos _ m0) ⟨⟨fs, left.set (at_ % (left.length : Int)).toNat (left[(at_ % (left.length : Int)).toNat] / many), at_ + 1, by rw [Mu.upd_ne (Ne.symm ne)]; exact k1, by rw [Mu.upd_same, ← set_map], hg, by rw [List.length_set]; exact hl, by omega, by omega⟩, ne⟩ (kl.trans Ls.l)
  refine wSs_nil ?_
  refine wSs_nil ?_
  exact ⟨⟨_, _, rfl⟩, rfl⟩
  skip
  refine wSs_nil ?_
  exact ⟨⟨_, _, rfl⟩, rfl⟩
  obtain ⟨⟨a, b, rfl⟩, rfl⟩ := hP
  refine wSs_cons (wS_ret (wE_bin (wE_cal C__law_mixed ar (by omega) (wA_cons (wE_cal C__law_mixed ar (by omega) (wA_cons (wE_bin (wE_ix (wE_dget ar (wE_name 0 rfl (wE_str ?_)))))))))))
  refine ⟨_, _, .inr "cells", _, rfl, k1, rfl, rfl, ?_⟩
  refine wE_bin (wE_name 2 rfl (wE_int ?_))
  walk_at "mod"
  obtain ⟨v, hv, v0, v1⟩ := hg.at (i := at_ % 64) (by omega) (by omega)
  refine wI_lst hv ?_
  refine wE_bin (wE_int (wE_bin (wE_name 2 rfl (wE_int ?_))))
  walk_at "fdiv"
  walk_at "mul"
  refine wO_add ?_
  refine wA_cons (wE_name 2 rfl (wA_nil ?_))
  refine ⟨_, _, rfl, by omega, by omega, by omega, by omega, fun r r0 r1 => ?_⟩
  refine wA_cons (wE_bin (wE_name 2 rfl (wE_int ?_)))
  refine wO_add ?_
  refine wA_nil ?_
  refine ⟨_, _, rfl, by omega, by omega, by omega, by omega, fun r2 r20 r21 => ?_⟩
  refine wE_name 1 rfl ?_
  walk_at "mod"
  exact q _ _ (Int.emod_nonneg _ (by omega)) (Int.emod_lt_of_pos _ m0) ⟨⟨fs, left, at_ + 1, k1, k2, hg, hl, by omega, by omega⟩, ne⟩ kl

abbrev s__law_begun : Stmt := topS 44
abbrev N__law_begun : List Str := ["_law_script", "_law_m", "_law_cell"]
theorem sc__law_begun : FnScope N__law_begun ["_law_script"] (defScope s__law_begun) := ⟨rfl, rfl, rfl, by decide +kernel, rfl, by decide +kernel, by decide +kernel⟩
def c__law_begun : AC := fun xs μ Q _ => ∃ ns : List Int, xs = [.fls (ns.map A.int)] ∧ ns.length ≤ 63 ∧ ∀ (m l : Addr) (μ' : Mu), μ m = none → Lx m l 0 58 none μ' → Sub μ μ' → Q (.loc m) μ'
theorem ok__law_begun {n : Nat}  {f : Addr} {fd : FuncData} (TX : Txt K mg w CL CP CG CTL CTe CPr CPo CNV CTG CCo CS pT) (C__law_folded : Cal P w K mg base n "_law_folded" c__law_folded) (F : Fun K "_law_begun" "_law_begun" s__law_begun f fd) : FnD P w K mg base CX0 (n + 1) f fd ["_law_script"] c__law_begun := by
  refine fnD F sc__law_begun (fun xs μ Q E hc => by obtain ⟨ns, rfl, hn, q⟩ := hc; rfl) (fun cdv Ao outer s H E xs μ Q E0 ar hc => ?_)
  obtain ⟨ns, rfl, hn, q⟩ := hc
  have nd := sc__law_begun.nd
  refine wSs_cons (wS_set 1 (wE_disp (wE_str (wE_cal C__law_folded ar (by omega) (wA_cons (wE_name 0 rfl (wA_nil ?_)))))) nd)
  refine ⟨ns, rfl, hn, fun fs hg => ?_⟩
  refine wE_str (wE_lstF (wA_nil ⟨by show 0 ≤ sizeLine; decide, (wE_str (wE_int (wE_str (wE_int ?_))))⟩))
  refine ⟨[(.inr "cells", .lst (fs.map A.int)), (.inr "left", .lst []), (.inr "at", .int 0), (.inr "room", .int 58)], rfl, by show 4 ≤ 15; decide, fun m nm => ?_⟩
  have e1 : mergeA [] [((.inr "cells" : Key), A.lst (fs.map A.int)), (.inr "left", .lst []), (.inr "at", .int 0), (.inr "room", .int 58)] = [(.inr "cells", .lst (fs.map A.int)), (.inr "left", .lst []), (.inr "at", .int 0), (.inr "room", .int 58)] := rfl
  rw [e1]
  refine wSs_cons (wS_dput ar (wE_lc [("_law_cell", 2)] (lcMap (wIt_fls (wE_name 0 rfl ⟨_, rfl, ?_⟩))) nd (blkOk_by (N := N__law_begun) (sc := defScope s__law_begun) (by decide +kernel))))
  refine ⟨by rw [List.length_map]; exact Nat.le_trans hn (by decide), ns.map (fun i => A.int (if 10 ^ 18 ≤ i then i else 0)), by rw [List.length_map, List.length_map], fun i y z hy hz s0 H0 C cl fp => ?_, fun l nl => ?_⟩
  obtain ⟨v, hv, rfl⟩ := map_at hy
  obtain ⟨v2, hv2, rfl⟩ := map_at hz
  obtain rfl : v = v2 := Option.some.inj (hv.symm.trans hv2)
  refine wGw_name 2 (⟨rfl, fun s0 H0 C cl fp => ?_⟩) nd
  refine wE_if (wT_cmp (wE_name 2 rfl (wE_bin (wE_int (wE_int ?_)))))
  refine wO_pow (by decide) ?_
  refine wO_ge ?_
  refine ⟨_, rfl, ?_⟩
  refine ⟨fun hk => ?_, fun hk => ?_⟩
  refine wE_name 2 rfl ?_
  have hk2 : (10 : Int) ^ 18 ≤ v := of_decide_eq_true hk
  exact ⟨by rw [if_pos hk2], .refl _⟩
  refine wE_int ?_
  refine ⟨?_, .refl _⟩
  have hk2 : ¬ (10 : Int) ^ 18 ≤ v := of_decide_eq_false hk
  rw [if_neg hk2]
  refine wE_name 1 rfl (wE_str ?_)
  have nlm : l ≠ m := fun z => by rw [z, Mu.upd_same] at nl; cases nl
  have nl0 : μ l = none := by rw [Mu.upd_ne nlm] at nl; exact nl
  refine ⟨_, _, .inr "left", rfl, by rw [Mu.upd_ne (Ne.symm nlm)]; exact Mu.upd_same, rfl, by show 4 < sizeLine; decide, ?_⟩
  have e2 : putA [(.inr "cells", .lst (fs.map A.int)), (.inr "left", .lst []), (.inr "at", .int 0), (.inr "room", .int 58)] (.inr "left" : Key) (.loc l) = [(.inr "cells", .lst (fs.map A.int)), (.inr "left", .loc l), (.inr "at", .int 0), (.inr "room", .int 58)] := rfl
  rw [e2]
  refine wSs_cons (wS_ret (wE_name 1 rfl ?_))
  refine q m l _ nm ⟨⟨fs, ns.map (fun i => if 10 ^ 18 ≤ i then i else 0), 0, Mu.upd_same, ?_, hg, by rw [List.length_map]; exact hn, Int.le_refl _, Int.le_refl _⟩, nlm⟩ ?_
  · rw [Mu.upd_ne nlm, Mu.upd_same, List.map_map]; rfl
  · intro p o h
    have h1 : p ≠ m := fun z => by rw [z, nm] at h; cases h
    have h2 : p ≠ l := fun z => by rw [z, nl0] at h; cases h
    rw [Mu.upd_ne h1, Mu.upd_ne h2, Mu.upd_ne h1]
    exact h

end
end D

set_option Elab.async false
set_option linter.all false
set_option maxRecDepth 100000
set_option maxHeartbeats 4000000
namespace D
open PySem PySem.Spec PyProof.Rows L2
local macro_rules | `(tactic| walk_at "mul") => `(tactic| first | refine wO_mul (mulR (by first | decide | omega) (by first | decide | omega)) ?_ | refine wO_mul (mulL (by first | decide | omega) (by first | decide | omega)) ?_)
local macro_rules | `(tactic| walk_at "mod") => `(tactic| refine wO_mod (by first | decide | omega) ?_)
local macro_rules | `(tactic| walk_at "fdiv") => `(tactic| refine wO_fdiv (by first | decide | omega) (divS (by first | decide | omega)) ?_)
local macro_rules | `(tactic| walk_at "ix") => `(tactic| first | refine wI_tup (by rfl) ?_ | refine wI_lst (by rfl) ?_)
local macro_rules | `(tactic| walk_at "sl") => `(tactic| first | refine wSl_tup ?_ | refine wSl_lstF ?_)
local macro_rules | `(tactic| walk_at "obj") => `(tactic| refine ⟨_, _, _, rfl, by assumption, rfl, ?_⟩)
local macro_rules | `(tactic| walk_at "len") => `(tactic| first | refine wC_len (.tup _) ?_ | refine wC_len (.lst _) ?_ | refine wC_len (.loc (by assumption)) ?_)
section
variable {P : Program} {w : World} {mg : Str → Option Value} {base : Heap} {K : PySem.W.Frag} {CL CP CG CTL CTe CPr CPo CNV CTG CCo CS pT : Addr} {k : Nat}
abbrev s__law_names : Stmt := topS 45
abbrev N__law_names : List Str := ["_law_m", "_law_many", "_law_letters", "_law_start", "_law_way", "_law_size", "_law_at", "_law_stride", "_law_base", "_law_j", "_law_found", "_law_k", "_law_mark", "_law_bars", "_law_name"]
theorem sc__law_names : FnScope N__law_names ["_law_m", "_law_many"] (defScope s__law_names) := ⟨rfl, rfl, rfl, by decide +kernel, rfl, by decide +kernel, by decide +kernel⟩
theorem atI_ex {xs : List D.A} {i : Int} (h0 : 0 ≤ i) (h1 : i < xs.length) : ∃ y ∈ xs, atI xs i = some y := by
  have h : i.toNat < xs.length := by omega
  exact ⟨xs[i.toNat], List.getElem_mem h, atI_pos (List.getElem?_eq_getElem h) h0⟩
def c__law_names : AC := fun xs μ Q _ => ∃ (m l : Addr) (c many : Nat) (rm : Int) (mo : Option (List Str)), xs = [.loc m, .int many] ∧ many ≤ 12 ∧ Lx m l c rm mo μ ∧ c < 2 ^ 39 ∧ ∀ (ws : List Str) (μ' : Mu), ws.length = many → (∀ w ∈ ws, isNm (.str w) = true) → ws.Nodup → Lx m l (c + 5) rm mo μ' → Ls m l μ μ' → Q (.lst (ws.map D.A.str)) μ'
theorem ok__law_names {n : Nat}  {f : Addr} {fd : FuncData} (TX : Txt K mg w CL CP CG CTL CTe CPr CPo CNV CTG CCo CS pT) (C__law_draw : Cal P w K mg base n "_law_draw" c__law_draw) (F : Fun K "_law_names" "_law_names" s__law_names f fd) : FnD P w K mg base CX0 (n + 1) f fd ["_law_m", "_law_many"] c__law_names := by
  refine fnD F sc__law_names (fun xs μ Q E hc => by obtain ⟨m, l, c, many, rm, mo, rfl, hmany, lw, hc, q⟩ := hc; rfl) (fun cdv Ao outer s H E xs μ Q E0 ar hc => ?_)
  obtain ⟨m, l, c, many, rm, mo, rfl, hmany, lw, hc, q⟩ := hc
  have nd := sc__law_names.nd
  refine wSs_cons (wS_set 2 (wE_str (wSs_cons (wS_asg (wE_tup (wA_cons (wE_cal C__law_draw ar (by omega) (wA_cons (wE_name 0 rfl (wA_cons (wE_int (wA_nil ?_))))))))))) nd)
  refine ⟨m, l, 26, c, _, _, rfl, by decide, by decide, lw, by omega, fun start μ1 a0 a1 lw1 ls1 => ?_⟩
  refine wA_cons (wE_cal C__law_draw ar (by omega) (wA_cons (wE_name 0 rfl (wA_cons (wE_int (wA_nil ?_))))))
  refine ⟨m, l, 4, _, _, _, rfl, by decide, by decide, lw1, by omega, fun way μ2 b0 b1 lw2 ls2 => ?_⟩
  refine wA_nil ⟨by show 2 ≤ sizeLine; decide, (wG_tup (wGs_cons (wG_name 3 (wGs_cons (wG_name 4 (wGs_nil (wSs_cons (wS_set 5 (wE_bin (wE_int (wE_cal C__law_draw ar (by omega) (wA_cons (wE_name 0 rfl (wA_cons (wE_int (wA_nil ?_)))))))) nd))) nd)) nd)))⟩
  refine ⟨m, l, 7, _, _, _, rfl, by decide, by decide, lw2, by omega, fun r3 μ3 c0 c1 lw3 ls3 => ?_⟩
  refine wO_add ?_
  refine wSs_cons (wS_set 6 (wE_cal C__law_draw ar (by omega) (wA_cons (wE_name 0 rfl (wA_cons (wE_name 5 rfl (wA_nil ?_)))))) nd)
  refine ⟨m, l, _, _, _, _, rfl, by omega, by omega, lw3, by omega, fun at_ μ4 d0 d1 lw4 ls4 => ?_⟩
  refine wSs_cons (wS_set 7 (wE_ix (wE_lstF (wA_cons (wE_int (wA_cons (wE_int (wA_cons (wE_int (wA_cons (wE_int (wA_cons (wE_int (wA_cons (wE_int (wA_nil ⟨by show 6 ≤ sizeLine; decide, (wE_cal C__law_draw ar (by omega) (wA_cons (wE_name 0 rfl (wA_cons (wE_int (wA_nil ?_))))))⟩))))))))))))))) nd)
  refine ⟨m, l, 6, _, _, _, rfl, by decide, by decide, lw4, by omega, fun r5 μ5 e0 e1 lw5 ls5 => ?_⟩
  obtain ⟨y1, hy1, ey1⟩ := atI_ex (xs := [D.A.int 1, .int 3, .int 7, .int 11, .int 17, .int 25]) e0 (by simpa using e1)
  obtain ⟨stride, rfl, z0, z1, zs⟩ : ∃ z : Int, y1 = .int z ∧ 1 ≤ z ∧ z ≤ 25 ∧ (z = 1 ∨ z = 3 ∨ z = 7 ∨ z = 11 ∨ z = 17 ∨ z = 25) := by
    simp only [List.mem_cons, List.not_mem_nil, or_false] at hy1
    rcases hy1 with rfl | rfl | rfl | rfl | rfl | rfl <;> exact ⟨_, rfl, by decide, by decide, by decide⟩
  have hP : NmP start (1 + r3) at_ stride := ⟨a0, d0, d1, by omega, zs⟩
  refine wI_lst ey1 ?_
  refine wSs_cons (wS_set 8 (wE_m1 PySem.F.slot_str_join PySem.F.type_str_join (wE_str ⟨_, rfl, (wE_lcF (own := [("_law_j", 9)]) (wIt_range1 TX.b_range (wA_cons (wE_int (wA_nil ⟨_, rfl, by omega, by omega, ?_⟩)))) nd (blkOk_by (N := N__law_names) (sc := defScope s__law_names) (by decide +kernel)))⟩)) nd)
  refine ⟨by rw [rgA_len]; decide, ((List.range 8).map (fun (j : Nat) => ltr ((start + 5 * (0 + (j : Int))) % 26))).map D.A.str, by simp [rgA_len], fun i y z hy hz s0 H0 C cl fp => ?_, ?_⟩
  obtain ⟨hi, rfl⟩ := rgA_at hy
  refine wGw_name 9 (⟨rfl, fun s0 H0 C cl fp => (wE_ix (wE_name 2 rfl (wE_bin (wE_bin (wE_name 3 rfl (wE_bin (wE_int (wE_name 9 rfl ?_))))))))⟩) nd
  walk_at "mul"
  refine wO_add ?_
  refine wE_int ?_
  walk_at "mod"
  refine wI_str (by decide) (ltr_at (by omega) (by omega)) ?_
  refine ⟨?_, .refl _⟩
  obtain ⟨w1, hw1, rfl⟩ := map_at hz
  obtain ⟨_, rfl⟩ := mapR_at hw1
  rfl
  refine wM_join (.inl (.lst _)) (by rw [sum_ltrs, List.length_map, List.length_range]; decide) ?_
  rw [show Txt.join "" ((List.range 8).map (fun (j : Nat) => ltr ((start + 5 * (0 + (j : Int))) % 26))) = baseW start from rfl]
  generalize hB : baseW start = base
  have lb : letA base = true := by rw [← hB]; unfold baseW; exact letA_join (fun w hw => by obtain ⟨j, _, rfl⟩ := List.mem_map.mp hw; exact letA_ltr _)
  have nb : base.length ≤ 8 := by rw [← hB]; unfold baseW; exact len_ltrs _ 8
  refine wSs_cons (wS_set 10 (wE_lst (wA_nil ⟨by show 0 ≤ sizeLine; decide, fun p__law_found np__law_found => (wSs_cons (wS_for (wIt_range1 TX.b_range (wA_cons (wE_name 1 rfl (wA_nil ⟨_, rfl, by omega, by omega, ?_⟩))))))⟩)) nd)
  refine ⟨fun i Γ' μ' => ∃ (ws : List Str) (a b : Option D.A), Γ' = [some (.loc m), some (.int many), some (.str LETS), some (.int start), some (.int way), some (.int (1 + r3)), some (.int at_), some (.int stride), some (.str base), none, some (.loc p__law_found), a, b, none, none] ∧ μ' = μ5.upd p__law_found (.lst (ws.map D.A.str)) ∧ ws = (List.range i).map (nmW start way (1 + r3) at_ stride base) ∧ ∀ w ∈ ws, NmOk w, ⟨[], _, _, rfl, rfl, rfl, fun _ h => nomatch h⟩, fun i y Γ' μ' hy hI => ?_, fun Γ' μ' hI => ?_⟩
  obtain ⟨ws, a, b, rfl, rfl, hws, hok⟩ := hI
  obtain ⟨hi, rfl⟩ := rgA_at hy
  have hwl : ws.length = i := by rw [hws]; simp
  have hi2 : i < 100 := by omega
  refine wG_name 11 ?_ nd
  refine wSs_cons (wS_set 12 (wE_ix (wE_name 2 rfl (wE_bin (wE_bin (wE_name 3 rfl (wE_bin (wE_name 7 rfl (wE_name 11 rfl ?_)))))))) nd)
  walk_at "mul"
  refine wO_add ?_
  refine wE_int ?_
  walk_at "mod"
  refine wI_str (by decide) (ltr_at (Int.emod_nonneg _ (by decide)) (Int.emod_lt_of_pos _ (by decide))) ?_
  refine wSs_cut (fun Γ' μ' => ∃ (w : Str) (a b : Option D.A), NmOk w ∧ w = nmW start way (1 + r3) at_ stride base i ∧ Γ' = [some (.loc m), some (.int many), some (.str LETS), some (.int start), some (.int way), some (.int (1 + r3)), some (.int at_), some (.int stride), some (.str base), none, some (.loc p__law_found), a, b, none, none] ∧ μ' = μ5.upd p__law_found (.lst ((ws ++ [w]).map D.A.str))) ?_ (fun Γ' μ' hP => ?_)
  generalize hg : ({ cps := #[LETS.cps.toList.getD ((start + stride * (0 + (i : Int))) % 26).toNat 97] } : Str) = mark
  have lm : letA mark = true := by rw [← hg]; exact letA_ltr ((start + stride * (0 + (i : Int))) % 26)
  have nm1 : mark.length = 1 := by rw [← hg]; rfl
  refine wS_if (wT_cmp (wE_name 4 rfl (wE_int ?_)))
  refine wO_eqI ?_
  refine ⟨_, rfl, ?_⟩
  refine ⟨fun hk => ?_, fun hk => ?_⟩
  refine wSs_cons (wS_expr (wE_append (wE_name 10 rfl ?_)))
  refine ⟨_, _, rfl, Mu.upd_same, ?_⟩
  refine wE_bin (wE_name 12 rfl (wE_slice (wE_name 8 rfl (wE_bin (wE_bin (wE_name 11 rfl (wE_name 7 rfl ?_)))))))
  walk_at "mul"
  refine wE_int ?_
  walk_at "mod"
  refine ⟨_, rfl, ?_⟩
  refine wSl_str (szOk (by omega)) ?_
  refine wO_addS (szOk (by have := cutS_hi base ((0 + (i : Int)) * stride % 8) (by omega); omega)) ?_
  refine ⟨_, Mu.upd_same, szLt (by rw [List.length_map]; omega), ?_⟩
  refine wSs_nil ?_
  have hw3 : way = 3 := of_decide_eq_true hk
  have n2 := cutS_hi base ((0 + (i : Int)) * stride % 8) (by omega)
  refine ⟨mark ++ cutS base none (some ((0 + (i : Int)) * stride % 8)), _, _, ⟨?_, ?_, ?_⟩, by unfold nmW; rw [if_pos hw3, ← hg]; rfl, rfl, by rw [Mu.upd_upd, List.map_append]; rfl⟩
  · rw [letA_app, lm, letA_cut lb]; rfl
  · rw [Str.length_append]; omega
  · rw [Str.length_append]; omega
  refine wSs_cons (wS_expr (wE_append (wE_name 10 rfl ?_)))
  refine ⟨_, _, rfl, Mu.upd_same, ?_⟩
  refine wE_bin (wE_bin (wE_slice (wE_name 8 rfl (wE_name 6 rfl ⟨_, rfl, ?_⟩))))
  refine wSl_str (szOk (by omega)) ?_
  refine wE_name 12 rfl ?_
  refine wO_addS (szOk (by have := cutS_hi base at_ (by omega); omega)) ?_
  refine wE_slice (wE_name 8 rfl (wE_bin (wE_name 6 rfl (wE_int ?_))))
  refine wO_add ?_
  refine ⟨_, rfl, (wE_name 5 rfl ⟨_, rfl, ?_⟩)⟩
  refine wSl_str (szOk (by omega)) ?_
  refine wO_addS (szOk (by have := cutS_hi base at_ (by omega); have := cutS_mid base (at_ + 1) (1 + r3) (by omega); rw [Str.length_append]; omega)) ?_
  refine ⟨_, Mu.upd_same, szLt (by rw [List.length_map]; omega), ?_⟩
  refine wSs_nil ?_
  have hw3 : ¬ way = 3 := of_decide_eq_false hk
  have n2 := cutS_hi base at_ (by omega)
  have n3 := cutS_mid base (at_ + 1) (1 + r3) (by omega)
  refine ⟨cutS base none (some at_) ++ mark ++ cutS base (some (at_ + 1)) (some (1 + r3)), _, _, ⟨?_, ?_, ?_⟩, by unfold nmW; rw [if_neg hw3, ← hg]; rfl, rfl, by rw [Mu.upd_upd, List.map_append]; rfl⟩
  · rw [letA_app, letA_app, lm, letA_cut lb, letA_cut lb]; rfl
  · rw [Str.length_append, Str.length_append]; omega
  · rw [Str.length_append, Str.length_append]; omega
  obtain ⟨w, a, b, hw, ew, rfl, rfl⟩ := hP
  refine wSs_nil ?_
  refine ⟨ws ++ [w], _, _, rfl, rfl, by rw [hws, ew, List.range_succ, List.map_append]; rfl, fun x hx => ?_⟩
  rcases List.mem_append.mp hx with hx | hx
  · exact hok x hx
  · rw [List.mem_singleton.mp hx]; exact hw
  obtain ⟨ws, a, b, rfl, rfl, hws, hok⟩ := hI
  rw [rgA_len, Int.toNat_natCast] at hws
  have hwl : ws.length = many := by rw [hws]; simp
  refine wSs_cons (wS_set 13 (wE_m1 PySem.F.slot_str_split PySem.F.type_str_split (wE_str ⟨_, rfl, (wE_str ?_)⟩)) nd)
  refine wM_split (by decide) (by decide) ?_
  rw [split_bars]
  refine wSs_frz 10 Mu.upd_same rfl ?_
  rw [Mu.del_upd np__law_found]
  refine wSs_cons (wS_ret (wE_lcF (own := [("_law_name", 14)]) (wIt_list (wE_name 10 rfl ⟨_, rfl, ?_⟩)) nd (blkOk_by (N := N__law_names) (sc := defScope s__law_names) (by decide +kernel))))
  refine ⟨szOk (by rw [List.length_map]; omega), (ws.map fixN).map D.A.str, by simp, fun i y z hy hz s0 H0 C cl fp => ?_, ?_⟩
  obtain ⟨w, h1, rfl⟩ := map_at hy
  obtain ⟨w2, h2, rfl⟩ := map_at hz
  obtain ⟨w3, h3, rfl⟩ := map_at h2
  obtain rfl : w = w3 := Option.some.inj (h1.symm.trans h3)
  have hn := hok w (List.mem_of_getElem? h1)
  refine wGw_name 14 (⟨rfl, fun s0 H0 C cl fp => ?_⟩) nd
  refine wE_if (wT_cmp (wE_name 14 rfl (wE_name 13 rfl ?_)))
  refine wO_notIn (.lst _) rfl (by rfl) ?_
  refine ⟨_, rfl, ?_⟩
  refine ⟨fun hk => ?_, fun hk => ?_⟩
  refine wE_name 14 rfl ?_
  exact ⟨by unfold fixN; rw [if_neg (by simpa using hk)], .refl _⟩
  refine wE_bin (wE_bin (wE_str (wE_slice (wE_name 14 rfl (wE_int ⟨_, rfl, ?_⟩)))))
  refine wSl_str (szOk (by have := hn.hi; omega)) ?_
  refine wO_addS (szOk (by have := cutS_hi w 1 (by omega); have e2 : ("zz" : Str).length = 2 := (by decide); omega)) ?_
  refine wE_str ?_
  refine wO_addS (szOk (by have := cutS_hi w 1 (by omega); have e2 : ("zz" : Str).length = 2 := (by decide); have e3 : ("z" : Str).length = 1 := (by decide); rw [Str.length_append]; omega)) ?_
  refine ⟨?_, .refl _⟩
  unfold fixN; rw [if_pos (by simpa using hk)]
  refine q _ _ (by simp [hwl]) (fun w hw => ?_) (by rw [hws, ← hB]; exact names_unlike hP hmany) lw5 ((((ls1.trans ls2).trans ls3).trans ls4).trans ls5)
  obtain ⟨w0, hw0, rfl⟩ := List.mem_map.mp hw
  exact fixN_ok (hok w0 hw0)

abbrev s__law_common : Stmt := topS 46
abbrev N__law_common : List Str := ["_law_one", "_law_other"]
theorem sc__law_common : FnScope N__law_common ["_law_one", "_law_other"] (defScope s__law_common) := ⟨rfl, rfl, rfl, by decide +kernel, rfl, by decide +kernel, by decide +kernel⟩
def c__law_common : AC := fun xs μ Q _ => ∃ a b : Int, xs = [.int a, .int b] ∧ Q (.int (Int.gcd a b : Nat)) μ
theorem ok__law_common {n : Nat}  {f : Addr} {fd : FuncData} (TX : Txt K mg w CL CP CG CTL CTe CPr CPo CNV CTG CCo CS pT)  (F : Fun K "_law_common" "_law_common" s__law_common f fd) : FnD P w K mg base CX0 (n + 1) f fd ["_law_one", "_law_other"] c__law_common := by
  refine fnD F sc__law_common (fun xs μ Q E hc => by obtain ⟨a, b, rfl, q⟩ := hc; rfl) (fun cdv Ao outer s H E xs μ Q E0 ar hc => ?_)
  obtain ⟨a, b, rfl, q⟩ := hc
  have nd := sc__law_common.nd
  refine wSs_cons (wS_par 0 1 (wA_cons (wE_callB (id := "abs") TX.b_abs (by decide +kernel) (wA_cons (wE_name 0 rfl (wA_nil ?_))))) nd)
  refine wC_abs ?_
  refine wA_cons (wE_callB (id := "abs") TX.b_abs (by decide +kernel) (wA_cons (wE_name 1 rfl (wA_nil ?_))))
  refine wC_abs ?_
  refine wA_nil ⟨_, _, rfl, (wSs_cons ?_)⟩
  refine wS_while (fun m Γ' μ' => ∃ x y : Nat, Γ' = [some (.int x), some (.int y)] ∧ μ = μ' ∧ Nat.gcd x y = Int.gcd a b ∧ y ≤ m) b.natAbs ⟨a.natAbs, b.natAbs, ?_, rfl, rfl, Nat.le_refl _⟩ (fun m Γ' μ' hW => ?_)
  · have e1 : (if a < 0 then -a else a) = (a.natAbs : Int) := by split <;> omega
    have e2 : (if b < 0 then -b else b) = (b.natAbs : Int) := by split <;> omega
    rw [e1, e2]; rfl
  obtain ⟨x, y, rfl, rfl, hg, hy⟩ := hW
  refine wT_cmp (wE_name 1 rfl (wE_int ?_))
  refine wO_gt ?_
  refine ⟨_, rfl, ?_⟩
  refine ⟨fun hk => ?_, fun hk => ?_⟩
  have hk2 : (0 : Int) < y := of_decide_eq_true hk
  refine wSs_cons (wS_par 0 1 (wA_cons (wE_name 1 rfl (wA_cons (wE_bin (wE_name 0 rfl (wE_name 1 rfl ?_)))))) nd)
  walk_at "mod"
  refine wA_nil ⟨_, _, rfl, (wSs_nil ?_)⟩
  refine ⟨x % y, Nat.lt_of_lt_of_le (Nat.mod_lt _ (by omega)) hy, y, x % y, rfl, rfl, ?_, Nat.le_refl _⟩
  rw [← hg, Nat.gcd_comm x y, Nat.gcd_rec y x, Nat.gcd_comm]
  have hk2 : ¬ (0 : Int) < y := of_decide_eq_false hk
  obtain rfl : y = 0 := by omega
  rw [Nat.gcd_zero_right] at hg
  refine wSs_cons (wS_ret (wE_name 0 rfl ?_))
  rw [hg]; exact q

abbrev s__law_lowest : Stmt := topS 47
abbrev N__law_lowest : List Str := ["_law_n", "_law_d", "_law_part"]
theorem sc__law_lowest : FnScope N__law_lowest ["_law_n", "_law_d"] (defScope s__law_lowest) := ⟨rfl, rfl, rfl, by decide +kernel, rfl, by decide +kernel, by decide +kernel⟩
def c__law_lowest : AC := fun xs μ Q _ => ∃ n d : Int, xs = [.int n, .int d] ∧ d ≠ 0 ∧ Bd 8000 d ∧ Q (low n d) μ
theorem ok__law_lowest {n : Nat}  {f : Addr} {fd : FuncData} (TX : Txt K mg w CL CP CG CTL CTe CPr CPo CNV CTG CCo CS pT) (C__law_common : Cal P w K mg base n "_law_common" c__law_common) (F : Fun K "_law_lowest" "_law_lowest" s__law_lowest f fd) : FnD P w K mg base CX0 (n + 1) f fd ["_law_n", "_law_d"] c__law_lowest := by
  refine fnD F sc__law_lowest (fun xs μ Q E hc => by obtain ⟨n, d, rfl, d0, hd, q⟩ := hc; rfl) (fun cdv Ao outer s H E xs μ Q E0 ar hc => ?_)
  obtain ⟨n, d, rfl, d0, hd, q⟩ := hc
  have nd := sc__law_lowest.nd
  refine wSs_cons (wS_set 2 (wE_cal C__law_common ar (by omega) (wA_cons (wE_name 0 rfl (wA_cons (wE_name 1 rfl (wA_nil ?_)))))) nd)
  refine ⟨n, d, rfl, ?_⟩
  refine wSs_cons (wS_set 2 ?_ nd)
  refine wE.imp (Q := fun z μ' => μ = μ' ∧ z = .int (part n d)) ?_ (fun z μ' hz => ?_)
  refine wE_if (wT_cmp (wE_name 1 rfl (wE_int ?_)))
  refine wO_gt ?_
  refine ⟨_, rfl, ?_⟩
  refine ⟨fun hk => ?_, fun hk => ?_⟩
  refine wE_name 2 rfl ?_
  exact ⟨rfl, by unfold part; rw [if_pos (of_decide_eq_true hk)]⟩
  refine wE_bin (wE_int (wE_name 2 rfl ?_))
  refine wO_sub ?_
  exact ⟨rfl, by unfold part; rw [if_neg (of_decide_eq_false hk)]⟩
  obtain ⟨rfl, rfl⟩ := hz
  refine wSs_cons (wS_ret (wE_tup (wA_cons (wE_bin (wE_name 0 rfl (wE_name 2 rfl ?_))))))
  refine wO_fdivN (part_ne d0) ((part_bd d0 hd).noPy (by decide) (by decide)) ?_
  refine wA_cons (wE_bin (wE_name 1 rfl (wE_name 2 rfl ?_)))
  refine wO_fdivN (part_ne d0) ((part_bd d0 hd).noPy (by decide) (by decide)) ?_
  refine wA_nil ⟨by show 2 ≤ sizeLine; decide, ?_⟩
  exact q

abbrev s__law_fraction : Stmt := topS 48
abbrev N__law_fraction : List Str := ["_law_m", "_law_size", "_law_below"]
theorem sc__law_fraction : FnScope N__law_fraction ["_law_m"] (defScope s__law_fraction) := ⟨rfl, rfl, rfl, by decide +kernel, rfl, by decide +kernel, by decide +kernel⟩
def c__law_fraction : AC := fun xs μ Q _ => ∃ (m l : Addr) (c : Nat) (rm : Int) (mo : Option (List Str)), xs = [.loc m] ∧ Lx m l c rm mo μ ∧ c < 2 ^ 39 ∧ ∀ (n d : Int) (μ' : Mu), Fr n d → n.natAbs ≤ 10 ^ 20 → d ≤ 9 → Lx m l (c + 4) rm mo μ' → Ls m l μ μ' → Q (.tup [.int n, .int d]) μ'
theorem ok__law_fraction {n : Nat}  {f : Addr} {fd : FuncData} (TX : Txt K mg w CL CP CG CTL CTe CPr CPo CNV CTG CCo CS pT) (C__law_draw : Cal P w K mg base n "_law_draw" c__law_draw) (C__law_lowest : Cal P w K mg base n "_law_lowest" c__law_lowest) (F : Fun K "_law_fraction" "_law_fraction" s__law_fraction f fd) : FnD P w K mg base CX0 (n + 1) f fd ["_law_m"] c__law_fraction := by
  refine fnD F sc__law_fraction (fun xs μ Q E hc => by obtain ⟨m, l, c, rm, mo, rfl, lw, hc, q⟩ := hc; rfl) (fun cdv Ao outer s H E xs μ Q E0 ar hc => ?_)
  obtain ⟨m, l, c, rm, mo, rfl, lw, hc, q⟩ := hc
  have nd := sc__law_fraction.nd
  refine wSs_cons (wS_set 1 (wE_ix (wE_lstF (wA_cons (wE_int (wA_cons (wE_int (wA_cons (wE_int (wA_cons (wE_int (wA_cons (wE_int (wA_cons (wE_bin (wE_int (wE_int ?_)))))))))))))))) nd)
  refine wO_pow (by decide) ?_
  refine wA_nil ⟨by show 6 ≤ sizeLine; decide, (wE_cal C__law_draw ar (by omega) (wA_cons (wE_name 0 rfl (wA_cons (wE_int (wA_nil ?_))))))⟩
  refine ⟨m, l, 6, c, _, _, rfl, by decide, by decide, lw, by omega, fun r1 μ1 a0 a1 lw1 ls1 => ?_⟩
  obtain ⟨y1, hy1, e1⟩ := atI_ex (xs := [D.A.int 1, .int 4, .int 9, .int 30, .int 30, .int (10 ^ (20 : Int).toNat)]) a0 (by simpa using a1)
  obtain ⟨z, rfl, z0, z1⟩ : ∃ z : Int, y1 = .int z ∧ 1 ≤ z ∧ z ≤ 10 ^ 20 := by
    simp only [List.mem_cons, List.not_mem_nil, or_false] at hy1
    rcases hy1 with rfl | rfl | rfl | rfl | rfl | rfl <;> exact ⟨_, rfl, by decide, by decide⟩
  refine wI_lst e1 ?_
  refine wSs_cons (wS_set 2 (wE_ix (wE_lstF (wA_cons (wE_int (wA_cons (wE_int (wA_cons (wE_int (wA_cons (wE_int (wA_cons (wE_bin (wE_int (wE_cal C__law_draw ar (by omega) (wA_cons (wE_name 0 rfl (wA_cons (wE_int (wA_nil ?_))))))))))))))))))) nd)
  refine ⟨m, l, 9, _, _, _, rfl, by decide, by decide, lw1, by omega, fun r2 μ2 b0 b1 lw2 ls2 => ?_⟩
  refine wO_add ?_
  refine wA_nil ⟨by show 5 ≤ sizeLine; decide, (wE_cal C__law_draw ar (by omega) (wA_cons (wE_name 0 rfl (wA_cons (wE_int (wA_nil ?_))))))⟩
  refine ⟨m, l, 5, _, _, _, rfl, by decide, by decide, lw2, by omega, fun r3 μ3 d0 d1 lw3 ls3 => ?_⟩
  obtain ⟨y2, hy2, e2⟩ := atI_ex (xs := [D.A.int 1, .int 1, .int 2, .int 3, .int (1 + r2)]) d0 (by simpa using d1)
  obtain ⟨u, rfl, u0, u1⟩ : ∃ u : Int, y2 = .int u ∧ 1 ≤ u ∧ u ≤ 9 := by
    simp only [List.mem_cons, List.not_mem_nil, or_false] at hy2
    rcases hy2 with rfl | rfl | rfl | rfl | rfl <;> exact ⟨_, rfl, by omega, by omega⟩
  refine wI_lst e2 ?_
  refine wSs_cons (wS_ret (wE_cal C__law_lowest ar (by omega) (wA_cons (wE_bin (wE_cal C__law_draw ar (by omega) (wA_cons (wE_name 0 rfl (wA_cons (wE_bin (wE_bin (wE_int (wE_name 1 rfl ?_))))))))))))
  walk_at "mul"
  refine wE_int ?_
  refine wO_add ?_
  refine wA_nil ?_
  refine ⟨m, l, _, _, _, _, rfl, by omega, by omega, lw3, by omega, fun r4 μ4 f0 f1 lw4 ls4 => ?_⟩
  refine wE_name 1 rfl ?_
  refine wO_sub ?_
  refine wA_cons (wE_name 2 rfl (wA_nil ?_))
  refine ⟨_, _, rfl, by omega, (Bd.of (n := 8) (by omega) (by omega)).mono (by decide), ?_⟩
  have hfr := low_fr (n := r4 - z) (d := u) (by omega)
  have h1 := lowN_le (n := r4 - z) (d := u) (by omega)
  have h2 := lowD_le (n := r4 - z) (d := u) (by omega)
  have h3 := hfr.pos
  exact q _ _ _ hfr (by omega) (by omega) lw4 (((ls1.trans ls2).trans ls3).trans ls4)

end
end D

set_option Elab.async false
set_option linter.all false
set_option maxRecDepth 100000
set_option maxHeartbeats 4000000
namespace D
open PySem PySem.Spec PyProof.Rows L2
local macro_rules | `(tactic| walk_at "mul") => `(tactic| first | refine wO_mul (mulR (by first | decide | omega) (by first | decide | omega)) ?_ | refine wO_mul (mulL (by first | decide | omega) (by first | decide | omega)) ?_)
local macro_rules | `(tactic| walk_at "mod") => `(tactic| refine wO_mod (by first | decide | omega) ?_)
local macro_rules | `(tactic| walk_at "fdiv") => `(tactic| refine wO_fdiv (by first | decide | omega) (divS (by first | decide | omega)) ?_)
local macro_rules | `(tactic| walk_at "ix") => `(tactic| first | refine wI_tup (by rfl) ?_ | refine wI_lst (by rfl) ?_)
local macro_rules | `(tactic| walk_at "sl") => `(tactic| first | refine wSl_tup ?_ | refine wSl_lstF ?_)
local macro_rules | `(tactic| walk_at "obj") => `(tactic| refine ⟨_, _, _, rfl, by assumption, rfl, ?_⟩)
local macro_rules | `(tactic| walk_at "len") => `(tactic| first | refine wC_len (.tup _) ?_ | refine wC_len (.lst _) ?_ | refine wC_len (.loc (by assumption)) ?_)
section
variable {P : Program} {w : World} {mg : Str → Option Value} {base : Heap} {K : PySem.W.Frag} {CL CP CG CTL CTe CPr CPo CNV CTG CCo CS pT : Addr} {k : Nat}
abbrev s__law_word : Stmt := topS 53
abbrev N__law_word : List Str := ["_law_e", "_law_some", "_law_found", "_law_word_here", "_law_fits"]
theorem sc__law_word : FnScope N__law_word ["_law_e"] (defScope s__law_word) := ⟨rfl, rfl, rfl, by decide +kernel, rfl, by decide +kernel, by decide +kernel⟩
def c__law_word (CTL : Addr) : AC := fun xs μ Q _ => ∃ a : Addr, xs = [.loc a] ∧ μ a = some (.exc a (.ref CTL) none) ∧ Q (.str "long") μ
theorem ok__law_word {n : Nat}  {f : Addr} {fd : FuncData} (TX : Txt K mg w CL CP CG CTL CTe CPr CPo CNV CTG CCo CS pT)  (F : Fun K "_law_word" "_law_word" s__law_word f fd) : FnD P w K mg base CX0 (n + 1) f fd ["_law_e"] (c__law_word CTL) := by
  refine fnD F sc__law_word (fun xs μ Q E hc => by obtain ⟨a, rfl, ha, q⟩ := hc; rfl) (fun cdv Ao outer s H E xs μ Q E0 ar hc => ?_)
  obtain ⟨a, rfl, ha, q⟩ := hc
  have nd := sc__law_word.nd
  refine wSs_cons (wS_set 1 (wE_lstF (wA_cons (wE_tup (wA_cons (wE_str (wA_cons (wE_callB (id := "isinstance") TX.b_isinstance (by decide +kernel) (wA_cons (wE_name 0 rfl (wA_cons (wE_glob TX.k_BadText (wA_nil ?_)))))))))))) nd)
  refine wC_isX TX.e_TooLong ha (.inl ⟨_, rfl, rfl⟩) TX.i_BadText ?_
  refine wA_nil ⟨by show 2 ≤ sizeLine; decide, (wA_cons (wE_tup (wA_cons (wE_str (wA_cons (wE_callB (id := "isinstance") TX.b_isinstance (by decide +kernel) (wA_cons (wE_name 0 rfl (wA_cons (wE_glob TX.k_BadProgram (wA_nil ?_)))))))))))⟩
  refine wC_isX TX.e_TooLong ha (.inl ⟨_, rfl, rfl⟩) TX.i_BadProgram ?_
  refine wA_nil ⟨by show 2 ≤ sizeLine; decide, (wA_cons (wE_tup (wA_cons (wE_str (wA_cons (wE_callB (id := "isinstance") TX.b_isinstance (by decide +kernel) (wA_cons (wE_name 0 rfl (wA_cons (wE_glob TX.k_TooLong (wA_nil ?_)))))))))))⟩
  refine wC_isX TX.e_TooLong ha (.inl ⟨_, rfl, rfl⟩) TX.i_TooLong ?_
  refine wA_nil ⟨by show 2 ≤ sizeLine; decide, (wA_nil ⟨by show 3 ≤ sizeLine; decide, (wSs_cons (wS_set 1 (wE_bin (wE_name 1 rfl (wE_lstF (wA_cons (wE_tup (wA_cons (wE_str (wA_cons (wE_callB (id := "isinstance") TX.b_isinstance (by decide +kernel) (wA_cons (wE_name 0 rfl (wA_cons (wE_glob TX.k_BadPoint (wA_nil ?_)))))))))))))) nd))⟩)⟩
  refine wC_isX TX.e_TooLong ha (.inl ⟨_, rfl, rfl⟩) TX.i_BadPoint ?_
  refine wA_nil ⟨by show 2 ≤ sizeLine; decide, (wA_cons (wE_tup (wA_cons (wE_str (wA_cons (wE_callB (id := "isinstance") TX.b_isinstance (by decide +kernel) (wA_cons (wE_name 0 rfl (wA_cons (wE_glob TX.k_NoValue (wA_nil ?_)))))))))))⟩
  refine wC_isX TX.e_TooLong ha (.inl ⟨_, rfl, rfl⟩) TX.i_NoValue ?_
  refine wA_nil ⟨by show 2 ≤ sizeLine; decide, (wA_nil ⟨by show 2 ≤ sizeLine; decide, ?_⟩)⟩
  refine wO_catF (.lst _) (.lst _) (by show 5 ≤ sizeLine; decide) ?_
  refine wSs_cons (wS_set 1 (wE_bin (wE_name 1 rfl (wE_lstF (wA_cons (wE_tup (wA_cons (wE_str (wA_cons (wE_callB (id := "isinstance") TX.b_isinstance (by decide +kernel) (wA_cons (wE_name 0 rfl (wA_cons (wE_glob TX.k_TooGreat (wA_nil ?_)))))))))))))) nd)
  refine wC_isX TX.e_TooLong ha (.inl ⟨_, rfl, rfl⟩) TX.i_TooGreat ?_
  refine wA_nil ⟨by show 2 ≤ sizeLine; decide, (wA_cons (wE_tup (wA_cons (wE_str (wA_cons (wE_callB (id := "isinstance") TX.b_isinstance (by decide +kernel) (wA_cons (wE_name 0 rfl (wA_cons (wE_glob TX.k_Corner (wA_nil ?_)))))))))))⟩
  refine wC_isX TX.e_TooLong ha (.inl ⟨_, rfl, rfl⟩) TX.i_Corner ?_
  refine wA_nil ⟨by show 2 ≤ sizeLine; decide, (wA_nil ⟨by show 2 ≤ sizeLine; decide, ?_⟩)⟩
  refine wO_catF (.lst _) (.lst _) (by show 7 ≤ sizeLine; decide) ?_
  refine wSs_cons (wS_setLcPF [("_law_word_here", 3), ("_law_fits", 4)] 2 (wIt_list (wE_name 1 rfl ⟨_, rfl, ?_⟩)) nd (blkOk_by (N := N__law_word) (sc := defScope s__law_word) (by decide +kernel)) (sw_true rfl rfl rfl (by decide +kernel)))
  refine ⟨by show 7 ≤ sizeLine; decide, [false, false, true, false, false, false, false], [.str "text", .str "program", .str "long", .str "point", .str "lost", .str "great", .str "corner"], rfl, rfl, fun i y k z hy hk hz s0 H0 C cl fp => ?_, ?_⟩
  obtain ⟨x1, rfl, rfl⟩ : ∃ x1, y = .tup [x1, .bl k] ∧ z = x1 := by
    match i, hy, hk, hz with
    | 0, hy, hk, hz => cases hy; cases hk; cases hz; exact ⟨_, rfl, rfl⟩
    | 1, hy, hk, hz => cases hy; cases hk; cases hz; exact ⟨_, rfl, rfl⟩
    | 2, hy, hk, hz => cases hy; cases hk; cases hz; exact ⟨_, rfl, rfl⟩
    | 3, hy, hk, hz => cases hy; cases hk; cases hz; exact ⟨_, rfl, rfl⟩
    | 4, hy, hk, hz => cases hy; cases hk; cases hz; exact ⟨_, rfl, rfl⟩
    | 5, hy, hk, hz => cases hy; cases hk; cases hz; exact ⟨_, rfl, rfl⟩
    | 6, hy, hk, hz => cases hy; cases hk; cases hz; exact ⟨_, rfl, rfl⟩
    | n + 7, hy, _, _ => cases hy
  refine wGw_tup2 3 4 ⟨rfl, ?_⟩ nd
  refine ⟨fun s0 H0 C cl fp => ?_, fun kt s0 H0 C cl fp => ?_⟩
  refine wT_val (wE_name 4 rfl ⟨_, rfl, ?_⟩)
  exact ⟨rfl, .refl _⟩
  refine wE_name 3 rfl ?_
  refine ⟨?_, .refl _⟩
  rfl
  rw [show pickA [false, false, true, false, false, false, false] [D.A.str "text", .str "program", .str "long", .str "point", .str "lost", .str "great", .str "corner"] = [.str "long"] from rfl]
  refine wSs_cons (wS_ret ?_)
  refine wE_if ?_
  refine wT.imp (QB := fun k μ' => k = true ∧ μ = μ') ?_ (fun k μ' hq => ?_)
  refine wT_chain (wW_and (wT_cmp (wE_callB (id := "len") TX.b_len (by decide +kernel) (wA_cons (wE_name 2 rfl (wA_nil ?_))))))
  walk_at "len"
  refine wE_int ?_
  refine wO_eqI ?_
  refine ⟨_, rfl, ?_⟩
  refine and_flip (fun hk => ?_) (fun hk => ?_)
  · simp at hk
  refine wW_and1 (wT_val (wE_callB (id := "isinstance") TX.b_isinstance (by decide +kernel) (wA_cons (wE_name 0 rfl (wA_cons (wE_type (n := "ValueError") TX.b_ValueError (by decide +kernel) (wA_nil ?_)))))))
  refine wC_isX TX.e_TooLong ha (.inr ⟨_, rfl, rfl⟩) TX.i_ValueError ?_
  refine ⟨_, rfl, ?_⟩
  exact ⟨rfl, rfl⟩
  obtain ⟨rfl, rfl⟩ := hq
  refine ⟨fun hk => ?_, fun hk => ?_⟩
  refine wE_ix (wE_name 2 rfl (wE_int ?_))
  walk_at "ix"
  exact q
  refine wE_str ?_
  cases hk

end
end D

set_option Elab.async false
set_option linter.all false
set_option maxRecDepth 100000
set_option maxHeartbeats 4000000
namespace D
open PySem PySem.Spec PyProof.Rows L2
local macro_rules | `(tactic| walk_at "mul") => `(tactic| first | refine wO_mul (mulR (by first | decide | omega) (by first | decide | omega)) ?_ | refine wO_mul (mulL (by first | decide | omega) (by first | decide | omega)) ?_)
local macro_rules | `(tactic| walk_at "mod") => `(tactic| refine wO_mod (by first | decide | omega) ?_)
local macro_rules | `(tactic| walk_at "fdiv") => `(tactic| refine wO_fdiv (by first | decide | omega) (divS (by first | decide | omega)) ?_)
local macro_rules | `(tactic| walk_at "ix") => `(tactic| first | refine wI_tup (by rfl) ?_ | refine wI_lst (by rfl) ?_)
local macro_rules | `(tactic| walk_at "sl") => `(tactic| first | refine wSl_tup ?_ | refine wSl_lstF ?_)
local macro_rules | `(tactic| walk_at "obj") => `(tactic| refine ⟨_, _, _, rfl, by assumption, rfl, ?_⟩)
local macro_rules | `(tactic| walk_at "len") => `(tactic| first | refine wC_len (.tup _) ?_ | refine wC_len (.lst _) ?_ | refine wC_len (.loc (by assumption)) ?_)
section
variable {P : Program} {w : World} {mg : Str → Option Value} {base : Heap} {K : PySem.W.Frag} {CL CP CG CTL CTe CPr CPo CNV CTG CCo CS pT : Addr} {k : Nat}
abbrev s__law_tried : Stmt := topS 54
abbrev N__law_tried : List Str := ["_law_deed", "_law_caught", "_law_found", "_law_e", "_law_word_here"]
theorem sc__law_tried : FnScope N__law_tried ["_law_deed"] (defScope s__law_tried) := ⟨rfl, rfl, rfl, by decide +kernel, rfl, by decide +kernel, by decide +kernel⟩
/-- what a deed lets out is a word; what it answers is kept in a list -/
def c__law_tried (CTL : Addr) : DL → Mu → (D.A → Mu → Prop) → Prop := fun dl μ Q => ∀ (Q2 : D.A → Mu → Prop) (E2 : Value → Option Addr → Mu → Prop), (∀ y μ', Q (.lst [y]) μ' → Q2 y μ') → (∀ μ', (∀ a, μ' a = none → Q (.tup [.str "long"]) (μ'.upd a (.exc a (.ref CTL) none))) → E2 (.ref CTL) none μ') → dl μ Q2 E2
theorem ok__law_tried {n : Nat}  {f : Addr} {fd : FuncData} (TX : Txt K mg w CL CP CG CTL CTe CPr CPo CNV CTG CCo CS pT) (C__law_word : Cal P w K mg base n "_law_word" (c__law_word CTL)) (F : Fun K "_law_tried" "_law_tried" s__law_tried f fd) (gm : mg "_law_tried" = some (.ref f)) (gk : PySem.W.keepIn K (.ref f) = true) (gb : Binds K fd ["_law_deed"] []) : LG P w K mg base n "_law_tried" (c__law_tried CTL) := by
  refine lgD F sc__law_tried rfl (by first | exact Or.inl rfl | exact Or.inr (Or.inl rfl)) gm gk gb (fun cdv Ao outer s H fa dl μ Q ar hc act => ?_)
  skip
  have nd := sc__law_tried.nd
  refine wSs_cons (wS_set 1 (wE_non (wSs_cons (wS_set 2 (wE_non ?_) nd))) nd)
  refine wSs_cut (fun Γ' μ' => ∃ z y, Γ' = [some (.loc fa), some z, some y, none, none] ∧ ((z = .non ∧ Q y μ') ∨ (∃ a, z = .loc a ∧ μ' a = some (.exc a (.ref CTL) none) ∧ Q (.tup [.str "long"]) μ'))) ?_ (fun Γ' μ' hP => ?_)
  refine wS_try (i := 3) (j := 1) nd rfl rfl ⟨rfl, rfl, .inl TX.g_SlopeError⟩ (fun B2 pn xe le tk pa => (wSs_cons (wS_set 2 (wE_lstF (wA_cons (act.o _ _ _ _ _ _ _ _ _ le tk rfl ?_))) nd)))
  refine hc _ _ (fun y μ' h1 => ?_) (fun μ' h1 => ?_)
  refine wA_nil ⟨by show 1 ≤ sizeLine; decide, (wSs_nil ?_)⟩
  exact ⟨_, _, rfl, .inl ⟨rfl, h1⟩⟩
  exact ⟨TX.m_TooLong, fun a ha => ⟨_, _, rfl, .inr ⟨_, rfl, Mu.upd_same, h1 a ha⟩⟩⟩
  obtain ⟨z, y, rfl, hz⟩ := hP
  refine wSs_cons (wS_if (wT_cmp (wE_name 1 rfl (wE_non ?_))))
  refine wO_isN ?_
  refine ⟨_, rfl, ?_⟩
  refine ⟨fun hk => ?_, fun hk => ?_⟩
  refine wSs_cons (wS_ret (wE_name 2 rfl ?_))
  rcases hz with ⟨rfl, h⟩ | ⟨a, rfl, _, _⟩
  · exact h
  · cases hk
  refine wSs_nil ?_
  refine wSs_cons (wS_set 4 (wE_cal C__law_word ar (by omega) (wA_cons (wE_name 1 rfl (wA_nil ?_)))) nd)
  rcases hz with ⟨rfl, h⟩ | ⟨a, rfl, h1, h2⟩
  · cases hk
  refine ⟨_, rfl, h1, ?_⟩
  refine wSs_cons (wS_ret ?_)
  refine wE_if (wT_cmp (wE_name 4 rfl (wE_tup (wA_cons (wE_str (wA_cons (wE_str (wA_cons (wE_str (wA_nil ⟨by show 3 ≤ sizeLine; decide, ?_⟩))))))))))
  refine wO_in (.tup _) rfl (by rfl) ?_
  refine ⟨_, rfl, ?_⟩
  refine ⟨fun hk => absurd hk (by decide +kernel), fun hk => ?_⟩
  refine wE_tup (wA_cons (wE_name 4 rfl (wA_nil ⟨by show 1 ≤ sizeLine; decide, ?_⟩)))
  exact h2

end
end D

set_option Elab.async false
set_option linter.all false
set_option maxRecDepth 100000
set_option maxHeartbeats 4000000
namespace D
open PySem PySem.Spec PyProof.Rows L2
local macro_rules | `(tactic| walk_at "mul") => `(tactic| first | refine wO_mul (mulR (by first | decide | omega) (by first | decide | omega)) ?_ | refine wO_mul (mulL (by first | decide | omega) (by first | decide | omega)) ?_)
local macro_rules | `(tactic| walk_at "mod") => `(tactic| refine wO_mod (by first | decide | omega) ?_)
local macro_rules | `(tactic| walk_at "fdiv") => `(tactic| refine wO_fdiv (by first | decide | omega) (divS (by first | decide | omega)) ?_)
local macro_rules | `(tactic| walk_at "ix") => `(tactic| first | refine wI_tup (by rfl) ?_ | refine wI_lst (by rfl) ?_)
local macro_rules | `(tactic| walk_at "sl") => `(tactic| first | refine wSl_tup ?_ | refine wSl_lstF ?_)
local macro_rules | `(tactic| walk_at "obj") => `(tactic| refine ⟨_, _, _, rfl, by assumption, rfl, ?_⟩)
local macro_rules | `(tactic| walk_at "len") => `(tactic| first | refine wC_len (.tup _) ?_ | refine wC_len (.lst _) ?_ | refine wC_len (.loc (by assumption)) ?_)
section
variable {P : Program} {w : World} {mg : Str → Option Value} {base : Heap} {K : PySem.W.Frag} {CL CP CG CTL CTe CPr CPo CNV CTG CCo CS pT : Addr} {k : Nat}
abbrev s__law_place : Stmt := topS 49
abbrev N__law_place : List Str := ["_law_rows", "_law_thing", "_law_places"]
theorem sc__law_place : FnScope N__law_place ["_law_rows", "_law_thing", "_law_places"] (defScope s__law_place) := ⟨rfl, rfl, rfl, by decide +kernel, rfl, by decide +kernel, by decide +kernel⟩
def c__law_place : AC := fun xs μ Q _ => ∃ (rl nl : Addr) (s : Gs) (N : Nm) (x : D.A), xs = [.loc rl, x, .loc nl] ∧ μ rl = some (.lst s.rows) ∧ s.rows.length ≤ 100000 ∧ μ nl = some (.dic (Pk N)) ∧ nl ≠ rl ∧ ThIs N x ∧ (∀ μ', μ' rl = some (.lst (plF N s x).2.rows) → Ke [rl] μ μ' → Q (.int (plF N s x).1) μ')
theorem ok__law_place {n : Nat}  {f : Addr} {fd : FuncData} (TX : Txt K mg w CL CP CG CTL CTe CPr CPo CNV CTG CCo CS pT)  (F : Fun K "_law_place" "_law_place" s__law_place f fd) : FnD P w K mg base CX0 (n + 1) f fd ["_law_rows", "_law_thing", "_law_places"] c__law_place := by
  refine fnD F sc__law_place (fun xs μ Q E hc => by obtain ⟨rl, nl, s, N, x, rfl, hr, hz, hN, ne, th, q⟩ := hc; rfl) (fun cdv Ao outer s H E xs μ Q E0 ar hc => ?_)
  obtain ⟨rl, nl, s, N, x, rfl, hr, hz, hN, ne, th, q⟩ := hc
  have nd := sc__law_place.nd
  refine wSs_cons (wS_if (wT_val (wE_callB (id := "isinstance") TX.b_isinstance (by decide +kernel) (wA_cons (wE_name 1 rfl (wA_cons (wE_type (n := "str") TX.b_str (by decide +kernel) (wA_nil ?_))))))))
  obtain ⟨nm, t1, t2⟩ := th.isi (μ := μ)
  refine wC_isi t1 t2 ?_
  refine ⟨_, rfl, ?_⟩
  refine ⟨fun hk => ?_, fun hk => ?_⟩
  refine wSs_cons (wS_ret (wE_dget ar (wE_name 2 rfl (wE_name 1 rfl ?_))))
  obtain ⟨w1, i, rfl, e⟩ := th.str hk
  refine ⟨nl, _, .inr w1, .int i, rfl, hN, rfl, by rw [valA_Pk, e]; rfl, ?_⟩
  rw [plF_str e] at q
  exact q μ hr (.refl _ _)
  refine wSs_nil ?_
  refine wSs_cons (wS_expr (wE_append (wE_name 0 rfl ?_)))
  obtain ⟨n1, d1, rfl⟩ := th.num hk
  refine ⟨rl, _, rfl, hr, ?_⟩
  refine wE_tup (wA_cons (wE_str (wA_cons (wE_tup (wA_nil ⟨by show 0 ≤ sizeLine; decide, (wA_cons (wE_name 1 rfl (wA_nil ⟨by show 3 ≤ sizeLine; decide, ?_⟩)))⟩)))))
  refine ⟨_, hr, szLt (by omega), ?_⟩
  refine wSs_cons (wS_ret (wE_bin (wE_callB (id := "len") TX.b_len (by decide +kernel) (wA_cons (wE_name 0 rfl (wA_nil ?_))))))
  refine wC_len (.loc Mu.upd_same) ?_
  refine wE_int ?_
  refine wO_sub ?_
  have k := q (μ.upd rl (.lst (s.rows ++ [.tup [.str "number", .tup [], .tup [.int n1, .int d1]]]))) Mu.upd_same (.upd (by simp))
  have e : (((s.rows ++ [D.A.tup [.str "number", .tup [], .tup [.int n1, .int d1]]]).length : Nat) : Int) - 1 = s.at := by simp [Gs.at]
  rw [e]
  exact k

end
end D

set_option Elab.async false
set_option linter.all false
set_option maxRecDepth 100000
set_option maxHeartbeats 4000000
namespace D
open PySem PySem.Spec PyProof.Rows L2
local macro_rules | `(tactic| walk_at "mul") => `(tactic| first | refine wO_mul (mulR (by first | decide | omega) (by first | decide | omega)) ?_ | refine wO_mul (mulL (by first | decide | omega) (by first | decide | omega)) ?_)
local macro_rules | `(tactic| walk_at "mod") => `(tactic| refine wO_mod (by first | decide | omega) ?_)
local macro_rules | `(tactic| walk_at "fdiv") => `(tactic| refine wO_fdiv (by first | decide | omega) (divS (by first | decide | omega)) ?_)
local macro_rules | `(tactic| walk_at "ix") => `(tactic| first | refine wI_tup (by rfl) ?_ | refine wI_lst (by rfl) ?_)
local macro_rules | `(tactic| walk_at "sl") => `(tactic| first | refine wSl_tup ?_ | refine wSl_lstF ?_)
local macro_rules | `(tactic| walk_at "obj") => `(tactic| refine ⟨_, _, _, rfl, by assumption, rfl, ?_⟩)
local macro_rules | `(tactic| walk_at "len") => `(tactic| first | refine wC_len (.tup _) ?_ | refine wC_len (.lst _) ?_ | refine wC_len (.loc (by assumption)) ?_)
section
variable {P : Program} {w : World} {mg : Str → Option Value} {base : Heap} {K : PySem.W.Frag} {CL CP CG CTL CTe CPr CPo CNV CTG CCo CS pT : Addr} {k : Nat}
abbrev s__law_go : Stmt := topS 51
abbrev N__law_go : List Str := ["_law_plain", "_law_body", "_law_rows", "_law_places", "_law_deeds", "_law_item", "_law_turn"]
theorem sc__law_go : FnScope N__law_go ["_law_plain", "_law_body", "_law_rows", "_law_places", "_law_deeds"] (defScope s__law_go) := ⟨rfl, rfl, rfl, by decide +kernel, rfl, by decide +kernel, by decide +kernel⟩
theorem ok__law_go {n : Nat}  {f : Addr} {fd : FuncData} (TX : Txt K mg w CL CP CG CTL CTe CPr CPo CNV CTG CCo CS pT) (C__law_go : Cal P w K mg base n "_law_go" (c__law_go k)) (C__law_done : Cal P w K mg base n "_law_done" (c__law_done k)) (F : Fun K "_law_go" "_law_go" s__law_go f fd) : FnD P w K mg base CX0 (n + 1) f fd ["_law_plain", "_law_body", "_law_rows", "_law_places", "_law_deeds"] (c__law_go (k + 1)) := by
  refine fnD F sc__law_go (fun xs μ Q E hc => by obtain ⟨g, rl, nl, dl, s, N, T, b, rfl, hp6, lw, hd, hr, fit, hT, hl, q⟩ := hc; rfl) (fun cdv Ao outer s H E xs μ Q E0 ar hc => ?_)
  obtain ⟨g, rl, nl, dl, s, N, T, b, rfl, hp6, lw, hd, hr, fit, hT, hl, q⟩ := hc
  have nd := sc__law_go.nd
  refine wSs_cons (wS_for (wIt_tup (wE_name 1 rfl ⟨_, rfl, ?_⟩)))
  have up := goF_up g.parts k
  have fin : ∀ i, ((b.take i).foldl (oneF g.parts (goF g.parts k)) (N, s)).2.le (goF g.parts (k + 1) b N s).2 := fun i => fold_take_le up b i (N, s)
  refine ⟨fun i Γ' μ' => ∃ x1 x2, Γ' = [some g.a, some (.tup (aIts b)), some (.loc rl), some (.loc nl), some (.loc dl), x1, x2] ∧ LwAt rl dl nl ((b.take i).foldl (oneF g.parts (goF g.parts k)) (N, s)).1 ((b.take i).foldl (oneF g.parts (goF g.parts k)) (N, s)).2 μ' ∧ ((b.take i).foldl (oneF g.parts (goF g.parts k)) (N, s)).2.deeds ≤ 20000 ∧ ((b.take i).foldl (oneF g.parts (goF g.parts k)) (N, s)).2.rows.length ≤ 7000 ∧ Ke [rl, nl, dl] μ μ', ⟨_, _, rfl, lw, hd, hr, .refl _ _⟩, fun i y Γ' μ' hy hI => ?_, fun Γ' μ' hI => ?_⟩
  obtain ⟨x1, x2, rfl, lw1, hd1, hr1, ke1⟩ := hI
  obtain ⟨x, hx, rfl⟩ := aIts_at hy
  have es := fold_snoc (oneF g.parts (goF g.parts k)) hx (N, s)
  have fi := fin (i + 1)
  have has1 : HasN ((b.take i).foldl (oneF g.parts (goF g.parts k)) (N, s)).1 (toldIts (b.take i) T) := fold_has (goF_has g.parts k) (b.take i) T (N, s) hT (fitAll_take i fit)
  have len1 : ((b.take i).foldl (oneF g.parts (goF g.parts k)) (N, s)).1.length ≤ 10 + ((b.take i).foldl (oneF g.parts (goF g.parts k)) (N, s)).2.deeds := fold_len up (goF_len g.parts k) (b.take i) (N, s) hl
  have fit1 : fitOne g.parts (fitsF g.parts k) (toldIts (b.take i) T) x := fitAll_at fit hx
  rw [es, oneF_turns] at fi
  rw [oneF_turns] at es
  generalize (b.take i).foldl (oneF g.parts (goF g.parts k)) (N, s) = st at lw1 hd1 hr1 has1 len1 fi es
  generalize toldIts (b.take i) T = T1 at has1 fit1
  obtain ⟨w0, rest, ea⟩ : ∃ w0 rest, x.a = .tup (.str w0 :: rest) := by cases x <;> exact ⟨_, _, rfl⟩
  refine wG_name 5 ?_ nd
  refine wSs_cons (wS_for (wIt_range1 TX.b_range (wA_cons ?_)))
  rw [ea]
  refine wE.imp (Q := fun z μ2 => z = .int (turnsN x : Nat) ∧ μ' = μ2) ?_ (fun z μ2 hz => ?_)
  refine wE_if (wT_cmp (wE_ix (wE_name 5 rfl (wE_int ?_))))
  refine wI_tup (atI_pos (i := 0) (y := .str w0) (by rfl) (by decide)) ?_
  refine wE_str ?_
  refine wO_eqS ?_
  refine ⟨_, rfl, ?_⟩
  refine ⟨fun hk => ?_, fun hk => ?_⟩
  refine wE_ix (wE_name 5 rfl (wE_int ?_))
  obtain ⟨n1, b1, rfl⟩ : ∃ n1 b1, x = .rep n1 b1 := by
    cases x with
    | rep n1 b1 => exact ⟨_, _, rfl⟩
    | row x0 w1 ts =>
      have e2 : w0 = "row" := by simp only [It.a] at ea; cases ea; rfl
      exact absurd ((of_decide_eq_true hk).symm.trans e2) (by decide +kernel)
  cases (show D.A.tup [.str "repeat", .int n1, .tup (aIts b1)] = D.A.tup (.str w0 :: rest) from ea)
  refine wI_tup (atI_pos (i := 1) (y := .int n1) (by rfl) (by decide)) ?_
  have lo : 1 ≤ n1 := fit1.1
  exact ⟨by show D.A.int n1 = .int ((n1.toNat : Nat) : Int); rw [Int.toNat_of_nonneg (by omega)], rfl⟩
  refine wE_int ?_
  cases x with
  | rep n1 b1 =>
    have e2 : w0 = "repeat" := by simp only [It.a] at ea; cases ea; rfl
    exact absurd e2 (of_decide_eq_false hk)
  | row x0 w1 ts => exact ⟨rfl, rfl⟩
  obtain ⟨rfl, rfl⟩ := hz
  have tl : turnsN x ≤ 200 := by
    cases x with
    | row x0 w1 ts => show 1 ≤ 200; decide
    | rep n1 b1 => have h2 : n1 ≤ 200 := fit1.2.1; show n1.toNat ≤ 200; omega
  refine wA_nil ⟨_, rfl, by omega, by omega, ?_⟩
  refine ⟨fun j Γ' μ' => ∃ x2, Γ' = [some g.a, some (.tup (aIts b)), some (.loc rl), some (.loc nl), some (.loc dl), some (.tup (.str w0 :: rest)), x2] ∧ LwAt rl dl nl (timesF (turnF g.parts (goF g.parts k) x) j st).1 (timesF (turnF g.parts (goF g.parts k) x) j st).2 μ' ∧ (timesF (turnF g.parts (goF g.parts k) x) j st).2.deeds ≤ 20000 ∧ (timesF (turnF g.parts (goF g.parts k) x) j st).2.rows.length ≤ 7000 ∧ Ke [rl, nl, dl] μ μ', ⟨_, rfl, lw1, hd1, hr1, ke1⟩, fun j y Γ' μ2 hy hI => ?_, fun Γ' μ2 hI => ?_⟩
  obtain ⟨x3, rfl, lw2, hd2, hr2, ke2⟩ := hI
  obtain ⟨lt, rfl⟩ := rgA_at hy
  have lt2 : j < turnsN x := by simpa using lt
  have es2 := timesF_snoc (turnF g.parts (goF g.parts k) x) j st
  have upF : ∀ st : Nm × Gs, st.2.le (turnF g.parts (goF g.parts k) x st).2 := fun st => st.2.le_more.trans (turn_le up x st)
  have fj : (timesF (turnF g.parts (goF g.parts k) x) (j + 1) st).2.le (goF g.parts (k + 1) b N s).2 := (times_up upF (by omega) st).trans fi
  have has2 := times_has (f := turnF g.parts (goF g.parts k) x) (fun st q => turn_has (goF_has g.parts k) fit1 st q) j st has1
  have len2 := times_len (f := turnF g.parts (goF g.parts k) x) (fun st q => turn_len up (goF_len g.parts k) x st q) j st len1
  rw [es2] at fj
  generalize timesF (turnF g.parts (goF g.parts k) x) j st = st2 at lw2 hd2 hr2 has2 len2 fj es2
  obtain ⟨N2, s2⟩ := st2
  have lw2 : LwAt rl dl nl N2 s2 μ2 := lw2
  have mg2 : s2.more.le (goF g.parts (k + 1) b N s).2 := (turn_le up x (N2, s2)).trans fj
  have lw3 := lw2.more
  have ke3 : Ke [rl, nl, dl] μ (μ2.upd dl (.lst [.int ((s2.deeds : Nat) + 1)])) := ke2.put (by simp)
  refine wG_name 6 ?_ nd
  refine wSs_cons (wS_asg (wE_bin (wE_ix (wE_name 4 rfl (wE_int ?_)))))
  refine wI_loc lw2.d (atI_pos (i := 0) (y := .int (s2.deeds : Nat)) (by rfl) (by decide)) ?_
  refine wE_int ?_
  refine wO_add ?_
  refine wG_sub (wE_name 4 rfl (wE_int ?_))
  refine ⟨dl, _, 0, 0, rfl, rfl, lw2.d, rfl, ?_⟩
  refine wSs_cons (wS_if ?_)
  refine wT.imp (QB := fun k2 μ3 => μ2.upd dl (.lst [.int ((s2.deeds : Nat) + 1)]) = μ3 ∧ (k2 = true ↔ ¬ s2.more.good)) ?_ (fun k2 μ3 hq => ?_)
  refine wT_chain (wW_or (wT_cmp (wE_ix (wE_name 4 rfl (wE_int ?_)))))
  refine wI_loc lw3.d (atI_pos (i := 0) (y := .int (s2.more.deeds : Nat)) (by rfl) (by decide)) ?_
  refine wE_int ?_
  refine wO_gt ?_
  refine ⟨_, rfl, ?_⟩
  refine ⟨fun hk => ?_, fun hk => ?_⟩
  · have h := of_decide_eq_true hk
    exact ⟨rfl, fun _ z => by have := z.2; omega, fun _ => rfl⟩
  refine wW_or1 (wT_cmp (wE_callB (id := "len") TX.b_len (by decide +kernel) (wA_cons (wE_name 2 rfl (wA_nil ?_)))))
  refine wC_len (.loc lw3.r) ?_
  refine wE_int ?_
  refine wO_gt ?_
  refine ⟨_, rfl, ?_⟩
  have h := of_decide_eq_false hk
  refine ⟨rfl, fun z1 z2 => ?_, fun z1 => ?_⟩
  · have h2 := of_decide_eq_true z1
    have := z2.1
    have e : s2.more.rows = s2.rows := rfl
    omega
  · refine decide_eq_true ?_
    refine Classical.byContradiction fun z2 => z1 ⟨?_, ?_⟩
    · omega
    · omega
  obtain ⟨rfl, hq⟩ := hq
  refine ⟨fun hk => ?_, fun hk => ?_⟩
  refine wSs_cons (wS_ret (wE_bl ?_))
  exact q false _ ke3 (fun z => nomatch z) fun _ z => (hq.mp hk) (mg2.good z)
  refine wSs_nil ?_
  have gd : s2.more.good := Classical.byContradiction fun z => by have := hq.mpr z; rw [hk] at this; cases this
  refine wSs_cut (fun Γ' μ' => ∃ x2, Γ' = [some g.a, some (.tup (aIts b)), some (.loc rl), some (.loc nl), some (.loc dl), some (.tup (.str w0 :: rest)), x2] ∧ LwAt rl dl nl (turnF g.parts (goF g.parts k) x (N2, s2)).1 (turnF g.parts (goF g.parts k) x (N2, s2)).2 μ' ∧ (turnF g.parts (goF g.parts k) x (N2, s2)).2.deeds ≤ 20000 ∧ (turnF g.parts (goF g.parts k) x (N2, s2)).2.rows.length ≤ 7000 ∧ Ke [rl, nl, dl] μ μ') ?_ (fun Γ' μ' hP => ?_)
  refine wS_if (wT_cmp (wE_ix (wE_name 5 rfl (wE_int ?_))))
  refine wI_tup (atI_pos (i := 0) (y := .str w0) (by rfl) (by decide)) ?_
  refine wE_str ?_
  refine wO_eqS ?_
  refine ⟨_, rfl, ?_⟩
  refine ⟨fun hk => ?_, fun hk => ?_⟩
  refine wSs_cons (wS_if (wT_not (wT_val (wE_cal C__law_go ar (by omega) (wA_cons (wE_name 0 rfl (wA_cons (wE_ix (wE_name 5 rfl (wE_int ?_))))))))))
  obtain ⟨n1, b1, rfl⟩ : ∃ n1 b1, x = .rep n1 b1 := by
    cases x with
    | rep n1 b1 => exact ⟨_, _, rfl⟩
    | row x0 w1 ts =>
      have e2 : w0 = "row" := by simp only [It.a] at ea; cases ea; rfl
      exact absurd ((of_decide_eq_true hk).symm.trans e2) (by decide +kernel)
  cases (show D.A.tup [.str "repeat", .int n1, .tup (aIts b1)] = D.A.tup (.str w0 :: rest) from ea)
  refine wI_tup (atI_pos (i := 2) (y := .tup (aIts b1)) (by rfl) (by decide)) ?_
  refine wA_cons (wE_name 2 rfl (wA_cons (wE_name 3 rfl (wA_cons (wE_name 4 rfl (wA_nil ?_))))))
  refine ⟨g, rl, nl, dl, s2.more, N2, T1, b1, rfl, hp6, lw3, gd.2, by have := gd.1; omega, fit1.2.2, has2, by have e : s2.more.deeds = s2.deeds + 1 := rfl; have len2 : N2.length ≤ 10 + s2.deeds := len2; omega, fun r μ4 ke4 h1 h2 => ?_⟩
  refine ⟨_, rfl, ?_⟩
  refine ⟨fun hk => ?_, fun hk => ?_⟩
  refine wSs_cons (wS_ret (wE_bl ?_))
  exact q false _ (ke3.trans ke4) (fun z => nomatch z) fun _ z => h2 (by simpa using hk) (fj.good z)
  refine wSs_nil ?_
  refine wSs_nil ?_
  obtain ⟨h3, h4⟩ := h1 (by simpa using hk)
  exact ⟨_, rfl, h3, h4.2, Nat.le_trans h4.1 (by decide), ke3.trans ke4⟩
  refine wSs_cons (wS_if (wT_not (wT_val (wE_cal C__law_done ar (by omega) (wA_cons (wE_name 0 rfl (wA_cons (wE_name 5 rfl (wA_cons (wE_name 2 rfl (wA_cons (wE_name 3 rfl (wA_cons (wE_name 4 rfl (wA_nil ?_)))))))))))))))
  obtain ⟨x0, w1, ts, rfl⟩ : ∃ x0 w1 ts, x = .row x0 w1 ts := by
    cases x with
    | row x0 w1 ts => exact ⟨_, _, _, rfl⟩
    | rep n1 b1 =>
      have e2 : w0 = "repeat" := by simp only [It.a] at ea; cases ea; rfl
      exact absurd e2 (of_decide_eq_false hk)
  cases (show D.A.tup [.str "row", .str x0, .str w1, .tup ts] = D.A.tup (.str w0 :: rest) from ea)
  refine ⟨g, rl, nl, dl, s2, N2, T1, x0, w1, ts, rfl, hp6, lw3, gd, fit1, has2, len2, fun r μ4 ke4 h1 h2 => ?_⟩
  refine ⟨_, rfl, ?_⟩
  refine ⟨fun hk => ?_, fun hk => ?_⟩
  refine wSs_cons (wS_ret (wE_bl ?_))
  exact q false _ (ke3.trans ke4) (fun z => nomatch z) fun _ z => h2 (by simpa using hk) (fj.good z)
  refine wSs_nil ?_
  refine wSs_nil ?_
  obtain ⟨h3, h4, h5⟩ := h1 (by simpa using hk)
  exact ⟨_, rfl, h3, h4, h5, ke3.trans ke4⟩
  refine wSs_nil ?_
  obtain ⟨x4, rfl, h1, h2, h3, h4⟩ := hP
  refine ⟨x4, rfl, ?_⟩
  rw [es2]
  exact ⟨h1, h2, h3, h4⟩
  obtain ⟨x3, rfl, lw2, hd2, hr2, ke2⟩ := hI
  rw [rgA_len, Int.toNat_natCast] at lw2 hd2 hr2
  refine wSs_nil ?_
  refine ⟨_, _, rfl, ?_⟩
  rw [es]
  exact ⟨lw2, hd2, hr2, ke2⟩
  obtain ⟨x1, x2, rfl, lw1, hd1, hr1, ke1⟩ := hI
  rw [aIts_len, List.take_length] at lw1 hd1 hr1
  refine wSs_cons (wS_ret (wE_cmp (wE_callB (id := "len") TX.b_len (by decide +kernel) (wA_cons (wE_name 2 rfl (wA_nil ?_))))))
  refine wC_len (.loc lw1.r) ?_
  refine wE_int ?_
  refine wO_lt ?_
  refine q _ _ ke1 (fun z => ⟨lw1, ?_, hd1⟩) fun z z2 => ?_
  · have := of_decide_eq_true z
    show (b.foldl (oneF g.parts (goF g.parts k)) (N, s)).2.rows.length ≤ 5000
    omega
  · have h1 := of_decide_eq_false z
    have h2 : (b.foldl (oneF g.parts (goF g.parts k)) (N, s)).2.rows.length ≤ 5000 := z2.1
    omega

end
end D

set_option Elab.async false
set_option linter.all false
set_option maxRecDepth 100000
set_option maxHeartbeats 4000000
namespace D
open PySem PySem.Spec PyProof.Rows L2
local macro_rules | `(tactic| walk_at "mul") => `(tactic| first | refine wO_mul (mulR (by first | decide | omega) (by first | decide | omega)) ?_ | refine wO_mul (mulL (by first | decide | omega) (by first | decide | omega)) ?_)
local macro_rules | `(tactic| walk_at "mod") => `(tactic| refine wO_mod (by first | decide | omega) ?_)
local macro_rules | `(tactic| walk_at "fdiv") => `(tactic| refine wO_fdiv (by first | decide | omega) (divS (by first | decide | omega)) ?_)
local macro_rules | `(tactic| walk_at "ix") => `(tactic| first | refine wI_tup (by rfl) ?_ | refine wI_lst (by rfl) ?_)
local macro_rules | `(tactic| walk_at "sl") => `(tactic| first | refine wSl_tup ?_ | refine wSl_lstF ?_)
local macro_rules | `(tactic| walk_at "obj") => `(tactic| refine ⟨_, _, _, rfl, by assumption, rfl, ?_⟩)
local macro_rules | `(tactic| walk_at "len") => `(tactic| first | refine wC_len (.tup _) ?_ | refine wC_len (.lst _) ?_ | refine wC_len (.loc (by assumption)) ?_)
section
variable {P : Program} {w : World} {mg : Str → Option Value} {base : Heap} {K : PySem.W.Frag} {CL CP CG CTL CTe CPr CPo CNV CTG CCo CS pT : Addr} {k : Nat}
abbrev s__law_straight : Stmt := topS 52
abbrev N__law_straight : List Str := ["_law_plain", "_law_rows", "_law_name", "_law_places", "_law_k"]
theorem sc__law_straight : FnScope N__law_straight ["_law_plain"] (defScope s__law_straight) := ⟨rfl, rfl, rfl, by decide +kernel, rfl, by decide +kernel, by decide +kernel⟩
def c__law_straight (k : Nat) : AC := fun xs μ Q _ => ∃ g : Pg, xs = [g.a] ∧ g.ok ∧ fitsF g.parts k g.ins g.body ∧
  ((g.run k).2.good → ∀ (rl : Addr) (μ' : Mu), Sub μ μ' → μ rl = none → μ' rl = some (.lst (g.run k).2.rows) → Q (.tup [.loc rl, .lst (g.outsAt k)]) μ') ∧ (¬ (g.run k).2.good → ∀ μ', Sub μ μ' → Q .non μ')
theorem ok__law_straight {n : Nat}  {f : Addr} {fd : FuncData} (TX : Txt K mg w CL CP CG CTL CTe CPr CPo CNV CTG CCo CS pT) (C__law_go : Cal P w K mg base n "_law_go" (c__law_go k)) (F : Fun K "_law_straight" "_law_straight" s__law_straight f fd) : FnD P w K mg base CX0 (n + 1) f fd ["_law_plain"] (c__law_straight k) := by
  refine fnD F sc__law_straight (fun xs μ Q E hc => by obtain ⟨g, rfl, ok, fit, q1, q2⟩ := hc; rfl) (fun cdv Ao outer s H E xs μ Q E0 ar hc => ?_)
  obtain ⟨g, rfl, ok, fit, q1, q2⟩ := hc
  have nd := sc__law_straight.nd
  refine wSs_cons (wS_setLc [("_law_name", 2)] 1 (lcMap (wIt_tup (wE_ix (wE_name 0 rfl (wE_int ?_))))) nd (blkOk_by (N := N__law_straight) (sc := defScope s__law_straight) (by decide +kernel)) (sw_true rfl rfl rfl (by decide +kernel)))
  refine wI_tup (atI_pos (i := 1) (y := .tup (g.ins.map D.A.str)) (by rfl) (by decide)) ?_
  refine ⟨_, rfl, ?_⟩
  refine ⟨szOk (by rw [List.length_map]; have := ok.i6; omega), g.ins.map fun _ => inRow, by simp, fun i y z hy hz s0 H0 C cl fp => ?_, fun rl nrl => ?_⟩
  obtain ⟨w1, hw, rfl⟩ := map_at hy
  obtain ⟨w2, hw2, rfl⟩ := map_at hz
  refine wGw_name 2 (⟨rfl, fun s0 H0 C cl fp => (wE_tup (wA_cons (wE_str (wA_cons (wE_tup (wA_nil ⟨by show 0 ≤ sizeLine; decide, (wA_cons (wE_non (wA_nil ⟨by show 3 ≤ sizeLine; decide, ?_⟩)))⟩))))))⟩) nd
  refine ⟨?_, .refl _⟩
  rfl
  refine wSs_cons (wS_set 3 (wE_callTy (T := "dict") TX.b_dict (by decide +kernel) (wA_cons (wE_lcF (own := [("_law_k", 4), ("_law_name", 2)]) (wIt_enumT TX.b_enumerate (wA_cons (wE_ix (wE_name 0 rfl (wE_int ?_))))) nd (blkOk_by (N := N__law_straight) (sc := defScope s__law_straight) (by decide +kernel))))) nd)
  refine wI_tup (atI_pos (i := 1) (y := .tup (g.ins.map D.A.str)) (by rfl) (by decide)) ?_
  refine wA_nil ⟨_, rfl, ?_⟩
  refine ⟨szOk (by rw [enumA_len, List.length_map]; have := ok.i6; omega), (Pk (stN g.ins 0)).map (fun kv => D.A.tup [kA kv.1, kv.2]), by rw [enumA_len]; simp [stN_len], fun i y z hy hz s0 H0 C cl fp => ?_, ?_⟩
  obtain ⟨x1, hx, rfl⟩ := enumA_at hy
  obtain ⟨w1, hw, rfl⟩ := map_at hx
  have hz2 : z = .tup [.str w1, .int (i : Nat)] := by
    have e : (stN g.ins 0)[i]? = some (w1, (i : Int)) := by rw [stN_at, hw]; simp
    rw [List.map_map, List.getElem?_map, e] at hz
    exact (Option.some.inj hz).symm
  refine wGw_tup2 4 2 ⟨rfl, fun s0 H0 C cl fp => (wE_tup (wA_cons (wE_name 2 rfl (wA_cons (wE_name 4 rfl (wA_nil ⟨by show 2 ≤ sizeLine; decide, ?_⟩))))))⟩ nd
  refine ⟨?_, .refl _⟩
  rw [hz2]
  refine wA_nil ?_
  refine wC_dictP (kvs := Pk (stN g.ins 0)) rfl (.lst _) (fun nl nnl => ?_)
  rw [merge_stN ok.unl]
  have n1 : nl ≠ rl := fun z => by rw [z, Mu.upd_same] at nnl; cases nnl
  have nnl0 : μ nl = none := by rw [Mu.upd_ne n1] at nnl; exact nnl
  refine wSs_cons (wS_if (wT_not (wT_val (wE_cal C__law_go ar (by omega) (wA_cons (wE_name 0 rfl (wA_cons (wE_ix (wE_name 0 rfl (wE_int ?_))))))))))
  refine wI_tup (atI_pos (i := 2) (y := .tup (aIts g.body)) (by rfl) (by decide)) ?_
  refine wA_cons (wE_name 1 rfl (wA_cons (wE_name 3 rfl (wA_cons (wE_lst (wA_cons (wE_int (wA_nil ⟨by show 1 ≤ sizeLine; decide, fun pl npl => (wA_nil ?_)⟩))))))))
  have d1 : pl ≠ nl := fun z => by rw [z, Mu.upd_same] at npl; cases npl
  have npl1 : (μ.upd rl (.lst (g.ins.map fun _ => inRow))) pl = none := by rw [Mu.upd_ne d1] at npl; exact npl
  have d2 : pl ≠ rl := fun z => by rw [z, Mu.upd_same] at npl1; cases npl1
  have npl0 : μ pl = none := by rw [Mu.upd_ne d2] at npl1; exact npl1
  have i6 := ok.i6
  have none3 : ∀ z ∈ [rl, nl, pl], μ z = none := by
    intro z hz
    rcases (show z = rl ∨ z = nl ∨ z = pl by simpa using hz) with rfl | rfl | rfl
    · exact nrl
    · exact nnl0
    · exact npl0
  refine ⟨g, rl, nl, pl, g.start, stN g.ins 0, g.ins, g.body, rfl, ok.p6, ⟨by rw [Mu.upd_ne (Ne.symm d2), Mu.upd_ne (Ne.symm n1)]; exact Mu.upd_same, Mu.upd_same, by rw [Mu.upd_ne (Ne.symm d1)]; exact Mu.upd_same, n1, Ne.symm d1, Ne.symm d2⟩, Nat.zero_le _, by show (g.ins.map fun _ => inRow).length ≤ 7000; rw [List.length_map]; omega, fit, stN_has _ _, by rw [stN_len]; omega, fun r μ4 ke4 h1 h2 => ?_⟩
  have sub4 : Sub μ μ4 := ((((Ke.upd (p := rl) (by simp)).put (p := nl) (by simp)).put (p := pl) (by simp)).trans ke4).all none3
  refine ⟨_, rfl, ?_⟩
  refine ⟨fun hk => ?_, fun hk => ?_⟩
  refine wSs_cons (wS_ret (wE_non ?_))
  exact q2 (h2 (by simpa using hk)) _ sub4
  refine wSs_nil ?_
  refine wSs_cons (wS_ret (wE_tup (wA_cons (wE_name 1 rfl (wA_cons (wE_lcF (own := [("_law_name", 2)]) (wIt_tup (wE_ix (wE_name 0 rfl (wE_int ?_)))) nd (blkOk_by (N := N__law_straight) (sc := defScope s__law_straight) (by decide +kernel))))))))
  refine wI_tup (atI_pos (i := 3) (y := .tup (g.outs.map D.A.str)) (by rfl) (by decide)) ?_
  refine ⟨_, rfl, ?_⟩
  obtain ⟨lw4, gd4⟩ := h1 (by simpa using hk)
  have hall : HasN (g.run k).1 (toldIts g.body g.ins) := goF_has g.parts k g.body (stN g.ins 0) g.start g.ins fit (stN_has _ _)
  refine ⟨szOk (by rw [List.length_map]; have := ok.o4; omega), g.outsAt k, by simp [Pg.outsAt], fun i y z hy hz s0 H0 C cl fp => ?_, ?_⟩
  obtain ⟨w1, hw, rfl⟩ := map_at hy
  obtain ⟨w2, hw2, rfl⟩ := map_at hz
  obtain rfl : w1 = w2 := Option.some.inj (hw.symm.trans hw2)
  obtain ⟨i1, hi⟩ := hall w1 (ok.outs w1 (List.mem_of_getElem? hw)).2
  refine wGw_name 2 (⟨rfl, fun s0 H0 C cl fp => (wE_dget ar.bk (wE_name 3 rfl (wE_name 2 rfl ?_)))⟩) nd
  refine ⟨nl, _, .inr w1, .int i1, rfl, lw4.n, rfl, by rw [valA_Pk, show valI (goF g.parts k g.body (stN g.ins 0) g.start).1 w1 = some i1 from hi]; rfl, ?_⟩
  refine ⟨?_, .refl _⟩
  rw [hi]; rfl
  refine wA_nil ⟨by show 2 ≤ sizeLine; decide, ?_⟩
  exact q1 gd4 rl μ4 sub4 nrl lw4.r

end
end D

set_option Elab.async false
set_option linter.all false
set_option maxRecDepth 100000
set_option maxHeartbeats 4000000
/-! P10d: 28 steps down are enough for any good program. -/
namespace D
open PySem PySem.Spec PyProof.Rows L2
theorem fitAll_mono {one one' : List Str → It → Prop} (h : ∀ T x, one T x → one' T x) : ∀ {b : List It} {T : List Str}, fitAll one T b → fitAll one' T b
  | [], _, _ => trivial
  | x :: b, T, k => ⟨h T x k.1, fitAll_mono h k.2⟩
theorem RowFit.mono {ps : List Pt} {fits fits' : List Str → List It → Prop} (h : ∀ T b, fits T b → fits' T b) {T : List Str} {w : Str} {ts : List A} (k : RowFit ps fits T w ts) : RowFit ps fits' T w ts := by
  rcases k with ⟨h1, c, r, p, h2, h3, h4, h5, h6, h7, h8⟩ | k | k
  · exact .inl ⟨h1, c, r, p, h2, h3, h4, h5, h6, h _ _ h7, h8⟩
  · exact .inr (.inl k)
  · exact .inr (.inr k)
theorem fitOne_mono {ps : List Pt} {fits fits' : List Str → List It → Prop} (h : ∀ T b, fits T b → fits' T b) (T : List Str) (x : It) (k : fitOne ps fits T x) : fitOne ps fits' T x := by
  cases x with
  | row x w ts => exact RowFit.mono h k
  | rep n b => exact ⟨k.1, k.2.1, h _ _ k.2.2⟩
theorem fits_succ (ps : List Pt) : ∀ (f : Nat) (T : List Str) (b : List It), fitsF ps f T b → fitsF ps (f + 1) T b
  | 0, _, _, h => h.elim
  | f + 1, T, b, h => fitAll_mono (fitOne_mono (fits_succ ps f)) h
theorem fits_le (ps : List Pt) {f f' : Nat} (le : f ≤ f') {T : List Str} {b : List It} (h : fitsF ps f T b) : fitsF ps f' T b := by
  obtain ⟨d, rfl⟩ := Nat.exists_eq_add_of_le le
  clear le
  induction d with
  | zero => exact h
  | succ d ih => exact fits_succ ps _ T b ih
/-- the parts told so far are there, f steps down are enough for each -/
def GoodP (ps : List Pt) (Pn : List (Str × Int)) (f : Nat) : Prop := ∀ c n, valI Pn c = some n → ∃ p, ps.find? (fun p => decide (p.nm = c)) = some p ∧ (p.ins.length : Int) = n ∧ p.ins.length ≤ 4 ∧ p.ins.Nodup ∧ fitsF ps f p.ins p.body ∧ p.give ∈ toldIts p.body p.ins
theorem row_fit {ps : List Pt} {Pn : List (Str × Int)} {f n : Nat} (G : GoodP ps Pn f) (le : f ≤ n) {T : List Str} {w : Str} {ts : List A} (h : RowOk Pn T w ts) (hl : ts.length ≤ 1000) : RowFit ps (fitsF ps n) T w ts := by
  rcases h with ⟨h1, c, r, h2, h3, _, _, h6⟩ | ⟨h1, a, e, h2, h3, _⟩ | ⟨h1, h2, h3, h4⟩
  · obtain ⟨p, p1, p2, p3, p4, p5, p6⟩ := G c _ h3
    exact .inl ⟨h1, c, r, p, h2, p1, by omega, p3, p4, fits_le ps le p5, p6, h6⟩
  · exact .inr (.inl ⟨h1, a, e, h2, h3⟩)
  · exact .inr (.inr ⟨h1, h2, (RowOk.dat (Pn := Pn) (.inr (.inr ⟨h1, h2, h3, h4⟩))).2.2.2, hl, h4⟩)
mutual
theorem item_fit {ps : List Pt} {Pn : List (Str × Int)} {f : Nat} (G : GoodP ps Pn f) : ∀ (x : It) (d n : Nat) (T : List Str), n + 1 + d = f + 4 → d ≤ 3 → x.ok Pn d T → x.tsOk → fitOne ps (fitsF ps n) T x
  | .row x w ts, d, n, T, e, hd, h, hl => by
    simp only [It.ok] at h
    simp only [It.tsOk] at hl
    exact row_fit G (by omega) h.2.2 hl
  | .rep m b, d, n, T, e, hd, h, hl => by
    simp only [It.ok] at h
    simp only [It.tsOk] at hl
    obtain ⟨h1, h2, h3, h4⟩ := h
    obtain ⟨n', rfl⟩ : ∃ n', n = n' + 1 := ⟨n - 1, by omega⟩
    exact ⟨h2, h3, body_fit G b (d + 1) n' T (by omega) (by omega) h4 hl⟩
theorem body_fit {ps : List Pt} {Pn : List (Str × Int)} {f : Nat} (G : GoodP ps Pn f) : ∀ (b : List It) (d n : Nat) (T : List Str), n + 1 + d = f + 4 → d ≤ 3 → okIts Pn d T b → tsIts b → fitAll (fitOne ps (fitsF ps n)) T b
  | [], _, _, _, _, _, _, _ => trivial
  | x :: b, d, n, T, e, hd, h, hl => by
    simp only [okIts] at h
    simp only [tsIts] at hl
    exact ⟨item_fit G x d n T e hd h.1 hl.1, body_fit G b d n _ e hd h.2 hl.2⟩
end
theorem parts_fit {ps : List Pt} (nd : (ps.map (·.nm)).Nodup) : ∀ (l : List Pt) (Pn : List (Str × Int)) (f : Nat), (∀ q ∈ l, q ∈ ps) → okPts Pn l → GoodP ps Pn f → GoodP ps (Pn ++ pnPts l) (f + 4 * l.length)
  | [], Pn, f, _, _, G => by simpa using G
  | q :: l, Pn, f, hs, h, G => by
    simp only [okPts] at h
    have find : ps.find? (fun p => decide (p.nm = q.nm)) = some q := by
      have hq := hs q (.head _)
      clear hs h G
      induction ps with
      | nil => cases hq
      | cons p ps ih =>
        rw [List.map_cons, List.nodup_cons] at nd
        rw [List.find?_cons]
        rcases List.mem_cons.mp hq with rfl | hq
        · simp
        · have ne : ¬ p.nm = q.nm := fun e => nd.1 (List.mem_map.mpr ⟨q, hq, e.symm⟩)
          simp only [ne, decide_false]
          exact ih nd.2 hq
    have G2 : GoodP ps (Pn ++ [(q.nm, (q.ins.length : Int))]) (f + 4) := by
      intro c n e
      unfold valI at e
      rw [List.find?_append] at e
      cases e1 : Pn.find? (fun kv => decide (kv.1 = c)) with
      | some kv =>
        rw [e1] at e
        obtain ⟨p, p1, p2, p3, p4, p5, p6⟩ := G c n (by unfold valI; rw [e1]; simpa using e)
        exact ⟨p, p1, p2, p3, p4, fits_le ps (by omega) p5, p6⟩
      | none =>
        rw [e1] at e
        by_cases ec : q.nm = c
        · subst ec
          have en : (q.ins.length : Int) = n := by simpa using e
          exact ⟨q, find, en, h.1.i4, h.1.unl, body_fit G q.body 0 (f + 3) q.ins (by omega) (by omega) h.1.body h.1.ts, h.1.give⟩
        · simp [ec] at e
    have k := parts_fit nd l _ (f + 4) (fun x hx => hs x (.tail _ hx)) h.2 G2
    rw [List.append_assoc] at k
    have e : f + 4 + 4 * l.length = f + 4 * (q :: l).length := by simp only [List.length_cons]; omega
    rw [← e]
    exact k
theorem Pg.fits {g : Pg} (ok : g.ok) : fitsF g.parts 28 g.ins g.body := by
  have G0 : GoodP g.parts [] 0 := fun c n e => by simp [valI] at e
  have G := parts_fit (okPts_nodup ok.parts).1 g.parts [] 0 (fun _ h => h) ok.parts G0
  have p6 := ok.p6
  refine fits_le g.parts (f := 0 + 4 * g.parts.length + 3 + 1) (by omega) ?_
  exact body_fit G g.body 0 (0 + 4 * g.parts.length + 3) g.ins (by omega) (by omega) (by simpa using ok.body) ok.ts
end D

set_option Elab.async false
set_option linter.all false
set_option maxRecDepth 100000
set_option maxHeartbeats 4000000
/-! P15: a program with other names goes the same way (no program in sight). -/
namespace D
open PySem PySem.Spec PyProof.Rows L2
/-- f keeps apart what lies in S -/
def Apart (f : Str → Str) (S : List Str) : Prop := ∀ a ∈ S, ∀ b ∈ S, f a = f b → a = b
def thR (f : Str → Str) : A → A
  | .str w => .str (f w)
  | x => x
def tsR (f t : Str → Str) (w : Str) (ts : List A) : List A :=
  if w = "call" then match ts with
    | .str c :: r => .str (t c) :: r.map (thR f)
    | r => r
  else ts.map (thR f)
mutual
def It.ren (f t : Str → Str) : It → It
  | .row x w ts => .row (f x) w (tsR f t w ts)
  | .rep n b => .rep n (renIts f t b)
def renIts (f t : Str → Str) : List It → List It
  | [] => []
  | i :: r => i.ren f t :: renIts f t r
end
def Pt.ren (f t : Str → Str) (q : Pt) : Pt := ⟨t q.nm, q.ins.map f, renIts f t q.body, f q.give⟩
def Pg.ren (f t : Str → Str) (g : Pg) : Pg := ⟨g.parts.map (Pt.ren f t), g.ins.map f, renIts f t g.body, g.outs.map f⟩
abbrev nmR (f : Str → Str) (N : Nm) : Nm := N.map fun p => (f p.1, p.2)
mutual
/-- all that rows tell lies in S -/
def It.inS (S : List Str) : It → Prop
  | .row x _ _ => x ∈ S
  | .rep _ b => inIts S b
def inIts (S : List Str) : List It → Prop
  | [] => True
  | i :: r => i.inS S ∧ inIts S r
end
theorem renIts_map (f t : Str → Str) : ∀ b : List It, renIts f t b = b.map (It.ren f t)
  | [] => rfl
  | x :: b => by simp [renIts, renIts_map f t b]
theorem tsR_call {f t : Str → Str} {c : Str} {r : List A} : tsR f t "call" (.str c :: r) = .str (t c) :: r.map (thR f) := by unfold tsR; rw [if_pos rfl]
theorem tsR_ne {f t : Str → Str} {w : Str} {ts : List A} (h : w ≠ "call") : tsR f t w ts = ts.map (thR f) := by unfold tsR; rw [if_neg h]
mutual
theorem told_in {S : List Str} : ∀ (i : It) (T : List Str), i.inS S → (∀ w ∈ T, w ∈ S) → ∀ w ∈ i.told T, w ∈ S
  | .row x _ _, T, h, hT, w, hw => by
    simp only [It.told] at hw
    simp only [It.inS] at h
    rcases mem_insT.mp hw with hw | rfl
    · exact hT w hw
    · exact h
  | .rep _ b, T, h, hT, w, hw => by
    simp only [It.told] at hw
    simp only [It.inS] at h
    exact tolds_in b T h hT w hw
theorem tolds_in {S : List Str} : ∀ (b : List It) (T : List Str), inIts S b → (∀ w ∈ T, w ∈ S) → ∀ w ∈ toldIts b T, w ∈ S
  | [], T, _, hT, w, hw => hT w hw
  | i :: r, T, h, hT, w, hw => by
    simp only [inIts] at h
    simp only [toldIts] at hw
    exact tolds_in r _ h.2 (told_in i T h.1 hT) w hw
end
section
variable {f t : Str → Str} {S U : List Str} {N : Nm} {s : Gs}
theorem valI_ren (h : Apart f S) {w : Str} (hw : w ∈ S) : ∀ {N : Nm}, (∀ p ∈ N, p.1 ∈ S) → valI (nmR f N) (f w) = valI N w
  | [], _ => rfl
  | p :: N, hN => by
    have ih := valI_ren h hw (N := N) fun q hq => hN q (.tail _ hq)
    unfold valI at ih ⊢
    simp only [List.map_cons, List.find?_cons]
    by_cases e : p.1 = w
    · simp [e]
    · have e2 : ¬ f p.1 = f w := fun z => e (h _ (hN p (.head _)) _ hw z)
      simp only [e, e2, decide_false]
      exact ih
theorem putI_ren (h : Apart f S) {w : Str} (hw : w ∈ S) (hN : ∀ p ∈ N, p.1 ∈ S) (n : Int) : putI (nmR f N) (f w) n = nmR f (putI N w n) := by
  unfold putI
  have e : (nmR f N).any (fun p => decide (p.1 = f w)) = N.any (fun p => decide (p.1 = w)) := by
    rw [List.any_map]
    refine Bool.eq_iff_iff.mpr ?_
    rw [List.any_eq_true, List.any_eq_true]
    refine exists_congr fun p => and_congr_right fun hp => ?_
    simp only [Function.comp, decide_eq_true_eq]
    exact ⟨fun z => h _ (hN p hp) _ hw z, fun z => by rw [z]⟩
  rw [e]
  split
  · simp only [nmR, List.map_map]
    refine List.map_congr_left fun p hp => ?_
    simp only [Function.comp]
    by_cases e : p.1 = w
    · simp [e]
    · have e2 : ¬ f p.1 = f w := fun z => e (h _ (hN p hp) _ hw z)
      simp [e, e2]
  · simp [nmR]
theorem putI_in {w : Str} (hw : w ∈ S) (hN : ∀ p ∈ N, p.1 ∈ S) (n : Int) : ∀ p ∈ putI N w n, p.1 ∈ S := fun p hp => by
  unfold putI at hp
  split at hp
  · obtain ⟨q, hq, rfl⟩ := List.mem_map.mp hp
    split <;> exact hN q hq
  · rcases List.mem_append.mp hp with hp | hp
    · exact hN p hp
    · rw [List.mem_singleton.mp hp]; exact hw
theorem plF_ren (h : Apart f S) (hN : ∀ p ∈ N, p.1 ∈ S) {x : A} (hx : ∀ w, x = .str w → w ∈ S) : plF (nmR f N) s (thR f x) = plF N s x := by
  cases x with
  | str w => simp only [thR, plF, valI_ren h (hx w rfl) hN]
  | _ => rfl
theorem plsF_ren (h : Apart f S) (hN : ∀ p ∈ N, p.1 ∈ S) : ∀ {xs : List A} {s : Gs}, (∀ x ∈ xs, ∀ w, x = .str w → w ∈ S) → plsF (nmR f N) s (xs.map (thR f)) = plsF N s xs
  | [], _, _ => rfl
  | x :: xs, s, hx => by
    simp only [List.map_cons, plsF, plF_ren h hN (hx x (.head _)), plsF_ren h hN fun y hy => hx y (.tail _ hy)]
/-- the parts lie in S, their names in U -/
def PtsIn (S U : List Str) (ps : List Pt) : Prop := ∀ p ∈ ps, p.nm ∈ U ∧ (∀ w ∈ p.ins, w ∈ S) ∧ inIts S p.body
theorem find_ren (h : Apart t U) {c : Str} (hc : c ∈ U) : ∀ {ps : List Pt}, (∀ p ∈ ps, p.nm ∈ U) → (ps.map (Pt.ren f t)).find? (fun p => decide (p.nm = t c)) = (ps.find? fun p => decide (p.nm = c)).map (Pt.ren f t)
  | [], _ => rfl
  | p :: ps, hp => by
    have ih := find_ren h hc (ps := ps) fun q hq => hp q (.tail _ hq)
    simp only [List.map_cons, List.find?_cons]
    by_cases e : p.nm = c
    · simp [e, Pt.ren]
    · have e2 : ¬ t p.nm = t c := fun z => e (h _ (hp p (.head _)) _ hc z)
      simp only [e, Pt.ren, e2, decide_false]
      exact ih
/-- a body goes the same way by other names -/
def GoR (f t : Str → Str) (S : List Str) (go go' : GoF) (fits : List Str → List It → Prop) : Prop := ∀ (b : List It) (T : List Str) (N : Nm) (s : Gs), fits T b → (∀ w ∈ T, w ∈ S) → inIts S b → (∀ p ∈ N, p.1 ∈ S) → go' (renIts f t b) (nmR f N) s = (nmR f (go b N s).1, (go b N s).2) ∧ ∀ p ∈ (go b N s).1, p.1 ∈ S
theorem thOk_in {T : List Str} (hT : ∀ w ∈ T, w ∈ S) {x : A} (h : ThOk T x) : ∀ w, x = .str w → w ∈ S := fun w e => by
  rcases h with ⟨w2, rfl, h2, _⟩ | ⟨n, d, rfl, _⟩
  · cases e; exact hT _ h2
  · cases e
theorem zip_in : ∀ {ins : List Str} {is : List Int}, (∀ w ∈ ins, w ∈ S) → ∀ p ∈ ins.zip is, p.1 ∈ S := fun h p hp => h _ (List.of_mem_zip hp).1
theorem behF_ren (h : Apart f S) (ht : Apart t U) {ps : List Pt} (hps : PtsIn S U ps) {go go' : GoF} {fits : List Str → List It → Prop} (G : GoR f t S go go' fits) {T : List Str} (hT : ∀ w ∈ T, w ∈ S) (hN : ∀ p ∈ N, p.1 ∈ S) {w : Str} {ts : List A} (fit : RowFit ps fits T w ts) :
    behF (ps.map (Pt.ren f t)) go' w (tsR f t w ts) (nmR f N) s = behF ps go w ts N s := by
  rcases fit with ⟨rfl, c, r, p, rfl, h1, h2, h3, h4, h5, h6, h7⟩ | ⟨rfl, a, k, rfl, ha⟩ | ⟨h1, h2, h3, h4, h5⟩
  · have pm := List.mem_of_find?_eq_some h1
    have pc : p.nm = c := by simpa using List.find?_some h1
    obtain ⟨u1, u2, u3⟩ := hps p pm
    have h1' : (ps.map (Pt.ren f t)).find? (fun p => decide (p.nm = t c)) = some (p.ren f t) := by
      rw [find_ren ht (pc ▸ u1) fun q hq => (hps q hq).1, h1]; rfl
    rw [tsR_call, behF_call h1', behF_call h1, plsF_ren h hN fun x hx => thOk_in hT (h7 x hx)]
    have ez : (p.ren f t).ins.zip (plsF N s r).1 = nmR f (p.ins.zip (plsF N s r).1) := by
      show (p.ins.map f).zip _ = _
      rw [List.zip_map_left]; rfl
    obtain ⟨g1, g2⟩ := G p.body p.ins (p.ins.zip (plsF N s r).1) (plsF N s r).2 h5 u2 u3 (zip_in u2)
    rw [ez, show (p.ren f t).body = renIts f t p.body from rfl, g1]
    show ((valI (nmR f _) (f p.give)).getD 0, _) = _
    rw [valI_ren h (tolds_in p.body p.ins u3 u2 _ h6) g2]
  · rw [tsR_ne (by decide +kernel)]
    unfold behF
    rw [if_pos rfl, if_pos rfl]
    have e : (([a, A.int k].map (thR f)).take 1) = ([a].map (thR f)) := rfl
    rw [e, plsF_ren h hN fun x hx => by rw [List.mem_singleton.mp hx]; exact thOk_in hT ha]
    rfl
  · have e := plsF_ren (s := s) h hN (xs := ts) fun x hx => thOk_in hT (h5 x hx)
    rw [tsR_ne h1]
    unfold behF
    rw [if_neg h2, if_neg h2, if_neg h1, if_neg h1, e]
theorem times_ren {F F' : Nm × Gs → Nm × Gs} (h : ∀ (N : Nm) (s : Gs), (∀ p ∈ N, p.1 ∈ S) → F' (nmR f N, s) = (nmR f (F (N, s)).1, (F (N, s)).2) ∧ ∀ p ∈ (F (N, s)).1, p.1 ∈ S) : ∀ (n : Nat) (N : Nm) (s : Gs), (∀ p ∈ N, p.1 ∈ S) → timesF F' n (nmR f N, s) = (nmR f (timesF F n (N, s)).1, (timesF F n (N, s)).2) ∧ ∀ p ∈ (timesF F n (N, s)).1, p.1 ∈ S
  | 0, N, s, hN => ⟨rfl, hN⟩
  | n + 1, N, s, hN => by
    obtain ⟨h1, h2⟩ := h N s hN
    have ih := times_ren h n (F (N, s)).1 (F (N, s)).2 h2
    simp only [timesF, h1]
    exact ih
theorem oneF_ren (h : Apart f S) (ht : Apart t U) {ps : List Pt} (hps : PtsIn S U ps) {go go' : GoF} {fits : List Str → List It → Prop} (G : GoR f t S go go' fits) {T : List Str} (hT : ∀ w ∈ T, w ∈ S) (hN : ∀ p ∈ N, p.1 ∈ S) : ∀ i : It, fitOne ps fits T i → i.inS S →
    oneF (ps.map (Pt.ren f t)) go' (nmR f N, s) (i.ren f t) = (nmR f (oneF ps go (N, s) i).1, (oneF ps go (N, s) i).2) ∧ ∀ p ∈ (oneF ps go (N, s) i).1, p.1 ∈ S
  | .row x w ts, fit, hi => by
    simp only [It.inS] at hi
    have e := behF_ren (s := s.more) h ht hps G hT hN fit
    simp only [It.ren, oneF, e, putI_ren h hi hN]
    exact ⟨trivial, putI_in hi hN _⟩
  | .rep n b, fit, hi => by
    simp only [It.inS] at hi
    simp only [It.ren, oneF]
    exact times_ren (fun N s hN => G b T N s.more fit.2.2 hT hi hN) _ N s hN
theorem fold_ren (h : Apart f S) (ht : Apart t U) {ps : List Pt} (hps : PtsIn S U ps) {go go' : GoF} {fits : List Str → List It → Prop} (G : GoR f t S go go' fits) : ∀ (b : List It) (T : List Str) (N : Nm) (s : Gs), fitAll (fitOne ps fits) T b → (∀ w ∈ T, w ∈ S) → inIts S b → (∀ p ∈ N, p.1 ∈ S) →
    (renIts f t b).foldl (oneF (ps.map (Pt.ren f t)) go') (nmR f N, s) = (nmR f (b.foldl (oneF ps go) (N, s)).1, (b.foldl (oneF ps go) (N, s)).2) ∧ ∀ p ∈ (b.foldl (oneF ps go) (N, s)).1, p.1 ∈ S
  | [], T, N, s, _, _, _, hN => ⟨rfl, hN⟩
  | i :: b, T, N, s, fit, hT, hb, hN => by
    simp only [inIts] at hb
    obtain ⟨h1, h2⟩ := oneF_ren (s := s) h ht hps G hT hN i fit.1 hb.1
    have ih := fold_ren h ht hps G b _ (oneF ps go (N, s) i).1 (oneF ps go (N, s) i).2 fit.2 (told_in i T hb.1 hT) hb.2 h2
    simp only [renIts, List.foldl_cons, h1]
    exact ih
theorem goF_ren (h : Apart f S) (ht : Apart t U) {ps : List Pt} (hps : PtsIn S U ps) : ∀ k, GoR f t S (goF ps k) (goF (ps.map (Pt.ren f t)) k) (fitsF ps k)
  | 0 => fun _ _ _ _ fit => fit.elim
  | k + 1 => fun b T N s fit hT hb hN => fold_ren h ht hps (goF_ren h ht hps k) b T N s fit hT hb hN
/-- a program's names lie in S, its parts' in U -/
structure Pg.inS (g : Pg) (S U : List Str) : Prop where
  ins : ∀ w ∈ g.ins, w ∈ S
  body : inIts S g.body
  parts : PtsIn S U g.parts
theorem stN_ren (f : Str → Str) : ∀ (l : List Str) (i : Nat), stN (l.map f) i = nmR f (stN l i)
  | [], _ => rfl
  | w :: r, i => by simp [stN, stN_ren f r (i + 1)]
theorem stN_in : ∀ {l : List Str} {i : Nat}, (∀ w ∈ l, w ∈ S) → ∀ p ∈ stN l i, p.1 ∈ S
  | w :: r, i, h, p, hp => by
    simp only [stN] at hp
    rcases List.mem_cons.mp hp with rfl | hp
    · exact h _ (.head _)
    · exact stN_in (fun x hx => h x (.tail _ hx)) p hp
theorem Pg.run_ren (h : Apart f S) (ht : Apart t U) {g : Pg} (ok : g.ok) (hg : g.inS S U) : ((g.ren f t).run 28).2 = (g.run 28).2 ∧ (g.ren f t).outsAt 28 = g.outsAt 28 := by
  obtain ⟨h1, h2⟩ := goF_ren h ht hg.parts 28 g.body g.ins (stN g.ins 0) g.start (Pg.fits ok) hg.ins hg.body (stN_in hg.ins)
  have es : (g.ren f t).start = g.start := by simp [Pg.start, Pg.ren]
  have er : (g.ren f t).run 28 = (nmR f (g.run 28).1, (g.run 28).2) := by
    unfold Pg.run
    rw [es, show (g.ren f t).ins = g.ins.map f from rfl, stN_ren]
    exact h1
  refine ⟨by rw [er], ?_⟩
  unfold Pg.outsAt
  rw [er, show (g.ren f t).outs = g.outs.map f from rfl, List.map_map]
  refine List.map_congr_left fun w hw => ?_
  simp only [Function.comp]
  have hv : valI (nmR f (g.run 28).1) (f w) = valI (g.run 28).1 w := valI_ren h (tolds_in g.body g.ins hg.body hg.ins w (ok.outs w hw).2) h2
  rw [hv]
end
/-! ### .. and is a program -/
section
variable {f t : Str → Str} {S U : List Str}
theorem map_in (h : Apart f S) {T : List Str} (hT : ∀ w ∈ T, w ∈ S) {x : Str} (hx : x ∈ S) : f x ∈ T.map f ↔ x ∈ T :=
  ⟨fun hm => by obtain ⟨y, hy, e⟩ := List.mem_map.mp hm; exact h _ (hT y hy) _ hx e ▸ hy, fun hm => List.mem_map.mpr ⟨x, hm, rfl⟩⟩
theorem insT_ren (h : Apart f S) {T : List Str} (hT : ∀ w ∈ T, w ∈ S) {x : Str} (hx : x ∈ S) : insT (T.map f) (f x) = (insT T x).map f := by
  unfold insT
  by_cases e : x ∈ T
  · rw [if_pos e, if_pos ((map_in h hT hx).mpr e)]
  · rw [if_neg e, if_neg (fun z => e ((map_in h hT hx).mp z))]; simp
mutual
theorem told_ren (h : Apart f S) : ∀ (i : It) (T : List Str), i.inS S → (∀ w ∈ T, w ∈ S) → (i.ren f t).told (T.map f) = (i.told T).map f
  | .row x w ts, T, hi, hT => by
    simp only [It.inS] at hi
    simp only [It.ren, It.told]
    exact insT_ren h hT hi
  | .rep n b, T, hi, hT => by
    simp only [It.inS] at hi
    simp only [It.ren, It.told]
    exact tolds_ren h b T hi hT
theorem tolds_ren (h : Apart f S) : ∀ (b : List It) (T : List Str), inIts S b → (∀ w ∈ T, w ∈ S) → toldIts (renIts f t b) (T.map f) = (toldIts b T).map f
  | [], _, _, _ => rfl
  | i :: b, T, hi, hT => by
    simp only [inIts] at hi
    simp only [renIts, toldIts, told_ren h i T hi.1 hT]
    exact tolds_ren h b _ hi.2 (told_in i T hi.1 hT)
end
theorem tsR_len (f t : Str → Str) (w : Str) (ts : List A) : (tsR f t w ts).length = ts.length := by
  unfold tsR
  split
  · split <;> simp
  · simp
mutual
theorem size_ren (f t : Str → Str) : ∀ i : It, (i.ren f t).size = i.size
  | .row _ _ _ => by simp only [It.ren, It.size]
  | .rep _ b => by simp only [It.ren, It.size, sizes_ren f t b]
theorem sizes_ren (f t : Str → Str) : ∀ b : List It, sizeIts (renIts f t b) = sizeIts b
  | [] => rfl
  | i :: b => by simp only [renIts, sizeIts, size_ren f t i, sizes_ren f t b]
end
mutual
theorem ts_ren (f t : Str → Str) : ∀ i : It, i.tsOk → (i.ren f t).tsOk
  | .row _ w ts, h => by simp only [It.ren, It.tsOk, tsR_len] at h ⊢; exact h
  | .rep _ b, h => by simp only [It.ren, It.tsOk] at h ⊢; exact tss_ren f t b h
theorem tss_ren (f t : Str → Str) : ∀ b : List It, tsIts b → tsIts (renIts f t b)
  | [], _ => trivial
  | i :: b, h => by simp only [renIts, tsIts] at h ⊢; exact ⟨ts_ren f t i h.1, tss_ren f t b h.2⟩
end
/-- what f makes of names of S are names -/
def Nms (f : Str → Str) (S : List Str) : Prop := ∀ w ∈ S, isNm (.str (f w)) = true
theorem thOk_ren (n : Nms f S) {T : List Str} (hT : ∀ w ∈ T, w ∈ S) {x : A} (hx : ThOk T x) : ThOk (T.map f) (thR f x) := by
  rcases hx with ⟨w, rfl, h2, _⟩ | ⟨a, b, rfl, hf⟩
  · obtain ⟨m1, m2, _⟩ := isNm_let (n w (hT w h2))
    exact .inl ⟨f w, rfl, List.mem_map.mpr ⟨w, h2, rfl⟩, m1, m2⟩
  · exact .inr ⟨a, b, rfl, hf⟩
theorem valI_key : ∀ {Pn : Nm} {c : Str} {v : Int}, valI Pn c = some v → ∃ p ∈ Pn, p.1 = c := fun {Pn c v} h => by
  unfold valI at h
  cases e : Pn.find? (fun kv => decide (kv.1 = c)) with
  | none => rw [e] at h; cases h
  | some p => exact ⟨p, List.mem_of_find?_eq_some e, by simpa using List.find?_some e⟩
theorem rowOk_ren (n : Nms f S) (nt : Nms t U) (ht : Apart t U) {Pn : Nm} (hP : ∀ p ∈ Pn, p.1 ∈ U) {T : List Str} (hT : ∀ w ∈ T, w ∈ S) {w : Str} {ts : List A} (h : RowOk Pn T w ts) : RowOk (nmR t Pn) (T.map f) w (tsR f t w ts) := by
  have key : ∀ {l : List A}, (∀ a ∈ l, ThOk T a) → ∀ a ∈ l.map (thR f), ThOk (T.map f) a := fun h a ha => by
    obtain ⟨b, hb, rfl⟩ := List.mem_map.mp ha
    exact thOk_ren n hT (h b hb)
  rcases h with ⟨rfl, c, r, rfl, h3, h4, h5, h6⟩ | ⟨rfl, a, k, rfl, h3, h4⟩ | ⟨h1, h2, h3, h4⟩
  · obtain ⟨p, hp, e⟩ := valI_key h3
    have hc : c ∈ U := e ▸ hP p hp
    obtain ⟨m1, m2, _⟩ := isNm_let (nt c hc)
    exact .inl ⟨rfl, t c, r.map (thR f), tsR_call, by rw [valI_ren ht hc hP, h3, List.length_map], m1, m2, key h6⟩
  · exact .inr (.inl ⟨rfl, thR f a, k, by rw [tsR_ne (by decide +kernel)]; rfl, thOk_ren n hT h3, h4⟩)
  · exact .inr (.inr ⟨h1, h2, by rw [tsR_len]; exact h3, by rw [tsR_ne h1]; exact key h4⟩)
mutual
theorem itOk_ren (h : Apart f S) (n : Nms f S) (nt : Nms t U) (ht : Apart t U) {Pn : Nm} (hP : ∀ p ∈ Pn, p.1 ∈ U) : ∀ (i : It) (d : Nat) (T : List Str), i.inS S → (∀ w ∈ T, w ∈ S) → i.ok Pn d T → (i.ren f t).ok (nmR t Pn) d (T.map f)
  | .row x w ts, d, T, hi, hT, ok => by
    simp only [It.inS] at hi
    simp only [It.ren, It.ok] at ok ⊢
    exact ⟨ok.1, n x hi, rowOk_ren n nt ht hP hT ok.2.2⟩
  | .rep m b, d, T, hi, hT, ok => by
    simp only [It.inS] at hi
    simp only [It.ren, It.ok] at ok ⊢
    exact ⟨ok.1, ok.2.1, ok.2.2.1, itsOk_ren h n nt ht hP b (d + 1) T hi hT ok.2.2.2⟩
theorem itsOk_ren (h : Apart f S) (n : Nms f S) (nt : Nms t U) (ht : Apart t U) {Pn : Nm} (hP : ∀ p ∈ Pn, p.1 ∈ U) : ∀ (b : List It) (d : Nat) (T : List Str), inIts S b → (∀ w ∈ T, w ∈ S) → okIts Pn d T b → okIts (nmR t Pn) d (T.map f) (renIts f t b)
  | [], _, _, _, _, _ => trivial
  | i :: b, d, T, hi, hT, ok => by
    simp only [inIts] at hi
    simp only [renIts, okIts] at ok ⊢
    exact ⟨itOk_ren h n nt ht hP i d T hi.1 hT ok.1, by rw [told_ren h i T hi.1 hT]; exact itsOk_ren h n nt ht hP b d _ hi.2 (told_in i T hi.1 hT) ok.2⟩
end
theorem nodup_ren (h : Apart f S) : ∀ {l : List Str}, (∀ w ∈ l, w ∈ S) → l.Nodup → (l.map f).Nodup
  | [], _, _ => .nil
  | x :: l, hl, hn => by
    rw [List.map_cons, List.nodup_cons]
    rw [List.nodup_cons] at hn
    exact ⟨fun hm => hn.1 ((map_in h (fun w hw => hl w (.tail _ hw)) (hl x (.head _))).mp hm), nodup_ren h (fun w hw => hl w (.tail _ hw)) hn.2⟩
theorem ptsOk_ren (h : Apart f S) (n : Nms f S) (nt : Nms t U) (ht : Apart t U) : ∀ {l : List Pt} {Pn : Nm}, (∀ p ∈ Pn, p.1 ∈ U) → PtsIn S U l → okPts Pn l → okPts (nmR t Pn) (l.map (Pt.ren f t))
  | [], _, _, _, _ => trivial
  | q :: l, Pn, hP, hl, ok => by
    simp only [okPts] at ok
    simp only [List.map_cons, okPts]
    obtain ⟨u1, u2, u3⟩ := hl q (.head _)
    obtain ⟨o1, o2, o3, o4, o5, o6, o7, o8, o9⟩ := ok.1
    have hP2 : ∀ p ∈ Pn ++ [(q.nm, (q.ins.length : Int))], p.1 ∈ U := fun p hp => by
      rcases List.mem_append.mp hp with hp | hp
      · exact hP p hp
      · rw [List.mem_singleton.mp hp]; exact u1
    refine ⟨⟨nt _ u1, ?_, ?_, ?_, ?_, nodup_ren h u2 o6, tss_ren f t _ o7, itsOk_ren h n nt ht hP q.body 0 q.ins u3 u2 o8, ?_⟩, ?_⟩
    · show valI (nmR t Pn) (t q.nm) = none
      rw [valI_ren ht u1 hP]; exact o2
    · show 1 ≤ (q.ins.map f).length
      rw [List.length_map]; exact o3
    · show (q.ins.map f).length ≤ 4
      rw [List.length_map]; exact o4
    · intro w hw
      obtain ⟨y, hy, rfl⟩ := List.mem_map.mp hw
      exact n y (u2 y hy)
    · show f q.give ∈ toldIts (renIts f t q.body) (q.ins.map f)
      rw [tolds_ren h q.body q.ins u3 u2]
      exact List.mem_map.mpr ⟨_, o9, rfl⟩
    · have ih := ptsOk_ren h n nt ht (l := l) hP2 (fun p hp => hl p (.tail _ hp)) ok.2
      have e : nmR t Pn ++ [((q.ren f t).nm, ((q.ren f t).ins.length : Int))] = nmR t (Pn ++ [(q.nm, (q.ins.length : Int))]) := by simp [nmR, Pt.ren]
      rw [e]
      exact ih
theorem pnPts_ren (f t : Str → Str) (l : List Pt) : pnPts (l.map (Pt.ren f t)) = nmR t (pnPts l) := by
  simp [pnPts, nmR, Pt.ren, Function.comp_def]
theorem sizePts_ren (f t : Str → Str) (l : List Pt) : sizePts (l.map (Pt.ren f t)) = sizePts l := by
  unfold sizePts
  rw [List.map_map]
  congr 1
  refine List.map_congr_left fun q _ => ?_
  simp only [Function.comp, Pt.size, Pt.ren, List.length_map, sizes_ren]
theorem Pg.ok_ren (h : Apart f S) (n : Nms f S) (ht : Apart t U) (nt : Nms t U) {g : Pg} (ok : g.ok) (hg : g.inS S U) : (g.ren f t).ok where
  p6 := by show (g.parts.map _).length ≤ 6; rw [List.length_map]; exact ok.p6
  parts := ptsOk_ren h n nt ht (Pn := []) (fun _ h => nomatch h) hg.parts ok.parts
  i1 := by show 1 ≤ (g.ins.map f).length; rw [List.length_map]; exact ok.i1
  i6 := by show (g.ins.map f).length ≤ 6; rw [List.length_map]; exact ok.i6
  ins := fun w hw => by
    obtain ⟨y, hy, rfl⟩ := List.mem_map.mp hw
    exact n y (hg.ins y hy)
  unl := nodup_ren h hg.ins ok.unl
  ts := tss_ren f t _ ok.ts
  body := by
    show okIts (pnPts (g.parts.map (Pt.ren f t))) 0 (g.ins.map f) (renIts f t g.body)
    rw [pnPts_ren]
    exact itsOk_ren h n nt ht (fun p hp => by obtain ⟨q, hq, rfl⟩ := List.mem_map.mp hp; exact (hg.parts q hq).1) g.body 0 g.ins hg.body hg.ins ok.body
  o1 := by show 1 ≤ (g.outs.map f).length; rw [List.length_map]; exact ok.o1
  o4 := by show (g.outs.map f).length ≤ 4; rw [List.length_map]; exact ok.o4
  outs := fun w hw => by
    obtain ⟨y, hy, rfl⟩ := List.mem_map.mp hw
    have hm := (ok.outs y hy).2
    refine ⟨n y (tolds_in g.body g.ins hg.body hg.ins y hm), ?_⟩
    show f y ∈ toldIts (renIts f t g.body) (g.ins.map f)
    rw [tolds_ren h g.body g.ins hg.body hg.ins]
    exact List.mem_map.mpr ⟨_, hm, rfl⟩
  size := by
    have e : (g.ren f t).size = g.size := by
      simp only [Pg.size, Pg.ren, sizePts_ren, List.length_map, sizes_ren]
    rw [e]; exact ok.size
end
end D

set_option Elab.async false
set_option linter.all false
set_option maxRecDepth 100000
set_option maxHeartbeats 4000000
/-! P10e: the straight rows of a small program are small enough to be shown. -/
namespace D
open PySem PySem.Spec PyProof.Rows L2
/-- a straight row: its places below n, or n -/
def MoreB (m : A) : Prop := ThSm m ∧ deep m ≤ 20 ∧ isD m = true
def WordB (w : Str) : Prop := shl (.str w) ≤ 200 ∧ PyData.strOk w = true
def RowB (n : Nat) (r : A) : Prop := ∃ (w : Str) (is : List Int) (m : A), r = .tup [.str w, .tup (is.map A.int), m] ∧ WordB w ∧ is.length ≤ 5 ∧ (∀ i ∈ is, 0 ≤ i ∧ i ≤ n) ∧ MoreB m
theorem RowB.mono {n n' : Nat} {r : A} (h : RowB n r) (le : n ≤ n') : RowB n' r := by
  obtain ⟨w, is, m, h1, h2, h3, h4, h5⟩ := h
  exact ⟨w, is, m, h1, h2, h3, fun i hi => ⟨(h4 i hi).1, by have := (h4 i hi).2; omega⟩, h5⟩
def RB (s : Gs) : Prop := ∀ r ∈ s.rows, RowB s.rows.length r
def NB (N : Nm) (n : Nat) : Prop := ∀ p ∈ N, 0 ≤ p.2 ∧ p.2 ≤ n
theorem NB.mono {N : Nm} {n n' : Nat} (h : NB N n) (le : n ≤ n') : NB N n' := fun p hp => ⟨(h p hp).1, by have := (h p hp).2; omega⟩
theorem NB.val {N : Nm} {n : Nat} (h : NB N n) (w : Str) : 0 ≤ (valI N w).getD 0 ∧ (valI N w).getD 0 ≤ n := by
  unfold valI
  cases e : N.find? (fun kv => decide (kv.1 = w)) with
  | none => exact ⟨Int.le_refl _, by simp⟩
  | some p => exact h p (List.mem_of_find?_eq_some e)
theorem NB.put {N : Nm} {n : Nat} (h : NB N n) (w : Str) {i : Int} (h0 : 0 ≤ i) (h1 : i ≤ n) : NB (putI N w i) n := fun p hp => by
  unfold putI at hp
  split at hp
  · obtain ⟨q, hq, rfl⟩ := List.mem_map.mp hp
    split
    · exact ⟨h0, h1⟩
    · exact h q hq
  · rcases List.mem_append.mp hp with hp | hp
    · exact h p hp
    · rw [List.mem_singleton.mp hp]; exact ⟨h0, h1⟩
theorem Gs.le.len {s t : Gs} (h : s.le t) : s.rows.length ≤ t.rows.length := by
  obtain ⟨⟨l, e⟩, _⟩ := h
  rw [e, List.length_append]; omega
theorem RB.put {s : Gs} (h : RB s) {w : Str} {is : List Int} {m : A} (hw : WordB w) (hl : is.length ≤ 5) (hi : ∀ i ∈ is, 0 ≤ i ∧ i ≤ s.rows.length) (hm : MoreB m) : RB (s.put w (is.map A.int) m) := fun r hr => by
  have e : (s.put w (is.map A.int) m).rows.length = s.rows.length + 1 := by simp [Gs.put]
  rcases List.mem_append.mp hr with hr | hr
  · rw [e]; exact (h r hr).mono (Nat.le_succ _)
  · rw [List.mem_singleton.mp hr, e]
    exact ⟨w, is, m, rfl, hw, hl, fun i k => ⟨(hi i k).1, by have := (hi i k).2; omega⟩, hm⟩
theorem put_len (s : Gs) (w : Str) (is : List A) (m : A) : (s.put w is m).rows.length = s.rows.length + 1 := by simp [Gs.put]
theorem non_sm : MoreB .non := ⟨⟨rfl, by decide, fun _ _ e => nomatch e⟩, by decide, rfl⟩
theorem plF_b {N : Nm} {s : Gs} {x : A} (hN : NB N s.rows.length) (h : RB s) (hx : MoreB x) : (0 ≤ (plF N s x).1 ∧ (plF N s x).1 ≤ (plF N s x).2.rows.length) ∧ RB (plF N s x).2 := by
  unfold plF
  split
  · exact ⟨hN.val _, h⟩
  · refine ⟨?_, h.put (is := []) ⟨by decide +kernel, by decide +kernel⟩ (by simp) (fun i k => nomatch k) hx⟩
    rw [put_len]
    exact ⟨Int.natCast_nonneg _, by show ((s.rows.length : Nat) : Int) ≤ _; omega⟩
theorem plsF_b {N : Nm} : ∀ {xs : List A} {s : Gs}, NB N s.rows.length → RB s → (∀ x ∈ xs, MoreB x) → (∀ i ∈ (plsF N s xs).1, 0 ≤ i ∧ i ≤ (plsF N s xs).2.rows.length) ∧ RB (plsF N s xs).2
  | [], s, hN, h, _ => ⟨(fun i k => nomatch k), h⟩
  | x :: xs, s, hN, h, hx => by
    obtain ⟨h1, h2⟩ := plF_b hN h (hx x (.head _))
    have l1 := (plF_le N s x).len
    have l2 := (plsF_le N xs (plF N s x).2).len
    obtain ⟨h3, h4⟩ := plsF_b (xs := xs) (hN.mono l1) h2 fun y hy => hx y (.tail _ hy)
    refine ⟨fun i k => ?_, h4⟩
    rcases List.mem_cons.mp k with rfl | k
    · exact ⟨h1.1, by have := h1.2; simp only [plsF]; omega⟩
    · exact h3 i k
/-- a body of small rows -/
def BodyB (b : List It) : Prop := smIts b ∧ deeps (aIts b) ≤ 20 ∧ isDs (aIts b) = true
theorem deeps_mem {l : List A} {n : Nat} (h : deeps l ≤ n) : ∀ a ∈ l, deep a ≤ n := by
  induction l with
  | nil => exact fun _ k => nomatch k
  | cons x l ih =>
    simp only [deeps] at h
    exact List.forall_mem_cons.mpr ⟨by omega, ih (by omega)⟩
def GoB (go : GoF) : Prop := ∀ (b : List It) (N : Nm) (s : Gs), BodyB b → NB N s.rows.length → RB s → NB (go b N s).1 (go b N s).2.rows.length ∧ RB (go b N s).2
theorem zip_NB {ins : List Str} {is : List Int} {n : Nat} (h : ∀ i ∈ is, 0 ≤ i ∧ i ≤ n) : NB (ins.zip is) n := fun p hp => h p.2 (List.of_mem_zip hp).2
theorem behF_b {ps : List Pt} {go : GoF} (up : GoUp go) (hg : GoB go) (hp : ∀ p ∈ ps, BodyB p.body) {w : Str} {ts : List A} {N : Nm} {s : Gs} (hr : RowSm w ts) (hd : deeps ts ≤ 20) (hi : isDs ts = true) (hk : PyData.strOk w = true) (hN : NB N s.rows.length) (h : RB s) :
    (0 ≤ (behF ps go w ts N s).1 ∧ (behF ps go w ts N s).1 ≤ (behF ps go w ts N s).2.rows.length) ∧ RB (behF ps go w ts N s).2 := by
  obtain ⟨h5, hts, hw⟩ := hr
  have things : ∀ x ∈ ts, MoreB x := fun x hx => ⟨hts x hx, deeps_mem hd x hx, isDs_mem hi x hx⟩
  have hw : WordB w := ⟨hw, hk⟩
  have at0 : ∀ (t : Gs) (is : List A) (m : A), 0 ≤ t.at ∧ t.at ≤ (t.put w is m).rows.length := fun t is m => by
    rw [put_len]; exact ⟨Int.natCast_nonneg _, by show ((t.rows.length : Nat) : Int) ≤ _; omega⟩
  unfold behF
  split
  · obtain ⟨h1, h2⟩ := plsF_b (xs := ts.take 1) hN h fun x hx => things x (List.mem_of_mem_take hx)
    refine ⟨at0 .., h2.put hw (by rw [plsF_len, List.length_take]; omega) h1 ?_⟩
    cases e : ts[1]? with
    | none => rw [List.getD_eq_getElem?_getD, e]; exact non_sm
    | some y => rw [List.getD_eq_getElem?_getD, e]; exact things y (List.mem_of_getElem? e)
  · split
    · split
      · rename_i c r
        obtain ⟨h1, h2⟩ := plsF_b (xs := r) hN h fun x hx => things x (.tail _ hx)
        unfold callF
        split
        · exact ⟨⟨Int.le_refl _, by simp⟩, h2⟩
        · rename_i p e
          obtain ⟨h3, h4⟩ := hg p.body (p.ins.zip (plsF N s r).1) (plsF N s r).2 (hp p (List.mem_of_find?_eq_some e)) (zip_NB h1) h2
          exact ⟨h3.val _, h4⟩
      · exact ⟨⟨Int.le_refl _, by simp⟩, h⟩
    · obtain ⟨h1, h2⟩ := plsF_b (xs := ts) hN h things
      split
      · refine ⟨?_, h2⟩
        cases e : (plsF N s ts).1 with
        | nil => exact ⟨Int.le_refl _, by simp⟩
        | cons i is => exact h1 i (by rw [e]; exact .head _)
      · exact ⟨at0 .., h2.put hw (by rw [plsF_len]; exact h5) h1 non_sm⟩
theorem times_b {f : Nm × Gs → Nm × Gs} (h : ∀ st : Nm × Gs, NB st.1 st.2.rows.length → RB st.2 → NB (f st).1 (f st).2.rows.length ∧ RB (f st).2) : ∀ (n : Nat) (st : Nm × Gs), NB st.1 st.2.rows.length → RB st.2 → NB (timesF f n st).1 (timesF f n st).2.rows.length ∧ RB (timesF f n st).2
  | 0, _, a, b => ⟨a, b⟩
  | n + 1, st, a, b => times_b h n _ (h st a b).1 (h st a b).2
theorem one_b {ps : List Pt} {go : GoF} (up : GoUp go) (hg : GoB go) (hp : ∀ p ∈ ps, BodyB p.body) : ∀ (i : It) (st : Nm × Gs), i.sm → deep i.a ≤ 20 → isD i.a = true → NB st.1 st.2.rows.length → RB st.2 → NB (oneF ps go st i).1 (oneF ps go st i).2.rows.length ∧ RB (oneF ps go st i).2
  | .row x w ts, st, hs, hd, hi, hN, h => by
    simp only [It.sm] at hs
    simp only [It.a, isD, isDs, Bool.and_eq_true] at hi
    have hd2 : deeps ts ≤ 20 := by simp only [It.a, deep, deeps] at hd; omega
    obtain ⟨h1, h2⟩ := behF_b (s := st.2.more) up hg hp hs.2 hd2 hi.2.2.2.1 hi.2.2.1 hN h
    have le := (behF_le (ps := ps) up w ts st.1 st.2.more).len
    exact ⟨(hN.mono le).put x h1.1 h1.2, h2⟩
  | .rep n b, st, hs, hd, hi, hN, h => by
    simp only [It.sm] at hs
    simp only [It.a, isD, isDs, Bool.and_eq_true] at hi
    have hd2 : deeps (aIts b) ≤ 20 := by simp only [It.a, deep, deeps] at hd; omega
    exact times_b (fun st a c => hg b st.1 st.2.more ⟨hs.2.2, hd2, hi.2.2.1⟩ a c) _ st hN h
theorem fold_b {ps : List Pt} {go : GoF} (up : GoUp go) (hg : GoB go) (hp : ∀ p ∈ ps, BodyB p.body) : ∀ (b : List It) (st : Nm × Gs), BodyB b → NB st.1 st.2.rows.length → RB st.2 → NB (b.foldl (oneF ps go) st).1 (b.foldl (oneF ps go) st).2.rows.length ∧ RB (b.foldl (oneF ps go) st).2
  | [], _, _, hN, h => ⟨hN, h⟩
  | i :: b, st, hb, hN, h => by
    obtain ⟨b1, b2, b3⟩ := hb
    simp only [smIts] at b1
    simp only [aIts, deeps] at b2
    simp only [aIts, isDs, Bool.and_eq_true] at b3
    obtain ⟨h1, h2⟩ := one_b up hg hp i st b1.1 (by omega) b3.1 hN h
    exact fold_b up hg hp b _ ⟨b1.2, by omega, b3.2⟩ h1 h2
theorem goF_b {ps : List Pt} (hp : ∀ p ∈ ps, BodyB p.body) : ∀ f, GoB (goF ps f)
  | 0 => fun _ _ _ _ a b => ⟨a, b⟩
  | f + 1 => fun b N s hb a c => fold_b (goF_up ps f) (goF_b hp f) hp b (N, s) hb a c
theorem stN_NB : ∀ (l : List Str) (i n : Nat), i + l.length ≤ n → NB (stN l i) n
  | [], _, _, _ => fun _ k => nomatch k
  | w :: l, i, n, h => List.forall_mem_cons.mpr ⟨⟨Int.natCast_nonneg _, by simp only [List.length_cons] at h; show ((i : Nat) : Int) ≤ _; omega⟩, stN_NB l (i + 1) n (by simp only [List.length_cons] at h; omega)⟩
theorem Pg.bodies {g : Pg} (ok : g.ok) (sm : g.sm) : BodyB g.body ∧ ∀ p ∈ g.parts, BodyB p.body := by
  refine ⟨⟨sm.body, by have := (datIts ok.body).2; omega, (datIts ok.body).1⟩, ?_⟩
  have ps : ∀ {l : List Pt} {Pn : List (Str × Int)}, okPts Pn l → ∀ p ∈ l, deeps (aIts p.body) ≤ 20 ∧ isDs (aIts p.body) = true := by
    intro l
    induction l with
    | nil => exact fun _ _ k => nomatch k
    | cons q l ih =>
      intro Pn h
      simp only [okPts] at h
      exact List.forall_mem_cons.mpr ⟨⟨by have := (datIts h.1.body).2; omega, (datIts h.1.body).1⟩, ih h.2⟩
  exact fun p hp => ⟨(sm.parts p hp).body, ps ok.parts p hp⟩
theorem Pg.run_b {g : Pg} (ok : g.ok) (sm : g.sm) (k : Nat) : NB (g.run k).1 (g.run k).2.rows.length ∧ RB (g.run k).2 := by
  obtain ⟨h1, h2⟩ := Pg.bodies ok sm
  have e : g.start.rows.length = g.ins.length := List.length_map ..
  refine goF_b h2 k g.body (stN g.ins 0) g.start h1 (stN_NB _ _ _ (by rw [e]; omega)) fun r hr => ?_
  obtain ⟨w, hw, rfl⟩ := List.mem_map.mp hr
  exact ⟨"in", [], .non, rfl, ⟨by decide +kernel, by decide +kernel⟩, by simp, (fun _ k => nomatch k), non_sm⟩
/-! ### shown -/
mutual
theorem wsh_of : ∀ {x : A}, isShow x = true → wsh (toD x) = true
  | .non, _ => rfl
  | .bl _, _ => rfl
  | .int i, h => by
    have h1 : i.natAbs.log2 < 1920 := of_decide_eq_true (by simpa only [isShow] using h)
    have h2 : i.natAbs < 2 ^ 1920 := by
      by_cases z : i.natAbs = 0
      · rw [z]; exact Nat.two_pow_pos _
      · exact (Nat.log2_lt z).mp h1
    simp only [toD, wsh, fig, decide_eq_true_eq]
    exact Nat.lt_of_lt_of_le h2 (by decide +kernel)
  | .str _, _ => rfl
  | .ty _, h => by simp [isShow] at h
  | .loc _, h => by simp [isShow] at h
  | .tup xs, h => by simp only [toD, wsh]; exact wshs_of (by simpa only [isShow] using h)
  | .lst xs, h => by simp only [toD, wsh]; exact wshs_of (by simpa only [isShow] using h)
  | .fls xs, h => by simp only [toD, wsh]; exact wshs_of (by simpa only [isShow] using h)
theorem wshs_of : ∀ {xs : List A}, isShows xs = true → wshs (toDs xs) = true
  | [], _ => rfl
  | x :: xs, h => by
    simp only [isShows, Bool.and_eq_true] at h
    simp only [toDs, wshs, wsh_of h.1, wshs_of h.2, Bool.and_self]
end
theorem ints_show : ∀ {is : List Int} {n : Nat}, n ≤ 10000 → (∀ i ∈ is, 0 ≤ i ∧ i ≤ n) → isShows (is.map A.int) = true ∧ shls (is.map A.int) = 22 * is.length ∧ deeps (is.map A.int) = 0
  | [], _, _, _ => ⟨rfl, rfl, rfl⟩
  | i :: is, n, hn, h => by
    obtain ⟨h1, h2, h3⟩ := ints_show (is := is) hn fun j hj => h j (.tail _ hj)
    have hi := h i (.head _)
    have lt : i.natAbs < 10 ^ 18 := Nat.lt_of_le_of_lt (show i.natAbs ≤ 10000 by omega) (by decide)
    refine ⟨?_, ?_, ?_⟩
    · simp only [List.map_cons, isShows, h1, Bool.and_true, isShow, decide_eq_true_eq]
      exact log_small (Nat.le_trans (show i.natAbs ≤ 10000 by omega) (by decide))
    · simp only [List.map_cons, shls, h2, shl, List.length_cons]
      rw [if_pos lt]; omega
    · simp only [List.map_cons, deeps, deep, h3]; rfl
theorem RowB.show {n : Nat} {r : A} (h : RowB n r) (hn : n ≤ 10000) : isShow r = true ∧ shl r ≤ 2322 ∧ deep r ≤ 22 := by
  obtain ⟨w, is, m, rfl, ⟨h1, _⟩, h2, h3, ⟨h4, h5, _⟩, h6, _⟩ := h
  obtain ⟨g1, g2, g3⟩ := ints_show hn h3
  refine ⟨by simp only [isShow, isShows, g1, h4, Bool.and_self], ?_, ?_⟩
  · rw [shl, shls, shls, shls, shls, shl.eq_7]; omega
  · simp only [deep, deeps, g3]; omega
theorem rows_show : ∀ {l : List A} {n : Nat}, n ≤ 10000 → (∀ r ∈ l, RowB n r) → isShows l = true ∧ shls l ≤ 2324 * l.length ∧ deeps l ≤ 22
  | [], _, _, _ => ⟨rfl, Nat.le_refl _, Nat.zero_le _⟩
  | r :: l, n, hn, h => by
    obtain ⟨h1, h2, h3⟩ := rows_show (l := l) hn fun j hj => h j (.tail _ hj)
    obtain ⟨g1, g2, g3⟩ := (h r (.head _)).show hn
    exact ⟨by simp only [isShows, g1, h1, Bool.and_self], by simp only [shls, List.length_cons]; omega, by simp only [deeps]; omega⟩
/-- the answer's data -/
def Pg.dueA (g : Pg) (k : Nat) : A := .tup [.lst (g.run k).2.rows, .lst (g.outsAt k)]
theorem Pg.due_show {g : Pg} (ok : g.ok) (sm : g.sm) {k : Nat} (gd : (g.run k).2.good) : ShowOk (.lst [g.dueA k]) := by
  obtain ⟨h1, h2⟩ := Pg.run_b ok sm k
  have l5 := gd.1
  obtain ⟨a1, a2, a3⟩ := rows_show (n := (g.run k).2.rows.length) (by omega) h2
  have eo : g.outsAt k = (g.outs.map fun w => (valI (g.run k).1 w).getD 0).map A.int := by simp [Pg.outsAt]
  obtain ⟨b1, b2, b3⟩ := ints_show (n := (g.run k).2.rows.length) (is := g.outs.map fun w => (valI (g.run k).1 w).getD 0) (by omega) fun i hi => by
    obtain ⟨w, _, rfl⟩ := List.mem_map.mp hi
    exact h1.val w
  rw [← eo] at b1 b2 b3
  rw [List.length_map] at b2
  have o4 := ok.o4
  refine ⟨by simp only [Pg.dueA, isShow, isShows, a1, b1, Bool.and_self], ?_, ?_⟩
  · simp only [Pg.dueA, deep, deeps, b3]; omega
  · simp only [Pg.dueA]
    rw [shl.eq_8, shls, shls, shl.eq_7, shls, shls, shls, shl.eq_8, shl.eq_8, b2]
    have : sizeLine = 16777216 := rfl
    omega
theorem RowB.dat {n : Nat} {r : A} (h : RowB n r) : isD r = true := by
  obtain ⟨w, is, m, rfl, ⟨_, h1⟩, _, _, _, _, h2⟩ := h
  simp only [isD, isDs, h1, h2, isDs_map (f := A.int) (fun _ => rfl) is, Bool.and_self]
/-- data that stands for itself -/
theorem rsL_dat {μ : Mu} : ∀ {l : List A}, (∀ x ∈ l, isD x = true) → RsL μ l l
  | [], _ => .nil
  | x :: l, h => .cons (.dat (h x (.head _))) (rsL_dat fun y hy => h y (.tail _ hy))
theorem Pg.rows_dat {g : Pg} (ok : g.ok) (sm : g.sm) (k : Nat) : ∀ x ∈ (g.run k).2.rows, isD x = true := fun x hx => ((Pg.run_b ok sm k).2 x hx).dat
theorem Pg.outs_dat (g : Pg) (k : Nat) : ∀ x ∈ g.outsAt k, isD x = true := fun x hx => by
  obtain ⟨w, _, rfl⟩ := List.mem_map.mp hx
  rfl
/-- what is due, as the law holds it -/
def DueAt (g : Pg) (due : A) (μ : Mu) : Prop := ((g.run 28).2.good → ∃ rl, due = .tup [.loc rl, .lst (g.outsAt 28)] ∧ μ rl = some (.lst (g.run 28).2.rows)) ∧ (¬ (g.run 28).2.good → due = .non)
theorem DueAt.sub {g : Pg} {due : A} {μ μ' : Mu} (h : DueAt g due μ) (s : Sub μ μ') : DueAt g due μ' :=
  ⟨fun gd => let ⟨rl, e, r⟩ := h.1 gd; ⟨rl, e, s _ _ r⟩, h.2⟩
/-- what was told -/
def FoundR (g : Pg) (μ μ' : Mu) (y : A) : Prop := ((g.run 28).2.good ∧ ∃ rl ol, y = .lst [.tup [.loc rl, .loc ol]] ∧ μ rl = none ∧ μ ol = none ∧ rl ≠ ol ∧ μ' rl = some (.lst (g.run 28).2.rows) ∧ μ' ol = some (.lst (g.outsAt 28))) ∨ (¬ (g.run 28).2.good ∧ y = .tup [.str "long"])
theorem Sub.over {μ0 μ : Mu} {a : Addr} {m : MO} (h : Sub μ0 μ) (n : μ0 a = Option.none) : Sub μ0 (μ.upd a m) := fun q o e => by
  have ne : q ≠ a := fun z => by rw [z, n] at e; cases e
  rw [Mu.upd_ne ne]; exact h q o e
end D

set_option Elab.async false
set_option linter.all false
set_option maxRecDepth 100000
set_option maxHeartbeats 4000000
/-! DII: dict(zip(a, b)) of two lists that stand for good; a, b = such a list. -/
namespace D
open PySem PySem.Spec PyProof.Rows L2
section
variable {B : Bs} {X : Cx} {Γ : G} {μ : Mu} {Q : A → Mu → Prop} {QG : G → Mu → Prop} {a b : Expr} {p p2 q0 pos : Pos}
/-- x, y, .. = a list for good of that length -/
theorem wG_lst {ts : List Expr} {k : Nat} {ys : List A} (h : wGs B X ts ys Γ μ QG) (hc : X.calm = true := by rfl) (hn : (assignEach ts X.env).length = ys.length := by rfl) (hst : (assignEach ts X.env).findIdx? (·.1) = none := by rfl) : wG B X (.Tuple ts k pos) (.lst ys) Γ μ QG := fun σ M F H v bo rs rl rp => by
  rw [rep_lst] at rp
  obtain ⟨q, vs, rfl, g1, g2⟩ := rp
  exact rd_pg (pg_unl (n := ys.length) hc pgs_rd hn hst) ⟨q, vs, rfl, .inl (.inl (rl.sub _ _ g1)), g2.len, h σ M F H vs bo rs rl g2⟩
/-- dict(zip(keys, values)), two lists -/
theorem wE_dictZipL (hm : X.mg "dict" = none) (hm2 : X.mg "zip" = none) (h : wA B X [a, b] Γ μ fun zs μ1 => ∃ (ks : List Key) (ys : List A), zs = [.lst (ks.map kA), .lst ys] ∧ ∀ p, μ1 p = none → Q (.loc p) (μ1.upd p (.dic (mergeA [] (ks.zip ys)))))
    (hg : Gl X "dict" := by rfl) (hg2 : Gl X "zip" := by rfl) (hc : X.calm = true := by rfl) (hs : starEach [a, b] X.env = (false, eval a X.env) :: starEach [b] X.env := by rfl) (hpl : (backTo q0 (starEach [b] X.env)).any (·.1) = false := by rfl) :
    wE B X (.Call (.Name "dict" p) [.Call (.Name "zip" p2) [a, b] [] q0] [] pos) Γ μ Q := by
  intro σ M F H bo rs rl
  refine ⟨fun pins s I => ?_⟩
  refine Call_ (ld_blt I hg hm boot_dict (PyProof.Rows.callWith_type1 (PyProof.Rows.args_cons ?_ rfl) rfl rfl))
  refine Call_ (ld_blt I hg2 hm2 boot_zip (PyProof.Rows.callWith_type1 (thn ((h σ M F H bo rs rl).o q0 pins s I) fun us s1 got => ?_) hs hpl))
  obtain ⟨vs, H1, I1, r1, zs, F1, μ1, ex, rl1, p1, ks, ys, rfl, q1⟩ := got
  obtain ⟨v1, v2, rfl, h1, h2⟩ := p1.two
  rw [rep_lst] at h1 h2
  obtain ⟨a1, vs1, rfl, t1, k1⟩ := h1
  obtain ⟨a2, vs2, rfl, t2, k2⟩ := h2
  obtain ⟨u1, u2, rfl, e1, e2⟩ := vals2 r1
  obtain rfl : u1 = Value.ref a1 := e1
  obtain rfl : u2 = Value.ref a2 := e2
  obtain ⟨its1, n1, g1, z1⟩ := I1.list (show SqL X.K H1 a1 vs1 from .inl (.inl (rl1.sub _ _ t1)))
  obtain ⟨its2, n2, g2, z2⟩ := I1.list (show SqL X.K H1 a2 vs2 from .inl (.inl (rl1.sub _ _ t2)))
  obtain rfl := keys_of k1
  refine call_zip_2 g1.isList g2.isList fun h' b1 b2 b3 b4 b5 b6 keep => PyProof.Rows.args_nil ?_
  have D5 := PySem.W.ktu_apart s1.heap.objs.size a1 a2 g1.lt g2.lt
  have len1 : its1.length = ks.length := by rw [← n1.length, List.length_map]
  have lenz : (ks.zip its2).length = min its1.toArray.size its2.toArray.size := by simp [len1]
  have kvw := zip_kv (ks := ks) n2
  have lenv := kvw.length
  have fits : min its1.toArray.size its2.toArray.size ≤ sizeLine := by
    have := n1.length
    rw [List.length_map] at z1 this
    simp only [List.size_toArray]
    omega
  refine PySem.call_dict_pairs (knd := mixKind X.prog X.w) (kvs := ks.zip its2) (s := { s1 with heap := h' }) (PySem.PairArg.zip _ _ _ _ _ _ _ D5 its1.toArray its2.toArray) (I1.ok.hd hc) ⟨b1, b2, ⟨_, _, b3⟩, b4, b5, g1.isList.at fun o => keep a1 o, g2.isList.at fun o => keep a2 o⟩
    ⟨lenz, fun i key v hr => ?_⟩ fits fun h2 tk hd' keep2 => ?_
  · obtain ⟨c1, c2⟩ := hr
    rw [List.getElem?_toArray] at c1 c2
    obtain ⟨k, c3, c4⟩ := keys_at (P := X.prog) (w := X.w) n1 c1
    exact ⟨k, (List.getElem?_zip_eq_some (z := (k, v))).mpr ⟨c3, c2⟩, c4⟩
  · have low : s1.heap.objs.size ≤ h'.objs.size := by rw [b6]; omega
    have old : ∀ c o, s1.heap.get? c = some o → h2.get? c = some o := fun c o e => keep2 c o (by
      have lt := Heap.lt_size e
      simp only [List.mem_cons, List.not_mem_nil, or_false, not_or]
      exact ⟨Nat.ne_of_lt (Nat.lt_add_right 4 lt), Nat.ne_of_lt (Nat.lt_add_right 3 lt), Nat.ne_of_lt lt, Nat.ne_of_lt (Nat.lt_add_right 1 lt)⟩) (keep c o e)
    have hmod : (h'.objs.size == sysModules) = false := beq_eq_false_iff_ne.mpr (Nat.ne_of_gt (Nat.lt_of_lt_of_le I1.big low))
    have small : (mergeK [] (ks.zip vs2)).length ≤ sizeLine := by
      refine Nat.le_trans (length_mergeK _ []) ?_
      rw [List.length_nil, Nat.zero_add, lenv, lenz]
      exact fits
    have nH : H1 h'.objs.size = none := I1.hok.fresh low
    obtain ⟨nμ, rl2⟩ := rl1.new (m := .dic (mergeA [] (ks.zip ys))) nH ⟨_, rfl, merge_rep (zip_repK (ks := ks) k2) rfl⟩
    exact ⟨.ref h'.objs.size, _, I1.laid (t' := tk) old low (show ObjOk X.prog X.w _ _ _ (.dK (mergeK [] (ks.zip vs2))) from ⟨small, hmod, merged [] (ks.zip its2), KV.merge kvw .nil, hd'⟩), rfl, _, F1, _, ex, rl2, rep_loc.mpr rfl, q1 _ nμ⟩
end
end D

set_option Elab.async false
set_option linter.all false
set_option maxRecDepth 100000
set_option maxHeartbeats 4000000
/-! P15b: dicts from names to names, as cells. -/
namespace D
open PySem PySem.Spec PyProof.Rows L2
abbrev Sk (l : List (Str × Str)) : List (Key × A) := l.map fun p => ((.inr p.1 : Key), A.str p.2)
def putF (l : List (Str × Str)) (w : Str) : Str := ((l.find? fun p => decide (p.1 = w)).map (·.2)).getD w
theorem valA_Sk {w : Str} : ∀ {l : List (Str × Str)}, w ∈ l.map (·.1) → valA (Sk l) (.inr w) = some (.str (putF l w))
  | [], h => by cases h
  | (x, y) :: l, h => by
    by_cases e : x = w
    · subst e; simp [valA, putF]
    · have ih := valA_Sk (w := w) (l := l) ((List.mem_cons.mp h).resolve_left (Ne.symm e))
      simp only [valA, putF, Sk, List.map_cons, List.find?_cons] at ih ⊢
      simp only [Sum.inr.injEq, e, decide_false]
      exact ih
theorem zip_Sk {ns ws : List Str} : (ns.map (Sum.inr : Str → Key)).zip (ws.map A.str) = Sk (ns.zip ws) := by
  rw [List.zip_map]; rfl
theorem merge_Sk {ns ws : List Str} (h : ns.Nodup) (hl : ns.length ≤ ws.length) : mergeA [] ((ns.map (Sum.inr : Str → Key)).zip (ws.map A.str)) = Sk (ns.zip ws) := by
  rw [← zip_Sk]
  refine merge_nodup ?_
  rw [List.map_fst_zip (by simp [hl])]
  exact List.Pairwise.map _ (fun a b hab e => hab (Sum.inr.inj e)) h
theorem zip_keys {ns ws : List Str} (hl : ns.length ≤ ws.length) : (ns.zip ws).map (·.1) = ns := List.map_fst_zip hl
theorem putF_zip {x y : Str} : ∀ {ns ws : List Str} {i : Nat}, ns.Nodup → ns[i]? = some x → ws[i]? = some y → putF (ns.zip ws) x = y
  | n :: ns, v :: ws, 0, hn, h1, h2 => by
    simp at h1 h2
    subst h1; subst h2
    simp [putF]
  | n :: ns, v :: ws, i + 1, hn, h1, h2 => by
    rw [List.nodup_cons] at hn
    have ih := putF_zip (ns := ns) (ws := ws) (i := i) hn.2 (by simpa using h1) (by simpa using h2)
    have ne : ¬ n = x := fun e => hn.1 (e ▸ List.mem_of_getElem? (show ns[i]? = some x by simpa using h1))
    simp only [putF, List.zip_cons_cons, List.find?_cons, ne, decide_false] at ih ⊢
    exact ih
theorem zip_at {ns ws : List Str} (hl : ns.length ≤ ws.length) {x : Str} (h : x ∈ ns) : ∃ (i : Nat) (y : Str), ns[i]? = some x ∧ ws[i]? = some y := by
  obtain ⟨i, hi, e⟩ := List.mem_iff_getElem.mp h
  exact ⟨i, ws[i]'(by omega), by rw [← e]; exact List.getElem?_eq_getElem hi, List.getElem?_eq_getElem _⟩
theorem zip_apart {ns ws : List Str} (hn : ns.Nodup) (hw : ws.Nodup) (hl : ns.length ≤ ws.length) : Apart (putF (ns.zip ws)) ns := fun a ha b hb e => by
  obtain ⟨i, y, h1, h2⟩ := zip_at hl ha
  obtain ⟨j, z, h3, h4⟩ := zip_at hl hb
  rw [putF_zip hn h1 h2, putF_zip hn h3 h4] at e
  subst e
  have hi := (List.getElem?_eq_some_iff.mp h2).1
  have e2 := (List.getElem?_inj hi hw).mp (h2.trans h4.symm)
  subst e2
  rw [h1] at h3
  exact Option.some.inj h3
theorem zip_nms {ns ws : List Str} (hn : ns.Nodup) (hw : ∀ w ∈ ws, isNm (.str w) = true) (hl : ns.length ≤ ws.length) : Nms (putF (ns.zip ws)) ns := fun a ha => by
  obtain ⟨i, y, h1, h2⟩ := zip_at hl ha
  rw [putF_zip hn h1 h2]
  exact hw y (List.mem_of_getElem? h2)
/-! ### a row's things -/
def ThK (T : List Str) (x : A) : Prop := ThOk T x ∨ ∃ k, x = .int k
theorem ThK.isi {T : List Str} {x : A} {μ : Mu} (h : ThK T x) : ∃ nm, tyN μ x = some nm ∧ kitB nm "str" = some (isStr0 x) := by
  rcases h with (⟨w, rfl, _⟩ | ⟨n, d, rfl, _⟩) | ⟨k, rfl⟩
  · exact ⟨"str", rfl, show kitB "str" "str" = some true by decide +kernel⟩
  · exact ⟨"tuple", rfl, show kitB "tuple" "str" = some false by decide +kernel⟩
  · exact ⟨"int", rfl, show kitB "int" "str" = some false by decide +kernel⟩
theorem ThK.str {T : List Str} {x : A} (h : ThK T x) (k : isStr0 x = true) : ∃ u, x = .str u ∧ u ∈ T := by
  rcases h with (⟨w, rfl, h, _⟩ | ⟨n, d, rfl, _⟩) | ⟨k, rfl⟩
  · exact ⟨w, rfl, h⟩
  · cases k
  · cases k
theorem ThK.non {T : List Str} {x : A} (h : ThK T x) (k : isStr0 x = false) (f : Str → Str) : thR f x = x := by
  rcases h with (⟨w, rfl, h, _⟩ | ⟨n, d, rfl, _⟩) | ⟨k, rfl⟩
  · cases k
  · rfl
  · rfl
theorem cut_from {xs : List A} {k : Nat} (h : k ≤ xs.length) : cutA xs (some (k : Int)) none = xs.drop k := by
  unfold cutA
  rw [HT.sIx_nat, Nat.min_eq_left h]
  show (xs.drop k).take (xs.length - k) = xs.drop k
  exact List.take_of_length_le (by rw [List.length_drop]; exact Nat.le_refl _)
theorem row_things {Pn : Nm} {T : List Str} {w : Str} {ts : List A} (h : RowOk Pn T w ts) (hl : ts.length ≤ 1000) : ∃ nh : List A, cutA ts (some (if decide (w = "call") = true then 1 else 0)) none = nh ∧ nh.length ≤ 1000 ∧ (∀ x ∈ nh, ThK T x) ∧ (w ≠ "call" → ∀ f t, tsR f t w ts = nh.map (thR f)) ∧ (w = "call" → ∃ c n, ts = .str c :: nh ∧ valI Pn c = some n) := by
  rcases h with ⟨rfl, c, r, rfl, h3, h4, h5, h6⟩ | ⟨rfl, a, k, rfl, h3, h4⟩ | ⟨h1, h2, h3, h4⟩
  · refine ⟨r, ?_, by simp at hl; omega, fun x hx => .inl (h6 x hx), fun z => absurd rfl z, fun _ => ⟨c, _, rfl, h3⟩⟩
    rw [if_pos (by decide)]
    exact cut_from (k := 1) (by simp)
  · refine ⟨[a, .int k], ?_, by simp, fun x hx => ?_, fun _ f t => tsR_ne (by decide +kernel), fun z => absurd z (by decide +kernel)⟩
    · rw [if_neg (by decide +kernel)]
      exact cut_from (k := 0) (by simp)
    · simp only [List.mem_cons, List.not_mem_nil, or_false] at hx
      rcases hx with rfl | rfl
      · exact .inl h3
      · exact .inr ⟨_, rfl⟩
  · refine ⟨ts, ?_, hl, fun x hx => .inl (h4 x hx), fun z f t => tsR_ne z, fun z => absurd z h1⟩
    rw [if_neg (by simpa using h1)]
    exact cut_from (k := 0) (by simp)
theorem okIts_at {S : List Str} {Pn : Nm} {d : Nat} {x : It} : ∀ {b : List It} {T : List Str} {i : Nat}, okIts Pn d T b → inIts S b → (∀ w ∈ T, w ∈ S) → tsIts b → b[i]? = some x → ∃ T1, x.ok Pn d T1 ∧ x.inS S ∧ (∀ w ∈ T1, w ∈ S) ∧ x.tsOk ∧ x.size ≤ sizeIts b
  | y :: b, T, 0, h1, h2, h3, h4, e => by
    simp at e; subst e
    simp only [okIts] at h1
    simp only [inIts] at h2
    simp only [tsIts] at h4
    exact ⟨T, h1.1, h2.1, h3, h4.1, by simp only [sizeIts]; omega⟩
  | y :: b, T, i + 1, h1, h2, h3, h4, e => by
    simp only [okIts] at h1
    simp only [inIts] at h2
    simp only [tsIts] at h4
    obtain ⟨T1, g1, g2, g3, g4, g5⟩ := okIts_at (i := i) h1.2 h2.2 (told_in y T h2.1 h3) h4.2 (by simpa using e)
    exact ⟨T1, g1, g2, g3, g4, by simp only [sizeIts]; omega⟩
theorem renIts_take {f t : Str → Str} {b : List It} {i : Nat} {x : It} (h : b[i]? = some x) : aIts (renIts f t (b.take (i + 1))) = aIts (renIts f t (b.take i)) ++ [(x.ren f t).a] := by
  rw [List.take_add_one, h]
  simp [renIts_map, aIts_map]
theorem okPts_at {U : List Str} {q : Pt} : ∀ {l : List Pt} {Pn : Nm}, okPts Pn l → (∀ p ∈ Pn, p.1 ∈ U) → (∀ p ∈ l, p.nm ∈ U) → q ∈ l → ∃ Pn', q.ok Pn' ∧ ∀ p ∈ Pn', p.1 ∈ U
  | x :: l, Pn, h, h1, h2, hm => by
    simp only [okPts] at h
    rcases List.mem_cons.mp hm with rfl | hm
    · exact ⟨Pn, h.1, h1⟩
    · refine okPts_at h.2 (fun p hp => ?_) (fun p hp => h2 p (.tail _ hp)) hm
      rcases List.mem_append.mp hp with hp | hp
      · exact h1 p hp
      · rw [List.mem_singleton.mp hp]; exact h2 x (.head _)
theorem sum_mem : ∀ {l : List Nat} {n : Nat}, n ∈ l → n ≤ l.sum
  | x :: l, n, h => by
    rcases List.mem_cons.mp h with rfl | h
    · simp
    · have := sum_mem h
      simp; omega
theorem size_part {g : Pg} (ok : g.ok) {q : Pt} (h : q ∈ g.parts) : sizeIts q.body ≤ 80 := by
  have h1 := ok.size
  have h2 : q.size ≤ sizePts g.parts := sum_mem (List.mem_map.mpr ⟨q, h, rfl⟩)
  simp only [Pg.size, Pt.size] at h1 h2
  omega
/-- the two dicts -/
structure RenAt (Fn Ft : List (Str × Str)) (fl tl : Addr) (μ : Mu) : Prop where
  f : μ fl = some (.dic (Sk Fn))
  t : μ tl = some (.dic (Sk Ft))
theorem RenAt.sub {Fn Ft : List (Str × Str)} {fl tl : Addr} {μ μ' : Mu} (h : RenAt Fn Ft fl tl μ) (s : Sub μ μ') : RenAt Fn Ft fl tl μ' := ⟨s _ _ h.f, s _ _ h.t⟩
end D

set_option Elab.async false
set_option linter.all false
set_option maxRecDepth 100000
set_option maxHeartbeats 4000000
/-! P15c: what a law draws programs by (as in the hints of _law_program). -/
namespace D
open PySem PySem.Spec PyProof.Rows L2
theorem datStrs {T : List Str} (h : ∀ w ∈ T, isNm (.str w) = true) : DatOk (.lst (T.map D.A.str)) := by
  refine ⟨?_, ?_⟩
  · simp only [isD]
    refine isDs_all fun a ha => ?_
    obtain ⟨w, hw, rfl⟩ := List.mem_map.mp ha
    simp only [isD]
    exact strOk_let (isNm_let (h w hw)).1
  · have : deeps (T.map D.A.str) ≤ 0 := deeps_le fun a ha => by
      obtain ⟨w, _, rfl⟩ := List.mem_map.mp ha
      simp [deep]
    simp only [deep]; omega
theorem thOk_at {T : List Str} {x : D.A} (hT : ∀ w ∈ T, isNm (.str w) = true) (hx : x ∈ T.map D.A.str) : ThOk T x ∧ ThSm x := by
  obtain ⟨w, hw, rfl⟩ := List.mem_map.mp hx
  obtain ⟨h1, h2, _⟩ := isNm_let (hT w hw)
  exact ⟨.inl ⟨w, rfl, hw, h1, h2⟩, thSm_str h1 h2⟩
theorem atI_back {xs : List D.A} {i : Int} (h0 : i < 0) (h1 : -(xs.length : Int) ≤ i) : ∃ y ∈ xs, atI xs i = some y := by
  have h : (i + xs.length).toNat < xs.length := by omega
  exact ⟨xs[(i + xs.length).toNat], List.getElem_mem h, atI_neg (List.getElem?_eq_getElem h) h0 h1⟩
theorem Ls.new {m l p : Addr} {μ μ' : Mu} {o : MO} (a : Ls m l μ μ') (np : μ' p = none) : Ls m l μ (μ'.upd p o) := fun q o2 h1 h2 h => by
  have h3 := a q o2 h1 h2 h
  rw [Mu.upd_ne (fun z => by rw [z, np] at h3; cases h3)]
  exact h3
theorem Lx.new {m l p : Addr} {c : Nat} {rm : Int} {mo : Option (List Str)} {μ : Mu} {o : MO} (h : Lx m l c rm mo μ) (np : μ p = none) : Lx m l c rm mo (μ.upd p o) := h.del (h.off np).1 (h.off np).2
structure PsOk (Pn : List (Str × Int)) (ps : List Pt) : Prop where
  dat : DatOk (.lst (ps.map Pt.a))
  all : ∀ q ∈ ps, isNm (.str q.nm) = true ∧ valI Pn q.nm = some (q.ins.length : Int) ∧ q.ins.length ≤ 4
  len : ps.length ≤ 6
theorem valI_old {Pn : List (Str × Int)} {x w : Str} {v i : Int} (h : valI Pn x = some v) : valI (Pn ++ [(w, i)]) x = some v := by
  unfold valI at h ⊢
  rw [List.find?_append]
  cases e : Pn.find? (fun kv => decide (kv.1 = x)) with
  | none => rw [e] at h; cases h
  | some p => rw [e] at h; exact h
theorem valI_new {Pn : List (Str × Int)} {w : Str} {i : Int} (h : valI Pn w = none) : valI (Pn ++ [(w, i)]) w = some i := by
  unfold valI at h ⊢
  rw [List.find?_append]
  cases e : Pn.find? (fun kv => decide (kv.1 = w)) with
  | none => simp
  | some p => rw [e] at h; cases h
theorem valI_out {Pn : List (Str × Int)} {w : Str} (h : ∀ p ∈ Pn, p.1 ≠ w) : valI Pn w = none := by
  unfold valI
  rw [Option.map_eq_none_iff, List.find?_eq_none]
  exact fun p hp e => h p hp (of_decide_eq_true e)
theorem okPts_snoc {q : Pt} : ∀ {l : List Pt} {Pn : List (Str × Int)}, okPts Pn l → q.ok (Pn ++ pnPts l) → okPts Pn (l ++ [q])
  | [], Pn, _, h => by simp only [List.nil_append, okPts]; exact ⟨by simpa using h, trivial⟩
  | x :: l, Pn, h, hq => by
    simp only [okPts] at h
    simp only [List.cons_append, okPts]
    exact ⟨h.1, okPts_snoc h.2 (by simpa using hq)⟩
theorem Pt.dat {q : Pt} {Pn : List (Str × Int)} (h : q.ok Pn) (s : q.sm) : isD q.a = true ∧ deep q.a ≤ 13 := by
  obtain ⟨h1, h2⟩ := datIts h.body
  have h3 := datStrs h.ins
  have h4 := h3.1
  simp only [isD] at h4
  have h5 : deeps (q.ins.map D.A.str) ≤ 0 := deeps_le fun a ha => by
    obtain ⟨w, _, rfl⟩ := List.mem_map.mp ha
    simp [deep]
  refine ⟨?_, ?_⟩
  · simp only [Pt.a, isD, isDs, h1, h4, strOk_let (isNm_let h.nm).1, strOk_let (isNm_let s.give).1, Bool.and_self]
  · simp only [Pt.a, deep, deeps]; omega
theorem deeps_get : ∀ {l : List D.A} {a : D.A}, a ∈ l → deep a ≤ deeps l
  | x :: l, a, h => by
    simp only [deeps]
    rcases List.mem_cons.mp h with rfl | h
    · omega
    · have := deeps_get h
      omega
theorem cut_upto {xs : List A} {k : Nat} (h : k ≤ xs.length) : cutA xs none (some (k : Int)) = xs.take k := by
  unfold cutA
  rw [HT.sIx_nat, Nat.min_eq_left h]
  show (xs.drop 0).take (k - 0) = xs.take k
  simp
end D

set_option Elab.async false
set_option linter.all false
set_option maxRecDepth 100000
set_option maxHeartbeats 4000000
namespace D
open PySem PySem.Spec PyProof.Rows L2
local macro_rules | `(tactic| walk_at "mul") => `(tactic| first | refine wO_mul (mulR (by first | decide | omega) (by first | decide | omega)) ?_ | refine wO_mul (mulL (by first | decide | omega) (by first | decide | omega)) ?_)
local macro_rules | `(tactic| walk_at "mod") => `(tactic| refine wO_mod (by first | decide | omega) ?_)
local macro_rules | `(tactic| walk_at "fdiv") => `(tactic| refine wO_fdiv (by first | decide | omega) (divS (by first | decide | omega)) ?_)
local macro_rules | `(tactic| walk_at "ix") => `(tactic| first | refine wI_tup (by rfl) ?_ | refine wI_lst (by rfl) ?_)
local macro_rules | `(tactic| walk_at "sl") => `(tactic| first | refine wSl_tup ?_ | refine wSl_lstF ?_)
local macro_rules | `(tactic| walk_at "obj") => `(tactic| refine ⟨_, _, _, rfl, by assumption, rfl, ?_⟩)
local macro_rules | `(tactic| walk_at "len") => `(tactic| first | refine wC_len (.tup _) ?_ | refine wC_len (.lst _) ?_ | refine wC_len (.loc (by assumption)) ?_)
section
variable {P : Program} {w : World} {mg : Str → Option Value} {base : Heap} {K : PySem.W.Frag} {CL CP CG CTL CTe CPr CPo CNV CTG CCo CS pT : Addr} {k : Nat}
abbrev s__law_some_row : Stmt := topS 57
abbrev N__law_some_row : List Str := ["_law_m", "_law_names_here", "_law_told", "_law_parts", "_law_way", "_law_name", "_law_some", "_law_k", "_law_part"]
theorem sc__law_some_row : FnScope N__law_some_row ["_law_m", "_law_names_here", "_law_told", "_law_parts"] (defScope s__law_some_row) := ⟨rfl, rfl, rfl, by decide +kernel, rfl, by decide +kernel, by decide +kernel⟩
def c__law_some_row : AC := fun xs μ Q _ => ∃ (m l tp pp : Addr) (c : Nat) (rm : Int) (mo : Option (List Str)) (ns T : List Str) (Pn : Nm) (ps : List Pt), xs = [.loc m, .lst (ns.map D.A.str), .loc tp, .loc pp] ∧ Lx m l c rm mo μ ∧ c < 2 ^ 37 ∧ 1 ≤ ns.length ∧ ns.length ≤ 12 ∧ 1 ≤ T.length ∧ T.length ≤ 1000 ∧ (∀ w ∈ T, isNm (.str w) = true) ∧ μ tp = some (.lst (T.map D.A.str)) ∧ tp ≠ m ∧ tp ≠ l ∧ μ pp = some (.lst (ps.map Pt.a)) ∧ pp ≠ m ∧ pp ≠ l ∧ PsOk Pn ps ∧ (∀ p ∈ ps, p.ins.length ≤ 3) ∧
  ∀ (x w : Str) (ts : List D.A) (μ' : Mu), x ∈ ns → RowOk Pn T w ts → RowSm w ts → Lx m l (c + 20) rm mo μ' → Ls m l μ μ' → Q (It.row x w ts).a μ'
theorem ok__law_some_row {n : Nat}  {f : Addr} {fd : FuncData} (TX : Txt K mg w CL CP CG CTL CTe CPr CPo CNV CTG CCo CS pT) (C__law_draw : Cal P w K mg base n "_law_draw" c__law_draw) (C__law_fraction : Cal P w K mg base n "_law_fraction" c__law_fraction) (F : Fun K "_law_some_row" "_law_some_row" s__law_some_row f fd) : FnD P w K mg base CX0 (n + 1) f fd ["_law_m", "_law_names_here", "_law_told", "_law_parts"] c__law_some_row := by
  refine fnD F sc__law_some_row (fun xs μ Q E hc => by obtain ⟨m, l, tp, pp, c, rm, mo, ns, T, Pn, ps, rfl, lw, hc, hn1, hn12, hT1, hTl, hT, htp, t1, t2, hpp, p1, p2, hps, hp3, q⟩ := hc; rfl) (fun cdv Ao outer s H E xs μ Q E0 ar hc => ?_)
  obtain ⟨m, l, tp, pp, c, rm, mo, ns, T, Pn, ps, rfl, lw, hc, hn1, hn12, hT1, hTl, hT, htp, t1, t2, hpp, p1, p2, hps, hp3, q⟩ := hc
  have nd := sc__law_some_row.nd
  refine wSs_cons (wS_set 4 (wE_cal C__law_draw ar (by omega) (wA_cons (wE_name 0 rfl (wA_cons (wE_int (wA_nil ?_)))))) nd)
  refine ⟨m, l, 5, c, _, _, rfl, by decide, by decide, lw, by omega, fun way μ1 a0 a1 lw1 ls1 => ?_⟩
  refine wSs_cons (wS_set 5 (wE_ix (wE_name 1 rfl (wE_cal C__law_draw ar (by omega) (wA_cons (wE_name 0 rfl (wA_cons (wE_callB (id := "len") TX.b_len (by decide +kernel) (wA_cons (wE_name 1 rfl (wA_nil ?_)))))))))) nd)
  refine wC_len (.lst _) ?_
  rw [List.length_map]
  refine wA_nil ?_
  refine ⟨m, l, _, _, _, _, rfl, by omega, by omega, lw1, by omega, fun r2 μ2 b0 b1 lw2 ls2 => ?_⟩
  obtain ⟨y1, hy1, ey1⟩ := atI_ex (xs := ns.map D.A.str) b0 (by rw [List.length_map]; omega)
  obtain ⟨nm, hnm, rfl⟩ := List.mem_map.mp hy1
  refine wI_lst ey1 ?_
  refine wSs_cons (wS_setLc [("_law_k", 7)] 6 (wIt_range1 TX.b_range (wA_cons (wE_int (wA_nil ⟨_, rfl, by omega, by omega, ?_⟩)))) nd (blkOk_by (N := N__law_some_row) (sc := defScope s__law_some_row) (by decide +kernel)) (sw_true rfl rfl rfl (by decide +kernel)))
  refine ⟨by rw [rgA_len]; decide, fun i acc μ' => acc.length = i ∧ (∀ a ∈ acc, ThOk T a ∧ ThSm a) ∧ Lx m l (c + 2 + 5 * i) rm mo μ' ∧ Ls m l μ μ', ⟨rfl, (fun _ h => nomatch h), lw2, ls1.trans ls2⟩, fun i y acc μ' hy hJ s0 H0 C cl fp => ?_, fun acc μ' hJ pl npl => ?_⟩
  obtain ⟨ha, hall, lwi, lsi⟩ := hJ
  obtain ⟨hi, rfl⟩ := rgA_at hy
  have hi3 : i < 3 := by omega
  refine wGw_name 7 (fun s0 H0 C cl fp => ?_) nd
  refine wE_if (wT_cmp (wE_cal C__law_draw ar.bk (by omega) (wA_cons (wE_name 0 rfl (wA_cons (wE_int (wA_nil ?_)))))))
  refine ⟨m, l, 6, _, _, _, rfl, by decide, by decide, lwi, by omega, fun r3 μ3 d0 d1 lw3 ls3 => ?_⟩
  have ht3 := (lsi.trans ls3) tp _ t1 t2 htp
  refine wE_int ?_
  refine wO_gt ?_
  refine ⟨_, rfl, ?_⟩
  refine ⟨fun hk => ?_, fun hk => ?_⟩
  refine wE_ix (wE_name 2 rfl (wE_cal C__law_draw ar.bk (by omega) (wA_cons (wE_name 0 rfl (wA_cons (wE_callB (id := "len") TX.b_len (by decide +kernel) (wA_cons (wE_name 2 rfl (wA_nil ?_)))))))))
  refine wC_len (.loc ht3) ?_
  rw [List.length_map]
  refine wA_nil ?_
  refine ⟨m, l, _, _, _, _, rfl, by omega, by omega, lw3, by omega, fun r4 μ4 e0 e1 lw4 ls4 => ?_⟩
  obtain ⟨y2, hy2, ey2⟩ := atI_ex (xs := T.map D.A.str) e0 (by rw [List.length_map]; omega)
  obtain ⟨o1, o2⟩ := thOk_at hT hy2
  refine wI_loc (ls4 tp _ t1 t2 ht3) ey2 ?_
  exact ⟨by rw [List.length_append, ha]; rfl, fun a h => by
    rcases List.mem_append.mp h with h | h
    · exact hall a h
    · rw [List.mem_singleton.mp h]; exact ⟨o1, o2⟩, lw4.up (by omega), (lsi.trans ls3).trans ls4⟩
  refine wE_cal C__law_fraction ar.bk (by omega) (wA_cons (wE_name 0 rfl (wA_nil ?_)))
  refine ⟨m, l, _, _, _, rfl, lw3, by omega, fun n d μ4 hf b20 b9 lw4 ls4 => ?_⟩
  exact ⟨by rw [List.length_append, ha]; rfl, fun a h => by
    rcases List.mem_append.mp h with h | h
    · exact hall a h
    · rw [List.mem_singleton.mp h]; exact ⟨.inr ⟨n, d, rfl, hf⟩, thSm_fr b20 hf.pos b9⟩, lw4.up (by omega), (lsi.trans ls3).trans ls4⟩
  obtain ⟨ha, hall, lwi, lsi⟩ := hJ
  have ha3 : acc.length = 3 := by rw [rgA_len] at ha; exact ha
  rw [rgA_len] at lwi
  obtain ⟨z0, z1, z2, rfl⟩ : ∃ z0 z1 z2, acc = [z0, z1, z2] := by
    match acc, ha3 with
    | [z0, z1, z2], _ => exact ⟨_, _, _, rfl⟩
  have lw5 := (lwi.up (d := c + 17) (by omega)).new (o := .lst [z0, z1, z2]) npl
  have ls5 := lsi.new (o := .lst [z0, z1, z2]) npl
  have k0 := hall z0 (by simp)
  have k1 := hall z1 (by simp)
  have k2 := hall z2 (by simp)
  have hsome : (μ'.upd pl (.lst [z0, z1, z2])) pl = some (.lst [z0, z1, z2]) := Mu.upd_same
  generalize μ'.upd pl (.lst [z0, z1, z2]) = μ5 at lw5 ls5 hsome
  refine wSs_cons (wS_if (wT_cmp (wE_name 4 rfl (wE_int ?_))))
  refine wO_lt ?_
  refine ⟨_, rfl, ?_⟩
  refine ⟨fun hk => ?_, fun hk => ?_⟩
  refine wSs_cons (wS_ret (wE_tup (wA_cons (wE_str (wA_cons (wE_name 5 rfl (wA_cons (wE_str (wA_cons (wE_tup (wA_cons (wE_ix (wE_name 6 rfl (wE_int ?_))))))))))))))
  refine wI_loc hsome (atI_pos (i := 0) (y := z0) (by rfl) (by decide)) ?_
  refine wA_nil ⟨by show 1 ≤ sizeLine; decide, (wA_nil ⟨by show 4 ≤ sizeLine; decide, ?_⟩)⟩
  exact q nm "copy" [z0] _ hnm (.inr (.inr ⟨by decide +kernel, by decide +kernel, (show valI TAKENL "copy" = some 1 by decide +kernel), fun a h => by rw [List.mem_singleton.mp h]; exact k0.1⟩)) ⟨by simp, fun a h => by rw [List.mem_singleton.mp h]; exact k0.2, by decide +kernel⟩ (lw5.up (by omega)) ls5
  refine wSs_nil ?_
  refine wSs_cons (wS_if ?_)
  have hpp5 := ls5 pp _ p1 p2 hpp
  refine wT.imp (QB := fun k μ' => μ5 = μ' ∧ (k = true → ps ≠ [])) ?_ (fun k μ' hq => ?_)
  refine wT_chain (wW_and (wT_cmp (wE_name 4 rfl (wE_int ?_))))
  refine wO_lt ?_
  refine ⟨_, rfl, ?_⟩
  refine and_flip (fun hk => ?_) (fun hk => ?_)
  · exact ⟨rfl, fun z => nomatch z⟩
  refine wW_and1 (wT_cmp (wE_name 3 rfl (wE_lstF (wA_nil ⟨by show 0 ≤ sizeLine; decide, ?_⟩))))
  refine wO_neL ar.u64 (.loc hpp5) (.lst []) hps.dat datNil ?_
  rw [eqvNil]
  refine ⟨_, rfl, ?_⟩
  exact ⟨rfl, fun z y => by subst y; simp at z⟩
  obtain ⟨rfl, hne⟩ := hq
  refine ⟨fun hk => ?_, fun hk => ?_⟩
  have hpos : 0 < ps.length := List.length_pos_iff.mpr (hne hk)
  have hl6 := hps.len
  refine wSs_cons (wS_set 8 (wE_ix (wE_name 3 rfl (wE_bin (wE_bin (wE_int (wE_int ?_)))))) nd)
  refine wO_sub ?_
  refine wE_cal C__law_draw ar (by omega) (wA_cons (wE_name 0 rfl (wA_cons (wE_callB (id := "min") TX.b_min (by decide +kernel) (wA_cons (wE_int (wA_cons (wE_callB (id := "len") TX.b_len (by decide +kernel) (wA_cons (wE_name 3 rfl (wA_nil ?_)))))))))))
  refine wC_len (.loc hpp5) ?_
  rw [List.length_map]
  refine wA_nil ?_
  refine wC_min2 (by rfl) ?_
  generalize hmn : (if (ps.length : Int) < 2 then (ps.length : Int) else 2) = mn
  have m0 : 0 < mn := by rw [← hmn]; split <;> omega
  have m1 : mn ≤ ps.length := by rw [← hmn]; split <;> omega
  refine wA_nil ?_
  refine ⟨m, l, mn, _, _, _, rfl, m0, by omega, lw5, by omega, fun r5 μ6 f0 f1 lw6 ls6 => ?_⟩
  have hs6 : μ6 pl = some (.lst [z0, z1, z2]) := ls6 _ _ (lwi.off npl).1 (lwi.off npl).2 hsome
  refine wO_sub ?_
  obtain ⟨y4, hy4, ey4⟩ := atI_back (xs := ps.map Pt.a) (i := 0 - 1 - r5) (by omega) (by rw [List.length_map]; omega)
  obtain ⟨pt, hpt, rfl⟩ := List.mem_map.mp hy4
  obtain ⟨n1, n2, n3⟩ := hps.all pt hpt
  have n4 := hp3 pt hpt
  refine wI_loc (ls6 pp _ p1 p2 hpp5) ey4 ?_
  refine wSs_cons (wS_ret (wE_tup (wA_cons (wE_str (wA_cons (wE_name 5 rfl (wA_cons (wE_str (wA_cons (wE_bin (wE_tup (wA_cons (wE_ix (wE_name 8 rfl (wE_int ?_)))))))))))))))
  refine wI_tup (atI_pos (i := 0) (y := .str pt.nm) (by rfl) (by decide)) ?_
  refine wA_nil ⟨by show 1 ≤ sizeLine; decide, (wE_callTy (T := "tuple") TX.b_tuple (by decide +kernel) (wA_cons (wE_slice (wE_name 6 rfl (wE_callB (id := "len") TX.b_len (by decide +kernel) (wA_cons (wE_ix (wE_name 8 rfl (wE_int ?_)))))))))⟩
  refine wI_tup (atI_pos (i := 1) (y := .tup (pt.ins.map D.A.str)) (by rfl) (by decide)) ?_
  refine wA_nil ?_
  refine wC_len (.tup _) ?_
  rw [List.length_map]
  refine ⟨_, rfl, ?_⟩
  refine wSl_locF hs6 ?_
  rw [cut_upto (by show pt.ins.length ≤ 3; omega)]
  refine wA_nil ?_
  refine wC_tuple (.lst _) ?_
  refine wO_catT (szOk (by simp only [List.length_singleton, List.length_take]; omega)) ?_
  refine wA_nil ⟨by show 4 ≤ sizeLine; decide, ?_⟩
  obtain ⟨g1, g2, _⟩ := isNm_let n1
  have hz : ∀ a ∈ [z0, z1, z2].take pt.ins.length, ThOk T a ∧ ThSm a := fun a h => hall a (List.mem_of_mem_take h)
  have el : ([z0, z1, z2].take pt.ins.length).length = pt.ins.length := by rw [List.length_take]; exact Nat.min_eq_left n4
  refine q nm "call" (.str pt.nm :: [z0, z1, z2].take pt.ins.length) _ hnm (.inl ⟨rfl, pt.nm, _, rfl, by rw [n2, el], g1, g2, fun a h => (hz a h).1⟩) ⟨by rw [List.length_cons, el]; omega, fun a h => ?_, by decide +kernel⟩ (lw6.up (by omega)) (ls5.trans ls6)
  rcases List.mem_cons.mp h with rfl | h
  · exact thSm_str g1 g2
  · exact (hz a h).2
  refine wSs_nil ?_
  refine wSs_cons (wS_ret (wE_tup (wA_cons (wE_str (wA_cons (wE_name 5 rfl (wA_cons (wE_ix (wE_lstF (wA_cons (wE_str (wA_cons (wE_str (wA_nil ⟨by show 2 ≤ sizeLine; decide, (wE_cal C__law_draw ar (by omega) (wA_cons (wE_name 0 rfl (wA_cons (wE_int (wA_nil ?_))))))⟩))))))))))))))
  refine ⟨m, l, 2, _, _, _, rfl, by decide, by decide, lw5, by omega, fun r6 μ6 f0 f1 lw6 ls6 => ?_⟩
  have hs6 : μ6 pl = some (.lst [z0, z1, z2]) := ls6 _ _ (lwi.off npl).1 (lwi.off npl).2 hsome
  obtain ⟨y7, hy7, ey7⟩ := atI_ex (xs := [D.A.str "plus", .str "less"]) f0 (by simpa using f1)
  obtain ⟨wd, rfl, w1, w2, w3, w4⟩ : ∃ z : Str, y7 = .str z ∧ z ≠ "call" ∧ z ≠ "power" ∧ valI TAKENL z = some 2 ∧ shl (.str z) ≤ 200 := by
    simp only [List.mem_cons, List.not_mem_nil, or_false] at hy7
    rcases hy7 with rfl | rfl <;> exact ⟨_, rfl, by decide +kernel, by decide +kernel, by decide +kernel, by decide +kernel⟩
  refine wI_lst ey7 ?_
  refine wA_cons (wE_tup (wA_cons (wE_ix (wE_name 6 rfl (wE_int ?_)))))
  refine wI_loc hs6 (atI_pos (i := 0) (y := z0) (by rfl) (by decide)) ?_
  refine wA_cons (wE_ix (wE_name 6 rfl (wE_int ?_)))
  refine wI_loc hs6 (atI_pos (i := 1) (y := z1) (by rfl) (by decide)) ?_
  refine wA_nil ⟨by show 2 ≤ sizeLine; decide, (wA_nil ⟨by show 4 ≤ sizeLine; decide, ?_⟩)⟩
  have hz : ∀ a ∈ [z0, z1], ThOk T a ∧ ThSm a := fun a h => hall a (by simp only [List.mem_cons, List.not_mem_nil, or_false] at h ⊢; exact h.elim .inl fun h => .inr (.inl h))
  exact q nm wd [z0, z1] _ hnm (.inr (.inr ⟨w1, w2, w3, fun a h => (hz a h).1⟩)) ⟨by simp, fun a h => (hz a h).2, w4⟩ (lw6.up (by omega)) (ls5.trans ls6)

end
end D

set_option Elab.async false
set_option linter.all false
set_option maxRecDepth 100000
set_option maxHeartbeats 4000000
/-! P15d: rows put one behind the other, parts too. -/
namespace D
open PySem PySem.Spec PyProof.Rows L2
theorem inA_strs {w : Str} : ∀ {l : List Str}, inA (.str w) (l.map A.str) = decide (w ∈ l)
  | [] => rfl
  | x :: l => by
    have ih := inA_strs (w := w) (l := l)
    unfold inA at ih ⊢
    rw [List.map_cons, List.any_cons, ih]
    have e : eqA (.str x) (.str w) = decide (x = w) := rfl
    rw [e]
    by_cases h : x = w
    · subst h; simp
    · have h2 : ¬ w = x := fun z => h z.symm
      simp [h, h2]
theorem all_flat (l : List Str) : (l.map A.str).all flatA = true := by
  rw [List.all_map]
  exact List.all_eq_true.mpr fun _ _ => rfl
theorem inIts_snoc {S : List Str} {x : It} (hx : x.inS S) : ∀ {b : List It}, inIts S b → inIts S (b ++ [x])
  | [], _ => by simp only [List.nil_append, inIts]; exact ⟨hx, trivial⟩
  | y :: b, h => by
    simp only [inIts] at h
    simp only [List.cons_append, inIts]
    exact ⟨h.1, inIts_snoc hx h.2⟩
theorem Ke.over {S : List Addr} {μ μ1 : Mu} {p : Addr} {o : MO} (a : Ke S μ μ1) (n : μ p = none) : Ke S μ (μ1.upd p o) := fun q u h e => by
  rw [Mu.upd_ne (fun z => by rw [z, n] at e; cases e)]
  exact a q u h e
theorem Ls.ke {m l : Addr} {S : List Addr} {μ μ' : Mu} (h : Ls m l μ μ') (h1 : m ∈ S) (h2 : l ∈ S) : Ke S μ μ' := fun q o n e => h q o (fun z => n (z ▸ h1)) (fun z => n (z ▸ h2)) e
theorem Ls.old {m l p : Addr} {μ μ' : Mu} (h : Ls m l μ μ') (h1 : p ≠ m) (h2 : p ≠ l) (n : μ' p = none) : μ p = none := by
  cases e : μ p with
  | none => rfl
  | some o => rw [h p o h1 h2 e] at n; cases n
theorem Ls.of_ke {m l tp : Addr} {μ μ1 μ2 : Mu} (h : Ls m l μ μ1) (k : Ke [m, l, tp] μ1 μ2) (n : μ tp = none) : Ls m l μ μ2 := fun q o h1 h2 e => k q o (by
  have : q ≠ tp := fun z => by rw [z, n] at e; cases e
  simp [h1, h2, this]) (h q o h1 h2 e)
theorem Ls.over {m l p : Addr} {μ μ1 : Mu} {o : MO} (h : Ls m l μ μ1) (n : μ p = none) : Ls m l μ (μ1.upd p o) := fun q u h1 h2 e => by
  rw [Mu.upd_ne (fun z => by rw [z, n] at e; cases e)]
  exact h q u h1 h2 e
theorem take_names {ns : List Str} {k : Nat} (hk : k ≤ ns.length) (hn : ns.Nodup) : (ns.take k).length = k ∧ (ns.take k).Nodup ∧ ∀ w ∈ ns.take k, w ∈ ns :=
  ⟨by rw [List.length_take]; omega, hn.sublist (List.take_sublist _ _), fun w hw => List.mem_of_mem_take hw⟩
theorem cut_names {ns : List Str} {r : Int} (h0 : 0 ≤ r) (h : r ≤ ns.length) : cutA (ns.map A.str) none (some r) = (ns.take r.toNat).map A.str := by
  obtain ⟨k, rfl⟩ := Int.eq_ofNat_of_zero_le h0
  rw [cut_upto (by rw [List.length_map]; omega), ← List.map_take]
  rfl
theorem told_pos {b : List It} {T : List Str} (h : 1 ≤ T.length) : 1 ≤ (toldIts b T).length := by
  obtain ⟨w, hw⟩ := List.exists_mem_of_length_pos (l := T) h
  exact List.length_pos_of_mem (tolds_up b T w hw)
/-- rows put so far -/
structure RwS (m l tp pf : Addr) (c i : Nat) (rm : Int) (mo : Option (List Str)) (ns T : List Str) (Pn : Nm) (μ : Mu) (b : List It) (μ' : Mu) : Prop where
  cell : μ' pf = some (.lst (aIts b))
  told : μ' tp = some (.lst ((toldIts b T).map A.str))
  len : b.length = i
  size : sizeIts b = i
  ok : ∀ d, d ≤ 3 → okIts Pn d T b
  sm : smIts b
  inn : inIts ns b
  nm : ∀ w ∈ toldIts b T, isNm (.str w) = true
  lx : Lx m l (c + 20 * i) rm mo μ'
  ke : Ke [m, l, tp] μ μ'
section
variable {m l tp pf : Addr} {c i : Nat} {rm : Int} {mo : Option (List Str)} {ns T : List Str} {Pn : Nm} {μ μ1 : Mu} {b : List It}
theorem RwS.tl (S : RwS m l tp pf c i rm mo ns T Pn μ b μ1) : (toldIts b T).length ≤ T.length + i := by
  have := tolds_len b T
  rw [S.size] at this
  exact this
/-- one row more, its name told there or told now -/
theorem RwS.step (S : RwS m l tp pf c i rm mo ns T Pn μ b μ1) {x w : Str} {ts : List A} {μ2 : Mu} (hx : x ∈ ns) (hns : ∀ w ∈ ns, isNm (.str w) = true) (ro : RowOk Pn (toldIts b T) w ts) (rs : RowSm w ts) (cell : μ2 pf = some (.lst (aIts b ++ [(It.row x w ts).a]))) (told : μ2 tp = some (.lst ((insT (toldIts b T) x).map A.str))) (lx : Lx m l (c + 20 * (i + 1)) rm mo μ2) (ke : Ke [m, l, tp] μ μ2) : RwS m l tp pf c (i + 1) rm mo ns T Pn μ (b ++ [.row x w ts]) μ2 where
  cell := by rw [aIts_snoc]; exact cell
  told := by rw [told_snoc]; exact told
  len := by rw [List.length_append, S.len]; rfl
  size := by rw [size_snoc, S.size]; rfl
  ok := fun d hd => ok_snoc (S.ok d hd) (by simp only [It.ok]; exact ⟨hd, hns x hx, ro⟩)
  sm := by
    refine sm_snoc ?_ S.sm
    obtain ⟨h1, h2, _⟩ := isNm_let (hns x hx)
    simp only [It.sm]
    exact ⟨shl_let h1 h2, rs⟩
  inn := inIts_snoc (by simp only [It.inS]; exact hx) S.inn
  nm := fun y hy => by
    rw [told_snoc] at hy
    simp only [It.told] at hy
    rcases mem_insT.mp hy with hy | rfl
    · exact S.nm y hy
    · exact hns _ hx
  lx := lx
  ke := ke
end
/-! ### parts -/
theorem subset_len : ∀ {l m : List Str}, l.Nodup → (∀ x ∈ l, x ∈ m) → l.length ≤ m.length
  | [], _, _, _ => Nat.zero_le _
  | x :: l, m, hn, h => by
    rw [List.nodup_cons] at hn
    have hx := h x (.head _)
    have ih := subset_len (l := l) (m := m.erase x) hn.2 fun y hy => (List.mem_erase_of_ne (fun e : y = x => hn.1 (by rw [← e]; exact hy))).mpr (h y (.tail _ hy))
    rw [List.length_erase_of_mem hx] at ih
    have := List.length_pos_of_mem hx
    simp only [List.length_cons]; omega
/-- names, and those of the others that are none of them -/
theorem both_names {ns ts : List Str} (hn : ns.Nodup) (ht : ts.Nodup) (h5 : ns.length = 5) (h6 : ts.length = 6) (n1 : ∀ w ∈ ns, isNm (.str w) = true) (n2 : ∀ w ∈ ts, isNm (.str w) = true) : 6 ≤ (ns ++ ts.filter fun w => !decide (w ∈ ns)).length ∧ (ns ++ ts.filter fun w => !decide (w ∈ ns)).length ≤ 11 ∧ (ns ++ ts.filter fun w => !decide (w ∈ ns)).Nodup ∧ ∀ w ∈ ns ++ ts.filter fun w => !decide (w ∈ ns), isNm (.str w) = true := by
  have hl := List.length_filter_le (fun w => !decide (w ∈ ns)) ts
  refine ⟨?_, by rw [List.length_append]; omega, ?_, fun w hw => ?_⟩
  · have ne : (ts.filter fun w => !decide (w ∈ ns)) ≠ [] := fun e => by
      have := subset_len ht (m := ns) fun x hx => by
        refine Classical.byContradiction fun z => ?_
        have : x ∈ ts.filter fun w => !decide (w ∈ ns) := List.mem_filter.mpr ⟨hx, by simp [z]⟩
        rw [e] at this
        cases this
      omega
    have := List.length_pos_iff.mpr ne
    rw [List.length_append]; omega
  · rw [List.nodup_append]
    refine ⟨hn, ht.sublist List.filter_sublist, fun a ha b hb e => ?_⟩
    have := (List.mem_filter.mp hb).2
    subst e
    simp [ha] at this
  · rcases List.mem_append.mp hw with hw | hw
    · exact n1 w hw
    · exact n2 w (List.mem_filter.mp hw).1
/-- parts told so far -/
structure NsS (m l p : Addr) (c i : Nat) (rm : Int) (mo : Option (List Str)) (ns us : List Str) (μ : Mu) (ps : List Pt) (μ' : Mu) : Prop where
  cell : μ' p = some (.lst (ps.map Pt.a))
  len : ps.length = i
  ok : okPts [] ps
  pso : PsOk (pnPts ps) ps
  i3 : ∀ q ∈ ps, q.ins.length ≤ 3
  sm : ∀ q ∈ ps, q.sm
  nms : ∀ q ∈ ps, ∃ j, j < i ∧ us[j]? = some q.nm
  inn : ∀ q ∈ ps, (∀ w ∈ q.ins, w ∈ ns) ∧ inIts ns q.body
  size : sizePts ps ≤ 8 * i
  lx : Lx m l c rm mo μ'
  ls : Ls m l μ μ'
section
variable {m l p : Addr} {c c' i : Nat} {rm : Int} {mo : Option (List Str)} {ns us : List Str} {μ μ1 μ2 : Mu} {ps : List Pt}
theorem NsS.step (S : NsS m l p c i rm mo ns us μ ps μ1) (hi : i < 6) (hu : us.Nodup) {q : Pt} (hnm : us[i]? = some q.nm) (nok : isNm (.str q.nm) = true) (i1 : 1 ≤ q.ins.length) (i3 : q.ins.length ≤ 3) (nins : ∀ w ∈ q.ins, isNm (.str w) = true) (ndins : q.ins.Nodup) (sb : smIts q.body) (ob : okIts (pnPts ps) 0 q.ins q.body) (give : q.give ∈ toldIts q.body q.ins) (ngive : isNm (.str q.give) = true) (zb : sizeIts q.body ≤ 3) (hin : (∀ w ∈ q.ins, w ∈ ns) ∧ inIts ns q.body)
    (cell : μ2 p = some (.lst (ps.map Pt.a ++ [q.a]))) (lx : Lx m l c' rm mo μ2) (ls : Ls m l μ μ2) : NsS m l p c' (i + 1) rm mo ns us μ (ps ++ [q]) μ2 := by
  have hlen := S.len
  have hpd := S.pso.dat
  have hnew : valI (pnPts ps) q.nm = none := valI_out fun p hp e => by
    obtain ⟨q2, hq2, rfl⟩ := List.mem_map.mp hp
    obtain ⟨j, hj, ej⟩ := S.nms q2 hq2
    have e2 : q2.nm = q.nm := e
    rw [e2] at ej
    have hi2 := (List.getElem?_eq_some_iff.mp ej).1
    have e3 := (List.getElem?_inj hi2 hu).mp (ej.trans hnm.symm)
    omega
  have hok : q.ok (pnPts ps) := ⟨nok, hnew, i1, by omega, nins, ndins, smIts_ts sb, ob, give⟩
  have hsm : q.sm := ⟨nok, nins, sb, ngive⟩
  have hdat := Pt.dat hok hsm
  have epn : pnPts (ps ++ [q]) = pnPts ps ++ [(q.nm, (q.ins.length : Int))] := by simp
  refine ⟨by rw [List.map_append]; exact cell, by rw [List.length_append, hlen]; rfl, okPts_snoc S.ok (by simpa using hok), ⟨⟨?_, ?_⟩, fun x hx => ?_, by rw [List.length_append, hlen]; simp; omega⟩, fun x hx => ?_, fun x hx => ?_, fun x hx => ?_, fun x hx => ?_, ?_, lx, ls⟩
  · have h1 := hpd.1
    simp only [isD] at h1 ⊢
    refine isDs_all fun a ha => ?_
    rw [List.map_append] at ha
    rcases List.mem_append.mp ha with ha | ha
    · obtain ⟨q2, hq2, rfl⟩ := List.mem_map.mp ha
      exact isDs_mem h1 _ (List.mem_map.mpr ⟨q2, hq2, rfl⟩)
    · rw [List.mem_singleton.mp ha]; exact hdat.1
  · simp only [deep]
    suffices hh : deeps ((ps ++ [q]).map Pt.a) ≤ 59 by omega
    refine deeps_le fun a ha => ?_
    rw [List.map_append] at ha
    rcases List.mem_append.mp ha with ha | ha
    · have h2 := hpd.2
      simp only [deep] at h2
      have := deeps_get ha
      omega
    · rw [List.mem_singleton.mp ha]; exact Nat.le_trans hdat.2 (by decide)
  · rcases List.mem_append.mp hx with hx | hx
    · obtain ⟨h1, h2, h3⟩ := S.pso.all x hx
      refine ⟨h1, ?_, h3⟩
      rw [epn]; exact valI_old h2
    · obtain rfl := List.mem_singleton.mp hx
      refine ⟨nok, ?_, by omega⟩
      rw [epn]; exact valI_new hnew
  · rcases List.mem_append.mp hx with hx | hx
    · exact S.i3 x hx
    · rw [List.mem_singleton.mp hx]; exact i3
  · rcases List.mem_append.mp hx with hx | hx
    · exact S.sm x hx
    · rw [List.mem_singleton.mp hx]; exact hsm
  · rcases List.mem_append.mp hx with hx | hx
    · obtain ⟨j, hj, ej⟩ := S.nms x hx
      exact ⟨j, by omega, ej⟩
    · rw [List.mem_singleton.mp hx]; exact ⟨i, by omega, hnm⟩
  · rcases List.mem_append.mp hx with hx | hx
    · exact S.inn x hx
    · rw [List.mem_singleton.mp hx]; exact hin
  · have h1 := S.size
    have : sizePts (ps ++ [q]) = sizePts ps + (2 + q.ins.length + sizeIts q.body) := by simp [sizePts, Pt.size]
    omega
end
end D

set_option Elab.async false
set_option linter.all false
set_option maxRecDepth 100000
set_option maxHeartbeats 4000000
namespace D
open PySem PySem.Spec PyProof.Rows L2
local macro_rules | `(tactic| walk_at "mul") => `(tactic| first | refine wO_mul (mulR (by first | decide | omega) (by first | decide | omega)) ?_ | refine wO_mul (mulL (by first | decide | omega) (by first | decide | omega)) ?_)
local macro_rules | `(tactic| walk_at "mod") => `(tactic| refine wO_mod (by first | decide | omega) ?_)
local macro_rules | `(tactic| walk_at "fdiv") => `(tactic| refine wO_fdiv (by first | decide | omega) (divS (by first | decide | omega)) ?_)
local macro_rules | `(tactic| walk_at "ix") => `(tactic| first | refine wI_tup (by rfl) ?_ | refine wI_lst (by rfl) ?_)
local macro_rules | `(tactic| walk_at "sl") => `(tactic| first | refine wSl_tup ?_ | refine wSl_lstF ?_)
local macro_rules | `(tactic| walk_at "obj") => `(tactic| refine ⟨_, _, _, rfl, by assumption, rfl, ?_⟩)
local macro_rules | `(tactic| walk_at "len") => `(tactic| first | refine wC_len (.tup _) ?_ | refine wC_len (.lst _) ?_ | refine wC_len (.loc (by assumption)) ?_)
section
variable {P : Program} {w : World} {mg : Str → Option Value} {base : Heap} {K : PySem.W.Frag} {CL CP CG CTL CTe CPr CPo CNV CTG CCo CS pT : Addr} {k : Nat}
abbrev s__law_rows_of : Stmt := topS 58
abbrev N__law_rows_of : List Str := ["_law_m", "_law_names_here", "_law_told", "_law_parts", "_law_many", "_law_found", "_law_k"]
theorem sc__law_rows_of : FnScope N__law_rows_of ["_law_m", "_law_names_here", "_law_told", "_law_parts", "_law_many"] (defScope s__law_rows_of) := ⟨rfl, rfl, rfl, by decide +kernel, rfl, by decide +kernel, by decide +kernel⟩
def c__law_rows_of : AC := fun xs μ Q _ => ∃ (m l tp pp : Addr) (c many : Nat) (rm : Int) (mo : Option (List Str)) (ns T : List Str) (Pn : Nm) (ps : List Pt), xs = [.loc m, .lst (ns.map D.A.str), .loc tp, .loc pp, .int many] ∧ many ≤ 100 ∧ Lx m l c rm mo μ ∧ c < 2 ^ 36 ∧ 1 ≤ ns.length ∧ ns.length ≤ 12 ∧ (∀ w ∈ ns, isNm (.str w) = true) ∧ 1 ≤ T.length ∧ T.length ≤ 500 ∧ (∀ w ∈ T, isNm (.str w) = true) ∧ μ tp = some (.lst (T.map D.A.str)) ∧ tp ≠ m ∧ tp ≠ l ∧ μ pp = some (.lst (ps.map Pt.a)) ∧ pp ≠ m ∧ pp ≠ l ∧ pp ≠ tp ∧ PsOk Pn ps ∧ (∀ p ∈ ps, p.ins.length ≤ 3) ∧
  ∀ (b : List It) (μ' : Mu), b.length = many → sizeIts b = many → (∀ d, d ≤ 3 → okIts Pn d T b) → smIts b → inIts ns b → (∀ w ∈ toldIts b T, isNm (.str w) = true) → μ' tp = some (.lst ((toldIts b T).map D.A.str)) → Lx m l (c + 20 * many) rm mo μ' → Ke [m, l, tp] μ μ' → Q (.tup (aIts b)) μ'
theorem ok__law_rows_of {n : Nat}  {f : Addr} {fd : FuncData} (TX : Txt K mg w CL CP CG CTL CTe CPr CPo CNV CTG CCo CS pT) (C__law_some_row : Cal P w K mg base n "_law_some_row" c__law_some_row) (F : Fun K "_law_rows_of" "_law_rows_of" s__law_rows_of f fd) : FnD P w K mg base CX0 (n + 1) f fd ["_law_m", "_law_names_here", "_law_told", "_law_parts", "_law_many"] c__law_rows_of := by
  refine fnD F sc__law_rows_of (fun xs μ Q E hc => by obtain ⟨m, l, tp, pp, c, many, rm, mo, ns, T, Pn, ps, rfl, hmany, lw, hc, hn1, hn12, hns, hT1, hTl, hT, htp, t1, t2, hpp, p1, p2, p3, hps, hp3, q⟩ := hc; rfl) (fun cdv Ao outer s H E xs μ Q E0 ar hc => ?_)
  obtain ⟨m, l, tp, pp, c, many, rm, mo, ns, T, Pn, ps, rfl, hmany, lw, hc, hn1, hn12, hns, hT1, hTl, hT, htp, t1, t2, hpp, p1, p2, p3, hps, hp3, q⟩ := hc
  have nd := sc__law_rows_of.nd
  refine wSs_cons (wS_set 5 (wE_lst (wA_nil ⟨by show 0 ≤ sizeLine; decide, fun p__law_found np__law_found => (wSs_cons (wS_for (wIt_range1 TX.b_range (wA_cons (wE_name 4 rfl (wA_nil ⟨_, rfl, by omega, by omega, ?_⟩))))))⟩)) nd)
  have fm := (lw.off np__law_found).1
  have fl := (lw.off np__law_found).2
  have ft : p__law_found ≠ tp := fun z => by rw [z, htp] at np__law_found; cases np__law_found
  have fp : p__law_found ≠ pp := fun z => by rw [z, hpp] at np__law_found; cases np__law_found
  refine ⟨fun i Γ' μ' => ∃ (b : List It) (x6 : Option D.A), Γ' = [some (.loc m), some (.lst (ns.map D.A.str)), some (.loc tp), some (.loc pp), some (.int many), some (.loc p__law_found), x6] ∧ RwS m l tp p__law_found c i rm mo ns T Pn μ b μ', ⟨[], _, rfl, Mu.upd_same, by rw [Mu.upd_ne (Ne.symm ft)]; exact htp, rfl, rfl, fun _ _ => trivial, trivial, trivial, hT, (lw.up (by omega)).new np__law_found, (Ke.refl _ _).over np__law_found⟩, fun i y Γ' μ' hy hI => ?_, fun Γ' μ' hI => ?_⟩
  obtain ⟨b, x6, rfl, S⟩ := hI
  obtain ⟨hi, rfl⟩ := rgA_at hy
  have hi2 : i < many := by omega
  have htl := S.tl
  have hT1' : 1 ≤ (toldIts b T).length := by
    obtain ⟨w, hw⟩ := List.exists_mem_of_length_pos (l := T) hT1
    exact List.length_pos_of_mem (tolds_up b T w hw)
  have hpp1 := S.ke pp _ (by simp [p1, p2, p3]) hpp
  have hbl : (aIts b).length ≤ 100 := by rw [aIts_len, S.len]; omega
  refine wG_name 6 ?_ nd
  refine wSs_cons (wS_expr (wE_append (wE_name 5 rfl ?_)))
  refine ⟨_, _, rfl, S.cell, ?_⟩
  refine wE_cal C__law_some_row ar (by omega) (wA_cons (wE_name 0 rfl (wA_cons (wE_name 1 rfl (wA_cons (wE_name 2 rfl (wA_cons (wE_name 3 rfl (wA_nil ?_)))))))))
  refine ⟨m, l, tp, pp, _, rm, mo, ns, toldIts b T, Pn, ps, rfl, S.lx, by omega, hn1, hn12, hT1', by omega, S.nm, S.told, t1, t2, hpp1, p1, p2, hps, hp3, fun x w ts μ2 hx ro rs lx2 ls2 => ?_⟩
  have cell2 := ls2 _ _ fm fl S.cell
  have told2 := ls2 _ _ t1 t2 S.told
  have ke2 : Ke [m, l, tp] μ μ2 := S.ke.trans (ls2.ke (by simp) (by simp))
  refine ⟨_, cell2, szLt (by omega), ?_⟩
  have cell3 : (μ2.upd p__law_found (.lst (aIts b ++ [(It.row x w ts).a]))) p__law_found = some (.lst (aIts b ++ [(It.row x w ts).a])) := Mu.upd_same
  have told3 : (μ2.upd p__law_found (.lst (aIts b ++ [(It.row x w ts).a]))) tp = some (.lst ((toldIts b T).map D.A.str)) := by rw [Mu.upd_ne (Ne.symm ft)]; exact told2
  have lx3 := lx2.del (o := .lst (aIts b ++ [(It.row x w ts).a])) fm fl
  have ke3 : Ke [m, l, tp] μ (μ2.upd p__law_found (.lst (aIts b ++ [(It.row x w ts).a]))) := ke2.over np__law_found
  generalize μ2.upd p__law_found (.lst (aIts b ++ [(It.row x w ts).a])) = μ3 at cell3 told3 lx3 ke3
  have lx4 := lx3.up (d := c + 20 * (i + 1)) (by omega)
  refine wSs_cut (fun Γ' μ' => Γ' = [some (.loc m), some (.lst (ns.map D.A.str)), some (.loc tp), some (.loc pp), some (.int many), some (.loc p__law_found), some (.int (0 + (i : Int)))] ∧ RwS m l tp p__law_found c (i + 1) rm mo ns T Pn μ (b ++ [It.row x w ts]) μ') ?_ (fun Γ' μ' hP => ?_)
  refine wS_if (wT_cmp (wE_ix (wE_ix (wE_name 5 rfl (wE_neg (wE_int ⟨_, rfl, ?_⟩))))))
  refine wI_loc cell3 (atI_neg (y := (It.row x w ts).a) (by rw [List.length_append, List.length_singleton, show ((-1 : Int) + (((aIts b).length + 1 : Nat) : Int)).toNat = (aIts b).length by omega]; simp) (by decide) (by rw [List.length_append, List.length_singleton]; omega)) ?_
  refine wE_int ?_
  refine wI_tup (xs := [.str "row", .str x, .str w, .tup ts]) (atI_pos (i := 1) (y := .str x) (by rfl) (by decide)) ?_
  refine wE_name 2 rfl ?_
  refine wO_notIn (.loc told3) rfl (all_flat _) ?_
  rw [inA_strs]
  refine ⟨_, rfl, ?_⟩
  refine ⟨fun hk => ?_, fun hk => ?_⟩
  refine wSs_cons (wS_expr (wE_append (wE_name 2 rfl ?_)))
  have hnew : x ∉ toldIts b T := by simpa using hk
  refine ⟨_, _, rfl, told3, ?_⟩
  refine wE_ix (wE_ix (wE_name 5 rfl (wE_neg (wE_int ⟨_, rfl, ?_⟩))))
  refine wI_loc cell3 (atI_neg (y := (It.row x w ts).a) (by rw [List.length_append, List.length_singleton, show ((-1 : Int) + (((aIts b).length + 1 : Nat) : Int)).toNat = (aIts b).length by omega]; simp) (by decide) (by rw [List.length_append, List.length_singleton]; omega)) ?_
  refine wE_int ?_
  refine wI_tup (xs := [.str "row", .str x, .str w, .tup ts]) (atI_pos (i := 1) (y := .str x) (by rfl) (by decide)) ?_
  refine ⟨_, told3, szLt (by rw [List.length_map]; omega), ?_⟩
  refine wSs_nil ?_
  refine ⟨rfl, S.step hx hns ro rs (by rw [Mu.upd_ne ft]; exact cell3) ?_ (lx4.del t1 t2) (ke3.put (by simp))⟩
  rw [Mu.upd_same, insT, if_neg hnew]
  simp
  refine wSs_nil ?_
  have hold : x ∈ toldIts b T := by simpa using hk
  exact ⟨rfl, S.step hx hns ro rs cell3 (by rw [insT, if_pos hold]; exact told3) lx4 ke3⟩
  refine wSs_nil ?_
  obtain ⟨rfl, S2⟩ := hP
  exact ⟨_, _, rfl, S2⟩
  obtain ⟨b, x6, rfl, S⟩ := hI
  rw [rgA_len, Int.toNat_natCast] at S
  refine wSs_cons (wS_ret (wE_callTy (T := "tuple") TX.b_tuple (by decide +kernel) (wA_cons (wE_name 5 rfl (wA_nil ?_)))))
  refine wC_tuple (.loc S.cell) ?_
  exact q b _ S.len S.size S.ok S.sm S.inn S.nm S.told S.lx S.ke

end
end D

set_option Elab.async false
set_option linter.all false
set_option maxRecDepth 100000
set_option maxHeartbeats 4000000
namespace D
open PySem PySem.Spec PyProof.Rows L2
local macro_rules | `(tactic| walk_at "mul") => `(tactic| first | refine wO_mul (mulR (by first | decide | omega) (by first | decide | omega)) ?_ | refine wO_mul (mulL (by first | decide | omega) (by first | decide | omega)) ?_)
local macro_rules | `(tactic| walk_at "mod") => `(tactic| refine wO_mod (by first | decide | omega) ?_)
local macro_rules | `(tactic| walk_at "fdiv") => `(tactic| refine wO_fdiv (by first | decide | omega) (divS (by first | decide | omega)) ?_)
local macro_rules | `(tactic| walk_at "ix") => `(tactic| first | refine wI_tup (by rfl) ?_ | refine wI_lst (by rfl) ?_)
local macro_rules | `(tactic| walk_at "sl") => `(tactic| first | refine wSl_tup ?_ | refine wSl_lstF ?_)
local macro_rules | `(tactic| walk_at "obj") => `(tactic| refine ⟨_, _, _, rfl, by assumption, rfl, ?_⟩)
local macro_rules | `(tactic| walk_at "len") => `(tactic| first | refine wC_len (.tup _) ?_ | refine wC_len (.lst _) ?_ | refine wC_len (.loc (by assumption)) ?_)
section
variable {P : Program} {w : World} {mg : Str → Option Value} {base : Heap} {K : PySem.W.Frag} {CL CP CG CTL CTe CPr CPo CNV CTG CCo CS pT : Addr} {k : Nat}
abbrev s__law_nested : Stmt := topS 59
abbrev N__law_nested : List Str := ["_law_m", "_law_names_here", "_law_titles", "_law_title", "_law_parts", "_law_k", "_law_told", "_law_ins", "_law_body", "_law_outs"]
theorem sc__law_nested : FnScope N__law_nested ["_law_m", "_law_names_here"] (defScope s__law_nested) := ⟨rfl, rfl, rfl, by decide +kernel, rfl, by decide +kernel, by decide +kernel⟩
def c__law_nested : AC := fun xs μ Q _ => ∃ (m l : Addr) (c : Nat) (rm : Int) (mo : Option (List Str)) (ns : List Str), xs = [.loc m, .lst (ns.map D.A.str)] ∧ Lx m l c rm mo μ ∧ c < 2 ^ 30 ∧ ns.length = 5 ∧ ns.Nodup ∧ (∀ w ∈ ns, isNm (.str w) = true) ∧
  ∀ (g : Pg) (μ' : Mu), g.ok → g.sm → (∀ w ∈ g.ins, w ∈ ns) → inIts ns g.body → (∀ q ∈ g.parts, (∀ w ∈ q.ins, w ∈ ns) ∧ inIts ns q.body) → Lx m l (c + 1000) rm mo μ' → Ls m l μ μ' → Q g.a μ'
theorem ok__law_nested {n : Nat}  {f : Addr} {fd : FuncData} (TX : Txt K mg w CL CP CG CTL CTe CPr CPo CNV CTG CCo CS pT) (C__law_names : Cal P w K mg base n "_law_names" c__law_names) (C__law_draw : Cal P w K mg base n "_law_draw" c__law_draw) (C__law_rows_of : Cal P w K mg base n "_law_rows_of" c__law_rows_of) (F : Fun K "_law_nested" "_law_nested" s__law_nested f fd) : FnD P w K mg base CX0 (n + 1) f fd ["_law_m", "_law_names_here"] c__law_nested := by
  refine fnD F sc__law_nested (fun xs μ Q E hc => by obtain ⟨m, l, c, rm, mo, ns, rfl, lw, hc, h5, hnd, hns, q⟩ := hc; rfl) (fun cdv Ao outer s H E xs μ Q E0 ar hc => ?_)
  obtain ⟨m, l, c, rm, mo, ns, rfl, lw, hc, h5, hnd, hns, q⟩ := hc
  have nd := sc__law_nested.nd
  refine wSs_cons (wS_set 2 (wE_cal C__law_names ar (by omega) (wA_cons (wE_name 0 rfl (wA_cons (wE_int (wA_nil ?_)))))) nd)
  refine ⟨m, l, _, 6, _, _, rfl, by decide, lw, by omega, fun ts μ1 htl hts htd lw1 ls1 => ?_⟩
  refine wSs_cut (fun Γ' μ' => ∃ us : List Str, Γ' = [some (.loc m), some (.lst (ns.map D.A.str)), some (.lst (us.map D.A.str)), none, none, none, none, none, none, none] ∧ 6 ≤ us.length ∧ us.length ≤ 11 ∧ us.Nodup ∧ (∀ w ∈ us, isNm (.str w) = true) ∧ Lx m l (c + 6) rm mo μ' ∧ Ls m l μ μ') ?_ (fun Γ' μ' hP => ?_)
  refine wS_if (wT_cmp (wE_cal C__law_draw ar (by omega) (wA_cons (wE_name 0 rfl (wA_cons (wE_int (wA_nil ?_)))))))
  refine ⟨m, l, 2, _, _, _, rfl, by decide, by decide, lw1, by omega, fun r1 μ2 a0 a1 lw2 ls2 => ?_⟩
  refine wE_int ?_
  refine wO_eqI ?_
  refine ⟨_, rfl, ?_⟩
  refine ⟨fun hk => ?_, fun hk => ?_⟩
  refine wSs_cons (wS_set 2 (wE_bin (wE_name 1 rfl (wE_lcPF (own := [("_law_title", 3)]) (wIt_list (wE_name 2 rfl ⟨_, rfl, ?_⟩)) nd (blkOk_by (N := N__law_nested) (sc := defScope s__law_nested) (by decide +kernel))))) nd)
  refine ⟨szOk (by rw [List.length_map]; omega), ts.map (fun w => !decide (w ∈ ns)), ts.map D.A.str, by simp, by simp, fun i y k z hy hk2 hz s0 H0 C cl fp => ?_, ?_⟩
  obtain ⟨w1, hw1, rfl⟩ := map_at hy
  obtain ⟨w2, hw2, rfl⟩ := map_at hz
  obtain ⟨w3, hw3, rfl⟩ := map_at hk2
  obtain rfl : w1 = w2 := Option.some.inj (hw1.symm.trans hw2)
  obtain rfl : w1 = w3 := Option.some.inj (hw1.symm.trans hw3)
  refine wGw_name 3 (⟨rfl, ?_⟩) nd
  refine ⟨fun s0 H0 C cl fp => ?_, fun kt s0 H0 C cl fp => ?_⟩
  refine wT_cmp (wE_name 3 rfl (wE_name 1 rfl ?_))
  refine wO_notIn (.lst _) rfl (all_flat _) ?_
  rw [inA_strs]
  refine ⟨_, rfl, ?_⟩
  exact ⟨rfl, .refl _⟩
  refine wE_name 3 rfl ?_
  refine ⟨?_, .refl _⟩
  rfl
  rw [pickA_map]
  refine wO_catF (.lst _) (.lst _) (szOk (by have := List.length_filter_le (fun w => !decide (w ∈ ns)) ts; simp only [List.length_map]; omega)) ?_
  refine wSs_nil ?_
  obtain ⟨u1, u2, u3, u4⟩ := both_names hnd htd h5 htl hns hts
  exact ⟨_, by rw [← List.map_append]; rfl, u1, u2, u3, u4, lw2.up (by omega), ls1.trans ls2⟩
  refine wSs_nil ?_
  exact ⟨ts, rfl, by omega, by omega, htd, hts, lw2.up (by omega), ls1.trans ls2⟩
  obtain ⟨us, rfl, hu6, hu11, hud, hus, lw2, ls2⟩ := hP
  refine wSs_cons (wS_set 4 (wE_lst (wA_nil ⟨by show 0 ≤ sizeLine; decide, fun p__law_parts np__law_parts => (wSs_cons (wS_for (wIt_range1 TX.b_range (wA_cons (wE_bin (wE_int (wE_cal C__law_draw ar (by omega) (wA_cons (wE_name 0 rfl (wA_cons (wE_int (wA_nil ?_))))))))))))⟩)) nd)
  have pm := (lw2.off np__law_parts).1
  have pl := (lw2.off np__law_parts).2
  have nP0 : μ p__law_parts = none := ls2.old pm pl np__law_parts
  refine ⟨m, l, 6, _, _, _, rfl, by decide, by decide, lw2.new np__law_parts, by omega, fun r2 μ3 b0 b1 lw3 ls3 => ?_⟩
  have fd3 : μ3 p__law_parts = some (.lst (([] : List Pt).map Pt.a)) := ls3 _ _ pm pl Mu.upd_same
  have ls03 : Ls m l μ μ3 := (ls2.new np__law_parts).trans ls3
  refine wO_add ?_
  refine wA_nil ⟨_, rfl, by omega, by omega, ?_⟩
  refine ⟨fun i Γ' μ' => ∃ (ps : List Pt) (x5 x6 x7 x8 : Option D.A), Γ' = [some (.loc m), some (.lst (ns.map D.A.str)), some (.lst (us.map D.A.str)), none, some (.loc p__law_parts), x5, x6, x7, x8, none] ∧ NsS m l p__law_parts (c + 20 + i * 70) i rm mo ns us μ ps μ', ⟨[], _, _, _, _, rfl, fd3, rfl, trivial, ⟨datNil, (fun _ h => nomatch h), Nat.zero_le _⟩, (fun _ h => nomatch h), (fun _ h => nomatch h), (fun _ h => nomatch h), (fun _ h => nomatch h), by simp [sizePts], lw3.up (by omega), ls03⟩, fun i y Γ' μ' hy hI => ?_, fun Γ' μ' hI => ?_⟩
  obtain ⟨ps, x5, x6, x7, x8, rfl, S⟩ := hI
  obtain ⟨hi, rfl⟩ := rgA_at hy
  have hi6 : i < 6 := by omega
  have hpl := S.len
  refine wG_name 5 ?_ nd
  refine wSs_cons (wS_set 6 (wE_callTy (T := "list") TX.b_list (by decide +kernel) (wA_cons (wE_slice (wE_name 1 rfl (wE_bin (wE_int (wE_cal C__law_draw ar (by omega) (wA_cons (wE_name 0 rfl (wA_cons (wE_int (wA_nil ?_)))))))))))) nd)
  refine ⟨m, l, 3, _, _, _, rfl, by decide, by decide, S.lx, by omega, fun r3 μ4 d0 d1 lx4 ls4 => ?_⟩
  refine wO_add ?_
  refine ⟨_, rfl, ?_⟩
  refine wSl_lstF ?_
  rw [cut_names (by omega) (by omega)]
  obtain ⟨j1, j2, j3⟩ := take_names (k := (1 + r3).toNat) (by omega) hnd
  generalize ns.take (1 + r3).toNat = T0 at j1 j2 j3 ⊢
  have j4 : ∀ w ∈ T0, isNm (.str w) = true := fun w hw => hns w (j3 w hw)
  refine wA_nil ?_
  refine wC_list (.lst _) (fun tp ntp => ?_)
  have htp : (μ4.upd tp (.lst (T0.map D.A.str))) tp = some (.lst (T0.map D.A.str)) := Mu.upd_same
  have tm := (lx4.off ntp).1
  have tl := (lx4.off ntp).2
  have lx5 := lx4.new (o := .lst (T0.map D.A.str)) ntp
  have fd4 := ls4 _ _ pm pl S.cell
  have tne : p__law_parts ≠ tp := fun z => by rw [← z, fd4] at ntp; cases ntp
  have fd5 : (μ4.upd tp (.lst (T0.map D.A.str))) p__law_parts = some (.lst (ps.map Pt.a)) := by rw [Mu.upd_ne tne]; exact fd4
  have ls4' := S.ls.trans ls4
  have nt0 : μ tp = none := ls4'.old tm tl ntp
  have ls5 : Ls m l μ (μ4.upd tp (.lst (T0.map D.A.str))) := ls4'.over nt0
  generalize μ4.upd tp (.lst (T0.map D.A.str)) = μ5 at htp lx5 fd5 ls5
  refine wSs_cons (wS_set 7 (wE_callTy (T := "tuple") TX.b_tuple (by decide +kernel) (wA_cons (wE_name 6 rfl (wA_nil ?_)))) nd)
  refine wC_tuple (.loc htp) ?_
  refine wSs_cons (wS_set 8 (wE_cal C__law_rows_of ar (by omega) (wA_cons (wE_name 0 rfl (wA_cons (wE_name 1 rfl (wA_cons (wE_name 6 rfl (wA_cons (wE_name 4 rfl (wA_cons (wE_cal C__law_draw ar (by omega) (wA_cons (wE_name 0 rfl (wA_cons (wE_int (wA_nil ?_)))))))))))))))) nd)
  refine ⟨m, l, 4, _, _, _, rfl, by decide, by decide, lx5, by omega, fun r4 μ6 e0 e1 lx6 ls6 => ?_⟩
  refine wA_nil ?_
  obtain ⟨many, hm⟩ : ∃ many : Nat, r4 = many := ⟨r4.toNat, by omega⟩
  refine ⟨m, l, tp, p__law_parts, _, many, rm, mo, ns, T0, pnPts ps, ps, by rw [hm], by omega, lx6, by omega, by omega, by omega, hns, by omega, by omega, j4, ls6 _ _ tm tl htp, tm, tl, ls6 _ _ pm pl fd5, pm, pl, tne, S.pso, S.i3, fun b μ7 bl bz bo bs bi bn told7 lx7 ke7 => ?_⟩
  have fd7 := ke7 _ _ (by simp [pm, pl, tne]) (ls6 _ _ pm pl fd5)
  have ls7 : Ls m l μ μ7 := (ls5.trans ls6).of_ke ke7 nt0
  have tpos := told_pos (b := b) (T := T0) (by omega)
  have tlen := tolds_len b T0
  refine wSs_cons (wS_expr (wE_append (wE_name 4 rfl ?_)))
  refine ⟨_, _, rfl, fd7, ?_⟩
  refine wE_tup (wA_cons (wE_ix (wE_name 2 rfl (wE_name 5 rfl ?_))))
  obtain ⟨nm1, hnm1⟩ : ∃ w, us[i]? = some w := ⟨_, List.getElem?_eq_getElem (by omega)⟩
  refine wI_lst (atI_pos (i := 0 + (i : Int)) (y := .str nm1) (by rw [List.getElem?_map, show (0 + (i : Int)).toNat = i by omega, hnm1]; rfl) (by omega)) ?_
  refine wA_cons (wE_name 7 rfl (wA_cons (wE_name 8 rfl (wA_cons (wE_ix (wE_name 6 rfl (wE_cal C__law_draw ar (by omega) (wA_cons (wE_name 0 rfl (wA_cons (wE_callB (id := "len") TX.b_len (by decide +kernel) (wA_cons (wE_name 6 rfl (wA_nil ?_))))))))))))))
  refine wC_len (.loc told7) ?_
  rw [List.length_map]
  refine wA_nil ?_
  refine ⟨m, l, _, _, _, _, rfl, by omega, by omega, lx7, by omega, fun r5 μ8 f0 f1 lx8 ls8 => ?_⟩
  obtain ⟨y2, hy2, ey2⟩ := atI_ex (xs := (toldIts b T0).map D.A.str) f0 (by rw [List.length_map]; omega)
  obtain ⟨give, hgive, rfl⟩ := List.mem_map.mp hy2
  refine wI_loc (ls8 _ _ tm tl told7) ey2 ?_
  refine wA_nil ⟨by show 4 ≤ sizeLine; decide, ?_⟩
  refine ⟨_, ls8 _ _ pm pl fd7, szLt (by rw [List.length_map]; omega), ?_⟩
  refine wSs_nil ?_
  refine ⟨ps ++ [⟨nm1, T0, b, give⟩], _, _, _, _, rfl, S.step hi6 hud hnm1 (hus _ (List.mem_of_getElem? hnm1)) (by show 1 ≤ T0.length; omega) (by show T0.length ≤ 3; omega) j4 j2 bs (bo 0 (by decide)) hgive (bn give hgive) (by show sizeIts b ≤ 3; omega) ⟨j3, bi⟩ (by rw [Mu.upd_same]; rfl) ((lx8.up (by omega)).del pm pl) ((ls7.trans ls8).over nP0)⟩
  obtain ⟨ps, x5, x6, x7, x8, rfl, S⟩ := hI
  rw [rgA_len] at S
  have hn6 : (1 + r2 - 0).toNat ≤ 6 := by omega
  generalize (1 + r2 - 0).toNat = np at S hn6
  have hpl := S.len
  have hps := S.size
  have slx := S.lx.up (d := c + 440) (by omega)
  refine wSs_cons (wS_set 6 (wE_callTy (T := "list") TX.b_list (by decide +kernel) (wA_cons (wE_slice (wE_name 1 rfl (wE_bin (wE_int (wE_cal C__law_draw ar (by omega) (wA_cons (wE_name 0 rfl (wA_cons (wE_int (wA_nil ?_)))))))))))) nd)
  refine ⟨m, l, 2, _, _, _, rfl, by decide, by decide, slx, by omega, fun r3 μ4 d0 d1 lx4 ls4 => ?_⟩
  refine wO_add ?_
  refine ⟨_, rfl, ?_⟩
  refine wSl_lstF ?_
  rw [cut_names (by omega) (by omega)]
  obtain ⟨j1, j2, j3⟩ := take_names (k := (1 + r3).toNat) (by omega) hnd
  generalize ns.take (1 + r3).toNat = T0 at j1 j2 j3 ⊢
  have j4 : ∀ w ∈ T0, isNm (.str w) = true := fun w hw => hns w (j3 w hw)
  refine wA_nil ?_
  refine wC_list (.lst _) (fun tp ntp => ?_)
  have htp : (μ4.upd tp (.lst (T0.map D.A.str))) tp = some (.lst (T0.map D.A.str)) := Mu.upd_same
  have tm := (lx4.off ntp).1
  have tl := (lx4.off ntp).2
  have lx5 := lx4.new (o := .lst (T0.map D.A.str)) ntp
  have fd4 := ls4 _ _ pm pl S.cell
  have tne : p__law_parts ≠ tp := fun z => by rw [← z, fd4] at ntp; cases ntp
  have fd5 : (μ4.upd tp (.lst (T0.map D.A.str))) p__law_parts = some (.lst (ps.map Pt.a)) := by rw [Mu.upd_ne tne]; exact fd4
  have ls4' := S.ls.trans ls4
  have nt0 : μ tp = none := ls4'.old tm tl ntp
  have ls5 : Ls m l μ (μ4.upd tp (.lst (T0.map D.A.str))) := ls4'.over nt0
  generalize μ4.upd tp (.lst (T0.map D.A.str)) = μ5 at htp lx5 fd5 ls5
  refine wSs_cons (wS_set 7 (wE_callTy (T := "tuple") TX.b_tuple (by decide +kernel) (wA_cons (wE_name 6 rfl (wA_nil ?_)))) nd)
  refine wC_tuple (.loc htp) ?_
  refine wSs_cons (wS_set 8 (wE_tup (wA_cons (wE_tup (wA_cons (wE_str (wA_cons (wE_bin (wE_int (wE_cal C__law_draw ar (by omega) (wA_cons (wE_name 0 rfl (wA_cons (wE_int (wA_nil ?_)))))))))))))) nd)
  refine ⟨m, l, 3, _, _, _, rfl, by decide, by decide, lx5, by omega, fun r7 μ6 e0 e1 lx6 ls6 => ?_⟩
  refine wO_add ?_
  refine wA_cons (wE_cal C__law_rows_of ar (by omega) (wA_cons (wE_name 0 rfl (wA_cons (wE_name 1 rfl (wA_cons (wE_name 6 rfl (wA_cons (wE_name 4 rfl (wA_cons (wE_bin (wE_int (wE_cal C__law_draw ar (by omega) (wA_cons (wE_name 0 rfl (wA_cons (wE_int (wA_nil ?_))))))))))))))))))
  refine ⟨m, l, 3, _, _, _, rfl, by decide, by decide, lx6, by omega, fun r8 μ7 f0 f1 lx7 ls7 => ?_⟩
  refine wO_add ?_
  refine wA_nil ?_
  obtain ⟨many, hm⟩ : ∃ many : Nat, 1 + r8 = many := ⟨(1 + r8).toNat, by omega⟩
  have ls67 := ls6.trans ls7
  refine ⟨m, l, tp, p__law_parts, _, many, rm, mo, ns, T0, pnPts ps, ps, by rw [hm], by omega, lx7, by omega, by omega, by omega, hns, by omega, by omega, j4, ls67 _ _ tm tl htp, tm, tl, ls67 _ _ pm pl fd5, pm, pl, tne, S.pso, S.i3, fun b μ8 bl bz bo bs bi bn told8 lx8 ke8 => ?_⟩
  have fd8 := ke8 _ _ (by simp [pm, pl, tne]) (ls67 _ _ pm pl fd5)
  have ls8 : Ls m l μ μ8 := (ls5.trans ls67).of_ke ke8 nt0
  have tpos := told_pos (b := b) (T := T0) (by omega)
  have tlen := tolds_len b T0
  refine wA_nil ⟨by show 3 ≤ sizeLine; decide, (wA_nil ⟨by show 1 ≤ sizeLine; decide, (wSs_cons (wS_set 8 (wE_bin (wE_name 8 rfl (wE_cal C__law_rows_of ar (by omega) (wA_cons (wE_name 0 rfl (wA_cons (wE_name 1 rfl (wA_cons (wE_name 6 rfl (wA_cons (wE_name 4 rfl (wA_cons (wE_bin (wE_int (wE_cal C__law_draw ar (by omega) (wA_cons (wE_name 0 rfl (wA_cons (wE_int (wA_nil ?_)))))))))))))))))))) nd))⟩)⟩
  refine ⟨m, l, 4, _, _, _, rfl, by decide, by decide, lx8, by omega, fun r9 μ9 g0 g1 lx9 ls9 => ?_⟩
  refine wO_add ?_
  refine wA_nil ?_
  obtain ⟨many2, hm2⟩ : ∃ many2 : Nat, 1 + r9 = many2 := ⟨(1 + r9).toNat, by omega⟩
  refine ⟨m, l, tp, p__law_parts, _, many2, rm, mo, ns, toldIts b T0, pnPts ps, ps, by rw [hm2], by omega, lx9, by omega, by omega, by omega, hns, tpos, by omega, bn, ls9 _ _ tm tl told8, tm, tl, ls9 _ _ pm pl fd8, pm, pl, tne, S.pso, S.i3, fun b2 μ10 bl2 bz2 bo2 bs2 bi2 bn2 told10 lx10 ke10 => ?_⟩
  have fd10 := ke10 _ _ (by simp [pm, pl, tne]) (ls9 _ _ pm pl fd8)
  have ls10 : Ls m l μ μ10 := (ls8.trans ls9).of_ke ke10 nt0
  have tpos2 := told_pos (b := b2) tpos
  have tlen2 := tolds_len b2 (toldIts b T0)
  refine wO_catT (szOk (by rw [aIts_len]; simp only [List.length_singleton]; omega)) ?_
  refine wSs_cons (wS_set 9 (wE_callTy (T := "tuple") TX.b_tuple (by decide +kernel) (wA_cons (wE_lc [("_law_k", 5)] (wIt_range1 TX.b_range (wA_cons (wE_bin (wE_int (wE_cal C__law_draw ar (by omega) (wA_cons (wE_name 0 rfl (wA_cons (wE_int (wA_nil ?_)))))))))) nd (blkOk_by (N := N__law_nested) (sc := defScope s__law_nested) (by decide +kernel))))) nd)
  refine ⟨m, l, 4, _, _, _, rfl, by decide, by decide, lx10, by omega, fun r10 μ11 h0 h1 lx11 ls11 => ?_⟩
  have told11 := ls11 _ _ tm tl told10
  have fd11 := ls11 _ _ pm pl fd10
  refine wO_add ?_
  refine wA_nil ⟨_, rfl, by omega, by omega, ?_⟩
  refine ⟨by rw [rgA_len]; exact szOk (by omega), fun i acc μ' => ∃ os : List Str, acc = os.map D.A.str ∧ os.length = i ∧ (∀ w ∈ os, w ∈ toldIts b2 (toldIts b T0)) ∧ Lx m l (c + 700 + i) rm mo μ' ∧ Ls m l μ11 μ', ⟨[], rfl, rfl, (fun _ h => nomatch h), lx11.up (by omega), Ls.refl _⟩, fun i y acc μ' hy hJ s0 H0 C cl fp => ?_, fun acc μ' hJ ol nol => ?_⟩
  obtain ⟨os, rfl, hol, hoT, lxi, lsi⟩ := hJ
  obtain ⟨hi, rfl⟩ := rgA_at hy
  have ti := lsi _ _ tm tl told11
  refine wGw_name 5 (fun s0 H0 C cl fp => (wE_ix (wE_name 6 rfl (wE_cal C__law_draw ar.bk (by omega) (wA_cons (wE_name 0 rfl (wA_cons (wE_callB (id := "len") TX.b_len (by decide +kernel) (wA_cons (wE_name 6 rfl (wA_nil ?_))))))))))) nd
  refine wC_len (.loc ti) ?_
  rw [List.length_map]
  refine wA_nil ?_
  refine ⟨m, l, _, _, _, _, rfl, by omega, by omega, lxi, by omega, fun r11 μ12 k0 k1 lx12 ls12 => ?_⟩
  obtain ⟨y3, hy3, ey3⟩ := atI_ex (xs := (toldIts b2 (toldIts b T0)).map D.A.str) k0 (by rw [List.length_map]; omega)
  obtain ⟨o1, ho1, rfl⟩ := List.mem_map.mp hy3
  refine wI_loc (ls12 _ _ tm tl ti) ey3 ?_
  exact ⟨os ++ [o1], by simp, by rw [List.length_append, hol]; rfl, fun w hw => (List.mem_append.mp hw).elim (hoT w) (fun h => by rw [List.mem_singleton.mp h]; exact ho1), lx12.up (by omega), lsi.trans ls12⟩
  obtain ⟨os, rfl, hol, hoT, lxi, lsi⟩ := hJ
  rw [rgA_len] at hol lxi
  have ho1 : 1 ≤ os.length := by omega
  have ho4 : os.length ≤ 4 := by omega
  refine wA_nil ?_
  refine wC_tuple (.loc Mu.upd_same) ?_
  refine wSs_cons (wS_ret (wE_tup (wA_cons (wE_callTy (T := "tuple") TX.b_tuple (by decide +kernel) (wA_cons (wE_name 4 rfl (wA_nil ?_)))))))
  have fd12 := lsi _ _ pm pl fd11
  have one : p__law_parts ≠ ol := fun z => by rw [← z, fd12] at nol; cases nol
  refine wC_tuple (.loc (by rw [Mu.upd_ne one]; exact fd12)) ?_
  refine wA_cons (wE_name 7 rfl (wA_cons (wE_name 8 rfl (wA_cons (wE_name 9 rfl (wA_nil ⟨by show 4 ≤ sizeLine; decide, ?_⟩))))))
  have ls12 : Ls m l μ μ' := (ls10.trans ls11).trans lsi
  have oms := lxi.off nol
  refine q ⟨ps, T0, .rep (1 + r7) b :: b2, os⟩ _ ⟨?_, S.ok, ?_, ?_, j4, j2, ?_, ?_, ho1, ho4, fun w hw => ⟨bn2 w (hoT w hw), ?_⟩, ?_⟩ ⟨S.sm, ?_⟩ j3 ?_ S.inn ((lxi.up (by omega)).new nol) (ls12.over (ls12.old oms.1 oms.2 nol))
  · show ps.length ≤ 6; omega
  · show 1 ≤ T0.length; omega
  · show T0.length ≤ 6; omega
  · show tsIts (.rep (1 + r7) b :: b2)
    simp only [tsIts, It.tsOk]
    exact ⟨smIts_ts bs, smIts_ts bs2⟩
  · show okIts (pnPts ps) 0 T0 (.rep (1 + r7) b :: b2)
    simp only [okIts, It.ok, It.told]
    exact ⟨⟨by decide, by omega, by omega, bo 1 (by decide)⟩, bo2 0 (by decide)⟩
  · show w ∈ toldIts (.rep (1 + r7) b :: b2) T0
    simp only [toldIts, It.told]
    exact hoT w hw
  · show sizePts ps + T0.length + sizeIts (.rep (1 + r7) b :: b2) + os.length ≤ 80
    simp only [sizeIts, It.size]
    omega
  · show smIts (.rep (1 + r7) b :: b2)
    simp only [smIts, It.sm]
    exact ⟨⟨by omega, by omega, bs⟩, bs2⟩
  · show inIts ns (.rep (1 + r7) b :: b2)
    simp only [inIts, It.inS]
    exact ⟨bi, bi2⟩

end
end D

set_option Elab.async false
set_option linter.all false
set_option maxRecDepth 100000
set_option maxHeartbeats 4000000
namespace D
open PySem PySem.Spec PyProof.Rows L2
local macro_rules | `(tactic| walk_at "mul") => `(tactic| first | refine wO_mul (mulR (by first | decide | omega) (by first | decide | omega)) ?_ | refine wO_mul (mulL (by first | decide | omega) (by first | decide | omega)) ?_)
local macro_rules | `(tactic| walk_at "mod") => `(tactic| refine wO_mod (by first | decide | omega) ?_)
local macro_rules | `(tactic| walk_at "fdiv") => `(tactic| refine wO_fdiv (by first | decide | omega) (divS (by first | decide | omega)) ?_)
local macro_rules | `(tactic| walk_at "ix") => `(tactic| first | refine wI_tup (by rfl) ?_ | refine wI_lst (by rfl) ?_)
local macro_rules | `(tactic| walk_at "sl") => `(tactic| first | refine wSl_tup ?_ | refine wSl_lstF ?_)
local macro_rules | `(tactic| walk_at "obj") => `(tactic| refine ⟨_, _, _, rfl, by assumption, rfl, ?_⟩)
local macro_rules | `(tactic| walk_at "len") => `(tactic| first | refine wC_len (.tup _) ?_ | refine wC_len (.lst _) ?_ | refine wC_len (.loc (by assumption)) ?_)
section
variable {P : Program} {w : World} {mg : Str → Option Value} {base : Heap} {K : PySem.W.Frag} {CL CP CG CTL CTe CPr CPo CNV CTG CCo CS pT : Addr} {k : Nat}
abbrev s__law_renamed_body : Stmt := topS 56
abbrev N__law_renamed_body : List Str := ["_law_body", "_law_names_here", "_law_titles", "_law_found", "_law_item", "_law_things", "_law_thing"]
theorem sc__law_renamed_body : FnScope N__law_renamed_body ["_law_body", "_law_names_here", "_law_titles"] (defScope s__law_renamed_body) := ⟨rfl, rfl, rfl, by decide +kernel, rfl, by decide +kernel, by decide +kernel⟩
def c__law_renamed_body (lo : Nat) : AC := fun xs μ Q _ => ∃ (Fn Ft : List (Str × Str)) (Pn : Nm) (T : List Str) (b : List It) (d : Nat) (fl tl : Addr), xs = [.tup (aIts b), .loc fl, .loc tl] ∧ lo ≤ d ∧ d ≤ 3 ∧ RenAt Fn Ft fl tl μ ∧ okIts Pn d T b ∧ tsIts b ∧ sizeIts b ≤ 80 ∧ inIts (Fn.map (·.1)) b ∧ (∀ w ∈ T, w ∈ Fn.map (·.1)) ∧ (∀ p ∈ Pn, p.1 ∈ Ft.map (·.1)) ∧ ∀ μ', Sub μ μ' → Q (.tup (aIts (renIts (putF Fn) (putF Ft) b))) μ'
theorem ok__law_renamed_body {n : Nat} {lo : Nat} {f : Addr} {fd : FuncData} (TX : Txt K mg w CL CP CG CTL CTe CPr CPo CNV CTG CCo CS pT) (C__law_renamed_body : Cal P w K mg base n "_law_renamed_body" (c__law_renamed_body (lo+1))) (F : Fun K "_law_renamed_body" "_law_renamed_body" s__law_renamed_body f fd) : FnD P w K mg base CX0 (n + 1) f fd ["_law_body", "_law_names_here", "_law_titles"] (c__law_renamed_body lo) := by
  refine fnD F sc__law_renamed_body (fun xs μ Q E hc => by obtain ⟨Fn, Ft, Pn, T, b, d, fl, tl, rfl, hlo, hd3, ra, ok, tsb, hsz, hin, hT, hP, q⟩ := hc; rfl) (fun cdv Ao outer s H E xs μ Q E0 ar hc => ?_)
  obtain ⟨Fn, Ft, Pn, T, b, d, fl, tl, rfl, hlo, hd3, ra, ok, tsb, hsz, hin, hT, hP, q⟩ := hc
  have nd := sc__law_renamed_body.nd
  refine wSs_cons (wS_set 3 (wE_lst (wA_nil ⟨by show 0 ≤ sizeLine; decide, fun p__law_found np__law_found => (wSs_cons (wS_for (wIt_tup (wE_name 0 rfl ⟨_, rfl, ?_⟩))))⟩)) nd)
  have hbl := len_size b
  refine ⟨fun i Γ' μ' => ∃ x4 x5, Γ' = [some (.tup (aIts b)), some (.loc fl), some (.loc tl), some (.loc p__law_found), x4, x5, none] ∧ μ' p__law_found = some (.lst (aIts (renIts (putF Fn) (putF Ft) (b.take i)))) ∧ Sub μ μ', ⟨_, _, rfl, Mu.upd_same, Sub.new np__law_found⟩, fun i y Γ' μ' hy hI => ?_, fun Γ' μ' hI => ?_⟩
  obtain ⟨x4, x5, rfl, fd, sb⟩ := hI
  obtain ⟨x, hx, rfl⟩ := aIts_at hy
  obtain ⟨T1, ox, ix, hT1, tx, sx⟩ := okIts_at ok hin hT tsb hx
  have es := renIts_take (f := putF Fn) (t := putF Ft) hx
  have hil : (aIts (renIts (putF Fn) (putF Ft) (b.take i))).length ≤ 80 := by rw [aIts_len, renIts_map, List.length_map, List.length_take]; omega
  have ra1 := ra.sub sb
  obtain ⟨w0, rest, ea⟩ : ∃ w0 rest, x.a = .tup (.str w0 :: rest) := by cases x <;> exact ⟨_, _, rfl⟩
  rw [ea]
  refine wG_name 4 ?_ nd
  refine wSs_cut (fun Γ' μ2 => ∃ x5, Γ' = [some (.tup (aIts b)), some (.loc fl), some (.loc tl), some (.loc p__law_found), some (.tup (.str w0 :: rest)), x5, none] ∧ μ2 p__law_found = some (.lst (aIts (renIts (putF Fn) (putF Ft) (b.take i)) ++ [(x.ren (putF Fn) (putF Ft)).a])) ∧ Sub μ μ2) ?_ (fun Γ' μ2 hP => ?_)
  refine wS_if (wT_cmp (wE_ix (wE_name 4 rfl (wE_int ?_))))
  refine wI_tup (atI_pos (i := 0) (y := .str w0) (by rfl) (by decide)) ?_
  refine wE_str ?_
  refine wO_eqS ?_
  refine ⟨_, rfl, ?_⟩
  refine ⟨fun hk => ?_, fun hk => ?_⟩
  refine wSs_cons (wS_expr (wE_append (wE_name 3 rfl ?_)))
  obtain ⟨n1, b1, rfl⟩ : ∃ n1 b1, x = .rep n1 b1 := by
    cases x with
    | rep n1 b1 => exact ⟨_, _, rfl⟩
    | row x0 w1 ts =>
      have e2 : w0 = "row" := by simp only [It.a] at ea; cases ea; rfl
      exact absurd ((of_decide_eq_true hk).symm.trans e2) (by decide +kernel)
  cases (show D.A.tup [.str "repeat", .int n1, .tup (aIts b1)] = D.A.tup (.str w0 :: rest) from ea)
  simp only [It.ok] at ox
  simp only [It.inS] at ix
  simp only [It.tsOk] at tx
  simp only [It.size] at sx
  refine ⟨_, _, rfl, fd, ?_⟩
  refine wE_tup (wA_cons (wE_str (wA_cons (wE_ix (wE_name 4 rfl (wE_int ?_))))))
  refine wI_tup (atI_pos (i := 1) (y := .int n1) (by rfl) (by decide)) ?_
  refine wA_cons (wE_cal C__law_renamed_body ar (by omega) (wA_cons (wE_ix (wE_name 4 rfl (wE_int ?_)))))
  refine wI_tup (atI_pos (i := 2) (y := .tup (aIts b1)) (by rfl) (by decide)) ?_
  refine wA_cons (wE_name 1 rfl (wA_cons (wE_name 2 rfl (wA_nil ?_))))
  refine ⟨Fn, Ft, Pn, T1, b1, d + 1, fl, tl, rfl, by omega, by omega, ra1, ox.2.2.2, tx, by omega, ix, hT1, hP, fun μ3 s3 => ?_⟩
  refine wA_nil ⟨by show 3 ≤ sizeLine; decide, ?_⟩
  refine ⟨_, s3 _ _ fd, szLt (by omega), ?_⟩
  refine wSs_nil ?_
  exact ⟨_, rfl, Mu.upd_same, Sub.over (sb.trans s3) np__law_found⟩
  refine wSs_cons (wS_setLcF [("_law_thing", 6)] 5 (wIt_tup (wE_slice (wE_ix (wE_name 4 rfl (wE_int ?_))))) nd (blkOk_by (N := N__law_renamed_body) (sc := defScope s__law_renamed_body) (by decide +kernel)) (sw_true rfl rfl rfl (by decide +kernel)))
  obtain ⟨x0, w1, ts, rfl⟩ : ∃ x0 w1 ts, x = .row x0 w1 ts := by
    cases x with
    | row x0 w1 ts => exact ⟨_, _, _, rfl⟩
    | rep n1 b1 =>
      have e2 : w0 = "repeat" := by simp only [It.a] at ea; cases ea; rfl
      exact absurd e2 (of_decide_eq_false hk)
  cases (show D.A.tup [.str "row", .str x0, .str w1, .tup ts] = D.A.tup (.str w0 :: rest) from ea)
  simp only [It.ok] at ox
  simp only [It.inS] at ix
  simp only [It.tsOk] at tx
  obtain ⟨nh, hcut, hnl, hth, hnc, hcl⟩ := row_things ox.2.2 tx
  refine wI_tup (atI_pos (i := 3) (y := .tup ts) (by rfl) (by decide)) ?_
  refine wE_callTy (T := "int") TX.b_int (by decide +kernel) (wA_cons (wE_cmp (wE_ix (wE_name 4 rfl (wE_int ?_)))))
  refine wI_tup (atI_pos (i := 2) (y := .str w1) (by rfl) (by decide)) ?_
  refine wE_str ?_
  refine wO_eqS ?_
  refine wA_nil ?_
  refine wC_intB ?_
  refine ⟨_, rfl, ?_⟩
  refine wSl_tup ?_
  rw [hcut]
  refine ⟨_, rfl, ?_⟩
  refine ⟨szOk (by omega), nh.map (thR (putF Fn)), by simp, fun i2 y z hy2 hz s0 H0 C cl fp => ?_, ?_⟩
  obtain ⟨y2, hy3, rfl⟩ := map_at hz
  obtain rfl : y = y2 := Option.some.inj (hy2.symm.trans hy3)
  have th := hth y (List.mem_of_getElem? hy2)
  refine wGw_name 6 (⟨rfl, fun s0 H0 C cl fp => ?_⟩) nd
  refine wE_if (wT_val (wE_callB (id := "isinstance") TX.b_isinstance (by decide +kernel) (wA_cons (wE_name 6 rfl (wA_cons (wE_type (n := "str") TX.b_str (by decide +kernel) (wA_nil ?_)))))))
  obtain ⟨nm, t1, t2⟩ := th.isi (μ := μ')
  refine wC_isi t1 t2 ?_
  refine ⟨_, rfl, ?_⟩
  refine ⟨fun hk => ?_, fun hk => ?_⟩
  refine wE_dget ar.bk (wE_name 1 rfl (wE_name 6 rfl ?_))
  obtain ⟨u, rfl, hu⟩ := th.str hk
  refine ⟨fl, _, .inr u, _, rfl, ra1.f, rfl, valA_Sk (hT1 u hu), ?_⟩
  exact ⟨rfl, .refl _⟩
  refine wE_name 6 rfl ?_
  rw [th.non (by simpa using hk)]
  refine ⟨?_, .refl _⟩
  rfl
  refine wSs_cut (fun Γ' μ2 => Γ' = [some (.tup (aIts b)), some (.loc fl), some (.loc tl), some (.loc p__law_found), some (.tup [.str "row", .str x0, .str w1, .tup ts]), some (.lst (tsR (putF Fn) (putF Ft) w1 ts)), none] ∧ μ' = μ2) ?_ (fun Γ' μ2 hP => ?_)
  refine wS_if (wT_cmp (wE_ix (wE_name 4 rfl (wE_int ?_))))
  refine wI_tup (atI_pos (i := 2) (y := .str w1) (by rfl) (by decide)) ?_
  refine wE_str ?_
  refine wO_eqS ?_
  refine ⟨_, rfl, ?_⟩
  refine ⟨fun hk => ?_, fun hk => ?_⟩
  refine wSs_cons (wS_set 5 (wE_bin (wE_lstF (wA_cons (wE_dget ar (wE_name 2 rfl (wE_ix (wE_ix (wE_name 4 rfl (wE_int ?_))))))))) nd)
  obtain rfl : w1 = "call" := of_decide_eq_true hk
  obtain ⟨c, n, rfl, hc⟩ := hcl rfl
  obtain ⟨p0, hp0, e0⟩ := valI_key hc
  refine wI_tup (atI_pos (i := 3) (y := .tup (.str c :: nh)) (by rfl) (by decide)) ?_
  refine wE_int ?_
  refine wI_tup (atI_pos (i := 0) (y := .str c) (by rfl) (by decide)) ?_
  refine ⟨tl, _, .inr c, _, rfl, ra1.t, rfl, valA_Sk (e0 ▸ hP p0 hp0), ?_⟩
  refine wA_nil ⟨by show 1 ≤ sizeLine; decide, (wE_name 5 rfl ?_)⟩
  refine wO_catF (.lst _) (.lst _) (szOk (by simp only [List.length_map, List.length_singleton]; omega)) ?_
  refine wSs_nil ?_
  exact ⟨by rw [tsR_call]; rfl, rfl⟩
  refine wSs_nil ?_
  rw [hnc (of_decide_eq_false hk)]
  exact ⟨rfl, rfl⟩
  obtain ⟨rfl, rfl⟩ := hP
  refine wSs_cons (wS_expr (wE_append (wE_name 3 rfl ?_)))
  refine ⟨_, _, rfl, fd, ?_⟩
  refine wE_tup (wA_cons (wE_str (wA_cons (wE_dget ar (wE_name 1 rfl (wE_ix (wE_name 4 rfl (wE_int ?_))))))))
  refine wI_tup (atI_pos (i := 1) (y := .str x0) (by rfl) (by decide)) ?_
  refine ⟨fl, _, .inr x0, _, rfl, ra1.f, rfl, valA_Sk ix, ?_⟩
  refine wA_cons (wE_ix (wE_name 4 rfl (wE_int ?_)))
  refine wI_tup (atI_pos (i := 2) (y := .str w1) (by rfl) (by decide)) ?_
  refine wA_cons (wE_callTy (T := "tuple") TX.b_tuple (by decide +kernel) (wA_cons (wE_name 5 rfl (wA_nil ?_))))
  refine wC_tuple (.lst _) ?_
  refine wA_nil ⟨by show 4 ≤ sizeLine; decide, ?_⟩
  refine ⟨_, fd, szLt (by omega), ?_⟩
  refine wSs_nil ?_
  exact ⟨_, rfl, Mu.upd_same, Sub.over sb np__law_found⟩
  refine wSs_nil ?_
  obtain ⟨x6, rfl, fd2, s2⟩ := hP
  refine ⟨_, _, rfl, ?_, s2⟩
  rw [es]; exact fd2
  obtain ⟨x4, x5, rfl, fd, sb⟩ := hI
  rw [aIts_len, List.take_length] at fd
  refine wSs_cons (wS_ret (wE_callTy (T := "tuple") TX.b_tuple (by decide +kernel) (wA_cons (wE_name 3 rfl (wA_nil ?_)))))
  refine wC_tuple (.loc fd) ?_
  exact q _ sb

end
end D

set_option Elab.async false
set_option linter.all false
set_option maxRecDepth 100000
set_option maxHeartbeats 4000000
namespace D
open PySem PySem.Spec PyProof.Rows L2
local macro_rules | `(tactic| walk_at "mul") => `(tactic| first | refine wO_mul (mulR (by first | decide | omega) (by first | decide | omega)) ?_ | refine wO_mul (mulL (by first | decide | omega) (by first | decide | omega)) ?_)
local macro_rules | `(tactic| walk_at "mod") => `(tactic| refine wO_mod (by first | decide | omega) ?_)
local macro_rules | `(tactic| walk_at "fdiv") => `(tactic| refine wO_fdiv (by first | decide | omega) (divS (by first | decide | omega)) ?_)
local macro_rules | `(tactic| walk_at "ix") => `(tactic| first | refine wI_tup (by rfl) ?_ | refine wI_lst (by rfl) ?_)
local macro_rules | `(tactic| walk_at "sl") => `(tactic| first | refine wSl_tup ?_ | refine wSl_lstF ?_)
local macro_rules | `(tactic| walk_at "obj") => `(tactic| refine ⟨_, _, _, rfl, by assumption, rfl, ?_⟩)
local macro_rules | `(tactic| walk_at "len") => `(tactic| first | refine wC_len (.tup _) ?_ | refine wC_len (.lst _) ?_ | refine wC_len (.loc (by assumption)) ?_)
section
variable {P : Program} {w : World} {mg : Str → Option Value} {base : Heap} {K : PySem.W.Frag} {CL CP CG CTL CTe CPr CPo CNV CTG CCo CS pT : Addr} {k : Nat}
abbrev s__law_renamed : Stmt := topS 55
abbrev N__law_renamed : List Str := ["_law_plain", "_law_names_here", "_law_titles", "_law_parts", "_law_title", "_law_ins", "_law_body", "_law_give", "_law_own", "_law_name", "_law_outs", "_law_row"]
theorem sc__law_renamed : FnScope N__law_renamed ["_law_plain", "_law_names_here", "_law_titles"] (defScope s__law_renamed) := ⟨rfl, rfl, rfl, by decide +kernel, rfl, by decide +kernel, by decide +kernel⟩
theorem names_ren {f : Str → Str} {l : List Str} : (l.map f).map D.A.str = l.map fun w => D.A.str (f w) := by simp
def c__law_renamed : AC := fun xs μ Q _ => ∃ (Fn Ft : List (Str × Str)) (g : Pg) (fl tl : Addr), xs = [g.a, .loc fl, .loc tl] ∧ RenAt Fn Ft fl tl μ ∧ g.ok ∧ g.inS (Fn.map (·.1)) (Ft.map (·.1)) ∧ ∀ μ', Sub μ μ' → Q (g.ren (putF Fn) (putF Ft)).a μ'
theorem ok__law_renamed {n : Nat}  {f : Addr} {fd : FuncData} (TX : Txt K mg w CL CP CG CTL CTe CPr CPo CNV CTG CCo CS pT) (C__law_renamed_body : Cal P w K mg base n "_law_renamed_body" (c__law_renamed_body 0)) (F : Fun K "_law_renamed" "_law_renamed" s__law_renamed f fd) : FnD P w K mg base CX0 (n + 1) f fd ["_law_plain", "_law_names_here", "_law_titles"] c__law_renamed := by
  refine fnD F sc__law_renamed (fun xs μ Q E hc => by obtain ⟨Fn, Ft, g, fl, tl, rfl, ra, ok, hg, q⟩ := hc; rfl) (fun cdv Ao outer s H E xs μ Q E0 ar hc => ?_)
  obtain ⟨Fn, Ft, g, fl, tl, rfl, ra, ok, hg, q⟩ := hc
  have nd := sc__law_renamed.nd
  refine wSs_cons (wS_set 3 (wE_lst (wA_nil ⟨by show 0 ≤ sizeLine; decide, fun p__law_parts np__law_parts => (wSs_cons (wS_for (wIt_tup (wE_ix (wE_name 0 rfl (wE_int ?_))))))⟩)) nd)
  refine wI_tup (atI_pos (i := 0) (y := .tup (g.parts.map Pt.a)) (by rfl) (by decide)) ?_
  refine ⟨_, rfl, ?_⟩
  refine ⟨fun i Γ' μ' => ∃ x4 x5 x6 x7 x8, Γ' = [some g.a, some (.loc fl), some (.loc tl), some (.loc p__law_parts), x4, x5, x6, x7, x8, none, none, none] ∧ μ' p__law_parts = some (.lst (((g.parts.take i).map (Pt.ren (putF Fn) (putF Ft))).map Pt.a)) ∧ Sub μ μ', ⟨_, _, _, _, _, rfl, Mu.upd_same, Sub.new np__law_parts⟩, fun i y Γ' μ' hy hI => ?_, fun Γ' μ' hI => ?_⟩
  obtain ⟨x4, x5, x6, x7, x8, rfl, fd, sb⟩ := hI
  obtain ⟨p, hp, rfl⟩ := map_at hy
  have pm := List.mem_of_getElem? hp
  obtain ⟨u1, u2, u3⟩ := hg.parts p pm
  obtain ⟨Pn, po, hPn⟩ := okPts_at (U := Ft.map (·.1)) ok.parts (fun _ h => nomatch h) (fun q hq => (hg.parts q hq).1) pm
  have ra1 := ra.sub sb
  have hp6 := ok.p6
  have p4 := po.i4
  have psz := size_part ok pm
  refine wG_tup (wGs_cons (wG_name 4 (wGs_cons (wG_name 5 (wGs_cons (wG_name 6 (wGs_cons (wG_name 7 (wGs_nil ?_) nd)) nd)) nd)) nd))
  refine wSs_cons (wS_set 8 (wE_callTy (T := "tuple") TX.b_tuple (by decide +kernel) (wA_cons (wE_lcF (own := [("_law_name", 9)]) (wIt_tup (wE_name 5 rfl ⟨_, rfl, ?_⟩)) nd (blkOk_by (N := N__law_renamed) (sc := defScope s__law_renamed) (by decide +kernel))))) nd)
  refine ⟨szOk (by rw [List.length_map]; omega), ((p.ins.map (putF Fn)).map D.A.str), by simp, fun i2 y2 z hy2 hz s0 H0 C cl fp => ?_, ?_⟩
  obtain ⟨w1, hw1, rfl⟩ := map_at hy2
  obtain ⟨w2, hw2, rfl⟩ := map_at hz
  obtain ⟨w3, hw3, rfl⟩ := map_at hw2
  obtain rfl : w1 = w3 := Option.some.inj (hw1.symm.trans hw3)
  refine wGw_name 9 (⟨rfl, fun s0 H0 C cl fp => (wE_dget ar.bk (wE_name 1 rfl (wE_name 9 rfl ?_)))⟩) nd
  refine ⟨fl, _, .inr w1, _, rfl, ra1.f, rfl, valA_Sk (u2 w1 (List.mem_of_getElem? hw1)), ?_⟩
  refine ⟨?_, .refl _⟩
  rfl
  refine wA_nil ?_
  refine wC_tuple (.lst _) ?_
  refine wSs_cons (wS_expr (wE_append (wE_name 3 rfl ?_)))
  refine ⟨_, _, rfl, fd, ?_⟩
  refine wE_tup (wA_cons (wE_dget ar (wE_name 2 rfl (wE_name 4 rfl ?_))))
  refine ⟨tl, _, .inr p.nm, _, rfl, ra1.t, rfl, valA_Sk u1, ?_⟩
  refine wA_cons (wE_name 8 rfl (wA_cons (wE_cal C__law_renamed_body ar (by omega) (wA_cons (wE_name 6 rfl (wA_cons (wE_name 1 rfl (wA_cons (wE_name 2 rfl (wA_nil ?_))))))))))
  refine ⟨Fn, Ft, Pn, p.ins, p.body, 0, fl, tl, rfl, by decide, by decide, ra1, po.body, po.ts, psz, u3, u2, hPn, fun μ3 s3 => ?_⟩
  have ra3 := ra1.sub s3
  refine wA_cons (wE_dget ar (wE_name 1 rfl (wE_name 7 rfl ?_)))
  refine ⟨fl, _, .inr p.give, _, rfl, ra3.f, rfl, valA_Sk (tolds_in p.body p.ins u3 u2 _ po.give), ?_⟩
  refine wA_nil ⟨by show 4 ≤ sizeLine; decide, ?_⟩
  refine ⟨_, s3 _ _ fd, szLt (by simp only [List.length_map, List.length_take]; omega), ?_⟩
  refine wSs_nil ?_
  refine ⟨_, _, _, _, _, rfl, ?_, Sub.over (sb.trans s3) np__law_parts⟩
  have e : ((g.parts.take (i + 1)).map (Pt.ren (putF Fn) (putF Ft))).map Pt.a = ((g.parts.take i).map (Pt.ren (putF Fn) (putF Ft))).map Pt.a ++ [(p.ren (putF Fn) (putF Ft)).a] := by rw [List.take_add_one, hp]; simp
  rw [e]; exact Mu.upd_same
  obtain ⟨x4, x5, x6, x7, x8, rfl, fd, sb⟩ := hI
  rw [List.length_map, List.take_length] at fd
  have ra1 := ra.sub sb
  have hi6 := ok.i6
  have ho4 := ok.o4
  refine wSs_cons (wS_asg (wE_lcF (own := [("_law_row", 11)]) (wIt_tup (wE_tup (wA_cons (wE_ix (wE_name 0 rfl (wE_int ?_)))))) nd (blkOk_by (N := N__law_renamed) (sc := defScope s__law_renamed) (by decide +kernel))))
  refine wI_tup (atI_pos (i := 1) (y := .tup (g.ins.map D.A.str)) (by rfl) (by decide)) ?_
  refine wA_cons (wE_ix (wE_name 0 rfl (wE_int ?_)))
  refine wI_tup (atI_pos (i := 3) (y := .tup (g.outs.map D.A.str)) (by rfl) (by decide)) ?_
  refine wA_nil ⟨by show 2 ≤ sizeLine; decide, ⟨_, rfl, ?_⟩⟩
  refine ⟨by show 2 ≤ sizeLine; decide, [.tup ((g.ins.map (putF Fn)).map D.A.str), .tup ((g.outs.map (putF Fn)).map D.A.str)], rfl, fun i2 y2 z hy2 hz s0 H0 C cl fp => ?_, ?_⟩
  obtain ⟨ws, rfl, rfl, hws, hwl⟩ : ∃ ws : List Str, y2 = .tup (ws.map D.A.str) ∧ z = .tup ((ws.map (putF Fn)).map D.A.str) ∧ (∀ w ∈ ws, w ∈ Fn.map (·.1)) ∧ ws.length ≤ 6 := by
    match i2, hy2, hz with
    | 0, hy2, hz => cases hy2; cases hz; exact ⟨_, rfl, rfl, hg.ins, hi6⟩
    | 1, hy2, hz => cases hy2; cases hz; exact ⟨_, rfl, rfl, fun w hw => tolds_in g.body g.ins hg.body hg.ins _ (ok.outs w hw).2, by omega⟩
    | k + 2, hy2, _ => cases hy2
  refine wGw_name 11 (⟨rfl, fun s0 H0 C cl fp => (wE_callTy (T := "tuple") TX.b_tuple (by decide +kernel) (wA_cons (wE_lcF (own := [("_law_name", 9)]) (wIt_tup (wE_name 11 rfl ⟨_, rfl, ?_⟩)) nd (blkOk_by (by kernel_rfl)))))⟩) nd
  refine ⟨szOk (by rw [List.length_map]; omega), ((ws.map (putF Fn)).map D.A.str), by simp, fun i3 y3 z3 hy3 hz3 s0 H0 C cl fp => ?_, ?_⟩
  obtain ⟨w1, hw1, rfl⟩ := map_at hy3
  obtain ⟨w2, hw2, rfl⟩ := map_at hz3
  obtain ⟨w3, hw3, rfl⟩ := map_at hw2
  obtain rfl : w1 = w3 := Option.some.inj (hw1.symm.trans hw3)
  refine wGw_name 9 (⟨rfl, fun s0 H0 C cl fp => (wE_dget ar.bk.bk (wE_name 1 rfl (wE_name 9 rfl ?_)))⟩) nd
  refine ⟨fl, _, .inr w1, _, rfl, ra1.f, rfl, valA_Sk (hws w1 (List.mem_of_getElem? hw1)), ?_⟩
  refine ⟨?_, .refl _⟩
  rfl
  refine wA_nil ?_
  refine wC_tuple (.lst _) ?_
  refine ⟨?_, .refl _⟩
  rfl
  refine wG_lst (wGs_cons (wG_name 5 (wGs_cons (wG_name 10 (wGs_nil ?_) nd)) nd))
  refine wSs_cons (wS_ret (wE_tup (wA_cons (wE_callTy (T := "tuple") TX.b_tuple (by decide +kernel) (wA_cons (wE_name 3 rfl (wA_nil ?_)))))))
  refine wC_tuple (.loc fd) ?_
  refine wA_cons (wE_name 5 rfl (wA_cons (wE_cal C__law_renamed_body ar (by omega) (wA_cons (wE_ix (wE_name 0 rfl (wE_int ?_)))))))
  refine wI_tup (atI_pos (i := 2) (y := .tup (aIts g.body)) (by rfl) (by decide)) ?_
  refine wA_cons (wE_name 1 rfl (wA_cons (wE_name 2 rfl (wA_nil ?_))))
  refine ⟨Fn, Ft, pnPts g.parts, g.ins, g.body, 0, fl, tl, rfl, by decide, by decide, ra1, ok.body, ok.ts, by have := ok.size; simp only [Pg.size] at this; omega, hg.body, hg.ins, fun p hp => by obtain ⟨q2, hq2, rfl⟩ := List.mem_map.mp hp; exact (hg.parts q2 hq2).1, fun μ3 s3 => ?_⟩
  refine wA_cons (wE_name 10 rfl (wA_nil ⟨by show 4 ≤ sizeLine; decide, ?_⟩))
  exact q _ (sb.trans s3)

end
end D

set_option Elab.async false
set_option linter.all false
set_option maxRecDepth 100000
set_option maxHeartbeats 4000000
/-! P15e: what is told of a program, shown. -/
namespace D
open PySem PySem.Spec PyProof.Rows L2
/-- what is due, shown -/
def dueT (g : Pg) : Str := if (g.run 28).2.rows.length ≤ 5000 ∧ (g.run 28).2.deeds ≤ 20000 then (toD (.lst [g.dueA 28])).shown else (toD (.tup [.str "long"])).shown
theorem long_show : ShowOk (.tup [.str "long"]) := ⟨by decide +kernel, by decide, by decide +kernel⟩
section
variable {X : Cx} {μ μ' : Mu} {Q : A → Mu → Prop} {k : Nat} {g gg : Pg} {x y due : A}
theorem wC_reprDue (ar : Ar X k) (nd : X.base.NoDigits) (ok : g.ok) (sm : g.sm) (h : ((g.run 28).2.good → Rs μ x (.lst [g.dueA 28])) ∧ (¬ (g.run 28).2.good → x = .tup [.str "long"])) (q : Q (.str (dueT g)) μ) : wC X (.builtin "repr") [x] μ Q := by
  by_cases gd : (g.run 28).2.good
  · have sh := Pg.due_show ok sm gd
    have e : dueT g = (toD (.lst [g.dueA 28])).shown := if_pos gd
    rw [e] at q
    exact wC_reprW ar nd (h.1 gd) (wsh_of sh.sh) sh.dp (Nat.le_trans (shown_le _ sh.sh) sh.ln) q
  · have e : dueT g = (toD (.tup [.str "long"])).shown := if_neg gd
    rw [e] at q
    rw [h.2 gd]
    exact wC_repr ar long_show q
/-- what was found, shown -/
theorem FoundR.rs (ok : g.ok) (sm : g.sm) (e1 : (gg.run 28).2 = (g.run 28).2) (e2 : gg.outsAt 28 = g.outsAt 28) (h : FoundR gg μ μ' y) : ((g.run 28).2.good → Rs μ' y (.lst [g.dueA 28])) ∧ (¬ (g.run 28).2.good → y = .tup [.str "long"]) := by
  rcases h with ⟨gd, rl, ol, rfl, _, _, _, hr, ho⟩ | ⟨ng, rfl⟩
  · rw [e1] at gd hr
    rw [e2] at ho
    exact ⟨fun _ => .lst (.cons (.tup (.cons (.own hr (rsL_dat (Pg.rows_dat ok sm 28))) (.cons (.own ho (rsL_dat (Pg.outs_dat g 28))) .nil))) .nil), fun ng => absurd gd ng⟩
  · rw [e1] at ng
    exact ⟨fun gd => absurd gd ng, fun _ => rfl⟩
/-- what is due, by its cells -/
def DueZ (g : Pg) (z : A) (μ : Mu) : Prop := ((g.run 28).2.good → ∃ rl, z = .lst [.tup [.loc rl, .lst (g.outsAt 28)]] ∧ μ rl = some (.lst (g.run 28).2.rows)) ∧ (¬ (g.run 28).2.good → z = .tup [.str "long"])
theorem DueZ.sub (h : DueZ g x μ) (s : Sub μ μ') : DueZ g x μ' := ⟨fun gd => let ⟨rl, e, r⟩ := h.1 gd; ⟨rl, e, s _ _ r⟩, h.2⟩
theorem DueZ.rs (ok : g.ok) (sm : g.sm) (h : DueZ g x μ) : ((g.run 28).2.good → Rs μ x (.lst [g.dueA 28])) ∧ (¬ (g.run 28).2.good → x = .tup [.str "long"]) :=
  ⟨fun gd => by
    obtain ⟨rl, rfl, hr⟩ := h.1 gd
    exact .lst (.cons (.tup (.cons (.own hr (rsL_dat (Pg.rows_dat ok sm 28))) (.cons (.lst (rsL_dat (Pg.outs_dat g 28))) .nil))) .nil), h.2⟩
theorem DueAt.long (h : DueAt g due μ) (k : isNon due = true) : DueZ g (.tup [.str "long"]) μ := by
  refine ⟨fun gd => ?_, fun _ => rfl⟩
  obtain ⟨rl, rfl, _⟩ := h.1 gd
  cases k
theorem DueAt.rows (h : DueAt g due μ) (k : isNon due = false) : DueZ g (.lst [due]) μ := by
  refine ⟨fun gd => ?_, fun ng => ?_⟩
  · obtain ⟨rl, rfl, hr⟩ := h.1 gd
    exact ⟨rl, rfl, hr⟩
  · rw [h.2 ng] at k; cases k
end
end D

set_option Elab.async false
set_option linter.all false
set_option maxRecDepth 100000
set_option maxHeartbeats 4000000
namespace D
open PySem PySem.Spec PyProof.Rows L2
local macro_rules | `(tactic| walk_at "mul") => `(tactic| first | refine wO_mul (mulR (by first | decide | omega) (by first | decide | omega)) ?_ | refine wO_mul (mulL (by first | decide | omega) (by first | decide | omega)) ?_)
local macro_rules | `(tactic| walk_at "mod") => `(tactic| refine wO_mod (by first | decide | omega) ?_)
local macro_rules | `(tactic| walk_at "fdiv") => `(tactic| refine wO_fdiv (by first | decide | omega) (divS (by first | decide | omega)) ?_)
local macro_rules | `(tactic| walk_at "ix") => `(tactic| first | refine wI_tup (by rfl) ?_ | refine wI_lst (by rfl) ?_)
local macro_rules | `(tactic| walk_at "sl") => `(tactic| first | refine wSl_tup ?_ | refine wSl_lstF ?_)
local macro_rules | `(tactic| walk_at "obj") => `(tactic| refine ⟨_, _, _, rfl, by assumption, rfl, ?_⟩)
local macro_rules | `(tactic| walk_at "len") => `(tactic| first | refine wC_len (.tup _) ?_ | refine wC_len (.lst _) ?_ | refine wC_len (.loc (by assumption)) ?_)
section
variable {P : Program} {w : World} {mg : Str → Option Value} {base : Heap} {K : PySem.W.Frag} {CL CP CG CTL CTe CPr CPo CNV CTG CCo CS pT : Addr} {k : Nat}
abbrev s_law : Stmt := topS 60
abbrev N_law : List Str := ["_law_script", "_law_m", "_law_turn", "_law_names_here", "_law_plain", "_law_rows", "_law_due", "_law_program", "_law_others", "_law_fresh", "_law_titles", "_law_part", "_law_other", "_law_one"]
theorem sc_law : FnScope N_law ["_law_script"] (defScope s_law) := ⟨rfl, rfl, rfl, by decide +kernel, rfl, by decide +kernel, by decide +kernel⟩
theorem Lx.tbl {m l p : Addr} {c : Nat} {rm : Int} {mo : Option (List Str)} {μ : Mu} {t : Str} (h : Lx m l c rm mo μ) (e : μ p = some (.tbl t)) : p ≠ m ∧ p ≠ l := by
  obtain ⟨⟨fs, left, a, g1, g2, _⟩, _⟩ := h
  exact ⟨fun z => (by rw [z, g1] at e; cases e), fun z => (by rw [z, g2] at e; cases e)⟩
theorem But.made {p dx C : Addr} {μ μ' : Mu} {fs : List (Str × D.A)} (b : But p (μ.upd p (.ins C dx fs)) μ') (np : μ p = none) : Sub μ μ' := fun q o h => by
  have e : q ≠ p := fun z => by rw [z, np] at h; cases h
  exact b q o e (by rw [Mu.upd_ne e]; exact h)
theorem tried_straight {CTL : Addr} {g : Pg} {μ : Mu} {dl : DL} {Q : D.A → Mu → Prop} (hdl : ∀ Q2 E2, ((g.run 28).2.good → ∀ (rl ol : Addr) (μ' : Mu), Sub μ μ' → μ rl = none → μ ol = none → rl ≠ ol → μ' rl = some (.lst (g.run 28).2.rows) → μ' ol = some (.lst (g.outsAt 28)) → Q2 (.tup [.loc rl, .loc ol]) μ') → (¬ (g.run 28).2.good → ∀ μ', Sub μ μ' → E2 (.ref CTL) none μ') → dl μ Q2 E2)
    (h : ∀ y μ', Sub μ μ' → FoundR g μ μ' y → Q y μ') : c__law_tried CTL dl μ Q :=
  fun Q2 E2 h2 e2 => hdl Q2 E2 (fun gd rl ol μ' s n1 n2 ne r o => h2 _ _ (h _ _ s (.inl ⟨gd, rl, ol, rfl, n1, n2, ne, r, o⟩))) fun gd μ' s => e2 _ fun a na => h _ _ (s.trans (Sub.new na)) (.inr ⟨gd, rfl⟩)
theorem straight_due {g : Pg} {μ : Mu} {Q : D.A → Mu → Prop} {E : Value → Option Addr → Mu → Prop} (ok : g.ok) (q : ∀ due μ', Sub μ μ' → DueAt g due μ' → Q due μ') : c__law_straight 28 [g.a] μ Q E :=
  ⟨g, rfl, ok, Pg.fits ok, fun gd rl μ4 s _ hr => q _ _ s ⟨fun _ => ⟨rl, rfl, hr⟩, fun ng => absurd gd ng⟩, fun ng μ4 s => q _ _ s ⟨fun gd => absurd gd ng, fun _ => rfl⟩⟩
theorem three {P : Addr → Pg → Prop} {a b : Addr} {g h : Pg} {i : Nat} {y : D.A} (hy : [D.A.loc a, .loc b, .loc a][i]? = some y) (h1 : P a g) (h2 : P b h) : ∃ p gg, y = .loc p ∧ P p gg :=
  match i, hy with
  | 0, rfl => ⟨a, g, rfl, h1⟩
  | 1, rfl => ⟨b, h, rfl, h2⟩
  | 2, rfl => ⟨a, g, rfl, h1⟩
theorem PgAtLs_ne {g : Pg} {fs : List Int} {l : Addr} {a rm : Int} {mo : Option (List Str)} : (g.parts.map fun q => ((.inr q.nm : Key), q.a)) ≠ dicL fs l a rm mo := fun h => by
  cases hp : g.parts with
  | nil => rw [hp] at h; cases mo <;> cases h
  | cons q r =>
    rw [hp] at h
    simp only [List.map_cons, dicL, List.cons_append, List.cons.injEq, Prod.mk.injEq, Pt.a] at h
    exact nomatch h.1.2
theorem PgAt.ls {CP p m l : Addr} {g : Pg} {c : Nat} {rm : Int} {mo : Option (List Str)} {μ μ' : Mu} (h : PgAt CP p g μ) (lw : Lx m l c rm mo μ) (s : Ls m l μ μ') : PgAt CP p g μ' := by
  obtain ⟨dx, rp, h1, h2, h3⟩ := h
  obtain ⟨⟨fs, left, a, g1, g2, _⟩, ne⟩ := lw
  have n1 : p ≠ m := fun e => by rw [e, g1] at h1; cases h1
  have n2 : p ≠ l := fun e => by rw [e, g2] at h1; cases h1
  have n3 : rp ≠ l := fun e => by rw [e, g2] at h2; cases h2
  have n4 : rp ≠ m := fun e => by
    rw [e, g1] at h2
    exact PgAtLs_ne (MO.dic.inj (Option.some.inj h2)).symm
  exact ⟨dx, rp, s _ _ n1 n2 h1, s _ _ n4 n3 h2, h3⟩
theorem DueZ.ls {g : Pg} {z : D.A} {m l : Addr} {c : Nat} {rm : Int} {mo : Option (List Str)} {μ μ' : Mu} (h : DueZ g z μ) (ok : g.ok) (lw : Lx m l c rm mo μ) (s : Ls m l μ μ') : DueZ g z μ' := by
  refine ⟨fun gd => ?_, h.2⟩
  obtain ⟨rl, e, r⟩ := h.1 gd
  obtain ⟨⟨fs, left, a, g1, g2, _⟩, _⟩ := lw
  refine ⟨rl, e, s _ _ (fun z => ?_) (fun z => ?_) r⟩
  · rw [z, g1] at r; cases r
  · rw [z, g2] at r
    have e3 : left.map D.A.int = (g.run 28).2.rows := MO.lst.inj (Option.some.inj r)
    obtain ⟨⟨l2, e4⟩, _⟩ := goF_up g.parts 28 g.body (stN g.ins 0) g.start
    have e5 : (g.run 28).2.rows = g.ins.map (fun _ => inRow) ++ l2 := e4
    rw [e5] at e3
    cases hi : g.ins with
    | nil => have := ok.i1; rw [hi] at this; simp at this
    | cons x r2 =>
      rw [hi] at e3
      cases left with
      | nil => simp at e3
      | cons y r3 => simp [inRow] at e3
def c_law (PP : Addr) : AC := fun xs μ Q _ => ∃ ns : List Int, xs = [.fls (ns.map D.A.int)] ∧ ns.length ≤ 63 ∧ μ PP = some (.tbl "law.<locals>.<lambda>") ∧ ∀ μ', Q (.bl true) μ'
theorem ok_law {n : Nat} {ND : base.NoDigits} {f : Addr} {fd : FuncData} (TX : Txt K mg w CL CP CG CTL CTe CPr CPo CNV CTG CCo CS pT) (C__law_begun : Cal P w K mg base n "_law_begun" c__law_begun) (C__law_names : Cal P w K mg base n "_law_names" c__law_names) (C__law_nested : Cal P w K mg base n "_law_nested" c__law_nested) (C__law_straight : Cal P w K mg base n "_law_straight" (c__law_straight 28)) (C__law_renamed : Cal P w K mg base n "_law_renamed" c__law_renamed) (C__law_tried : LG P w K mg base n "_law_tried" (c__law_tried CTL)) (C_straight : CalX P w K mg base n "straight" (c_straight CP CG CTL 28)) (CK_Program : CalK P w K mg base n "Program" CP (c_Program___init__ CP)) (F : Fun K "law" "law" s_law f fd) {cc PP : Addr} (TB : LamX.TabB base mg cc PP) (FC : fd.code = .ref cc) : FnD P w K mg base CX0 (n + 3) f fd ["_law_script"] (c_law PP) := by
  refine fnDc F sc_law (fun xs μ Q E hc => by obtain ⟨ns, rfl, hn, hpr, q⟩ := hc; rfl) (fun cdv Ao outer s H E xs μ Q E0 ar hc hcv => ?_)
  have hcd : cdv = .ref cc := hcv.symm.trans FC
  obtain ⟨ns, rfl, hn, hpr, q⟩ := hc
  have nd := sc_law.nd
  refine wSs_cons (wS_set 1 (wE_cal C__law_begun ar (by omega) (wA_cons (wE_name 0 rfl (wA_nil ?_)))) nd)
  refine ⟨ns, rfl, hn, fun m l μ1 nm lw sb => ?_⟩
  have hp1 := sb _ _ hpr
  obtain ⟨pm, pl⟩ := lw.tbl hp1
  refine wSs_cons (wS_for (wIt_range1 TX.b_range (wA_cons (wE_int (wA_nil ⟨_, rfl, by omega, by omega, ?_⟩)))))
  refine ⟨fun i Γ' μ' => ∃ x2 x3 x4 x5 x6 x7 x8 x9 x10 x12 x13, Γ' = [some (.fls (ns.map D.A.int)), some (.loc m), x2, x3, x4, x5, x6, x7, x8, x9, x10, none, x12, x13] ∧ (∃ rm mo, Lx m l (i * 2000) rm mo μ') ∧ μ' PP = some (.tbl "law.<locals>.<lambda>"), ⟨_, _, _, _, _, _, _, _, _, _, _, rfl, ⟨_, _, lw.up (by omega)⟩, hp1⟩, fun i y Γ' μ' hy hI => ?_, fun Γ' μ' hI => ?_⟩
  obtain ⟨x2, x3, x4, x5, x6, x7, x8, x9, x10, x12, x13, rfl, ⟨rm, mo, lx⟩, hpp⟩ := hI
  obtain ⟨hi, rfl⟩ := rgA_at hy
  have hi6 : i < 6 := by omega
  refine wG_name 2 ?_ nd
  refine wSs_cons (wS_set 3 (wE_cal C__law_names ar (by omega) (wA_cons (wE_name 1 rfl (wA_cons (wE_int (wA_nil ?_)))))) nd)
  refine ⟨m, l, _, 5, _, _, rfl, by decide, lx, by omega, fun nn μ2 n5 nms nnd lx2 ls2 => ?_⟩
  refine wSs_cons (wS_set 4 (wE_cal C__law_nested ar (by omega) (wA_cons (wE_name 1 rfl (wA_cons (wE_name 3 rfl (wA_nil ?_)))))) nd)
  refine ⟨m, l, _, _, _, nn, rfl, lx2, by omega, n5, nnd, nms, fun g μ3 ok sm gi gb gp lx3 ls3 => ?_⟩
  have hp3 := (ls2.trans ls3) _ _ pm pl hpp
  refine wSs_cons (wS_set 5 (wE_cal C__law_straight ar (by omega) (wA_cons (wE_name 4 rfl (wA_nil ?_)))) nd)
  refine straight_due ok (fun rows μ4 s4 du => ?_)
  refine wSs_cons (wS_set 6 ?_ nd)
  refine wE.imp (Q := fun z μ5 => μ4 = μ5 ∧ DueZ g z μ5) ?_ (fun z μ5 hz => ?_)
  refine wE_if (wT_cmp (wE_name 5 rfl (wE_non ?_)))
  refine wO_isN ?_
  refine ⟨_, rfl, ?_⟩
  refine ⟨fun hk => ?_, fun hk => ?_⟩
  refine wE_tup (wA_cons (wE_str (wA_nil ⟨by show 1 ≤ sizeLine; decide, ?_⟩)))
  exact ⟨rfl, du.long hk⟩
  refine wE_lstF (wA_cons (wE_name 5 rfl (wA_nil ⟨by show 1 ≤ sizeLine; decide, ?_⟩)))
  exact ⟨rfl, du.rows hk⟩
  obtain ⟨rfl, dz⟩ := hz
  refine wSs_cons (wS_set 7 (wE_make CK_Program ar (by omega) (wA_cons (wE_name 4 rfl (wA_nil ?_)))) nd)
  refine fun p1 dx1 np1 => ⟨p1, dx1, g, rfl, Mu.upd_same, ok, fun μ5 at1 b1 => ⟨rfl, ?_⟩⟩
  have s5 := b1.made np1
  have lx5 := (lx3.sub s4).sub s5
  have hp5 := s5 _ _ (s4 _ _ hp3)
  have dz5 := dz.sub s5
  refine wSs_cons (wS_set 8 (wE_cal C__law_names ar (by omega) (wA_cons (wE_name 1 rfl (wA_cons (wE_int (wA_nil ?_)))))) nd)
  refine ⟨m, l, _, 12, _, _, rfl, by decide, lx5, by omega, fun os μ6 o12 onm ond lx6 ls6 => ?_⟩
  have pm5 := lx5.tbl hp5
  have hp6 := ls6 _ _ pm5.1 pm5.2 hp5
  have p1m : p1 ≠ m ∧ p1 ≠ l := (lx3.sub s4).off np1
  refine wSs_cons (wS_set 9 (wE_dictZipL TX.b_dict TX.b_zip (wA_cons (wE_name 3 rfl (wA_cons (wE_slice (wE_name 8 rfl (wE_int ⟨_, rfl, ?_⟩))))))) nd)
  refine wSl_lstF ?_
  rw [cut_names (by decide) (by omega), show (5 : Int).toNat = 5 from rfl]
  have l5 : (os.take 5).length = 5 := by rw [List.length_take]; omega
  have l7 : (os.drop 5).length = 7 := by rw [List.length_drop]; omega
  refine wA_nil ?_
  refine ⟨nn.map Sum.inr, (os.take 5).map D.A.str, by rw [List.map_map]; rfl, fun fl nfl => ?_⟩
  rw [merge_Sk nnd (by omega)]
  have hf : (μ6.upd fl (.dic (Sk (nn.zip (os.take 5))))) fl = some (.dic (Sk (nn.zip (os.take 5)))) := Mu.upd_same
  have s7 : Sub μ6 (μ6.upd fl (.dic (Sk (nn.zip (os.take 5))))) := Sub.new nfl
  generalize μ6.upd fl (.dic (Sk (nn.zip (os.take 5)))) = μ7 at hf s7
  refine wSs_cons (wS_set 10 (wE_dictZipL TX.b_dict TX.b_zip (wA_cons (wE_lcF (own := [("_law_part", 11)]) (wIt_tup (wE_ix (wE_name 4 rfl (wE_int ?_)))) nd (blkOk_by (N := N_law) (sc := defScope s_law) (by decide +kernel))))) nd)
  refine wI_tup (atI_pos (i := 0) (y := .tup (g.parts.map Pt.a)) (by rfl) (by decide)) ?_
  refine ⟨_, rfl, ?_⟩
  have hp6' := ok.p6
  refine ⟨szOk (by rw [List.length_map]; omega), (g.parts.map (·.nm)).map D.A.str, by simp, fun i2 y2 z hy2 hz s0 H0 C cl fp => ?_, ?_⟩
  obtain ⟨q1, hq1, rfl⟩ := map_at hy2
  obtain ⟨w1, hw1, rfl⟩ := map_at hz
  obtain ⟨q2, hq2, rfl⟩ := map_at hw1
  obtain rfl : q1 = q2 := Option.some.inj (hq1.symm.trans hq2)
  refine wGw_name 11 (⟨rfl, fun s0 H0 C cl fp => (wE_ix (wE_name 11 rfl (wE_int ?_)))⟩) nd
  refine wI_tup (xs := [.str q1.nm, .tup (q1.ins.map D.A.str), .tup (aIts q1.body), .str q1.give]) (atI_pos (i := 0) (y := .str q1.nm) (by rfl) (by decide)) ?_
  refine ⟨?_, .refl _⟩
  rfl
  refine wA_cons (wE_slice (wE_name 8 rfl (wE_int ⟨_, rfl, ?_⟩)))
  refine wSl_lstF ?_
  rw [show (5 : Int) = ((5 : Nat) : Int) from rfl, cut_from (by rw [List.length_map]; omega), ← List.map_drop]
  refine wA_nil ?_
  have np := (okPts_nodup ok.parts).1
  have lp : (g.parts.map (·.nm)).length ≤ (os.drop 5).length := by rw [List.length_map]; omega
  refine ⟨(g.parts.map (·.nm)).map Sum.inr, (os.drop 5).map D.A.str, by simp only [List.map_map]; rfl, fun tl ntl => ?_⟩
  rw [merge_Sk np lp]
  have ht : (μ7.upd tl (.dic (Sk ((g.parts.map (·.nm)).zip (os.drop 5))))) tl = some (.dic (Sk ((g.parts.map (·.nm)).zip (os.drop 5)))) := Mu.upd_same
  have s8 : Sub μ7 (μ7.upd tl (.dic (Sk ((g.parts.map (·.nm)).zip (os.drop 5))))) := Sub.new ntl
  generalize μ7.upd tl (.dic (Sk ((g.parts.map (·.nm)).zip (os.drop 5)))) = μ8 at ht s8
  have hg : g.inS nn (g.parts.map (·.nm)) := ⟨gi, gb, fun p hp => ⟨List.mem_map.mpr ⟨p, hp, rfl⟩, (gp p hp).1, (gp p hp).2⟩⟩
  have a1 := zip_apart nnd (ond.sublist (List.take_sublist 5 os)) (show nn.length ≤ (os.take 5).length by omega)
  have a2 := zip_nms nnd (fun w hw => onm w (List.mem_of_mem_take hw)) (show nn.length ≤ (os.take 5).length by omega)
  have a3 := zip_apart np (ond.sublist (List.drop_sublist 5 os)) lp
  have a4 := zip_nms np (fun w hw => onm w (List.mem_of_mem_drop hw)) lp
  refine wSs_cons (wS_set 12 (wE_make CK_Program ar (by omega) (wA_cons (wE_cal C__law_renamed ar (by omega) (wA_cons (wE_name 4 rfl (wA_cons (wE_name 9 rfl (wA_cons (wE_name 10 rfl (wA_nil ?_)))))))))) nd)
  refine ⟨nn.zip (os.take 5), (g.parts.map (·.nm)).zip (os.drop 5), g, fl, tl, rfl, ⟨s8 _ _ hf, ht⟩, ok, by rw [zip_keys (show nn.length ≤ (os.take 5).length by omega), zip_keys lp]; exact hg, fun μ9 s9 => ?_⟩
  have ok2 := Pg.ok_ren a1 a2 a3 a4 ok hg
  obtain ⟨e1, e2⟩ := Pg.run_ren a1 a3 ok hg
  generalize g.ren (putF (nn.zip (os.take 5))) (putF ((g.parts.map (·.nm)).zip (os.drop 5))) = g2 at ok2 e1 e2
  refine wA_nil ?_
  refine fun p2 dx2 np2 => ⟨p2, dx2, g2, rfl, Mu.upd_same, ok2, fun μ10 at2 b2 => ⟨rfl, ?_⟩⟩
  have s10 := ((s7.trans s8).trans s9).trans (b2.made np2)
  have lx10 := lx6.sub s10
  have hp10 := s10 _ _ hp6
  have at1 : PgAt CP p1 g μ10 := (at1.ls lx5 ls6).sub s10
  have dz10 : DueZ g _ μ10 := (dz5.ls ok lx5 ls6).sub s10
  refine wSs_cons (wS_for (wIt_tup (wE_tup (wA_cons (wE_name 7 rfl (wA_cons (wE_name 12 rfl (wA_cons (wE_name 7 rfl (wA_nil ⟨by show 3 ≤ sizeLine; decide, ⟨_, rfl, ?_⟩⟩))))))))))
  refine ⟨fun j Γ' μ' => ∃ x13, Γ' = [some (.fls (ns.map D.A.int)), some (.loc m), some (.int (0 + (i : Int))), some (.lst (nn.map D.A.str)), some g.a, some rows, some z, some (.loc p1), some (.lst (os.map D.A.str)), some (.loc fl), some (.loc tl), none, some (.loc p2), x13] ∧ Sub μ10 μ', ⟨_, rfl, .refl _⟩, fun j y Γ' μ' hy hI => ?_, fun Γ' μ' hI => ?_⟩
  obtain ⟨x13, rfl, s2⟩ := hI
  obtain ⟨p, gg, rfl, pg, okk, f1, f2⟩ : ∃ p gg, y = .loc p ∧ PgAt CP p gg μ10 ∧ gg.ok ∧ (gg.run 28).2 = (g.run 28).2 ∧ gg.outsAt 28 = g.outsAt 28 := three hy ⟨at1, ok, rfl, rfl⟩ ⟨at2, ok2, e1, e2⟩
  have htb := s2 _ _ hp10
  refine wG_name 13 ?_ nd
  refine wSs_cons (wS_if (wT_cmp (wE_callB (id := "repr") TX.b_repr (by decide +kernel) (wA_cons (wE_lam C__law_tried ar (by omega) TB hcd rfl htb (LamX.lamS_by (sc := defScope s_law) (by decide +kernel)) rfl (by intros; rfl) (fun dl hdl => ?_))))))
  refine tried_straight (g := gg) (fun Q2 E2 k1 k2 => hdl _ _ _ (fun B' Z lz ar2 tk2 pa2 => ?_)) (fun y2 μ2 s3 hf2 => ?_)
  obtain ⟨Al, outl, sl, Hl, El, fl, cl, rfl⟩ := lz
  refine wE_calX C_straight ar2 (by omega) tk2 (wA_cons (wE_name 13 rfl (wA_nil ?_)))
  exact ⟨p, gg, rfl, pg.sub s2, okk, Pg.fits okk, fun gd rl ol μ2 s3 n1 n2 ne r o => k1 gd rl ol μ2 s3 n1 n2 ne r o, k2⟩
  skip
  refine wA_nil ?_
  refine wC_reprDue ar ND ok sm (hf2.rs ok sm f1 f2) ?_
  refine wE_callB (id := "repr") TX.b_repr (by decide +kernel) (wA_cons (wE_name 6 rfl (wA_nil ?_)))
  refine wC_reprDue ar ND ok sm ((dz10.sub (s2.trans s3)).rs ok sm) ?_
  refine wO_neS ?_
  refine ⟨_, rfl, ?_⟩
  refine ⟨fun hk => ?_, fun hk => ?_⟩
  refine wSs_cons (wS_ret (wE_bl ?_))
  simp at hk
  refine wSs_nil ?_
  refine wSs_nil ?_
  exact ⟨_, rfl, s2.trans s3⟩
  obtain ⟨x13, rfl, s2⟩ := hI
  refine wSs_nil ?_
  exact ⟨_, _, _, _, _, _, _, _, _, _, _, rfl, ⟨_, _, (lx10.sub s2).up (by omega)⟩, s2 _ _ hp10⟩
  skip
  refine wSs_cons (wS_ret (wE_bl ?_))
  exact q _

end
end D

set_option Elab.async false
set_option linter.all false
set_option maxRecDepth 100000
set_option maxHeartbeats 4000000
namespace D
open PySem PySem.Spec PyProof.Rows L2
local macro_rules | `(tactic| walk_at "mul") => `(tactic| first | refine wO_mul (mulR (by first | decide | omega) (by first | decide | omega)) ?_ | refine wO_mul (mulL (by first | decide | omega) (by first | decide | omega)) ?_)
local macro_rules | `(tactic| walk_at "mod") => `(tactic| refine wO_mod (by first | decide | omega) ?_)
local macro_rules | `(tactic| walk_at "fdiv") => `(tactic| refine wO_fdiv (by first | decide | omega) (divS (by first | decide | omega)) ?_)
local macro_rules | `(tactic| walk_at "ix") => `(tactic| first | refine wI_tup (by rfl) ?_ | refine wI_lst (by rfl) ?_)
local macro_rules | `(tactic| walk_at "sl") => `(tactic| first | refine wSl_tup ?_ | refine wSl_lstF ?_)
local macro_rules | `(tactic| walk_at "obj") => `(tactic| refine ⟨_, _, _, rfl, by assumption, rfl, ?_⟩)
local macro_rules | `(tactic| walk_at "len") => `(tactic| first | refine wC_len (.tup _) ?_ | refine wC_len (.lst _) ?_ | refine wC_len (.loc (by assumption)) ?_)
section
variable {P : Program} {w : World} {mg : Str → Option Value} {base : Heap} {K : PySem.W.Frag} {CL CP CG CTL CTe CPr CPo CNV CTG CCo CS pT : Addr} {k : Nat}
abbrev s_Going_called : Stmt := (bodyC (topS 12)).getD 5 (.Pass ⟨0, 0, 0, 0⟩)
abbrev N_Going_called : List Str := ["self", "name", "places", "part", "names"]
theorem sc_Going_called : FnScope N_Going_called ["self", "name", "places"] (defScope s_Going_called) := ⟨rfl, rfl, rfl, by decide +kernel, rfl, by decide +kernel, by decide +kernel⟩
theorem ok_Going_called {n : Nat}  {f : Addr} {fd : FuncData} (TX : Txt K mg w CL CP CG CTL CTe CPr CPo CNV CTG CCo CS pT) (CM_Going_go : CalMX P w K mg base n CG "go" (c_Going_go CG CTL k)) (F : Fun K "called" "Going.called" s_Going_called f fd) : FnD P w K mg base (L2.CX P w) (n + 1) f fd ["self", "name", "places"] (c_Going_called CG CTL k) := by
  refine fnDX F sc_Going_called (fun xs μ Q E hc => by obtain ⟨ps, g, dx, rl, pt, s, c, is, p, rfl, go, gd, hp, hl, h4, hnd, hfit, hgive, q1, q2⟩ := hc; rfl) (fun cdv Ao outer s H E xs μ Q E0 ar hc tk pa => ?_)
  obtain ⟨ps, g, dx, rl, pt, s, c, is, p, rfl, go, gd, hp, hl, h4, hnd, hfit, hgive, q1, q2⟩ := hc
  have nd := sc_Going_called.nd
  refine wSs_cons (wS_set 3 (wE_dget ar (wE_fld TX.cls_Going TX.na_Going_parts (wE_name 0 rfl ?_))) nd)
  have ec : callF ps (goF ps k) c is s = ((valI (goF ps k p.body (p.ins.zip is) s).1 p.give).getD 0, (goF ps k p.body (p.ins.zip is) s).2) := by simp only [callF, hp]
  rw [ec] at q1 q2
  refine ⟨g, dx, _, _, rfl, go.o, rfl, ?_⟩
  refine wE_name 1 rfl ?_
  refine ⟨pt, _, .inr c, p.a, rfl, go.parts, rfl, by rw [valA_PtK, hp]; rfl, ?_⟩
  refine wSs_cons (wS_set 4 (wE_dictZip TX.b_dict TX.b_zip (wA_cons (wE_ix (wE_name 3 rfl (wE_int ?_))))) nd)
  refine wI_tup (atI_pos (i := 1) (y := .tup (p.ins.map D.A.str)) (by rfl) (by decide)) ?_
  refine wA_cons (wE_name 2 rfl (wA_nil ?_))
  refine ⟨p.ins.map Sum.inr, is.map D.A.int, by rw [List.map_map]; rfl, fun nl nnl => ?_⟩
  rw [merge_zip hnd hl]
  have m1 : nl ≠ g := fun z => by rw [z, go.o] at nnl; cases nnl
  have m2 : nl ≠ rl := fun z => by rw [z, go.rows] at nnl; cases nnl
  have m3 : nl ≠ pt := fun z => by rw [z, go.parts] at nnl; cases nnl
  have go2 := go.ke (.upd (S := [nl]) (p := nl) (o := .dic (Pk (p.ins.zip is))) (by simp)) (by simpa using Ne.symm m1) (by simpa using Ne.symm m2) (by simpa using Ne.symm m3)
  have has := zip_has (ins := p.ins) (is := is) hl
  obtain ⟨i1, hi⟩ := goF_has ps k p.body (p.ins.zip is) s p.ins hfit has p.give hgive
  refine wSs_cons (wS_expr (wE_methX TX.cls_Going CM_Going_go ar (by omega) tk (wE_name 0 rfl ?_)))
  refine ⟨g, dx, _, rfl, go2.o, rfl, ?_⟩
  refine wA_cons (wE_ix (wE_name 3 rfl (wE_int ?_)))
  refine wI_tup (atI_pos (i := 2) (y := .tup (aIts p.body)) (by rfl) (by decide)) ?_
  refine wA_cons (wE_name 4 rfl (wA_nil ?_))
  refine ⟨ps, g, dx, rl, pt, nl, s, p.ins.zip is, p.ins, p.body, rfl, go2, gd, ⟨Mu.upd_same, m1, m2, m3⟩, hfit, has, by rw [List.length_zip]; omega, fun h μ4 go4 nm4 ke4 => ?_, fun h μ4 ke4 => q2 h _ (.new nnl (ke4.mono (by simp)))⟩
  refine wSs_cons (wS_ret (wE_dget ar (wE_name 4 rfl (wE_ix (wE_name 3 rfl (wE_int ?_))))))
  refine wI_tup (atI_pos (i := 3) (y := .str p.give) (by rfl) (by decide)) ?_
  refine ⟨nl, _, .inr p.give, .int i1, rfl, nm4.n, rfl, by rw [valA_Pk, hi]; rfl, ?_⟩
  have k2 : Q (.int ((valI (goF ps k p.body (p.ins.zip is) s).1 p.give).getD 0)) _ := q1 h _ go4 (.new nnl (ke4.mono (by simp)))
  rw [hi] at k2
  exact k2

end
end D

set_option Elab.async false
set_option linter.all false
set_option maxRecDepth 100000
set_option maxHeartbeats 4000000
namespace D
open PySem PySem.Spec PyProof.Rows L2
local macro_rules | `(tactic| walk_at "mul") => `(tactic| first | refine wO_mul (mulR (by first | decide | omega) (by first | decide | omega)) ?_ | refine wO_mul (mulL (by first | decide | omega) (by first | decide | omega)) ?_)
local macro_rules | `(tactic| walk_at "mod") => `(tactic| refine wO_mod (by first | decide | omega) ?_)
local macro_rules | `(tactic| walk_at "fdiv") => `(tactic| refine wO_fdiv (by first | decide | omega) (divS (by first | decide | omega)) ?_)
local macro_rules | `(tactic| walk_at "ix") => `(tactic| first | refine wI_tup (by rfl) ?_ | refine wI_lst (by rfl) ?_)
local macro_rules | `(tactic| walk_at "sl") => `(tactic| first | refine wSl_tup ?_ | refine wSl_lstF ?_)
local macro_rules | `(tactic| walk_at "obj") => `(tactic| refine ⟨_, _, _, rfl, by assumption, rfl, ?_⟩)
local macro_rules | `(tactic| walk_at "len") => `(tactic| first | refine wC_len (.tup _) ?_ | refine wC_len (.lst _) ?_ | refine wC_len (.loc (by assumption)) ?_)
section
variable {P : Program} {w : World} {mg : Str → Option Value} {base : Heap} {K : PySem.W.Frag} {CL CP CG CTL CTe CPr CPo CNV CTG CCo CS pT : Addr} {k : Nat}
abbrev s__law_done : Stmt := topS 50
abbrev N__law_done : List Str := ["_law_plain", "_law_item", "_law_rows", "_law_places", "_law_deeds", "_law_word_here", "_law_things", "_law_names_here", "_law_some", "_law_thing", "_law_part", "_law_one", "_law_own"]
theorem sc__law_done : FnScope N__law_done ["_law_plain", "_law_item", "_law_rows", "_law_places", "_law_deeds"] (defScope s__law_done) := ⟨rfl, rfl, rfl, by decide +kernel, rfl, by decide +kernel, by decide +kernel⟩
theorem ok__law_done {n : Nat}  {f : Addr} {fd : FuncData} (TX : Txt K mg w CL CP CG CTL CTe CPr CPo CNV CTG CCo CS pT) (C__law_place : Cal P w K mg base n "_law_place" c__law_place) (C__law_go : Cal P w K mg base n "_law_go" (c__law_go k)) (F : Fun K "_law_done" "_law_done" s__law_done f fd) : FnD P w K mg base CX0 (n + 1) f fd ["_law_plain", "_law_item", "_law_rows", "_law_places", "_law_deeds"] (c__law_done k) := by
  refine fnD F sc__law_done (fun xs μ Q E hc => by obtain ⟨g, rl, nl, dl, s, N, T, x, w, ts, rfl, hp6, lw, gd, fit, hT, hl, q⟩ := hc; rfl) (fun cdv Ao outer s H E xs μ Q E0 ar hc => ?_)
  obtain ⟨g, rl, nl, dl, s, N, T, x, w, ts, rfl, hp6, lw, gd, fit, hT, hl, q⟩ := hc
  have nd := sc__law_done.nd
  refine wSs_cons (wS_asg (wE_slice (wE_name 1 rfl (wE_int ⟨_, rfl, ?_⟩))))
  obtain ⟨nh, hcut, hth, hn, hnc, hcl, hcp, hpw⟩ := things_of fit
  have d1 : s.more.deeds = s.deeds + 1 := rfl
  refine wSl_tup (xs := [.str "row", .str x, .str w, .tup ts]) ?_
  rw [show cutA [D.A.str "row", .str x, .str w, .tup ts] (some 2) none = [.str w, .tup ts] from rfl]
  refine wG_tup (wGs_cons (wG_name 5 (wGs_cons (wG_name 6 (wGs_nil (wSs_cons (wS_set 7 (wE_slice (wE_name 6 rfl (wE_callTy (T := "int") TX.b_int (by decide +kernel) (wA_cons (wE_cmp (wE_name 5 rfl (wE_str ?_))))))) nd))) nd)) nd))
  refine wO_eqS ?_
  refine wA_nil ?_
  refine wC_intB ?_
  refine ⟨_, rfl, (wE_bin (wE_callB (id := "len") TX.b_len (by decide +kernel) (wA_cons (wE_name 6 rfl (wA_nil ?_)))))⟩
  refine wC_len (.tup _) ?_
  refine wE_callTy (T := "int") TX.b_int (by decide +kernel) (wA_cons (wE_cmp (wE_name 5 rfl (wE_str ?_))))
  refine wO_eqS ?_
  refine wA_nil ?_
  refine wC_intB ?_
  refine wO_sub ?_
  refine ⟨_, rfl, ?_⟩
  refine wSl_tup ?_
  rw [hcut]
  refine wSs_cons (wS_set 8 (wE_callTy (T := "tuple") TX.b_tuple (by decide +kernel) (wA_cons (wE_lc [("_law_thing", 9)] (wIt_tup (wE_name 7 rfl ⟨_, rfl, ?_⟩)) nd (blkOk_by (N := N__law_done) (sc := defScope s__law_done) (by decide +kernel))))) nd)
  refine ⟨szOk (by omega), fun i acc μ1 => acc = (plsF N s.more (nh.take i)).1.map D.A.int ∧ LwAt rl dl nl N (plsF N s.more (nh.take i)).2 μ1 ∧ Ke [rl, nl, dl] μ μ1, ⟨rfl, lw, .refl _ _⟩, fun i y acc μ1 hy hJ s0 H0 C cl fp => ?_, fun acc μ1 hJ pl npl => ?_⟩
  obtain ⟨rfl, lw1, ke1⟩ := hJ
  have hx := (hth y (List.mem_of_getElem? hy)).is hT
  have step : nh.take (i + 1) = nh.take i ++ [y] := by rw [List.take_add_one, hy]; rfl
  refine wGw_name 9 (fun s0 H0 C cl fp => (wE_cal C__law_place ar.bk (by omega) (wA_cons (wE_name 2 rfl (wA_cons (wE_name 9 rfl (wA_cons (wE_name 3 rfl (wA_nil ?_))))))))) nd
  have hr := plsF_rows N (nh.take i) s.more
  have ht : (nh.take i).length ≤ nh.length := by rw [List.length_take]; omega
  refine ⟨rl, nl, _, N, y, rfl, lw1.r, by have := gd.1; omega, lw1.n, lw1.nr, hx, fun μ2 hr2 ke2 => ?_⟩
  show _ = (plsF N s.more (nh.take (i + 1))).1.map D.A.int ∧ LwAt rl dl nl N (plsF N s.more (nh.take (i + 1))).2 _ ∧ Ke [rl, nl, dl] μ _
  rw [step, plsF_snoc]
  exact ⟨by simp, lw1.rows hr2 (plF_deeds ..) ke2, ke1.trans (ke2.mono (by simp))⟩
  obtain ⟨rfl, lw1, ke1⟩ := hJ
  rw [List.take_length] at lw1 ⊢
  have rows1 := plsF_rows N nh s.more
  have deeds1 := plsF_deeds N nh s.more
  have len1 := plsF_len N nh s.more
  have ke2 : Ke [rl, nl, dl] μ (μ1.upd pl (.lst ((plsF N s.more nh).1.map D.A.int))) := ke1.trans (Ke.sub (Sub.new npl))
  have lw2 := lw1.new (o := .lst ((plsF N s.more nh).1.map D.A.int)) npl
  have g1 := gd.1
  have g2 := gd.2
  refine wA_nil ?_
  refine wC_tuple (.loc Mu.upd_same) ?_
  refine wSs_cons (wS_if (wT_cmp (wE_name 5 rfl (wE_str ?_))))
  refine wO_eqS ?_
  refine ⟨_, rfl, ?_⟩
  refine ⟨fun hk => ?_, fun hk => ?_⟩
  refine wSs_cons (wS_dput ar (wE_ix (wE_name 8 rfl (wE_int ?_))))
  obtain rfl : w = "copy" := of_decide_eq_true hk
  obtain ⟨i0, is, ei⟩ : ∃ i0 is, (plsF N s.more nh).1 = i0 :: is := by
    cases e : (plsF N s.more nh).1 with
    | nil => rw [e] at len1; exact absurd (List.length_eq_zero_iff.mp len1.symm) (hcp rfl)
    | cons i0 is => exact ⟨i0, is, rfl⟩
  have enh : nh = ts := by have := hnc (by decide +kernel); rwa [if_neg (by decide +kernel)] at this
  have eb : behF g.parts (goF g.parts k) "copy" ts N s.more = (i0, (plsF N s.more nh).2) := by rw [behF_copy, ← enh, ei]; rfl
  refine wI_tup (atI_pos (i := 0) (y := .int i0) (by rw [ei]; rfl) (by decide)) ?_
  refine wE_name 3 rfl (wE_ix (wE_name 1 rfl (wE_int ?_)))
  refine wI_tup (xs := [.str "row", .str x, .str "copy", .tup ts]) (atI_pos (i := 1) (y := .str x) (by rfl) (by decide)) ?_
  refine ⟨nl, _, .inr x, rfl, lw2.n, rfl, szLt (by rw [List.length_map]; omega), ?_⟩
  rw [putA_PkI]
  refine wSs_cons (wS_ret (wE_bl ?_))
  refine q true _ (ke2.put (by simp)) (fun _ => ?_) (fun z => nomatch z)
  simp only [oneF]
  rw [eb]
  exact ⟨lw2.names, by show (plsF N s.more nh).2.deeds ≤ 20000; omega, by show (plsF N s.more nh).2.rows.length ≤ 7000; omega⟩
  refine wSs_nil ?_
  refine wSs_cons (wS_if (wT_cmp (wE_name 5 rfl (wE_str ?_))))
  have nc : w ≠ "copy" := of_decide_eq_false hk
  refine wO_eqS ?_
  refine ⟨_, rfl, ?_⟩
  refine ⟨fun hk => ?_, fun hk => ?_⟩
  refine wSs_cons (wS_set 10 (wE_ix (wE_lcPF (own := [("_law_one", 11)]) (wIt_tup (wE_ix (wE_name 0 rfl (wE_int ?_)))) nd (blkOk_by (N := N__law_done) (sc := defScope s__law_done) (by decide +kernel)))) nd)
  obtain rfl : w = "call" := of_decide_eq_true hk
  obtain ⟨c, p, rfl, hp, hlen, h4, hnd, hfit, hgive⟩ := hcl rfl
  refine wI_tup (atI_pos (i := 0) (y := .tup (g.parts.map Pt.a)) (by rfl) (by decide)) ?_
  refine ⟨_, rfl, ?_⟩
  refine ⟨szOk (by rw [List.length_map]; omega), g.parts.map (fun p => decide (p.nm = c)), g.parts.map Pt.a, by simp, by simp, fun i y kk z hy hk2 hz s0 H0 C cl fp => ?_, ?_⟩
  obtain ⟨p1, hp1, rfl⟩ := map_at hy
  obtain ⟨p2, hp2, rfl⟩ := map_at hz
  obtain ⟨p3, hp3, rfl⟩ := map_at hk2
  obtain rfl : p1 = p2 := Option.some.inj (hp1.symm.trans hp2)
  obtain rfl : p1 = p3 := Option.some.inj (hp1.symm.trans hp3)
  refine wGw_name 11 (⟨rfl, ?_⟩) nd
  refine ⟨fun s0 H0 C cl fp => ?_, fun kt s0 H0 C cl fp => ?_⟩
  refine wT_cmp (wE_ix (wE_name 11 rfl (wE_int ?_)))
  refine wI_tup (atI_pos (i := 0) (y := .str p1.nm) (by rfl) (by decide)) ?_
  refine wE_ix (wE_name 6 rfl (wE_int ?_))
  refine wI_tup (atI_pos (i := 0) (y := .str c) (by rfl) (by decide)) ?_
  refine wO_eqS ?_
  refine ⟨_, rfl, ?_⟩
  exact ⟨rfl, .refl _⟩
  refine wE_name 11 rfl ?_
  refine ⟨?_, .refl _⟩
  rfl
  rw [pickA_map]
  refine wE_int ?_
  refine wI_lst (atI_pos (i := 0) (y := p.a) (head_pick hp) (by decide)) ?_
  refine wSs_cons (wS_set 12 (wE_dictZip TX.b_dict TX.b_zip (wA_cons (wE_ix (wE_name 10 rfl (wE_int ?_))))) nd)
  refine wI_tup (atI_pos (i := 1) (y := .tup (p.ins.map D.A.str)) (by rfl) (by decide)) ?_
  refine wA_cons (wE_name 8 rfl (wA_nil ?_))
  refine ⟨p.ins.map Sum.inr, (plsF N s.more nh).1.map D.A.int, by rw [List.map_map]; rfl, fun ol nol => ?_⟩
  rw [merge_zip hnd (len1.trans hlen)]
  have has := zip_has (ins := p.ins) (is := (plsF N s.more nh).1) (len1.trans hlen)
  have eb := behF_call (go := goF g.parts k) (r := nh) (N := N) (s := s.more) hp
  have m1 : ol ≠ rl := fun z => by rw [z, lw2.r] at nol; cases nol
  have m2 : ol ≠ dl := fun z => by rw [z, lw2.d] at nol; cases nol
  have m3 : ol ≠ nl := fun z => by rw [z, lw2.n] at nol; cases nol
  have lw3 : LwAt rl dl ol (p.ins.zip (plsF N s.more nh).1) (plsF N s.more nh).2 ((μ1.upd pl (.lst ((plsF N s.more nh).1.map D.A.int))).upd ol (.dic (Pk (p.ins.zip (plsF N s.more nh).1)))) := ⟨by rw [Mu.upd_ne (Ne.symm m1)]; exact lw2.r, by rw [Mu.upd_ne (Ne.symm m2)]; exact lw2.d, Mu.upd_same, m1, m2, lw2.rd⟩
  obtain ⟨i1, hi⟩ := goF_has g.parts k p.body (p.ins.zip (plsF N s.more nh).1) (plsF N s.more nh).2 p.ins hfit has p.give hgive
  refine wSs_cons (wS_if (wT_not (wT_val (wE_cal C__law_go ar (by omega) (wA_cons (wE_name 0 rfl (wA_cons (wE_ix (wE_name 10 rfl (wE_int ?_))))))))))
  refine wI_tup (atI_pos (i := 2) (y := .tup (aIts p.body)) (by rfl) (by decide)) ?_
  refine wA_cons (wE_name 2 rfl (wA_cons (wE_name 12 rfl (wA_cons (wE_name 4 rfl (wA_nil ?_))))))
  refine ⟨g, rl, ol, dl, (plsF N s.more nh).2, p.ins.zip (plsF N s.more nh).1, p.ins, p.body, rfl, hp6, lw3, by omega, by omega, hfit, has, by rw [List.length_zip]; omega, fun r μ4 ke4 h1 h2 => ?_⟩
  have ke5 : Ke [rl, dl] (μ1.upd pl (.lst ((plsF N s.more nh).1.map D.A.int))) μ4 := .new nol (ke4.mono (by simp))
  have ke6 : Ke [rl, nl, dl] μ μ4 := ke2.trans (ke5.mono (by simp))
  refine ⟨_, rfl, ?_⟩
  refine ⟨fun hk => ?_, fun hk => ?_⟩
  refine wSs_cons (wS_ret (wE_bl ?_))
  refine q false _ ke6 (fun z => nomatch z) fun _ => ?_
  simp only [oneF]
  rw [eb]
  exact h2 (by simpa using hk)
  refine wSs_nil ?_
  refine wSs_cons (wS_dput ar (wE_dget ar (wE_name 12 rfl (wE_ix (wE_name 10 rfl (wE_int ?_))))))
  refine wI_tup (atI_pos (i := 3) (y := .str p.give) (by rfl) (by decide)) ?_
  obtain ⟨lw4, gd4⟩ := h1 (by simpa using hk)
  refine ⟨ol, _, .inr p.give, .int i1, rfl, lw4.n, rfl, by rw [valA_Pk, hi]; rfl, ?_⟩
  refine wE_name 3 rfl (wE_ix (wE_name 1 rfl (wE_int ?_)))
  refine wI_tup (xs := [.str "row", .str x, .str "call", .tup (.str c :: nh)]) (atI_pos (i := 1) (y := .str x) (by rfl) (by decide)) ?_
  have nl4 : μ4 nl = some (.dic (Pk N)) := ke5 nl _ (by simp [lw2.nr, lw2.nd]) lw2.n
  refine ⟨nl, _, .inr x, rfl, nl4, rfl, szLt (by rw [List.length_map]; omega), ?_⟩
  rw [putA_PkI]
  refine wSs_cons (wS_ret (wE_bl ?_))
  refine q true _ (ke6.put (by simp)) (fun _ => ?_) (fun z => nomatch z)
  simp only [oneF]
  rw [eb, hi]
  have e3 : (plsF N s.more nh).2.deeds ≤ 20000 := by omega
  exact ⟨⟨by rw [Mu.upd_ne (Ne.symm lw2.nr)]; exact lw4.r, by rw [Mu.upd_ne (Ne.symm lw2.nd)]; exact lw4.d, Mu.upd_same, lw2.nr, lw2.nd, lw2.rd⟩, gd4.2, Nat.le_trans gd4.1 (by decide)⟩
  refine wSs_nil ?_
  refine wSs_cons (wS_expr (wE_append (wE_name 2 rfl ?_)))
  have ncall : w ≠ "call" := of_decide_eq_false hk
  have eb := behF_put (ps := g.parts) (go := goF g.parts k) (N := N) (s := s.more) ncall nc (hnc ncall)
  refine ⟨rl, _, rfl, lw2.r, ?_⟩
  refine wE_tup (wA_cons (wE_name 5 rfl (wA_cons (wE_name 8 rfl (wA_cons ?_)))))
  refine wE.imp (Q := fun z μ2 => z = (if w = "power" then ts.getD 1 .non else .non) ∧ (μ1.upd pl (.lst ((plsF N s.more nh).1.map D.A.int))) = μ2) ?_ (fun z μ2 hz => ?_)
  refine wE_if (wT_cmp (wE_name 5 rfl (wE_str ?_)))
  refine wO_eqS ?_
  refine ⟨_, rfl, ?_⟩
  refine ⟨fun hk => ?_, fun hk => ?_⟩
  refine wE_ix (wE_name 6 rfl (wE_int ?_))
  obtain ⟨a, e, rfl⟩ := hpw (of_decide_eq_true hk)
  refine wI_tup (atI_pos (i := 1) (y := e) (by rfl) (by decide)) ?_
  exact ⟨by rw [if_pos (of_decide_eq_true hk)]; rfl, rfl⟩
  refine wE_non ?_
  exact ⟨by rw [if_neg (of_decide_eq_false hk)], rfl⟩
  obtain ⟨rfl, rfl⟩ := hz
  refine wA_nil ⟨by show 3 ≤ sizeLine; decide, ?_⟩
  refine ⟨_, lw2.r, szLt (by omega), ?_⟩
  have lw3 : LwAt rl dl nl N ((plsF N s.more nh).2.put w ((plsF N s.more nh).1.map D.A.int) (if w = "power" then ts.getD 1 .non else .non)) _ := lw2.rows Mu.upd_same rfl (.upd (by simp))
  refine wSs_cons (wS_dput ar (wE_bin (wE_callB (id := "len") TX.b_len (by decide +kernel) (wA_cons (wE_name 2 rfl (wA_nil ?_))))))
  refine wC_len (.loc lw3.r) ?_
  refine wE_int ?_
  refine wO_sub ?_
  refine wE_name 3 rfl (wE_ix (wE_name 1 rfl (wE_int ?_)))
  refine wI_tup (xs := [.str "row", .str x, .str w, .tup ts]) (atI_pos (i := 1) (y := .str x) (by rfl) (by decide)) ?_
  refine ⟨nl, _, .inr x, rfl, lw3.n, rfl, szLt (by rw [List.length_map]; omega), ?_⟩
  rw [putA_PkI]
  refine wSs_cons (wS_ret (wE_bl ?_))
  have ea : ((((plsF N s.more nh).2.put w ((plsF N s.more nh).1.map D.A.int) (if w = "power" then ts.getD 1 .non else .non)).rows.length : Nat) : Int) - 1 = (plsF N s.more nh).2.at := by simp [Gs.put, Gs.at]
  rw [ea]
  refine q true _ ((ke2.put (by simp)).put (by simp)) (fun _ => ?_) (fun z => nomatch z)
  simp only [oneF]
  rw [eb]
  exact ⟨lw3.names, by show (plsF N s.more nh).2.deeds ≤ 20000; omega, by show ((plsF N s.more nh).2.rows ++ [_]).length ≤ 7000; rw [List.length_append, List.length_singleton]; omega⟩

end
end D

set_option Elab.async false
set_option linter.all false
set_option maxRecDepth 100000
set_option maxHeartbeats 4000000
/-! K15s: the recursion of going, all the way down. -/
namespace D
open PySem PySem.Spec PyProof.Rows L2
section
variable {P : Program} {w : World} {mg : Str → Option Value} {base : Heap} {K : PySem.W.Frag} {CL CP CG CTL CTe CPr CPo CNV CTG CCo CS pT : Addr}
theorem Cal.up {j k : Nat} {x : Str} {c : AC} (C : Cal P w K mg base j x c) (h : j ≤ k) : Cal P w K mg base k x c := ⟨C.ex.imp fun f => Exists.imp fun fd => Exists.imp fun ps r => ⟨r.1.up h, r.2⟩⟩
theorem CalX.up {j k : Nat} {x : Str} {c : AC} (C : CalX P w K mg base j x c) (h : j ≤ k) : CalX P w K mg base k x c := ⟨C.ex.imp fun f => Exists.imp fun fd => Exists.imp fun ps r => ⟨r.1.up h, r.2⟩⟩
theorem CalM.up {j k : Nat} {C : Addr} {m : Str} {c : AC} (D : CalM P w K mg base j C m c) (h : j ≤ k) : CalM P w K mg base k C m c := ⟨D.ex.imp fun f => Exists.imp fun fd => Exists.imp fun ps r => ⟨r.1.up h, r.2⟩⟩
theorem CalMX.up {j k : Nat} {C : Addr} {m : Str} {c : AC} (D : CalMX P w K mg base j C m c) (h : j ≤ k) : CalMX P w K mg base k C m c := ⟨D.ex.imp fun f => Exists.imp fun fd => Exists.imp fun ps r => ⟨r.1.up h, r.2⟩⟩
theorem CalK.up {j k : Nat} {x : Str} {C : Addr} {c : AC} (D : CalK P w K mg base j x C c) (h : j ≤ k) : CalK P w K mg base k x C c := ⟨D.ex.imp fun f => Exists.imp fun fd => Exists.imp fun ps r => ⟨r.1.up h, r.2⟩⟩
theorem LG.up {j k : Nat} {x : Str} {c : DL → Mu → (A → Mu → Prop) → Prop} (C : LG P w K mg base j x c) (h : j ≤ k) : LG P w K mg base k x c := by
  obtain ⟨g, pg, bg, sg, dV, kV, doc, pm, cdv, ct, oc, an, od, osl, Ng, a, m1, m2, m3, m4, m5, m6, m7, m8, m9, m10, go⟩ := C.ex
  exact ⟨g, pg, bg, sg, dV, kV, doc, pm, cdv, ct, oc, an, od, osl, Ng, a, m1, m2, m3, m4, m5, m6, m7, m8, m9, m10, fun B A outer s H f dl μ Q ar hc act => go B A outer s H f dl μ Q (ar.mono h) hc act⟩
theorem go_zero {f : Addr} {fd : FuncData} (F : Fun K "go" "Going.go" s_Going_go f fd) : FnD P w K mg base (L2.CX P w) 1 f fd ["self", "body", "names"] (c_Going_go CG CTL 0) :=
  fnDX (k := 0) F sc_Going_go (fun xs μ Q E hc => by obtain ⟨ps, g, dx, rl, pt, nl, s, N, T, b, rfl, r⟩ := hc; rfl) (fun cdv Ao outer s H E xs μ Q E0 ar hc tk pa => by
    obtain ⟨ps, g, dx, rl, pt, nl, s, N, T, b, rfl, go, gd, hN, fit, r⟩ := hc
    exact fit.elim)
theorem going_all {n : Nat} (hn : 1 ≤ n) (TX : Txt K mg w CL CP CG CTL CTe CPr CPo CNV CTG CCo CS pT) (Cc : CalMX P w K mg base n CG "count" (c_Going_count CG CTL)) (Cp : CalMX P w K mg base n CG "put" (c_Going_put CG CTL)) (Cs : CalMX P w K mg base n CG "places_of" (c_Going_places_of CG CTL))
    {f1 f2 f3 : Addr} {d1 d2 d3 : FuncData} (F1 : Fun K "go" "Going.go" s_Going_go f1 d1) (F2 : Fun K "called" "Going.called" s_Going_called f2 d2) (F3 : Fun K "place_behind" "Going.place_behind" s_Going_place_behind f3 d3) (m1 : Meth K CG "go" f1) (m2 : Meth K CG "called" f2) (m3 : Meth K CG "place_behind" f3)
    (b1 : Binds K d1 ["self", "body", "names"] []) (b2 : Binds K d2 ["self", "name", "places"] []) (b3 : Binds K d3 ["self", "word", "things", "names"] []) : ∀ k, CalMX P w K mg base (n + 3 * k) CG "go" (c_Going_go CG CTL k)
  | 0 => ⟨_, _, _, (go_zero F1).up hn, m1, b1⟩
  | k + 1 => by
    have G := going_all hn TX Cc Cp Cs F1 F2 F3 m1 m2 m3 b1 b2 b3 k
    have C : CalMX P w K mg base (n + 3 * k + 1) CG "called" (c_Going_called CG CTL k) := ⟨_, _, _, ok_Going_called TX G F2, m2, b2⟩
    have H : CalMX P w K mg base (n + 3 * k + 2) CG "place_behind" (c_Going_place_behind CG CTL k) := ⟨_, _, _, ok_Going_place_behind TX (Cp.up (by omega)) (Cs.up (by omega)) C F3, m3, b3⟩
    exact ⟨_, _, _, (ok_Going_go TX (Cc.up (by omega)) H (G.up (by omega)) F1).up (by omega), m1, b1⟩
theorem lawgo_zero {f : Addr} {fd : FuncData} (F : Fun K "_law_go" "_law_go" s__law_go f fd) : FnD P w K mg base CX0 1 f fd ["_law_plain", "_law_body", "_law_rows", "_law_places", "_law_deeds"] (c__law_go 0) :=
  fnD (k := 0) F sc__law_go (fun xs μ Q E hc => by obtain ⟨g, rl, nl, dl, s, N, T, b, rfl, r⟩ := hc; rfl) (fun cdv Ao outer s H E xs μ Q E0 ar hc => by
    obtain ⟨g, rl, nl, dl, s, N, T, b, rfl, hp6, lw, hd, hr, fit, r⟩ := hc
    exact fit.elim)
theorem lawgo_all {n : Nat} (hn : 1 ≤ n) (TX : Txt K mg w CL CP CG CTL CTe CPr CPo CNV CTG CCo CS pT) (Cp : Cal P w K mg base n "_law_place" c__law_place) {f1 f2 : Addr} {d1 d2 : FuncData} (F1 : Fun K "_law_go" "_law_go" s__law_go f1 d1) (F2 : Fun K "_law_done" "_law_done" s__law_done f2 d2)
    (g1 : mg "_law_go" = some (.ref f1)) (k1 : PySem.W.keepIn K (.ref f1) = true) (b1 : Binds K d1 ["_law_plain", "_law_body", "_law_rows", "_law_places", "_law_deeds"] []) (g2 : mg "_law_done" = some (.ref f2)) (k2 : PySem.W.keepIn K (.ref f2) = true) (b2 : Binds K d2 ["_law_plain", "_law_item", "_law_rows", "_law_places", "_law_deeds"] []) :
    ∀ k, Cal P w K mg base (n + 2 * k) "_law_go" (c__law_go k)
  | 0 => ⟨_, _, _, (lawgo_zero F1).up hn, g1, k1, b1⟩
  | k + 1 => by
    have G := lawgo_all hn TX Cp F1 F2 g1 k1 b1 g2 k2 b2 k
    have H : Cal P w K mg base (n + 2 * k + 1) "_law_done" (c__law_done k) := ⟨_, _, _, ok__law_done TX (C__law_place := Cp.up (by omega)) (C__law_go := G) (F := F2), g2, k2, b2⟩
    exact ⟨_, _, _, (ok__law_go TX (C__law_go := G.up (by omega)) (C__law_done := H) (F := F1)).up (by omega), g1, k1, b1⟩
end
end D

set_option Elab.async false
set_option linter.all false
set_option maxRecDepth 100000
set_option maxHeartbeats 4000000
namespace D
open PySem PySem.Spec PyProof.Rows L2
def keyS : Value → Option Str
  | .str x _ => some x
  | _ => none
theorem keysLit_each {P : Params} {l : List DictEntry} (h : ∀ e ∈ l, ∃ x t, e.key = .str x t ∧ e.hash = PyData.keyHash P x) : PySem.W.KeysLit P l := by
  induction l with
  | nil => trivial
  | cons e r ih => exact ⟨h e (.head _), ih fun d hd => h d (.tail _ hd)⟩
theorem keysLit_mk {P : Params} {l : List DictEntry} {ks : List Str} (h : l.map (fun d => (keyS d.key, d.hash)) = ks.map (fun k => (some k, PyData.keyHash P k))) : PySem.W.KeysLit P l :=
  keysLit_each fun e he => by
    have m : (keyS e.key, e.hash) ∈ ks.map (fun k => (some k, PyData.keyHash P k)) := h ▸ List.mem_map.mpr ⟨e, he, rfl⟩
    obtain ⟨k, _, q⟩ := List.mem_map.mp m
    obtain ⟨q1, q2⟩ : some k = keyS e.key ∧ PyData.keyHash P k = e.hash := by simpa using q
    cases ek : e.key <;> simp [ek, keyS] at q1
    subst q1; exact ⟨_, _, rfl, q2.symm⟩
theorem item3 {CL : Addr} {xs : List D.A} {μ : Mu} {Q : D.A → Mu → Prop} {E : Value → Option Addr → Mu → Prop} (h : c_Looked_is_item CL 3 xs μ Q E) : c_Looked_is_item_row CL xs μ Q E := by
  rcases item_or h with h | h
  · exact h
  · obtain ⟨p, pp, t, m, Pn, T, k, b, d, rfl, lk, ht, tp, tpp, hm, hT, hlo, hts, ok, q⟩ := h
    simp only [It.ok] at ok
    omega
section
variable {P : Program} {w : World} {K : PySem.W.Frag} {mg : Str → Option Value} {base : Heap}
theorem vac_renb {f : Addr} {fd : FuncData} (F : Fun K "_law_renamed_body" "_law_renamed_body" s__law_renamed_body f fd) : FnD P w K mg base CX0 1 f fd ["_law_body", "_law_names_here", "_law_titles"] (c__law_renamed_body 4) :=
  fnD (k := 0) F sc__law_renamed_body (fun xs μ Q E hc => by obtain ⟨Fn, Ft, Pn, T, b, d, fl, tl, rfl, hlo, hd3, r⟩ := hc; rfl) (fun cdv Ao outer s H E xs μ Q E0 ar hc => by
    obtain ⟨Fn, Ft, Pn, T, b, d, fl, tl, rfl, hlo, hd3, r⟩ := hc
    omega)
end
theorem all_mk {l : PySem.W.OpenLaw} {w : World} {K : PySem.W.Frag} {h : Heap} {mg : Str → Option Value} {fa CL CP CG pT CTL CTe CPr CPo CNV CTG CCo CS f1 f2 f3 f4 f5 f6 f7 f8 f9 f10 f11 f12 f13 f14 f15 f16 f17 f18 f19 f20 f21 f22 f23 f24 f25 f26 f27 f28 f29 f30 f31 f32 f33 f34 f35 f36 f37 f38 f39 f40 f41 f42 f43 f44 f45 f46 f47 : Addr} (X : K.In h) (G : h.Ns mainGlobals mg) (hfa : mg "law" = some (.ref fa))
    {od1 an1 od2 an2 od3 an3 od4 an4 od5 an5 od6 an6 od7 an7 od8 an8 od9 an9 od10 an10 od11 an11 od12 an12 od13 an13 od14 an14 od15 an15 od16 an16 od17 an17 od18 an18 od19 an19 od20 an20 od21 an21 od22 an22 od23 an23 od24 an24 od25 an25 od26 an26 od27 an27 od28 an28 od29 an29 od30 an30 od31 an31 od32 an32 od33 an33 od34 an34 od35 an35 od36 an36 od37 an37 od38 an38 od39 an39 od40 an40 od41 an41 od42 an42 od43 an43 od44 an44 od45 an45 od46 an46 od47 an47 : Option Addr} {sl1 sl2 sl3 sl4 sl5 sl6 sl7 sl8 sl9 sl10 sl11 sl12 sl13 sl14 sl15 sl16 sl17 sl18 sl19 sl20 sl21 sl22 sl23 sl24 sl25 sl26 sl27 sl28 sl29 sl30 sl31 sl32 sl33 sl34 sl35 sl36 sl37 sl38 sl39 sl40 sl41 sl42 sl43 sl44 sl45 sl46 sl47 : Array (Option Value)} {oc1 kV1 dc1 pm1 cd1 ct1 oc2 kV2 dc2 pm2 cd2 ct2 oc3 kV3 dc3 pm3 cd3 ct3 oc4 kV4 dc4 pm4 cd4 ct4 oc5 kV5 dc5 pm5 cd5 ct5 oc6 kV6 dc6 pm6 cd6 ct6 oc7 kV7 dc7 pm7 cd7 ct7 oc8 kV8 dc8 pm8 cd8 ct8 oc9 kV9 dc9 pm9 cd9 ct9 oc10 kV10 dc10 pm10 cd10 ct10 oc11 kV11 dc11 pm11 cd11 ct11 oc12 kV12 dc12 pm12 cd12 ct12 oc13 kV13 dc13 pm13 cd13 ct13 oc14 kV14 dc14 pm14 cd14 ct14 oc15 kV15 dc15 pm15 cd15 ct15 oc16 kV16 dc16 pm16 cd16 ct16 oc17 kV17 dc17 pm17 cd17 ct17 oc18 kV18 dc18 pm18 cd18 ct18 oc19 kV19 dc19 pm19 cd19 ct19 oc20 kV20 dc20 pm20 cd20 ct20 oc21 kV21 dc21 pm21 cd21 ct21 oc22 kV22 dc22 pm22 cd22 ct22 oc23 kV23 dc23 pm23 cd23 ct23 oc24 kV24 dc24 pm24 cd24 ct24 oc25 kV25 dc25 pm25 cd25 ct25 oc26 kV26 dc26 pm26 cd26 ct26 oc27 kV27 dc27 pm27 cd27 ct27 oc28 kV28 dc28 pm28 cd28 ct28 oc29 kV29 dc29 pm29 cd29 ct29 oc30 kV30 dc30 pm30 cd30 ct30 oc31 kV31 dc31 pm31 cd31 ct31 oc32 kV32 dc32 pm32 cd32 ct32 oc33 kV33 dc33 pm33 cd33 ct33 oc34 kV34 dc34 pm34 cd34 ct34 oc35 kV35 dc35 pm35 cd35 ct35 oc36 kV36 dc36 pm36 cd36 ct36 oc37 kV37 dc37 pm37 cd37 ct37 oc38 kV38 dc38 pm38 cd38 ct38 oc39 kV39 dc39 pm39 cd39 ct39 oc40 kV40 dc40 pm40 cd40 ct40 oc41 kV41 dc41 pm41 cd41 ct41 oc42 kV42 dc42 pm42 cd42 ct42 oc43 kV43 dc43 pm43 cd43 ct43 oc44 kV44 dc44 pm44 cd44 ct44 oc45 kV45 dc45 pm45 cd45 ct45 oc46 kV46 dc46 pm46 cd46 ct46 oc47 kV47 dc47 pm47 cd47 ct47 : Value}
    (gCL : PySem.W.nsIn K mainGlobals "Looked" = some (some (.ref CL))) (pgCL : PySem.W.plainGet K CL Str.empty = true) (hdCL : PySem.W.hasDictIn K CL = true) (poCL : PySem.W.plainOver K CL = true) (saCL : PySem.W.findIn K (.ref CL) "__setattr__" = some (some (.builtin "object.__setattr__"))) (mkCL : PySem.W.makesIn K CL = true) (kcCL : PySem.W.keepIn K (.ref CL) = true)
    (gCP : PySem.W.nsIn K mainGlobals "Program" = some (some (.ref CP))) (pgCP : PySem.W.plainGet K CP Str.empty = true) (hdCP : PySem.W.hasDictIn K CP = true) (poCP : PySem.W.plainOver K CP = true) (saCP : PySem.W.findIn K (.ref CP) "__setattr__" = some (some (.builtin "object.__setattr__"))) (mkCP : PySem.W.makesIn K CP = true) (kcCP : PySem.W.keepIn K (.ref CP) = true)
    (gCG : PySem.W.nsIn K mainGlobals "Going" = some (some (.ref CG))) (pgCG : PySem.W.plainGet K CG Str.empty = true) (hdCG : PySem.W.hasDictIn K CG = true) (poCG : PySem.W.plainOver K CG = true) (saCG : PySem.W.findIn K (.ref CG) "__setattr__" = some (some (.builtin "object.__setattr__"))) (mkCG : PySem.W.makesIn K CG = true) (kcCG : PySem.W.keepIn K (.ref CG) = true)
    (a1 : PySem.W.nsIn K mainGlobals "_law_mixed" = some (some (.ref f1)))
    (l1 : K.lookup f1 = some ⟨oc1, od1, .func (PySem.W.fnOf "_law_mixed" "_law_mixed" (defArgs s__law_mixed) (defBody s__law_mixed) (defScope s__law_mixed) .none kV1 dc1 pm1 an1 cd1 ct1), sl1⟩) (c1 : PySem.W.codeIn K cd1 "_law_mixed" = true) (k1 : PySem.W.keepIn K (.ref f1) = true)
    (a2 : PySem.W.nsIn K mainGlobals "_law_folded" = some (some (.ref f2)))
    (l2 : K.lookup f2 = some ⟨oc2, od2, .func (PySem.W.fnOf "_law_folded" "_law_folded" (defArgs s__law_folded) (defBody s__law_folded) (defScope s__law_folded) .none kV2 dc2 pm2 an2 cd2 ct2), sl2⟩) (c2 : PySem.W.codeIn K cd2 "_law_folded" = true) (k2 : PySem.W.keepIn K (.ref f2) = true)
    (a3 : PySem.W.nsIn K mainGlobals "_law_draw" = some (some (.ref f3)))
    (l3 : K.lookup f3 = some ⟨oc3, od3, .func (PySem.W.fnOf "_law_draw" "_law_draw" (defArgs s__law_draw) (defBody s__law_draw) (defScope s__law_draw) .none kV3 dc3 pm3 an3 cd3 ct3), sl3⟩) (c3 : PySem.W.codeIn K cd3 "_law_draw" = true) (k3 : PySem.W.keepIn K (.ref f3) = true)
    (a4 : PySem.W.nsIn K mainGlobals "_law_begun" = some (some (.ref f4)))
    (l4 : K.lookup f4 = some ⟨oc4, od4, .func (PySem.W.fnOf "_law_begun" "_law_begun" (defArgs s__law_begun) (defBody s__law_begun) (defScope s__law_begun) .none kV4 dc4 pm4 an4 cd4 ct4), sl4⟩) (c4 : PySem.W.codeIn K cd4 "_law_begun" = true) (k4 : PySem.W.keepIn K (.ref f4) = true)
    (a5 : PySem.W.nsIn K mainGlobals "is_whole" = some (some (.ref f5)))
    (l5 : K.lookup f5 = some ⟨oc5, od5, .func (PySem.W.fnOf "is_whole" "is_whole" (defArgs s_is_whole) (defBody s_is_whole) (defScope s_is_whole) .none kV5 dc5 pm5 an5 cd5 ct5), sl5⟩) (c5 : PySem.W.codeIn K cd5 "is_whole" = true) (k5 : PySem.W.keepIn K (.ref f5) = true)
    (a6 : PySem.W.nsIn K mainGlobals "common" = some (some (.ref f6)))
    (l6 : K.lookup f6 = some ⟨oc6, od6, .func (PySem.W.fnOf "common" "common" (defArgs s_common) (defBody s_common) (defScope s_common) .none kV6 dc6 pm6 an6 cd6 ct6), sl6⟩) (c6 : PySem.W.codeIn K cd6 "common" = true) (k6 : PySem.W.keepIn K (.ref f6) = true)
    (a7 : PySem.W.nsIn K mainGlobals "is_fraction" = some (some (.ref f7)))
    (l7 : K.lookup f7 = some ⟨oc7, od7, .func (PySem.W.fnOf "is_fraction" "is_fraction" (defArgs s_is_fraction) (defBody s_is_fraction) (defScope s_is_fraction) .none kV7 dc7 pm7 an7 cd7 ct7), sl7⟩) (c7 : PySem.W.codeIn K cd7 "is_fraction" = true) (k7 : PySem.W.keepIn K (.ref f7) = true)
    (a8 : PySem.W.nsIn K mainGlobals "is_name" = some (some (.ref f8)))
    (l8 : K.lookup f8 = some ⟨oc8, od8, .func (PySem.W.fnOf "is_name" "is_name" (defArgs s_is_name) (defBody s_is_name) (defScope s_is_name) .none kV8 dc8 pm8 an8 cd8 ct8), sl8⟩) (c8 : PySem.W.codeIn K cd8 "is_name" = true) (k8 : PySem.W.keepIn K (.ref f8) = true)
    (a9 : PySem.W.nsIn K mainGlobals "are_names" = some (some (.ref f9)))
    (l9 : K.lookup f9 = some ⟨oc9, od9, .func (PySem.W.fnOf "are_names" "are_names" (defArgs s_are_names) (defBody s_are_names) (defScope s_are_names) .none kV9 dc9 pm9 an9 cd9 ct9), sl9⟩) (c9 : PySem.W.codeIn K cd9 "are_names" = true) (k9 : PySem.W.keepIn K (.ref f9) = true)
    (a10 : PySem.W.nsIn K mainGlobals "are_unlike" = some (some (.ref f10)))
    (l10 : K.lookup f10 = some ⟨oc10, od10, .func (PySem.W.fnOf "are_unlike" "are_unlike" (defArgs s_are_unlike) (defBody s_are_unlike) (defScope s_are_unlike) .none kV10 dc10 pm10 an10 cd10 ct10), sl10⟩) (c10 : PySem.W.codeIn K cd10 "are_unlike" = true) (k10 : PySem.W.keepIn K (.ref f10) = true)
    (a11 : PySem.W.nsIn K mainGlobals "is_among" = some (some (.ref f11)))
    (l11 : K.lookup f11 = some ⟨oc11, od11, .func (PySem.W.fnOf "is_among" "is_among" (defArgs s_is_among) (defBody s_is_among) (defScope s_is_among) .none kV11 dc11 pm11 an11 cd11 ct11), sl11⟩) (c11 : PySem.W.codeIn K cd11 "is_among" = true) (k11 : PySem.W.keepIn K (.ref f11) = true)
    (a12 : PySem.W.nsIn K mainGlobals "is_thing" = some (some (.ref f12)))
    (l12 : K.lookup f12 = some ⟨oc12, od12, .func (PySem.W.fnOf "is_thing" "is_thing" (defArgs s_is_thing) (defBody s_is_thing) (defScope s_is_thing) .none kV12 dc12 pm12 an12 cd12 ct12), sl12⟩) (c12 : PySem.W.codeIn K cd12 "is_thing" = true) (k12 : PySem.W.keepIn K (.ref f12) = true)
    (a13 : PySem.W.nsIn K mainGlobals "is_call" = some (some (.ref f13)))
    (l13 : K.lookup f13 = some ⟨oc13, od13, .func (PySem.W.fnOf "is_call" "is_call" (defArgs s_is_call) (defBody s_is_call) (defScope s_is_call) .none kV13 dc13 pm13 an13 cd13 ct13), sl13⟩) (c13 : PySem.W.codeIn K cd13 "is_call" = true) (k13 : PySem.W.keepIn K (.ref f13) = true)
    (a14 : PySem.W.nsIn K mainGlobals "is_doing" = some (some (.ref f14)))
    (l14 : K.lookup f14 = some ⟨oc14, od14, .func (PySem.W.fnOf "is_doing" "is_doing" (defArgs s_is_doing) (defBody s_is_doing) (defScope s_is_doing) .none kV14 dc14 pm14 an14 cd14 ct14), sl14⟩) (c14 : PySem.W.codeIn K cd14 "is_doing" = true) (k14 : PySem.W.keepIn K (.ref f14) = true)
    (a15 : PySem.W.findIn K (.ref CL) "__init__" = some (some (.ref f15))) (i15 : PySem.W.isFn K (.ref f15) = true)
    (l15 : K.lookup f15 = some ⟨oc15, od15, .func (PySem.W.fnOf "__init__" "Looked.__init__" (defArgs s_Looked___init__) (defBody s_Looked___init__) (defScope s_Looked___init__) .none kV15 dc15 pm15 an15 cd15 ct15), sl15⟩) (c15 : PySem.W.codeIn K cd15 "Looked.__init__" = true) (k15 : PySem.W.keepIn K (.ref f15) = true)
    (a16 : PySem.W.findIn K (.ref CL) "is_more" = some (some (.ref f16))) (i16 : PySem.W.isFn K (.ref f16) = true)
    (l16 : K.lookup f16 = some ⟨oc16, od16, .func (PySem.W.fnOf "is_more" "Looked.is_more" (defArgs s_Looked_is_more) (defBody s_Looked_is_more) (defScope s_Looked_is_more) .none kV16 dc16 pm16 an16 cd16 ct16), sl16⟩) (c16 : PySem.W.codeIn K cd16 "Looked.is_more" = true) (k16 : PySem.W.keepIn K (.ref f16) = true)
    (a17 : PySem.W.findIn K (.ref CL) "is_item" = some (some (.ref f17))) (i17 : PySem.W.isFn K (.ref f17) = true)
    (l17 : K.lookup f17 = some ⟨oc17, od17, .func (PySem.W.fnOf "is_item" "Looked.is_item" (defArgs s_Looked_is_item) (defBody s_Looked_is_item) (defScope s_Looked_is_item) .none kV17 dc17 pm17 an17 cd17 ct17), sl17⟩) (c17 : PySem.W.codeIn K cd17 "Looked.is_item" = true) (k17 : PySem.W.keepIn K (.ref f17) = true)
    (a18 : PySem.W.findIn K (.ref CL) "is_body" = some (some (.ref f18))) (i18 : PySem.W.isFn K (.ref f18) = true)
    (l18 : K.lookup f18 = some ⟨oc18, od18, .func (PySem.W.fnOf "is_body" "Looked.is_body" (defArgs s_Looked_is_body) (defBody s_Looked_is_body) (defScope s_Looked_is_body) .none kV18 dc18 pm18 an18 cd18 ct18), sl18⟩) (c18 : PySem.W.codeIn K cd18 "Looked.is_body" = true) (k18 : PySem.W.keepIn K (.ref f18) = true)
    (a19 : PySem.W.findIn K (.ref CL) "is_part" = some (some (.ref f19))) (i19 : PySem.W.isFn K (.ref f19) = true)
    (l19 : K.lookup f19 = some ⟨oc19, od19, .func (PySem.W.fnOf "is_part" "Looked.is_part" (defArgs s_Looked_is_part) (defBody s_Looked_is_part) (defScope s_Looked_is_part) .none kV19 dc19 pm19 an19 cd19 ct19), sl19⟩) (c19 : PySem.W.codeIn K cd19 "Looked.is_part" = true) (k19 : PySem.W.keepIn K (.ref f19) = true)
    (a20 : PySem.W.findIn K (.ref CL) "is_program" = some (some (.ref f20))) (i20 : PySem.W.isFn K (.ref f20) = true)
    (l20 : K.lookup f20 = some ⟨oc20, od20, .func (PySem.W.fnOf "is_program" "Looked.is_program" (defArgs s_Looked_is_program) (defBody s_Looked_is_program) (defScope s_Looked_is_program) .none kV20 dc20 pm20 an20 cd20 ct20), sl20⟩) (c20 : PySem.W.codeIn K cd20 "Looked.is_program" = true) (k20 : PySem.W.keepIn K (.ref f20) = true)
    (a21 : PySem.W.findIn K (.ref CP) "__init__" = some (some (.ref f21))) (i21 : PySem.W.isFn K (.ref f21) = true)
    (l21 : K.lookup f21 = some ⟨oc21, od21, .func (PySem.W.fnOf "__init__" "Program.__init__" (defArgs s_Program___init__) (defBody s_Program___init__) (defScope s_Program___init__) .none kV21 dc21 pm21 an21 cd21 ct21), sl21⟩) (c21 : PySem.W.codeIn K cd21 "Program.__init__" = true) (k21 : PySem.W.keepIn K (.ref f21) = true)
    (a22 : PySem.W.findIn K (.ref CP) "plain" = some (some (.ref f22))) (i22 : PySem.W.isFn K (.ref f22) = true)
    (l22 : K.lookup f22 = some ⟨oc22, od22, .func (PySem.W.fnOf "plain" "Program.plain" (defArgs s_Program_plain) (defBody s_Program_plain) (defScope s_Program_plain) .none kV22 dc22 pm22 an22 cd22 ct22), sl22⟩) (c22 : PySem.W.codeIn K cd22 "Program.plain" = true) (k22 : PySem.W.keepIn K (.ref f22) = true)
    (a23 : PySem.W.nsIn K mainGlobals "_law_names" = some (some (.ref f23)))
    (l23 : K.lookup f23 = some ⟨oc23, od23, .func (PySem.W.fnOf "_law_names" "_law_names" (defArgs s__law_names) (defBody s__law_names) (defScope s__law_names) .none kV23 dc23 pm23 an23 cd23 ct23), sl23⟩) (c23 : PySem.W.codeIn K cd23 "_law_names" = true) (k23 : PySem.W.keepIn K (.ref f23) = true)
    (a24 : PySem.W.nsIn K mainGlobals "_law_common" = some (some (.ref f24)))
    (l24 : K.lookup f24 = some ⟨oc24, od24, .func (PySem.W.fnOf "_law_common" "_law_common" (defArgs s__law_common) (defBody s__law_common) (defScope s__law_common) .none kV24 dc24 pm24 an24 cd24 ct24), sl24⟩) (c24 : PySem.W.codeIn K cd24 "_law_common" = true) (k24 : PySem.W.keepIn K (.ref f24) = true)
    (a25 : PySem.W.nsIn K mainGlobals "_law_lowest" = some (some (.ref f25)))
    (l25 : K.lookup f25 = some ⟨oc25, od25, .func (PySem.W.fnOf "_law_lowest" "_law_lowest" (defArgs s__law_lowest) (defBody s__law_lowest) (defScope s__law_lowest) .none kV25 dc25 pm25 an25 cd25 ct25), sl25⟩) (c25 : PySem.W.codeIn K cd25 "_law_lowest" = true) (k25 : PySem.W.keepIn K (.ref f25) = true)
    (a26 : PySem.W.nsIn K mainGlobals "_law_fraction" = some (some (.ref f26)))
    (l26 : K.lookup f26 = some ⟨oc26, od26, .func (PySem.W.fnOf "_law_fraction" "_law_fraction" (defArgs s__law_fraction) (defBody s__law_fraction) (defScope s__law_fraction) .none kV26 dc26 pm26 an26 cd26 ct26), sl26⟩) (c26 : PySem.W.codeIn K cd26 "_law_fraction" = true) (k26 : PySem.W.keepIn K (.ref f26) = true)
    (a27 : PySem.W.findIn K (.ref CG) "count" = some (some (.ref f27))) (i27 : PySem.W.isFn K (.ref f27) = true)
    (l27 : K.lookup f27 = some ⟨oc27, od27, .func (PySem.W.fnOf "count" "Going.count" (defArgs s_Going_count) (defBody s_Going_count) (defScope s_Going_count) .none kV27 dc27 pm27 an27 cd27 ct27), sl27⟩) (c27 : PySem.W.codeIn K cd27 "Going.count" = true) (k27 : PySem.W.keepIn K (.ref f27) = true)
    (a28 : PySem.W.findIn K (.ref CG) "put" = some (some (.ref f28))) (i28 : PySem.W.isFn K (.ref f28) = true)
    (l28 : K.lookup f28 = some ⟨oc28, od28, .func (PySem.W.fnOf "put" "Going.put" (defArgs s_Going_put) (defBody s_Going_put) (defScope s_Going_put) .none kV28 dc28 pm28 an28 cd28 ct28), sl28⟩) (c28 : PySem.W.codeIn K cd28 "Going.put" = true) (k28 : PySem.W.keepIn K (.ref f28) = true)
    (a29 : PySem.W.findIn K (.ref CG) "place_of" = some (some (.ref f29))) (i29 : PySem.W.isFn K (.ref f29) = true)
    (l29 : K.lookup f29 = some ⟨oc29, od29, .func (PySem.W.fnOf "place_of" "Going.place_of" (defArgs s_Going_place_of) (defBody s_Going_place_of) (defScope s_Going_place_of) .none kV29 dc29 pm29 an29 cd29 ct29), sl29⟩) (c29 : PySem.W.codeIn K cd29 "Going.place_of" = true) (k29 : PySem.W.keepIn K (.ref f29) = true)
    (a30 : PySem.W.findIn K (.ref CG) "places_of" = some (some (.ref f30))) (i30 : PySem.W.isFn K (.ref f30) = true)
    (l30 : K.lookup f30 = some ⟨oc30, od30, .func (PySem.W.fnOf "places_of" "Going.places_of" (defArgs s_Going_places_of) (defBody s_Going_places_of) (defScope s_Going_places_of) .none kV30 dc30 pm30 an30 cd30 ct30), sl30⟩) (c30 : PySem.W.codeIn K cd30 "Going.places_of" = true) (k30 : PySem.W.keepIn K (.ref f30) = true)
    (a31 : PySem.W.findIn K (.ref CG) "go" = some (some (.ref f31))) (i31 : PySem.W.isFn K (.ref f31) = true)
    (l31 : K.lookup f31 = some ⟨oc31, od31, .func (PySem.W.fnOf "go" "Going.go" (defArgs s_Going_go) (defBody s_Going_go) (defScope s_Going_go) .none kV31 dc31 pm31 an31 cd31 ct31), sl31⟩) (c31 : PySem.W.codeIn K cd31 "Going.go" = true) (k31 : PySem.W.keepIn K (.ref f31) = true)
    (a32 : PySem.W.findIn K (.ref CG) "called" = some (some (.ref f32))) (i32 : PySem.W.isFn K (.ref f32) = true)
    (l32 : K.lookup f32 = some ⟨oc32, od32, .func (PySem.W.fnOf "called" "Going.called" (defArgs s_Going_called) (defBody s_Going_called) (defScope s_Going_called) .none kV32 dc32 pm32 an32 cd32 ct32), sl32⟩) (c32 : PySem.W.codeIn K cd32 "Going.called" = true) (k32 : PySem.W.keepIn K (.ref f32) = true)
    (a33 : PySem.W.findIn K (.ref CG) "place_behind" = some (some (.ref f33))) (i33 : PySem.W.isFn K (.ref f33) = true)
    (l33 : K.lookup f33 = some ⟨oc33, od33, .func (PySem.W.fnOf "place_behind" "Going.place_behind" (defArgs s_Going_place_behind) (defBody s_Going_place_behind) (defScope s_Going_place_behind) .none kV33 dc33 pm33 an33 cd33 ct33), sl33⟩) (c33 : PySem.W.codeIn K cd33 "Going.place_behind" = true) (k33 : PySem.W.keepIn K (.ref f33) = true)
    (a34 : PySem.W.findIn K (.ref CG) "__init__" = some (some (.ref f34))) (i34 : PySem.W.isFn K (.ref f34) = true)
    (l34 : K.lookup f34 = some ⟨oc34, od34, .func (PySem.W.fnOf "__init__" "Going.__init__" (defArgs s_Going___init__) (defBody s_Going___init__) (defScope s_Going___init__) .none kV34 dc34 pm34 an34 cd34 ct34), sl34⟩) (c34 : PySem.W.codeIn K cd34 "Going.__init__" = true) (k34 : PySem.W.keepIn K (.ref f34) = true)
    (a35 : PySem.W.nsIn K mainGlobals "straight" = some (some (.ref f35)))
    (l35 : K.lookup f35 = some ⟨oc35, od35, .func (PySem.W.fnOf "straight" "straight" (defArgs s_straight) (defBody s_straight) (defScope s_straight) .none kV35 dc35 pm35 an35 cd35 ct35), sl35⟩) (c35 : PySem.W.codeIn K cd35 "straight" = true) (k35 : PySem.W.keepIn K (.ref f35) = true)
    (a36 : PySem.W.nsIn K mainGlobals "_law_word" = some (some (.ref f36)))
    (l36 : K.lookup f36 = some ⟨oc36, od36, .func (PySem.W.fnOf "_law_word" "_law_word" (defArgs s__law_word) (defBody s__law_word) (defScope s__law_word) .none kV36 dc36 pm36 an36 cd36 ct36), sl36⟩) (c36 : PySem.W.codeIn K cd36 "_law_word" = true) (k36 : PySem.W.keepIn K (.ref f36) = true)
    (a37 : PySem.W.nsIn K mainGlobals "_law_tried" = some (some (.ref f37)))
    (l37 : K.lookup f37 = some ⟨oc37, od37, .func (PySem.W.fnOf "_law_tried" "_law_tried" (defArgs s__law_tried) (defBody s__law_tried) (defScope s__law_tried) .none kV37 dc37 pm37 an37 cd37 ct37), sl37⟩) (c37 : PySem.W.codeIn K cd37 "_law_tried" = true) (k37 : PySem.W.keepIn K (.ref f37) = true)
    (a38 : PySem.W.nsIn K mainGlobals "_law_place" = some (some (.ref f38)))
    (l38 : K.lookup f38 = some ⟨oc38, od38, .func (PySem.W.fnOf "_law_place" "_law_place" (defArgs s__law_place) (defBody s__law_place) (defScope s__law_place) .none kV38 dc38 pm38 an38 cd38 ct38), sl38⟩) (c38 : PySem.W.codeIn K cd38 "_law_place" = true) (k38 : PySem.W.keepIn K (.ref f38) = true)
    (a39 : PySem.W.nsIn K mainGlobals "_law_go" = some (some (.ref f39)))
    (l39 : K.lookup f39 = some ⟨oc39, od39, .func (PySem.W.fnOf "_law_go" "_law_go" (defArgs s__law_go) (defBody s__law_go) (defScope s__law_go) .none kV39 dc39 pm39 an39 cd39 ct39), sl39⟩) (c39 : PySem.W.codeIn K cd39 "_law_go" = true) (k39 : PySem.W.keepIn K (.ref f39) = true)
    (a40 : PySem.W.nsIn K mainGlobals "_law_done" = some (some (.ref f40)))
    (l40 : K.lookup f40 = some ⟨oc40, od40, .func (PySem.W.fnOf "_law_done" "_law_done" (defArgs s__law_done) (defBody s__law_done) (defScope s__law_done) .none kV40 dc40 pm40 an40 cd40 ct40), sl40⟩) (c40 : PySem.W.codeIn K cd40 "_law_done" = true) (k40 : PySem.W.keepIn K (.ref f40) = true)
    (a41 : PySem.W.nsIn K mainGlobals "_law_straight" = some (some (.ref f41)))
    (l41 : K.lookup f41 = some ⟨oc41, od41, .func (PySem.W.fnOf "_law_straight" "_law_straight" (defArgs s__law_straight) (defBody s__law_straight) (defScope s__law_straight) .none kV41 dc41 pm41 an41 cd41 ct41), sl41⟩) (c41 : PySem.W.codeIn K cd41 "_law_straight" = true) (k41 : PySem.W.keepIn K (.ref f41) = true)
    (a42 : PySem.W.nsIn K mainGlobals "_law_renamed_body" = some (some (.ref f42)))
    (l42 : K.lookup f42 = some ⟨oc42, od42, .func (PySem.W.fnOf "_law_renamed_body" "_law_renamed_body" (defArgs s__law_renamed_body) (defBody s__law_renamed_body) (defScope s__law_renamed_body) .none kV42 dc42 pm42 an42 cd42 ct42), sl42⟩) (c42 : PySem.W.codeIn K cd42 "_law_renamed_body" = true) (k42 : PySem.W.keepIn K (.ref f42) = true)
    (a43 : PySem.W.nsIn K mainGlobals "_law_renamed" = some (some (.ref f43)))
    (l43 : K.lookup f43 = some ⟨oc43, od43, .func (PySem.W.fnOf "_law_renamed" "_law_renamed" (defArgs s__law_renamed) (defBody s__law_renamed) (defScope s__law_renamed) .none kV43 dc43 pm43 an43 cd43 ct43), sl43⟩) (c43 : PySem.W.codeIn K cd43 "_law_renamed" = true) (k43 : PySem.W.keepIn K (.ref f43) = true)
    (a44 : PySem.W.nsIn K mainGlobals "_law_some_row" = some (some (.ref f44)))
    (l44 : K.lookup f44 = some ⟨oc44, od44, .func (PySem.W.fnOf "_law_some_row" "_law_some_row" (defArgs s__law_some_row) (defBody s__law_some_row) (defScope s__law_some_row) .none kV44 dc44 pm44 an44 cd44 ct44), sl44⟩) (c44 : PySem.W.codeIn K cd44 "_law_some_row" = true) (k44 : PySem.W.keepIn K (.ref f44) = true)
    (a45 : PySem.W.nsIn K mainGlobals "_law_rows_of" = some (some (.ref f45)))
    (l45 : K.lookup f45 = some ⟨oc45, od45, .func (PySem.W.fnOf "_law_rows_of" "_law_rows_of" (defArgs s__law_rows_of) (defBody s__law_rows_of) (defScope s__law_rows_of) .none kV45 dc45 pm45 an45 cd45 ct45), sl45⟩) (c45 : PySem.W.codeIn K cd45 "_law_rows_of" = true) (k45 : PySem.W.keepIn K (.ref f45) = true)
    (a46 : PySem.W.nsIn K mainGlobals "_law_nested" = some (some (.ref f46)))
    (l46 : K.lookup f46 = some ⟨oc46, od46, .func (PySem.W.fnOf "_law_nested" "_law_nested" (defArgs s__law_nested) (defBody s__law_nested) (defScope s__law_nested) .none kV46 dc46 pm46 an46 cd46 ct46), sl46⟩) (c46 : PySem.W.codeIn K cd46 "_law_nested" = true) (k46 : PySem.W.keepIn K (.ref f46) = true)
    (a47 : PySem.W.nsIn K mainGlobals "law" = some (some (.ref f47)))
    (l47 : K.lookup f47 = some ⟨oc47, od47, .func (PySem.W.fnOf "law" "law" (defArgs s_law) (defBody s_law) (defScope s_law) .none kV47 dc47 pm47 an47 cd47 ct47), sl47⟩) (c47 : PySem.W.codeIn K cd47 "law" = true) (k47 : PySem.W.keepIn K (.ref f47) = true)
    {cc47 PP47 : Addr} (t47 : cd47 = .ref cc47)
    (z0 : PySem.W.nsIn K mainGlobals "range" = some none)
    (z1 : PySem.W.nsIn K mainGlobals "len" = some none)
    (z2 : PySem.W.nsIn K mainGlobals "isinstance" = some none)
    (z3 : PySem.W.nsIn K mainGlobals "int" = some none)
    (z4 : PySem.W.nsIn K mainGlobals "bool" = some none)
    (z5 : PySem.W.nsIn K mainGlobals "str" = some none)
    (z6 : PySem.W.nsIn K mainGlobals "tuple" = some none)
    (z7 : PySem.W.nsIn K mainGlobals "list" = some none)
    (z8 : PySem.W.nsIn K mainGlobals "dict" = some none)
    (z9 : PySem.W.nsIn K mainGlobals "set" = some none)
    (z10 : PySem.W.nsIn K mainGlobals "all" = some none)
    (z11 : PySem.W.nsIn K mainGlobals "abs" = some none)
    (z12 : PySem.W.nsIn K mainGlobals "sum" = some none)
    (z13 : PySem.W.nsIn K mainGlobals "repr" = some none)
    (z14 : PySem.W.nsIn K mainGlobals "enumerate" = some none)
    (z15 : PySem.W.nsIn K mainGlobals "min" = some none)
    (z16 : PySem.W.nsIn K mainGlobals "zip" = some none)
    {t17 : Tok} (z17 : PySem.W.nsIn K mainGlobals "MOST_ROWS" = some (some (.int 5000 t17)))
    {t18 : Tok} (z18 : PySem.W.nsIn K mainGlobals "MOST_DONE" = some (some (.int 20000 t18)))
    {t19 : Tok} {x19 : Str} (z19 : PySem.W.nsIn K mainGlobals "LETTERS" = some (some (.str x19 t19))) (e19 : x19 = "abcdefghijklmnopqrstuvwxyz")
    {p20 : Addr} {i_20 : Array Value} {n20 : Nat} {y20 : Array (Option Value)} {d20 : Option Addr} (z20 : PySem.W.nsIn K mainGlobals "BARRED" = some (some (.ref p20))) (w20 : K.lookup p20 = some ⟨.type "tuple", d20, .seq i_20 n20, y20⟩) (e20 : i_20.toList.map strOf = BARS.map some)
    {t21 : Tok} (z21 : PySem.W.nsIn K mainGlobals "MOST_LETTERS" = some (some (.int 8 t21)))
    {t22 : Tok} (z22 : PySem.W.nsIn K mainGlobals "MOST_POWER" = some (some (.int 8 t22)))
    {t23 : Tok} (z23 : PySem.W.nsIn K mainGlobals "MOST_TURNS" = some (some (.int 200 t23)))
    {t24 : Tok} (z24 : PySem.W.nsIn K mainGlobals "MOST_DEEP" = some (some (.int 3 t24)))
    {t25 : Tok} (z25 : PySem.W.nsIn K mainGlobals "MOST_SIZE" = some (some (.int 80 t25)))
    {t26 : Tok} (z26 : PySem.W.nsIn K mainGlobals "MOST_INS" = some (some (.int 6 t26)))
    {t27 : Tok} (z27 : PySem.W.nsIn K mainGlobals "MOST_OUTS" = some (some (.int 4 t27)))
    {t28 : Tok} (z28 : PySem.W.nsIn K mainGlobals "MOST_PARTS" = some (some (.int 6 t28)))
    {t29 : Tok} (z29 : PySem.W.nsIn K mainGlobals "MOST_PART_INS" = some (some (.int 4 t29)))
    (z30 : PySem.W.nsIn K mainGlobals "TAKEN" = some (some (.ref pT)))
    {es31 : Array DictEntry} {n31 : Nat} (z31 : K.lookup pT = some ⟨.type "dict", none, .dict es31 n31, #[]⟩) (w31 : (pT == sysModules) = false) (e31 : es31.toList.map entI = TAKENL.map some) (h31 : es31.toList.map (fun d => (keyS d.key, d.hash)) = (TAKENL.map (·.1)).map fun k => (some k, PyData.keyHash w.params k))
    (z33 : PySem.W.findIn K (.ref CL) "parts" = some none)
    (z34 : PySem.W.findIn K (.ref CL) "many" = some none)
    (z36 : PySem.W.findIn K (.ref CP) "told" = some none)
    (z37 : PySem.W.findIn K (.ref CP) "many" = some none)
    (z38 : PySem.W.findIn K (.ref CP) "rows_of_parts" = some none)
    (z40 : PySem.W.findIn K (.ref CG) "parts" = some none)
    (z41 : PySem.W.findIn K (.ref CG) "rows" = some none)
    (z42 : PySem.W.findIn K (.ref CG) "deeds" = some none)
    (z43 : PySem.W.nsIn K mainGlobals "TooLong" = some (some (.ref CTL))) (y43 : PySem.W.excIn K CTL [.type "ValueError", .type "Exception", .type "BaseException", .type "object"] "ValueError.__new__" = true) (v43 : PySem.W.keepIn K (.ref CTL) = true) (u43 : PySem.W.subIn K (.ref CTL) (.type "BaseException") = some true) (s43 : PySem.W.typeIn K (.ref CTL) = some (.type "type"))
    (z44 : PySem.W.nsIn K mainGlobals "BadText" = some (some (.ref CTe)))
    (z45 : PySem.W.kitOne K (.ref CTL) (.ref CTe) = some false)
    (z46 : PySem.W.nsIn K mainGlobals "BadProgram" = some (some (.ref CPr)))
    (z47 : PySem.W.kitOne K (.ref CTL) (.ref CPr) = some false)
    (z48 : PySem.W.nsIn K mainGlobals "TooLong" = some (some (.ref CTL)))
    (z49 : PySem.W.kitOne K (.ref CTL) (.ref CTL) = some true)
    (z50 : PySem.W.nsIn K mainGlobals "BadPoint" = some (some (.ref CPo)))
    (z51 : PySem.W.kitOne K (.ref CTL) (.ref CPo) = some false)
    (z52 : PySem.W.nsIn K mainGlobals "NoValue" = some (some (.ref CNV)))
    (z53 : PySem.W.kitOne K (.ref CTL) (.ref CNV) = some false)
    (z54 : PySem.W.nsIn K mainGlobals "TooGreat" = some (some (.ref CTG)))
    (z55 : PySem.W.kitOne K (.ref CTL) (.ref CTG) = some false)
    (z56 : PySem.W.nsIn K mainGlobals "Corner" = some (some (.ref CCo)))
    (z57 : PySem.W.kitOne K (.ref CTL) (.ref CCo) = some false)
    (z58 : PySem.W.kitOne K (.ref CTL) (.type "ValueError") = some true)
    (hg59 : PySem.W.findIn K (.ref CTL) "__getattribute__" = some (some (.builtin "BaseException.__getattribute__")))
    (hk59 : PySem.W.findIn K (.ref CTL) "__getattr__" = some none)
    (hs59 : PySem.W.subIn K (.ref CTL) (.type "BaseException") = some true)
    (hd59 : PySem.W.hasDictIn K CTL = true)
    (ha59 : PySem.W.findIn K (.ref CTL) "__class__" = some (some (.builtin "object.__class__")))
    (hn59 : PySem.W.specialIn K (.builtin "object.__class__") "__get__" = some (some (.builtin "getset_descriptor.__get__")))
    (ht59 : PySem.W.takesIn K (.builtin "object.__class__") = some true)
    (hm59 : PySem.W.mroIn K CTL (.type "object") = some true)
    (z60 : PySem.W.nsIn K mainGlobals "SlopeError" = some (some (.ref CS)))
    (z61 : PySem.W.exmOne K (.ref CTL) (.ref CS) = some true)
    (z62 : PySem.W.nsIn K mainGlobals "ValueError" = some none)
    : ∃ fd : FuncData, (∀ (s : Shared) (v : Value), BindsTo s fd ⟨[v], []⟩ [("_law_script", v)]) ∧ ∀ base : Heap, K.In base → base.Ns mainGlobals mg → base.NoDigits → (∀ p ∈ ([(cc47, PP47)] : List (Addr × Addr)), LamX.TabB base mg p.1 p.2) → FnD l.prog w K mg base CX0 92 fa fd ["_law_script"] (c_law PP47) := by
  have e := hfa.symm.trans (PySem.W.mg_of X G a47)
  cases e
  have T : Txt K mg w CL CP CG CTL CTe CPr CPo CNV CTG CCo CS pT := ⟨PySem.W.mg_none_of X G z0, PySem.W.mg_none_of X G z1, PySem.W.mg_none_of X G z2, PySem.W.mg_none_of X G z3, PySem.W.mg_none_of X G z4, PySem.W.mg_none_of X G z5, PySem.W.mg_none_of X G z6, PySem.W.mg_none_of X G z7, PySem.W.mg_none_of X G z8, PySem.W.mg_none_of X G z9, PySem.W.mg_none_of X G z10, PySem.W.mg_none_of X G z11, PySem.W.mg_none_of X G z12, PySem.W.mg_none_of X G z13, PySem.W.mg_none_of X G z14, PySem.W.mg_none_of X G z15, PySem.W.mg_none_of X G z16, kn_int X G z17, kn_int X G z18, kn_str X G z19 e19, kn_strs X G z20 w20 e20 (by decide), kn_int X G z21, kn_int X G z22, kn_int X G z23, kn_int X G z24, kn_int X G z25, kn_int X G z26, kn_int X G z27, kn_int X G z28, kn_int X G z29, ⟨.ref pT, _, PySem.W.mg_of X G z30, rfl, fun F => rep_loc.mpr rfl⟩, ⟨⟨es31, n31, z31, keysLit_mk h31, w31, e31⟩⟩, ⟨pgCL, hdCL, poCL, saCL⟩, z33, z34, ⟨pgCP, hdCP, poCP, saCP⟩, z36, z37, z38, ⟨pgCG, hdCG, poCG, saCG⟩, z40, z41, z42, ⟨⟨_, _, _, _, PySem.F.excBase_ValueError, y43⟩, PySem.W.mg_of X G z43, v43, u43, s43⟩, ⟨.ref CTe, _, PySem.W.mg_of X G z44, rfl, fun F => rep_loc.mpr rfl⟩, z45, ⟨.ref CPr, _, PySem.W.mg_of X G z46, rfl, fun F => rep_loc.mpr rfl⟩, z47, ⟨.ref CTL, _, PySem.W.mg_of X G z48, rfl, fun F => rep_loc.mpr rfl⟩, z49, ⟨.ref CPo, _, PySem.W.mg_of X G z50, rfl, fun F => rep_loc.mpr rfl⟩, z51, ⟨.ref CNV, _, PySem.W.mg_of X G z52, rfl, fun F => rep_loc.mpr rfl⟩, z53, ⟨.ref CTG, _, PySem.W.mg_of X G z54, rfl, fun F => rep_loc.mpr rfl⟩, z55, ⟨.ref CCo, _, PySem.W.mg_of X G z56, rfl, fun F => rep_loc.mpr rfl⟩, z57, z58, ⟨hg59, hk59, hs59, hd59, ha59, hn59, ht59, hm59⟩, PySem.W.mg_of X G z60, z61, PySem.W.mg_none_of X G z62⟩
  have F1 := fun_mk (st := s__law_mixed) l1 c1 k1
  have b1 := F1.binds (ps := ["_law_cell", "_law_k"]) fun _ _ _ _ _ _ us hl => match us, hl with | [_, _], _ => rfl
  have F2 := fun_mk (st := s__law_folded) l2 c2 k2
  have b2 := F2.binds (ps := ["_law_script"]) fun _ _ _ _ _ _ us hl => match us, hl with | [_], _ => rfl
  have F3 := fun_mk (st := s__law_draw) l3 c3 k3
  have b3 := F3.binds (ps := ["_law_m", "_law_many"]) fun _ _ _ _ _ _ us hl => match us, hl with | [_, _], _ => rfl
  have F4 := fun_mk (st := s__law_begun) l4 c4 k4
  have b4 := F4.binds (ps := ["_law_script"]) fun _ _ _ _ _ _ us hl => match us, hl with | [_], _ => rfl
  have F5 := fun_mk (st := s_is_whole) l5 c5 k5
  have b5 := F5.binds (ps := ["thing"]) fun _ _ _ _ _ _ us hl => match us, hl with | [_], _ => rfl
  have F6 := fun_mk (st := s_common) l6 c6 k6
  have b6 := F6.binds (ps := ["one", "other"]) fun _ _ _ _ _ _ us hl => match us, hl with | [_, _], _ => rfl
  have F7 := fun_mk (st := s_is_fraction) l7 c7 k7
  have b7 := F7.binds (ps := ["thing"]) fun _ _ _ _ _ _ us hl => match us, hl with | [_], _ => rfl
  have F8 := fun_mk (st := s_is_name) l8 c8 k8
  have b8 := F8.binds (ps := ["thing"]) fun _ _ _ _ _ _ us hl => match us, hl with | [_], _ => rfl
  have F9 := fun_mk (st := s_are_names) l9 c9 k9
  have b9 := F9.binds (ps := ["thing", "most"]) fun _ _ _ _ _ _ us hl => match us, hl with | [_, _], _ => rfl
  have F10 := fun_mk (st := s_are_unlike) l10 c10 k10
  have b10 := F10.binds (ps := ["names"]) fun _ _ _ _ _ _ us hl => match us, hl with | [_], _ => rfl
  have F11 := fun_mk (st := s_is_among) l11 c11 k11
  have b11 := F11.binds (ps := ["thing", "least", "most"]) fun _ _ _ _ _ _ us hl => match us, hl with | [_, _, _], _ => rfl
  have F12 := fun_mk (st := s_is_thing) l12 c12 k12
  have b12 := F12.binds (ps := ["thing", "told"]) fun _ _ _ _ _ _ us hl => match us, hl with | [_, _], _ => rfl
  have F13 := fun_mk (st := s_is_call) l13 c13 k13
  have b13 := F13.binds (ps := ["things", "told", "parts"]) fun _ _ _ _ _ _ us hl => match us, hl with | [_, _, _], _ => rfl
  have F14 := fun_mk (st := s_is_doing) l14 c14 k14
  have b14 := F14.binds (ps := ["word", "things", "told", "parts"]) fun _ _ _ _ _ _ us hl => match us, hl with | [_, _, _, _], _ => rfl
  have F15 := fun_mk (st := s_Looked___init__) l15 c15 k15
  have b15 := F15.binds (ps := ["self"]) fun _ _ _ _ _ _ us hl => match us, hl with | [_], _ => rfl
  have F16 := fun_mk (st := s_Looked_is_more) l16 c16 k16
  have b16 := F16.binds (ps := ["self", "many"]) fun _ _ _ _ _ _ us hl => match us, hl with | [_, _], _ => rfl
  have F17 := fun_mk (st := s_Looked_is_item) l17 c17 k17
  have b17 := F17.binds (ps := ["self", "thing", "told", "deep"]) fun _ _ _ _ _ _ us hl => match us, hl with | [_, _, _, _], _ => rfl
  have F18 := fun_mk (st := s_Looked_is_body) l18 c18 k18
  have b18 := F18.binds (ps := ["self", "thing", "told", "deep"]) fun _ _ _ _ _ _ us hl => match us, hl with | [_, _, _, _], _ => rfl
  have F19 := fun_mk (st := s_Looked_is_part) l19 c19 k19
  have b19 := F19.binds (ps := ["self", "thing"]) fun _ _ _ _ _ _ us hl => match us, hl with | [_, _], _ => rfl
  have F20 := fun_mk (st := s_Looked_is_program) l20 c20 k20
  have b20 := F20.binds (ps := ["self", "thing"]) fun _ _ _ _ _ _ us hl => match us, hl with | [_, _], _ => rfl
  have F21 := fun_mk (st := s_Program___init__) l21 c21 k21
  have b21 := F21.binds (ps := ["self", "plain"]) fun _ _ _ _ _ _ us hl => match us, hl with | [_, _], _ => rfl
  have F22 := fun_mk (st := s_Program_plain) l22 c22 k22
  have b22 := F22.binds (ps := ["self"]) fun _ _ _ _ _ _ us hl => match us, hl with | [_], _ => rfl
  have F23 := fun_mk (st := s__law_names) l23 c23 k23
  have b23 := F23.binds (ps := ["_law_m", "_law_many"]) fun _ _ _ _ _ _ us hl => match us, hl with | [_, _], _ => rfl
  have F24 := fun_mk (st := s__law_common) l24 c24 k24
  have b24 := F24.binds (ps := ["_law_one", "_law_other"]) fun _ _ _ _ _ _ us hl => match us, hl with | [_, _], _ => rfl
  have F25 := fun_mk (st := s__law_lowest) l25 c25 k25
  have b25 := F25.binds (ps := ["_law_n", "_law_d"]) fun _ _ _ _ _ _ us hl => match us, hl with | [_, _], _ => rfl
  have F26 := fun_mk (st := s__law_fraction) l26 c26 k26
  have b26 := F26.binds (ps := ["_law_m"]) fun _ _ _ _ _ _ us hl => match us, hl with | [_], _ => rfl
  have F27 := fun_mk (st := s_Going_count) l27 c27 k27
  have b27 := F27.binds (ps := ["self"]) fun _ _ _ _ _ _ us hl => match us, hl with | [_], _ => rfl
  have F28 := fun_mk (st := s_Going_put) l28 c28 k28
  have b28 := F28.binds (ps := ["self", "word", "places", "more"]) fun _ _ _ _ _ _ us hl => match us, hl with | [_, _, _, _], _ => rfl
  have F29 := fun_mk (st := s_Going_place_of) l29 c29 k29
  have b29 := F29.binds (ps := ["self", "thing", "names"]) fun _ _ _ _ _ _ us hl => match us, hl with | [_, _, _], _ => rfl
  have F30 := fun_mk (st := s_Going_places_of) l30 c30 k30
  have b30 := F30.binds (ps := ["self", "things", "names"]) fun _ _ _ _ _ _ us hl => match us, hl with | [_, _, _], _ => rfl
  have F31 := fun_mk (st := s_Going_go) l31 c31 k31
  have b31 := F31.binds (ps := ["self", "body", "names"]) fun _ _ _ _ _ _ us hl => match us, hl with | [_, _, _], _ => rfl
  have F32 := fun_mk (st := s_Going_called) l32 c32 k32
  have b32 := F32.binds (ps := ["self", "name", "places"]) fun _ _ _ _ _ _ us hl => match us, hl with | [_, _, _], _ => rfl
  have F33 := fun_mk (st := s_Going_place_behind) l33 c33 k33
  have b33 := F33.binds (ps := ["self", "word", "things", "names"]) fun _ _ _ _ _ _ us hl => match us, hl with | [_, _, _, _], _ => rfl
  have F34 := fun_mk (st := s_Going___init__) l34 c34 k34
  have b34 := F34.binds (ps := ["self", "parts"]) fun _ _ _ _ _ _ us hl => match us, hl with | [_, _], _ => rfl
  have F35 := fun_mk (st := s_straight) l35 c35 k35
  have b35 := F35.binds (ps := ["program"]) fun _ _ _ _ _ _ us hl => match us, hl with | [_], _ => rfl
  have F36 := fun_mk (st := s__law_word) l36 c36 k36
  have b36 := F36.binds (ps := ["_law_e"]) fun _ _ _ _ _ _ us hl => match us, hl with | [_], _ => rfl
  have F37 := fun_mk (st := s__law_tried) l37 c37 k37
  have b37 := F37.binds (ps := ["_law_deed"]) fun _ _ _ _ _ _ us hl => match us, hl with | [_], _ => rfl
  have F38 := fun_mk (st := s__law_place) l38 c38 k38
  have b38 := F38.binds (ps := ["_law_rows", "_law_thing", "_law_places"]) fun _ _ _ _ _ _ us hl => match us, hl with | [_, _, _], _ => rfl
  have F39 := fun_mk (st := s__law_go) l39 c39 k39
  have b39 := F39.binds (ps := ["_law_plain", "_law_body", "_law_rows", "_law_places", "_law_deeds"]) fun _ _ _ _ _ _ us hl => match us, hl with | [_, _, _, _, _], _ => rfl
  have F40 := fun_mk (st := s__law_done) l40 c40 k40
  have b40 := F40.binds (ps := ["_law_plain", "_law_item", "_law_rows", "_law_places", "_law_deeds"]) fun _ _ _ _ _ _ us hl => match us, hl with | [_, _, _, _, _], _ => rfl
  have F41 := fun_mk (st := s__law_straight) l41 c41 k41
  have b41 := F41.binds (ps := ["_law_plain"]) fun _ _ _ _ _ _ us hl => match us, hl with | [_], _ => rfl
  have F42 := fun_mk (st := s__law_renamed_body) l42 c42 k42
  have b42 := F42.binds (ps := ["_law_body", "_law_names_here", "_law_titles"]) fun _ _ _ _ _ _ us hl => match us, hl with | [_, _, _], _ => rfl
  have F43 := fun_mk (st := s__law_renamed) l43 c43 k43
  have b43 := F43.binds (ps := ["_law_plain", "_law_names_here", "_law_titles"]) fun _ _ _ _ _ _ us hl => match us, hl with | [_, _, _], _ => rfl
  have F44 := fun_mk (st := s__law_some_row) l44 c44 k44
  have b44 := F44.binds (ps := ["_law_m", "_law_names_here", "_law_told", "_law_parts"]) fun _ _ _ _ _ _ us hl => match us, hl with | [_, _, _, _], _ => rfl
  have F45 := fun_mk (st := s__law_rows_of) l45 c45 k45
  have b45 := F45.binds (ps := ["_law_m", "_law_names_here", "_law_told", "_law_parts", "_law_many"]) fun _ _ _ _ _ _ us hl => match us, hl with | [_, _, _, _, _], _ => rfl
  have F46 := fun_mk (st := s__law_nested) l46 c46 k46
  have b46 := F46.binds (ps := ["_law_m", "_law_names_here"]) fun _ _ _ _ _ _ us hl => match us, hl with | [_, _], _ => rfl
  have F47 := fun_mk (st := s_law) l47 c47 k47
  have b47 := F47.binds (ps := ["_law_script"]) fun _ _ _ _ _ _ us hl => match us, hl with | [_], _ => rfl
  refine ⟨PySem.W.fnOf "law" "law" (defArgs s_law) (defBody s_law) (defScope s_law) .none kV47 dc47 pm47 an47 cd47 ct47, fun s v => .of_eq rfl, fun base _ _ nd hT => ?_⟩
  have Q_C__law_mixed := ok__law_mixed (P := l.prog) (w := w) (base := base) (n := 0) T  F1
  have C__law_mixed : Cal l.prog w K mg base 1 "_law_mixed" (c__law_mixed) := ⟨_, _, _, Q_C__law_mixed, PySem.W.mg_of X G a1, k1, b1⟩
  have Q_C__law_folded := ok__law_folded (P := l.prog) (w := w) (base := base) (n := 0) T  F2
  have C__law_folded : Cal l.prog w K mg base 1 "_law_folded" (c__law_folded) := ⟨_, _, _, Q_C__law_folded, PySem.W.mg_of X G a2, k2, b2⟩
  have Q_C__law_draw := ok__law_draw (P := l.prog) (w := w) (base := base) (n := 1) T (C__law_mixed.up (by decide)) F3
  have C__law_draw : Cal l.prog w K mg base 2 "_law_draw" (c__law_draw) := ⟨_, _, _, Q_C__law_draw, PySem.W.mg_of X G a3, k3, b3⟩
  have Q_C__law_begun := ok__law_begun (P := l.prog) (w := w) (base := base) (n := 1) T (C__law_folded.up (by decide)) F4
  have C__law_begun : Cal l.prog w K mg base 2 "_law_begun" (c__law_begun) := ⟨_, _, _, Q_C__law_begun, PySem.W.mg_of X G a4, k4, b4⟩
  have Q_C_is_whole := ok_is_whole (P := l.prog) (w := w) (base := base) (n := 0) T  F5
  have C_is_whole : Cal l.prog w K mg base 1 "is_whole" (c_is_whole) := ⟨_, _, _, Q_C_is_whole, PySem.W.mg_of X G a5, k5, b5⟩
  have Q_C_common := ok_common (P := l.prog) (w := w) (base := base) (n := 0) T  F6
  have C_common : Cal l.prog w K mg base 1 "common" (c_common) := ⟨_, _, _, Q_C_common, PySem.W.mg_of X G a6, k6, b6⟩
  have Q_C_is_fraction := ok_is_fraction (P := l.prog) (w := w) (base := base) (n := 1) T (C_is_whole.up (by decide)) (C_common.up (by decide)) F7
  have C_is_fraction : Cal l.prog w K mg base 2 "is_fraction" (c_is_fraction) := ⟨_, _, _, Q_C_is_fraction, PySem.W.mg_of X G a7, k7, b7⟩
  have Q_C_is_name := ok_is_name (P := l.prog) (w := w) (base := base) (n := 0) T  F8
  have C_is_name : Cal l.prog w K mg base 1 "is_name" (c_is_name) := ⟨_, _, _, Q_C_is_name, PySem.W.mg_of X G a8, k8, b8⟩
  have Q_C_are_names := ok_are_names (P := l.prog) (w := w) (base := base) (n := 1) T (C_is_name.up (by decide)) F9
  have C_are_names : Cal l.prog w K mg base 2 "are_names" (c_are_names) := ⟨_, _, _, Q_C_are_names, PySem.W.mg_of X G a9, k9, b9⟩
  have Q_C_are_unlike := ok_are_unlike (P := l.prog) (w := w) (base := base) (n := 0) T  F10
  have C_are_unlike : Cal l.prog w K mg base 1 "are_unlike" (c_are_unlike) := ⟨_, _, _, Q_C_are_unlike, PySem.W.mg_of X G a10, k10, b10⟩
  have Q_C_is_among := ok_is_among (P := l.prog) (w := w) (base := base) (n := 1) T (C_is_whole.up (by decide)) F11
  have C_is_among : Cal l.prog w K mg base 2 "is_among" (c_is_among) := ⟨_, _, _, Q_C_is_among, PySem.W.mg_of X G a11, k11, b11⟩
  have Q_C_is_thing := ok_is_thing (P := l.prog) (w := w) (base := base) (n := 2) T (C_is_fraction.up (by decide)) F12
  have C_is_thing : Cal l.prog w K mg base 3 "is_thing" (c_is_thing) := ⟨_, _, _, Q_C_is_thing, PySem.W.mg_of X G a12, k12, b12⟩
  have Q_C_is_call := ok_is_call (P := l.prog) (w := w) (base := base) (n := 3) T (C_is_thing.up (by decide)) F13
  have C_is_call : Cal l.prog w K mg base 4 "is_call" (c_is_call) := ⟨_, _, _, Q_C_is_call, PySem.W.mg_of X G a13, k13, b13⟩
  have Q_C_is_doing := ok_is_doing (P := l.prog) (w := w) (base := base) (n := 4) T (C_is_call.up (by decide)) (C_is_thing.up (by decide)) (C_is_among.up (by decide)) F14
  have C_is_doing : Cal l.prog w K mg base 5 "is_doing" (c_is_doing) := ⟨_, _, _, Q_C_is_doing, PySem.W.mg_of X G a14, k14, b14⟩
  have Q_CK_Looked := ok_Looked___init__ (P := l.prog) (w := w) (base := base) (n := 0) T  F15
  have CK_Looked : CalK l.prog w K mg base 1 "Looked" CL ((c_Looked___init__ CL)) := ⟨_, _, _, Q_CK_Looked, ⟨mkCL, a15, i15, kcCL⟩, PySem.W.mg_of X G gCL, b15⟩
  have Q_CM_Looked_is_more := ok_Looked_is_more (P := l.prog) (w := w) (base := base) (n := 0) T  F16
  have CM_Looked_is_more : CalM l.prog w K mg base 1 CL "is_more" ((c_Looked_is_more CL)) := ⟨_, _, _, Q_CM_Looked_is_more, ⟨a16, i16, k16⟩, b16⟩
  have Q_CM_row := ok_Looked_is_item_row (P := l.prog) (w := w) (base := base) (n := 5) T (C_is_name.up (by decide)) (C_is_doing.up (by decide)) (CM_Looked_is_more.up (by decide)) F17
  have CM_item3 : CalM l.prog w K mg base 9 CL "is_item" (c_Looked_is_item CL 3) := ⟨_, _, _, ((Q_CM_row.up (by decide)).imp fun _ _ _ _ h => item3 h), ⟨a17, i17, k17⟩, b17⟩
  have Q_CM_body3 := ok_Looked_is_body (P := l.prog) (w := w) (base := base) (n := 9) (lo := 3) T (CM_item3.up (by decide)) F18
  have CM_body3 : CalM l.prog w K mg base 10 CL "is_body" ((c_Looked_is_body CL 3)) := ⟨_, _, _, Q_CM_body3, ⟨a18, i18, k18⟩, b18⟩
  have Q_CM_rep2 := ok_Looked_is_item_rep (P := l.prog) (w := w) (base := base) (n := 10) (lo := 2) T (C_is_among.up (by decide)) (CM_Looked_is_more.up (by decide)) (CM_body3.up (by decide)) F17
  have CM_item2 : CalM l.prog w K mg base 11 CL "is_item" (c_Looked_is_item CL 2) := ⟨_, _, _, ((FnD.or (Q_CM_row.up (by decide)) (Q_CM_rep2.up (by decide))).imp fun _ _ _ _ h => item_or h), ⟨a17, i17, k17⟩, b17⟩
  have Q_CM_body2 := ok_Looked_is_body (P := l.prog) (w := w) (base := base) (n := 11) (lo := 2) T (CM_item2.up (by decide)) F18
  have CM_body2 : CalM l.prog w K mg base 12 CL "is_body" ((c_Looked_is_body CL 2)) := ⟨_, _, _, Q_CM_body2, ⟨a18, i18, k18⟩, b18⟩
  have Q_CM_rep1 := ok_Looked_is_item_rep (P := l.prog) (w := w) (base := base) (n := 12) (lo := 1) T (C_is_among.up (by decide)) (CM_Looked_is_more.up (by decide)) (CM_body2.up (by decide)) F17
  have CM_item1 : CalM l.prog w K mg base 13 CL "is_item" (c_Looked_is_item CL 1) := ⟨_, _, _, ((FnD.or (Q_CM_row.up (by decide)) (Q_CM_rep1.up (by decide))).imp fun _ _ _ _ h => item_or h), ⟨a17, i17, k17⟩, b17⟩
  have Q_CM_body1 := ok_Looked_is_body (P := l.prog) (w := w) (base := base) (n := 13) (lo := 1) T (CM_item1.up (by decide)) F18
  have CM_body1 : CalM l.prog w K mg base 14 CL "is_body" ((c_Looked_is_body CL 1)) := ⟨_, _, _, Q_CM_body1, ⟨a18, i18, k18⟩, b18⟩
  have Q_CM_rep0 := ok_Looked_is_item_rep (P := l.prog) (w := w) (base := base) (n := 14) (lo := 0) T (C_is_among.up (by decide)) (CM_Looked_is_more.up (by decide)) (CM_body1.up (by decide)) F17
  have CM_item0 : CalM l.prog w K mg base 15 CL "is_item" (c_Looked_is_item CL 0) := ⟨_, _, _, ((FnD.or (Q_CM_row.up (by decide)) (Q_CM_rep0.up (by decide))).imp fun _ _ _ _ h => item_or h), ⟨a17, i17, k17⟩, b17⟩
  have Q_CM_Looked_is_body := ok_Looked_is_body (P := l.prog) (w := w) (base := base) (n := 15) (lo := 0) T (CM_item0.up (by decide)) F18
  have CM_Looked_is_body : CalM l.prog w K mg base 16 CL "is_body" ((c_Looked_is_body CL 0)) := ⟨_, _, _, Q_CM_Looked_is_body, ⟨a18, i18, k18⟩, b18⟩
  have Q_CM_Looked_is_part := ok_Looked_is_part (P := l.prog) (w := w) (base := base) (n := 16) T (C_is_name.up (by decide)) (C_are_names.up (by decide)) (C_are_unlike.up (by decide)) (CM_Looked_is_more.up (by decide)) (CM_Looked_is_body.up (by decide)) F19
  have CM_Looked_is_part : CalM l.prog w K mg base 17 CL "is_part" ((c_Looked_is_part CL)) := ⟨_, _, _, Q_CM_Looked_is_part, ⟨a19, i19, k19⟩, b19⟩
  have Q_CM_Looked_is_program := ok_Looked_is_program (P := l.prog) (w := w) (base := base) (n := 17) T (C_are_names.up (by decide)) (C_are_unlike.up (by decide)) (CM_Looked_is_part.up (by decide)) (CM_Looked_is_more.up (by decide)) (CM_Looked_is_body.up (by decide)) F20
  have CM_Looked_is_program : CalM l.prog w K mg base 18 CL "is_program" ((c_Looked_is_program CL)) := ⟨_, _, _, Q_CM_Looked_is_program, ⟨a20, i20, k20⟩, b20⟩
  have Q_CK_Program := ok_Program___init__ (P := l.prog) (w := w) (base := base) (n := 18) T (CK_Looked.up (by decide)) (CM_Looked_is_program.up (by decide)) F21
  have CK_Program : CalK l.prog w K mg base 20 "Program" CP ((c_Program___init__ CP)) := ⟨_, _, _, Q_CK_Program, ⟨mkCP, a21, i21, kcCP⟩, PySem.W.mg_of X G gCP, b21⟩
  have Q_CM_Program_plain := ok_Program_plain (P := l.prog) (w := w) (base := base) (n := 0) T  F22
  have CM_Program_plain : CalM l.prog w K mg base 1 CP "plain" ((c_Program_plain CP)) := ⟨_, _, _, Q_CM_Program_plain, ⟨a22, i22, k22⟩, b22⟩
  have Q_C__law_names := ok__law_names (P := l.prog) (w := w) (base := base) (n := 2) T (C__law_draw.up (by decide)) F23
  have C__law_names : Cal l.prog w K mg base 3 "_law_names" (c__law_names) := ⟨_, _, _, Q_C__law_names, PySem.W.mg_of X G a23, k23, b23⟩
  have Q_C__law_common := ok__law_common (P := l.prog) (w := w) (base := base) (n := 0) T  F24
  have C__law_common : Cal l.prog w K mg base 1 "_law_common" (c__law_common) := ⟨_, _, _, Q_C__law_common, PySem.W.mg_of X G a24, k24, b24⟩
  have Q_C__law_lowest := ok__law_lowest (P := l.prog) (w := w) (base := base) (n := 1) T (C__law_common.up (by decide)) F25
  have C__law_lowest : Cal l.prog w K mg base 2 "_law_lowest" (c__law_lowest) := ⟨_, _, _, Q_C__law_lowest, PySem.W.mg_of X G a25, k25, b25⟩
  have Q_C__law_fraction := ok__law_fraction (P := l.prog) (w := w) (base := base) (n := 2) T (C__law_draw.up (by decide)) (C__law_lowest.up (by decide)) F26
  have C__law_fraction : Cal l.prog w K mg base 3 "_law_fraction" (c__law_fraction) := ⟨_, _, _, Q_C__law_fraction, PySem.W.mg_of X G a26, k26, b26⟩
  have Q_CM_Going_count := ok_Going_count (P := l.prog) (w := w) (base := base) (n := 0) T  F27
  have CM_Going_count : CalMX l.prog w K mg base 1 CG "count" ((c_Going_count CG CTL)) := ⟨_, _, _, Q_CM_Going_count, ⟨a27, i27, k27⟩, b27⟩
  have Q_CM_Going_put := ok_Going_put (P := l.prog) (w := w) (base := base) (n := 0) T  F28
  have CM_Going_put : CalMX l.prog w K mg base 1 CG "put" ((c_Going_put CG CTL)) := ⟨_, _, _, Q_CM_Going_put, ⟨a28, i28, k28⟩, b28⟩
  have Q_CM_Going_place_of := ok_Going_place_of (P := l.prog) (w := w) (base := base) (n := 1) T (CM_Going_put.up (by decide)) F29
  have CM_Going_place_of : CalMX l.prog w K mg base 2 CG "place_of" ((c_Going_place_of CG CTL)) := ⟨_, _, _, Q_CM_Going_place_of, ⟨a29, i29, k29⟩, b29⟩
  have Q_CM_Going_places_of := ok_Going_places_of (P := l.prog) (w := w) (base := base) (n := 2) T (CM_Going_place_of.up (by decide)) F30
  have CM_Going_places_of : CalMX l.prog w K mg base 3 CG "places_of" ((c_Going_places_of CG CTL)) := ⟨_, _, _, Q_CM_Going_places_of, ⟨a30, i30, k30⟩, b30⟩
  have CM_Going_go : CalMX l.prog w K mg base 87 CG "go" (c_Going_go CG CTL 28) := (going_all (n := 3) (by decide) T (CM_Going_count.up (by decide)) (CM_Going_put.up (by decide)) (CM_Going_places_of.up (by decide)) F31 F32 F33 ⟨a31, i31, k31⟩ ⟨a32, i32, k32⟩ ⟨a33, i33, k33⟩ b31 b32 b33 28).up (by decide)
  have Q_CK_Going := ok_Going___init__ (P := l.prog) (w := w) (base := base) (n := 0) T  F34
  have CK_Going : CalK l.prog w K mg base 1 "Going" CG ((c_Going___init__ CG)) := ⟨_, _, _, Q_CK_Going, ⟨mkCG, a34, i34, kcCG⟩, PySem.W.mg_of X G gCG, b34⟩
  have Q_C_straight := ok_straight (P := l.prog) (w := w) (base := base) (n := 87) T (CM_Program_plain.up (by decide)) (CK_Going.up (by decide)) (CM_Going_put.up (by decide)) (CM_Going_go.up (by decide)) F35
  have C_straight : CalX l.prog w K mg base 89 "straight" ((c_straight CP CG CTL 28)) := ⟨_, _, _, Q_C_straight, PySem.W.mg_of X G a35, k35, b35⟩
  have Q_C__law_word := ok__law_word (P := l.prog) (w := w) (base := base) (n := 0) T  F36
  have C__law_word : Cal l.prog w K mg base 1 "_law_word" ((c__law_word CTL)) := ⟨_, _, _, Q_C__law_word, PySem.W.mg_of X G a36, k36, b36⟩
  have Q_C__law_tried := ok__law_tried (P := l.prog) (w := w) (base := base) (n := 1) T (C__law_word.up (by decide)) F37 (PySem.W.mg_of X G a37) k37 b37
  have C__law_tried : LG l.prog w K mg base 1 "_law_tried" (c__law_tried CTL) := Q_C__law_tried
  have Q_C__law_place := ok__law_place (P := l.prog) (w := w) (base := base) (n := 0) T  F38
  have C__law_place : Cal l.prog w K mg base 1 "_law_place" (c__law_place) := ⟨_, _, _, Q_C__law_place, PySem.W.mg_of X G a38, k38, b38⟩
  have C__law_go : Cal l.prog w K mg base 57 "_law_go" (c__law_go 28) := (lawgo_all (n := 1) (by decide) T (C__law_place.up (by decide)) F39 F40 (PySem.W.mg_of X G a39) k39 b39 (PySem.W.mg_of X G a40) k40 b40 28).up (by decide)
  have Q_C__law_straight := ok__law_straight (P := l.prog) (w := w) (base := base) (n := 57) T (C__law_go.up (by decide)) F41
  have C__law_straight : Cal l.prog w K mg base 58 "_law_straight" ((c__law_straight 28)) := ⟨_, _, _, Q_C__law_straight, PySem.W.mg_of X G a41, k41, b41⟩
  have C_renb4 : Cal l.prog w K mg base 1 "_law_renamed_body" (c__law_renamed_body 4) := ⟨_, _, _, (vac_renb F42), PySem.W.mg_of X G a42, k42, b42⟩
  have Q_C_renb3 := ok__law_renamed_body (P := l.prog) (w := w) (base := base) (n := 1) (lo := 3) T (C_renb4.up (by decide)) F42
  have C_renb3 : Cal l.prog w K mg base 2 "_law_renamed_body" ((c__law_renamed_body 3)) := ⟨_, _, _, Q_C_renb3, PySem.W.mg_of X G a42, k42, b42⟩
  have Q_C_renb2 := ok__law_renamed_body (P := l.prog) (w := w) (base := base) (n := 2) (lo := 2) T (C_renb3.up (by decide)) F42
  have C_renb2 : Cal l.prog w K mg base 3 "_law_renamed_body" ((c__law_renamed_body 2)) := ⟨_, _, _, Q_C_renb2, PySem.W.mg_of X G a42, k42, b42⟩
  have Q_C_renb1 := ok__law_renamed_body (P := l.prog) (w := w) (base := base) (n := 3) (lo := 1) T (C_renb2.up (by decide)) F42
  have C_renb1 : Cal l.prog w K mg base 4 "_law_renamed_body" ((c__law_renamed_body 1)) := ⟨_, _, _, Q_C_renb1, PySem.W.mg_of X G a42, k42, b42⟩
  have Q_C__law_renamed_body := ok__law_renamed_body (P := l.prog) (w := w) (base := base) (n := 4) (lo := 0) T (C_renb1.up (by decide)) F42
  have C__law_renamed_body : Cal l.prog w K mg base 5 "_law_renamed_body" ((c__law_renamed_body 0)) := ⟨_, _, _, Q_C__law_renamed_body, PySem.W.mg_of X G a42, k42, b42⟩
  have Q_C__law_renamed := ok__law_renamed (P := l.prog) (w := w) (base := base) (n := 5) T (C__law_renamed_body.up (by decide)) F43
  have C__law_renamed : Cal l.prog w K mg base 6 "_law_renamed" (c__law_renamed) := ⟨_, _, _, Q_C__law_renamed, PySem.W.mg_of X G a43, k43, b43⟩
  have Q_C__law_some_row := ok__law_some_row (P := l.prog) (w := w) (base := base) (n := 3) T (C__law_draw.up (by decide)) (C__law_fraction.up (by decide)) F44
  have C__law_some_row : Cal l.prog w K mg base 4 "_law_some_row" (c__law_some_row) := ⟨_, _, _, Q_C__law_some_row, PySem.W.mg_of X G a44, k44, b44⟩
  have Q_C__law_rows_of := ok__law_rows_of (P := l.prog) (w := w) (base := base) (n := 4) T (C__law_some_row.up (by decide)) F45
  have C__law_rows_of : Cal l.prog w K mg base 5 "_law_rows_of" (c__law_rows_of) := ⟨_, _, _, Q_C__law_rows_of, PySem.W.mg_of X G a45, k45, b45⟩
  have Q_C__law_nested := ok__law_nested (P := l.prog) (w := w) (base := base) (n := 5) T (C__law_names.up (by decide)) (C__law_draw.up (by decide)) (C__law_rows_of.up (by decide)) F46
  have C__law_nested : Cal l.prog w K mg base 6 "_law_nested" (c__law_nested) := ⟨_, _, _, Q_C__law_nested, PySem.W.mg_of X G a46, k46, b46⟩
  exact ok_law (n := 89) (ND := nd) T (C__law_begun.up (by decide)) (C__law_names.up (by decide)) (C__law_nested.up (by decide)) (C__law_straight.up (by decide)) (C__law_renamed.up (by decide)) (C__law_tried.up (by decide)) (C_straight.up (by decide)) (CK_Program.up (by decide)) F47 (hT (cc47, PP47) (by simp)) t47
end D
open PySem PySem.W PyProof.Rows
set_option maxHeartbeats 0 in
theorem PySem.Challenge.cw_slopehouse_k15_names_copies_and_calls_holds : PySem.Challenge.rw_slopehouse_k15_names_copies_and_calls.Holds := by
  w_on; o_law; k_head; (case hw => w_witness2)
  k_fill
  refine D.walk_endT (l := PySem.Challenge.rw_slopehouse_k15_names_copies_and_calls) (k := 92) (x := "_law_script") (c := fun _ => D.c_law 500) [(?cd9_47, 500)] (fun b => if b = 500 then "law.<locals>.<lambda>" else "") rfl rfl ⟨rfl, by decide, by decide⟩ (fun w h Y => PySem.W.km_in_of Y) (fun w h Y => ?tt9) (fun w => ?nn9) (fun w h Y => ?cc9) ?F (fun _ ns hl => ⟨ns, rfl, hl, rfl,  fun _ => rfl⟩)
  case tt9 => exact List.forall_mem_cons.mpr ⟨PySem.W.km_tabs_of Y 500 (by decide), (fun _ h => nomatch h)⟩
  case nn9 => exact List.forall_mem_cons.mpr ⟨(by kernel_rfl), (fun _ h => nomatch h)⟩
  case F =>
    intro w mg fa h KX G hmg
    refine' D.all_mk KX G hmg ?gCL ?pgCL ?hdCL ?poCL ?saCL ?mkCL ?kcCL ?gCP ?pgCP ?hdCP ?poCP ?saCP ?mkCP ?kcCP ?gCG ?pgCG ?hdCG ?poCG ?saCG ?mkCG ?kcCG ?a1 ?l1 ?c1 ?k1 ?a2 ?l2 ?c2 ?k2 ?a3 ?l3 ?c3 ?k3 ?a4 ?l4 ?c4 ?k4 ?a5 ?l5 ?c5 ?k5 ?a6 ?l6 ?c6 ?k6 ?a7 ?l7 ?c7 ?k7 ?a8 ?l8 ?c8 ?k8 ?a9 ?l9 ?c9 ?k9 ?a10 ?l10 ?c10 ?k10 ?a11 ?l11 ?c11 ?k11 ?a12 ?l12 ?c12 ?k12 ?a13 ?l13 ?c13 ?k13 ?a14 ?l14 ?c14 ?k14 ?a15 ?i15 ?l15 ?c15 ?k15 ?a16 ?i16 ?l16 ?c16 ?k16 ?a17 ?i17 ?l17 ?c17 ?k17 ?a18 ?i18 ?l18 ?c18 ?k18 ?a19 ?i19 ?l19 ?c19 ?k19 ?a20 ?i20 ?l20 ?c20 ?k20 ?a21 ?i21 ?l21 ?c21 ?k21 ?a22 ?i22 ?l22 ?c22 ?k22 ?a23 ?l23 ?c23 ?k23 ?a24 ?l24 ?c24 ?k24 ?a25 ?l25 ?c25 ?k25 ?a26 ?l26 ?c26 ?k26 ?a27 ?i27 ?l27 ?c27 ?k27 ?a28 ?i28 ?l28 ?c28 ?k28 ?a29 ?i29 ?l29 ?c29 ?k29 ?a30 ?i30 ?l30 ?c30 ?k30 ?a31 ?i31 ?l31 ?c31 ?k31 ?a32 ?i32 ?l32 ?c32 ?k32 ?a33 ?i33 ?l33 ?c33 ?k33 ?a34 ?i34 ?l34 ?c34 ?k34 ?a35 ?l35 ?c35 ?k35 ?a36 ?l36 ?c36 ?k36 ?a37 ?l37 ?c37 ?k37 ?a38 ?l38 ?c38 ?k38 ?a39 ?l39 ?c39 ?k39 ?a40 ?l40 ?c40 ?k40 ?a41 ?l41 ?c41 ?k41 ?a42 ?l42 ?c42 ?k42 ?a43 ?l43 ?c43 ?k43 ?a44 ?l44 ?c44 ?k44 ?a45 ?l45 ?c45 ?k45 ?a46 ?l46 ?c46 ?k46 ?a47 ?l47 ?c47 ?k47 ?t47 ?z0 ?z1 ?z2 ?z3 ?z4 ?z5 ?z6 ?z7 ?z8 ?z9 ?z10 ?z11 ?z12 ?z13 ?z14 ?z15 ?z16 ?z17 ?z18 ?z19 ?e19 ?z20 ?w20 ?e20 ?z21 ?z22 ?z23 ?z24 ?z25 ?z26 ?z27 ?z28 ?z29 ?z30 ?z31 ?w31 ?e31 ?h31 ?z33 ?z34 ?z36 ?z37 ?z38 ?z40 ?z41 ?z42 ?z43 ?y43 ?v43 ?u43 ?s43 ?z44 ?z45 ?z46 ?z47 ?z48 ?z49 ?z50 ?z51 ?z52 ?z53 ?z54 ?z55 ?z56 ?z57 ?z58 ?hg59 ?hk59 ?hs59 ?hd59 ?ha59 ?hn59 ?ht59 ?hm59 ?z60 ?z61 ?z62
    (case gCL => k_is)
    (case pgCL => k_is)
    (case hdCL => k_is)
    (case poCL => k_is)
    (case saCL => k_is)
    (case mkCL => k_is)
    (case kcCL => k_is)
    (case gCP => k_is)
    (case pgCP => k_is)
    (case hdCP => k_is)
    (case poCP => k_is)
    (case saCP => k_is)
    (case mkCP => k_is)
    (case kcCP => k_is)
    (case gCG => k_is)
    (case pgCG => k_is)
    (case hdCG => k_is)
    (case poCG => k_is)
    (case saCG => k_is)
    (case mkCG => k_is)
    (case kcCG => k_is)
    (case a1 => k_is)
    (case l1 => k_is)
    (case c1 => k_is)
    (case k1 => k_is)
    (case a2 => k_is)
    (case l2 => k_is)
    (case c2 => k_is)
    (case k2 => k_is)
    (case a3 => k_is)
    (case l3 => k_is)
    (case c3 => k_is)
    (case k3 => k_is)
    (case a4 => k_is)
    (case l4 => k_is)
    (case c4 => k_is)
    (case k4 => k_is)
    (case a5 => k_is)
    (case l5 => k_is)
    (case c5 => k_is)
    (case k5 => k_is)
    (case a6 => k_is)
    (case l6 => k_is)
    (case c6 => k_is)
    (case k6 => k_is)
    (case a7 => k_is)
    (case l7 => k_is)
    (case c7 => k_is)
    (case k7 => k_is)
    (case a8 => k_is)
    (case l8 => k_is)
    (case c8 => k_is)
    (case k8 => k_is)
    (case a9 => k_is)
    (case l9 => k_is)
    (case c9 => k_is)
    (case k9 => k_is)
    (case a10 => k_is)
    (case l10 => k_is)
    (case c10 => k_is)
    (case k10 => k_is)
    (case a11 => k_is)
    (case l11 => k_is)
    (case c11 => k_is)
    (case k11 => k_is)
    (case a12 => k_is)
    (case l12 => k_is)
    (case c12 => k_is)
    (case k12 => k_is)
    (case a13 => k_is)
    (case l13 => k_is)
    (case c13 => k_is)
    (case k13 => k_is)
    (case a14 => k_is)
    (case l14 => k_is)
    (case c14 => k_is)
    (case k14 => k_is)
    (case a15 => k_is)
    (case i15 => k_is)
    (case l15 => k_is)
    (case c15 => k_is)
    (case k15 => k_is)
    (case a16 => k_is)
    (case i16 => k_is)
    (case l16 => k_is)
    (case c16 => k_is)
    (case k16 => k_is)
    (case a17 => k_is)
    (case i17 => k_is)
    (case l17 => k_is)
    (case c17 => k_is)
    (case k17 => k_is)
    (case a18 => k_is)
    (case i18 => k_is)
    (case l18 => k_is)
    (case c18 => k_is)
    (case k18 => k_is)
    (case a19 => k_is)
    (case i19 => k_is)
    (case l19 => k_is)
    (case c19 => k_is)
    (case k19 => k_is)
    (case a20 => k_is)
    (case i20 => k_is)
    (case l20 => k_is)
    (case c20 => k_is)
    (case k20 => k_is)
    (case a21 => k_is)
    (case i21 => k_is)
    (case l21 => k_is)
    (case c21 => k_is)
    (case k21 => k_is)
    (case a22 => k_is)
    (case i22 => k_is)
    (case l22 => k_is)
    (case c22 => k_is)
    (case k22 => k_is)
    (case a23 => k_is)
    (case l23 => k_is)
    (case c23 => k_is)
    (case k23 => k_is)
    (case a24 => k_is)
    (case l24 => k_is)
    (case c24 => k_is)
    (case k24 => k_is)
    (case a25 => k_is)
    (case l25 => k_is)
    (case c25 => k_is)
    (case k25 => k_is)
    (case a26 => k_is)
    (case l26 => k_is)
    (case c26 => k_is)
    (case k26 => k_is)
    (case a27 => k_is)
    (case i27 => k_is)
    (case l27 => k_is)
    (case c27 => k_is)
    (case k27 => k_is)
    (case a28 => k_is)
    (case i28 => k_is)
    (case l28 => k_is)
    (case c28 => k_is)
    (case k28 => k_is)
    (case a29 => k_is)
    (case i29 => k_is)
    (case l29 => k_is)
    (case c29 => k_is)
    (case k29 => k_is)
    (case a30 => k_is)
    (case i30 => k_is)
    (case l30 => k_is)
    (case c30 => k_is)
    (case k30 => k_is)
    (case a31 => k_is)
    (case i31 => k_is)
    (case l31 => k_is)
    (case c31 => k_is)
    (case k31 => k_is)
    (case a32 => k_is)
    (case i32 => k_is)
    (case l32 => k_is)
    (case c32 => k_is)
    (case k32 => k_is)
    (case a33 => k_is)
    (case i33 => k_is)
    (case l33 => k_is)
    (case c33 => k_is)
    (case k33 => k_is)
    (case a34 => k_is)
    (case i34 => k_is)
    (case l34 => k_is)
    (case c34 => k_is)
    (case k34 => k_is)
    (case a35 => k_is)
    (case l35 => k_is)
    (case c35 => k_is)
    (case k35 => k_is)
    (case a36 => k_is)
    (case l36 => k_is)
    (case c36 => k_is)
    (case k36 => k_is)
    (case a37 => k_is)
    (case l37 => k_is)
    (case c37 => k_is)
    (case k37 => k_is)
    (case a38 => k_is)
    (case l38 => k_is)
    (case c38 => k_is)
    (case k38 => k_is)
    (case a39 => k_is)
    (case l39 => k_is)
    (case c39 => k_is)
    (case k39 => k_is)
    (case a40 => k_is)
    (case l40 => k_is)
    (case c40 => k_is)
    (case k40 => k_is)
    (case a41 => k_is)
    (case l41 => k_is)
    (case c41 => k_is)
    (case k41 => k_is)
    (case a42 => k_is)
    (case l42 => k_is)
    (case c42 => k_is)
    (case k42 => k_is)
    (case a43 => k_is)
    (case l43 => k_is)
    (case c43 => k_is)
    (case k43 => k_is)
    (case a44 => k_is)
    (case l44 => k_is)
    (case c44 => k_is)
    (case k44 => k_is)
    (case a45 => k_is)
    (case l45 => k_is)
    (case c45 => k_is)
    (case k45 => k_is)
    (case a46 => k_is)
    (case l46 => k_is)
    (case c46 => k_is)
    (case k46 => k_is)
    (case a47 => k_is)
    (case l47 => k_is)
    (case c47 => k_is)
    (case k47 => k_is)
    (case t47 => rfl)
    (case z0 => k_is)
    (case z1 => k_is)
    (case z2 => k_is)
    (case z3 => k_is)
    (case z4 => k_is)
    (case z5 => k_is)
    (case z6 => k_is)
    (case z7 => k_is)
    (case z8 => k_is)
    (case z9 => k_is)
    (case z10 => k_is)
    (case z11 => k_is)
    (case z12 => k_is)
    (case z13 => k_is)
    (case z14 => k_is)
    (case z15 => k_is)
    (case z16 => k_is)
    (case z17 => k_is)
    (case z18 => k_is)
    (case z19 => k_is)
    (case e19 => decide +kernel)
    (case z20 => k_is)
    (case w20 => k_is)
    (case e20 => decide +kernel)
    (case z21 => k_is)
    (case z22 => k_is)
    (case z23 => k_is)
    (case z24 => k_is)
    (case z25 => k_is)
    (case z26 => k_is)
    (case z27 => k_is)
    (case z28 => k_is)
    (case z29 => k_is)
    (case z30 => k_is)
    (case z31 => k_is)
    (case w31 => rfl)
    (case e31 => rfl)
    (case h31 => rfl)
    (case z33 => k_is)
    (case z34 => k_is)
    (case z36 => k_is)
    (case z37 => k_is)
    (case z38 => k_is)
    (case z40 => k_is)
    (case z41 => k_is)
    (case z42 => k_is)
    (case z43 => k_is)
    (case y43 => kernel_rfl)
    (case v43 => k_is)
    (case u43 => k_is)
    (case s43 => k_is)
    (case z44 => k_is)
    (case z45 => kernel_rfl)
    (case z46 => k_is)
    (case z47 => kernel_rfl)
    (case z48 => k_is)
    (case z49 => kernel_rfl)
    (case z50 => k_is)
    (case z51 => kernel_rfl)
    (case z52 => k_is)
    (case z53 => kernel_rfl)
    (case z54 => k_is)
    (case z55 => kernel_rfl)
    (case z56 => k_is)
    (case z57 => kernel_rfl)
    (case z58 => kernel_rfl)
    (case hg59 => k_is)
    (case hk59 => k_is)
    (case hs59 => k_is)
    (case hd59 => k_is)
    (case ha59 => k_is)
    (case hn59 => k_is)
    (case ht59 => k_is)
    (case hm59 => k_is)
    (case z60 => k_is)
    (case z61 => kernel_rfl)
    (case z62 => k_is)
  case cc9 => exact List.forall_mem_cons.mpr ⟨PySem.W.codeHd_of_K (PySem.W.km_in_of Y) (by kernel_rfl), (fun _ h => nomatch h)⟩

