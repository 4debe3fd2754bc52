import PyProof.Rows.All
import HandS.Lambda
import Wide.All
import OpenK.AllK
import Wide.FinOn
import HandS.ForMost
import HandS.Wide
import HandS.IsInst
import HandS.Zip
import HandS.TupAny
import HandS.TupMul
import HandS.Style
import HandS.Walk
import PyProof.ReprRoads
import PyProof.ReprLen
import PyProof.CallFns
import HandS.SetFor
import HandS.Remove
import HandS.Text
import KE.IntBitsLaws
import HandS.Defaults
import HandS.Codes
import HandS.Strs
import PyProof.Rows.StrOr
import KE.IntTextLaws
import PyProof.Rows.RegStrFacts
import HandS.Exc
import HandS.ExcOwn
import HandS.ExcIs
import HandS.TryOnly
import HandS.EndTab
import KE.GoesMore
import KE.GoesEnum
import PyProof.StrLawsRepr
import HandS.Head0
import HandS.Head1
import HandS.Head2
import PySem.Challenge.RW_slopehouse_k70_squares
set_option exponentiation.threshold 256
set_option pp.maxSteps 5000
set_option Elab.async false
set_option linter.all false
set_option pp.maxSteps 300
set_option maxRecDepth 100000
set_option maxHeartbeats 4000000
namespace D
open PySem PySem.W
def loo0 : List PySem.Str := ["SlopeError", "Flat", "common", "fraction", "plus", "less", "times", "over", "NOUGHT", "ONE", "unit", "cleared", "determinant", "back_of", "put_to"]
def loo1 : List PySem.Str := ["both", "_law_mixed", "_law_folded", "_law_draw", "_law_begun", "_law_common", "_law_lowest", "_law_fraction", "_law_plus", "_law_less", "_law_times", "_law_over", "_law_square_back", "_law_determinant", "_law_put_to"]
def loo2 : List PySem.Str := ["_law_drawn", "_law_told", "_law_product"]
def loo : List PySem.Str := loo0 ++ loo1 ++ loo2
theorem ob_km {K : Params → Frag} {as : List Addr} {ek : ∀ P, as = (K P).map (·.1)} {ts : List Addr} (s : SharedT) : (as.map (HandSHeadRun.getT s), ts.map (HandSHeadRun.getT s)) = (kmHook K as ek ts).obs s.abs :=
  Prod.ext (List.map_congr_left fun a _ => HandSHeadRun.getT_eq s a) (List.map_congr_left fun a _ => HandSHeadRun.getT_eq s a)
theorem ob_k {K : Params → Frag} {as : List Addr} {ek : ∀ P, as = (K P).map (·.1)} (s : SharedT) : as.map (HandSHeadRun.getT s) = (kHook K as ek).obs s.abs := List.map_congr_left fun a _ => HandSHeadRun.getT_eq s a
end D
local macro_rules | `(tactic| o_head $H) => `(tactic| refine HandSHeadRun.head_any (r := (PySem.W.OpenLaw.row PySem.Challenge.rw_slopehouse_k70_squares)) (q := PySem.W.view (PySem.W.OpenLaw.row PySem.Challenge.rw_slopehouse_k70_squares).prog [37]) (H := $H) (M := 12000) (loose := D.loo) (d := HandSHeadRun.topDef (PySem.W.OpenLaw.row PySem.Challenge.rw_slopehouse_k70_squares).prog 37) (kwd := []) (fun s => D.ob_k s) (by kernel_rfl) (fun s => by kernel_rfl) ?run (by kernel_rfl) (by kernel_rfl) (by kernel_rfl) (by rfl) (by first | assumption | decide +kernel) (by decide +kernel) ⟨rfl, rfl, rfl, rfl, rfl, by decide +kernel⟩ ?hw ?hc)
section
open PySem PySem.W PyProof.Rows
structure D.Pre (L : Prop) where
  RP : World → Prop
  HC : Prop
  mk2 : (∀ w, RP w) → HC → L
set_option maxHeartbeats 0 in
noncomputable def D.pre : D.Pre PySem.Challenge.rw_slopehouse_k70_squares.Holds := by
  apply D.Pre.mk
  intro h1 h2
  w_on; o_law
  k_head
  case hw => w_witness2
  case run => exact h1
  k_fill
  exact h2
set_option maxHeartbeats 0 in
theorem D.headF : ∀ w : World, D.pre.RP (w.withFollow "special-get-raises" false) := fun w os => by kernel_rfl
set_option maxHeartbeats 0 in
theorem D.headT : ∀ w : World, D.pre.RP (w.withFollow "special-get-raises" true) := fun w os => by kernel_rfl
end

set_option exponentiation.threshold 256
set_option pp.maxSteps 5000
set_option Elab.async false
set_option linter.all false
set_option maxRecDepth 100000
set_option maxHeartbeats 4000000
/-! D1: values as data, a state of what may change, the judgements over it. -/
namespace D
open PySem PySem.Spec PyProof.Rows L2

/-! ### data -/
inductive A where
  | non | bl (b : Bool) | int (i : Int) | str (x : Str) | ty (n : String) | loc (p : Addr)
  | tup (xs : List A) | lst (xs : List A) | fls (xs : List A)
instance : Inhabited A := ⟨.non⟩

/-- Ex: all that stood stands -/
def Ex (H H' : Hp) : Prop := ∀ p u, H p = some u → H' p = some u
theorem Ex.refl (H : Hp) : Ex H H := by intro p u h; exact h
theorem Ex.trans {H H1 H2 : Hp} (f : Ex H H1) (g : Ex H1 H2) : Ex H H2 := by intro p u h; exact g p u (f p u h)
theorem Ex.rd {H H' : Hp} {a : Addr} {u : HO} (e : Ex H H') (h : Rd H a u) : Rd H' a u := by
  exact h.imp (e a _) fun q => q.imp fun o => e a _
theorem Ex.l {K : PySem.W.Frag} {H H' : Hp} {a : Addr} {xs : List V} (e : Ex H H') (h : SqL K H a xs) : SqL K H' a xs := h.elim (fun h => .inl (e.rd h)) .inr
theorem Ex.t {K : PySem.W.Frag} {H H' : Hp} {a : Addr} {xs : List V} (e : Ex H H') (h : SqT K H a xs) : SqT K H' a xs := h.elim (fun h => .inl (e.rd h)) .inr
theorem Ex.new {H : Hp} {p : Addr} {o : HO} (nl : H p = none) : Ex H (upd H p o) := by
  intro q u e
  exact (upd_ne (ne_of_none e nl)).trans e
theorem Ex.none {H H' : Hp} {p : Addr} (e : Ex H H') (h : H' p = Option.none) : H p = Option.none := by
  cases q : H p with
  | none => rfl
  | some o => rw [e p o q] at h; cases h

mutual
def Rep (K : PySem.W.Frag) (H : Hp) : A → V → Prop
  | .non, v => v = .non
  | .bl b, v => v = .bl b
  | .int i, v => v = .int i
  | .str x, v => v = .str x
  | .ty n, v => v = .ty n
  | .loc p, v => v = .ref p
  | .tup xs, v => ∃ a vs, v = .ref a ∧ SqT K H a vs ∧ RepL K H xs vs
  | .lst xs, v => ∃ a vs, v = .ref a ∧ H a = some (.lst vs) ∧ RepL K H xs vs
  | .fls xs, v => ∃ a vs, v = .ref a ∧ SqL K H a vs ∧ RepL K H xs vs
def RepL (K : PySem.W.Frag) (H : Hp) : List A → List V → Prop
  | [], vs => vs = []
  | x :: xs, vs => ∃ v r, vs = v :: r ∧ Rep K H x v ∧ RepL K H xs r
end
section
variable {K : PySem.W.Frag} {H H' : Hp}
mutual
theorem Rep.mono (e : Ex H H') : ∀ {x : A} {v : V}, Rep K H x v → Rep K H' x v
  | .non, _, h => by simp only [Rep] at h ⊢; exact h
  | .bl _, _, h => by simp only [Rep] at h ⊢; exact h
  | .int _, _, h => by simp only [Rep] at h ⊢; exact h
  | .str _, _, h => by simp only [Rep] at h ⊢; exact h
  | .ty _, _, h => by simp only [Rep] at h ⊢; exact h
  | .loc _, _, h => by simp only [Rep] at h ⊢; exact h
  | .tup xs, _, h => by
    simp only [Rep] at h ⊢
    obtain ⟨a, vs, h1, h2, h3⟩ := h
    exact ⟨a, vs, h1, e.t h2, RepL.mono e h3⟩
  | .lst xs, _, h => by
    simp only [Rep] at h ⊢
    obtain ⟨a, vs, h1, h2, h3⟩ := h
    exact ⟨a, vs, h1, e _ _ h2, RepL.mono e h3⟩
  | .fls xs, _, h => by
    simp only [Rep] at h ⊢
    obtain ⟨a, vs, h1, h2, h3⟩ := h
    exact ⟨a, vs, h1, e.l h2, RepL.mono e h3⟩
theorem RepL.mono (e : Ex H H') : ∀ {xs : List A} {vs : List V}, RepL K H xs vs → RepL K H' xs vs
  | [], _, h => by simp only [RepL] at h ⊢; exact h
  | x :: xs, _, h => by
    simp only [RepL] at h ⊢
    obtain ⟨v, r, h1, h2, h3⟩ := h
    exact ⟨v, r, h1, Rep.mono e h2, RepL.mono e h3⟩
end
theorem RepL.nil : RepL K H [] [] := by simp only [RepL]
theorem RepL.cons {x : A} {xs : List A} {v : V} {vs : List V} (h : Rep K H x v) (t : RepL K H xs vs) : RepL K H (x :: xs) (v :: vs) := by
  simp only [RepL]; exact ⟨v, vs, rfl, h, t⟩
theorem RepL.len : ∀ {xs : List A} {vs : List V}, RepL K H xs vs → vs.length = xs.length
  | [], _, h => by simp only [RepL] at h; rw [h]; rfl
  | x :: xs, _, h => by
    simp only [RepL] at h
    obtain ⟨v, r, rfl, _, h3⟩ := h
    simp [RepL.len h3]
theorem RepL.get : ∀ {xs : List A} {vs : List V} {i : Nat} {x : A}, RepL K H xs vs → xs[i]? = some x → ∃ v, vs[i]? = some v ∧ Rep K H x v
  | [], _, _, _, _, e => by simp at e
  | y :: xs, _, 0, x, h, e => by
    simp only [RepL] at h
    obtain ⟨v, r, rfl, h1, h3⟩ := h
    simp at e; subst e
    exact ⟨v, rfl, h1⟩
  | y :: xs, _, i + 1, x, h, e => by
    simp only [RepL] at h
    obtain ⟨v, r, rfl, h1, h3⟩ := h
    obtain ⟨w, e1, e2⟩ := RepL.get (i := i) h3 (by simpa using e)
    exact ⟨w, by simpa using e1, e2⟩
theorem RepL.rev {xs : List A} {vs : List V} {i : Nat} {v : V} (h : RepL K H xs vs) (e : vs[i]? = some v) : ∃ x, xs[i]? = some x ∧ Rep K H x v := by
  have hl : i < xs.length := by rw [← h.len]; exact (List.getElem?_eq_some_iff.mp e).1
  obtain ⟨w, e1, e2⟩ := h.get (List.getElem?_eq_getElem hl)
  rw [e1] at e; cases e
  exact ⟨_, List.getElem?_eq_getElem hl, e2⟩
theorem RepL.of {xs : List A} : ∀ {vs : List V}, vs.length = xs.length → (∀ (i : Nat) (x : A) (v : V), xs[i]? = some x → vs[i]? = some v → Rep K H x v) → RepL K H xs vs := by
  induction xs with
  | nil => intro vs hl _; cases vs with
    | nil => exact .nil
    | cons v vs => simp at hl
  | cons x xs ih => intro vs hl h; cases vs with
    | nil => simp at hl
    | cons v vs => exact .cons (h 0 x v rfl rfl) (ih (by simpa using hl) fun i y w e1 e2 => h (i + 1) y w (by simpa using e1) (by simpa using e2))
theorem RepL.append {xs ys : List A} {vs ws : List V} (h : RepL K H xs vs) (g : RepL K H ys ws) : RepL K H (xs ++ ys) (vs ++ ws) := by
  induction xs generalizing vs with
  | nil => simp only [RepL] at h; rw [h]; exact g
  | cons x xs ih =>
    simp only [RepL] at h
    obtain ⟨v, r, rfl, h1, h3⟩ := h
    exact .cons h1 (ih h3)
theorem RepL.snoc {xs : List A} {y : A} {vs : List V} {w : V} (h : RepL K H xs vs) (g : Rep K H y w) : RepL K H (xs ++ [y]) (vs ++ [w]) := h.append (.cons g .nil)
theorem RepL.take {xs : List A} {vs : List V} (n : Nat) (h : RepL K H xs vs) : RepL K H (xs.take n) (vs.take n) := by
  refine .of (by simp [h.len]) fun i x v e1 e2 => ?_
  rw [List.getElem?_take] at e1 e2
  split at e1
  · rename_i hi
    rw [if_pos hi] at e2
    obtain ⟨w, e3, r⟩ := h.get e1
    rw [e3] at e2; cases e2; exact r
  · cases e1
theorem RepL.drop {xs : List A} {vs : List V} (n : Nat) (h : RepL K H xs vs) : RepL K H (xs.drop n) (vs.drop n) := by
  refine .of (by simp [h.len]) fun i x v e1 e2 => ?_
  rw [List.getElem?_drop] at e1 e2
  obtain ⟨w, e3, r⟩ := h.get e1
  rw [e3] at e2; cases e2; exact r
theorem RepL.set {xs : List A} {vs : List V} {y : A} {w : V} (n : Nat) (h : RepL K H xs vs) (g : Rep K H y w) : RepL K H (xs.set n y) (vs.set n w) := by
  refine .of (by simp [h.len]) fun i x v e1 e2 => ?_
  rw [List.getElem?_set] at e1 e2
  split at e1
  · rename_i hi
    rw [if_pos hi] at e2
    split at e1
    · split at e2
      · cases e1; cases e2; exact g
      · cases e2
    · cases e1
  · rename_i hi
    rw [if_neg hi] at e2
    obtain ⟨w, e3, r⟩ := h.get e1
    rw [e3] at e2; cases e2; exact r
theorem RepL.reverse {xs : List A} {vs : List V} (h : RepL K H xs vs) : RepL K H xs.reverse vs.reverse := by
  induction xs generalizing vs with
  | nil => simp only [RepL] at h; subst h; exact .nil
  | cons x xs ih =>
    simp only [RepL] at h
    obtain ⟨v, r, rfl, h1, h3⟩ := h
    simp only [List.reverse_cons]
    exact (ih h3).snoc h1
theorem RepL.map {α : Type} {f : α → A} {g : α → V} (h : ∀ a, Rep K H (f a) (g a)) : ∀ l : List α, RepL K H (l.map f) (l.map g)
  | [] => .nil
  | a :: l => .cons (h a) (RepL.map h l)
theorem rep_int {i : Int} {v : V} : Rep K H (.int i) v ↔ v = .int i := by simp only [Rep]
theorem rep_bl {i : Bool} {v : V} : Rep K H (.bl i) v ↔ v = .bl i := by simp only [Rep]
theorem rep_str {i : Str} {v : V} : Rep K H (.str i) v ↔ v = .str i := by simp only [Rep]
theorem rep_non {v : V} : Rep K H .non v ↔ v = .non := by simp only [Rep]
theorem rep_ty {n : String} {v : V} : Rep K H (.ty n) v ↔ v = .ty n := by simp only [Rep]
theorem rep_loc {p : Addr} {v : V} : Rep K H (.loc p) v ↔ v = .ref p := by simp only [Rep]
theorem rep_tup {xs : List A} {v : V} : Rep K H (.tup xs) v ↔ ∃ a vs, v = .ref a ∧ SqT K H a vs ∧ RepL K H xs vs := by simp only [Rep]
theorem rep_lst {xs : List A} {v : V} : Rep K H (.lst xs) v ↔ ∃ a vs, v = .ref a ∧ H a = some (.lst vs) ∧ RepL K H xs vs := by simp only [Rep]
theorem rep_fls {xs : List A} {v : V} : Rep K H (.fls xs) v ↔ ∃ a vs, v = .ref a ∧ SqL K H a vs ∧ RepL K H xs vs := by simp only [Rep]
theorem repL_ints : ∀ {ns : List Int} {vs : List V}, RepL K H (ns.map A.int) vs → vs = ns.map V.int
  | [], _, h => by simp only [List.map_nil, RepL] at h; rw [h]; rfl
  | n :: ns, _, h => by
    simp only [List.map_cons, RepL] at h
    obtain ⟨v, r, rfl, h1, h3⟩ := h
    rw [rep_int] at h1
    rw [h1, repL_ints h3]; rfl
theorem repL_bls : ∀ {ns : List Bool} {vs : List V}, RepL K H (ns.map A.bl) vs → vs = ns.map V.bl
  | [], _, h => by simp only [List.map_nil, RepL] at h; rw [h]; rfl
  | n :: ns, _, h => by
    simp only [List.map_cons, RepL] at h
    obtain ⟨v, r, rfl, h1, h3⟩ := h
    rw [rep_bl] at h1
    rw [h1, repL_bls h3]; rfl
theorem repL_strs : ∀ {ns : List Str} {vs : List V}, RepL K H (ns.map A.str) vs → vs = ns.map V.str
  | [], _, h => by simp only [List.map_nil, RepL] at h; rw [h]; rfl
  | n :: ns, _, h => by
    simp only [List.map_cons, RepL] at h
    obtain ⟨v, r, rfl, h1, h3⟩ := h
    rw [rep_str] at h1
    rw [h1, repL_strs h3]; rfl
end

/-! ### what may change -/
inductive MO where
  | lst (xs : List A)
  | dic (kvs : List (Key × A))
  | ins (C dx : Addr) (fs : List (Str × A))
  | xd (fs : List (Str × A))
  | exc (a : Addr) (cls : Value) (d : Option Addr)
  | tbl (q : Str)
/-- a caught exception, kept -/
def XO (a : Addr) (cls : Value) (d : Option Addr) : HO := .ext fun h => ∃ (oe : Obj) (vs : Array Value), h.get? a = some oe ∧ (oe.cls = cls ∧ oe.dict = d) ∧ oe.data = .fields vs
abbrev Mu := Addr → Option MO
def Mu.upd (μ : Mu) (p : Addr) (m : MO) : Mu := fun b => if b = p then some m else μ b
def Mu.del (μ : Mu) (p : Addr) : Mu := fun b => if b = p then none else μ b
theorem Mu.upd_same {μ : Mu} {p : Addr} {m : MO} : μ.upd p m p = some m := by unfold Mu.upd; rw [if_pos rfl]
theorem Mu.upd_ne {μ : Mu} {p q : Addr} {m : MO} (h : q ≠ p) : μ.upd p m q = μ q := by unfold Mu.upd; rw [if_neg h]
theorem Mu.del_ne {μ : Mu} {p q : Addr} (h : q ≠ p) : μ.del p q = μ q := by unfold Mu.del; rw [if_neg h]
theorem Mu.del_same {μ : Mu} {p : Addr} : μ.del p p = none := by unfold Mu.del; rw [if_pos rfl]
theorem Mu.del_upd {μ : Mu} {p : Addr} {m : MO} (h : μ p = none) : (μ.upd p m).del p = μ := by
  funext b; unfold Mu.del Mu.upd; split
  · rename_i e; rw [e, h]
  · rfl
theorem Mu.upd_upd {μ : Mu} {p : Addr} {m n : MO} : (μ.upd p m).upd p n = μ.upd p n := by
  funext b; unfold Mu.upd; split <;> rfl
/-- KV pairs -/
def RepK (K : PySem.W.Frag) (H : Hp) {κ : Type} : List (κ × A) → List (κ × V) → Prop
  | [], ws => ws = []
  | (k, x) :: r, ws => ∃ v t, ws = (k, v) :: t ∧ Rep K H x v ∧ RepK K H r t
def RepO (K : PySem.W.Frag) (F : Hp) : MO → HO → Prop
  | .lst xs, o => ∃ vs, o = .lst vs ∧ RepL K F xs vs
  | .dic kvs, o => ∃ ws, o = .dK ws ∧ RepK K F kvs ws
  | .ins C dx fs, o => ∃ ws, o = .ins C dx ws ∧ RepK K F fs ws
  | .xd fs, o => ∃ ws, o = .xd ws ∧ RepK K F fs ws
  | .exc a cls d, o => o = XO a cls d
  | .tbl q, o => ∃ ps : Array Value, o = .tbl ps ∧ TriplesOk ps.toList ∧ ∀ (pos : Pos) (cv : Value), codeAmong pos ps.toList = some cv → ∃ c, cv = .ref c ∧ F c = some (LamX.CodeO c q)
section
variable {K : PySem.W.Frag} {H H' : Hp} {κ : Type}
theorem RepK.mono (e : Ex H H') : ∀ {kvs : List (κ × A)} {ws : List (κ × V)}, RepK K H kvs ws → RepK K H' kvs ws
  | [], _, h => h
  | (k, x) :: r, _, ⟨v, t, h1, h2, h3⟩ => ⟨v, t, h1, h2.mono e, RepK.mono e h3⟩
theorem RepO.mono (e : Ex H H') : ∀ {m : MO} {o : HO}, RepO K H m o → RepO K H' m o
  | .lst _, _, ⟨vs, h1, h2⟩ => ⟨vs, h1, h2.mono e⟩
  | .dic _, _, ⟨vs, h1, h2⟩ => ⟨vs, h1, h2.mono e⟩
  | .ins _ _ _, _, ⟨vs, h1, h2⟩ => ⟨vs, h1, h2.mono e⟩
  | .xd _, _, ⟨vs, h1, h2⟩ => ⟨vs, h1, h2.mono e⟩
  | .exc _ _ _, _, h => h
  | .tbl _, _, ⟨ps, h1, h2, h3⟩ => ⟨ps, h1, h2, fun pos cv q => let ⟨c, a, b⟩ := h3 pos cv q; ⟨c, a, e _ _ b⟩⟩
theorem RepK.len : ∀ {kvs : List (κ × A)} {ws : List (κ × V)}, RepK K H kvs ws → ws.length = kvs.length
  | [], _, h => by rw [show _ = [] from h]; rfl
  | (k, x) :: r, _, ⟨v, t, h1, h2, h3⟩ => by rw [h1]; simp [RepK.len h3]
end

/-- the state: F what stands for good, μ what may change, M what others own -/
structure Rel (K : PySem.W.Frag) (μ : Mu) (M F H : Hp) : Prop where
  sub : Ex F H
  own : ∀ p m, μ p = some m → F p = none ∧ ∃ o, H p = some o ∧ RepO K F m o
  frm : ∀ p o, M p = some o → F p = none ∧ μ p = none ∧ H p = some o
abbrev G := List (Option A)
structure RelS (K : PySem.W.Frag) (Γ : G) (F : Hp) (σ : L2.St) : Prop where
  len : Γ.length = σ.length
  at_ : ∀ (i : Nat) (x : A), Γ[i]? = some (some x) → ∃ v, σ[i]? = some (some v) ∧ Rep K F x v
section
variable {K : PySem.W.Frag} {μ μ' : Mu} {M F F' H H' : Hp} {Γ : G} {σ : L2.St}
theorem RelS.mono (e : Ex F F') (h : RelS K Γ F σ) : RelS K Γ F' σ := ⟨h.len, fun i x q => let ⟨v, h1, h2⟩ := h.at_ i x q; ⟨v, h1, h2.mono e⟩⟩
theorem RelS.set {i : Nat} {x : A} {v : V} (h : RelS K Γ F σ) (r : Rep K F x v) : RelS K (Γ.set i (some x)) F (σ.set i (some v)) := by
  refine ⟨by simp [h.len], fun j y q => ?_⟩
  rw [List.getElem?_set] at q ⊢
  split at q
  · rename_i e
    rw [if_pos e]
    split at q
    · rename_i hi
      rw [if_pos (by rw [← h.len]; exact hi)]
      cases q; exact ⟨v, rfl, r⟩
    · cases q
  · rename_i e
    rw [if_neg e]
    exact h.at_ j y q
theorem RelS.weak {Γ' : G} (h : RelS K Γ F σ) (hl : Γ'.length = Γ.length) (w : ∀ (i : Nat) x, Γ'[i]? = some (some x) → Γ[i]? = some (some x)) : RelS K Γ' F σ :=
  ⟨hl.trans h.len, fun i x q => h.at_ i x (w i x q)⟩
/-- fewer things known -/
theorem Rel.weak (h : Rel K μ M F H) (w : ∀ p m, μ' p = some m → μ p = some m) : Rel K μ' M F H := by
  refine ⟨h.sub, fun p m e => h.own p m (w p m e), fun p o e => ?_⟩
  obtain ⟨h1, h2, h3⟩ := h.frm p o e
  refine ⟨h1, ?_, h3⟩
  cases q : μ' p with
  | none => rfl
  | some m => rw [w p m q] at h2; cases h2
/-- a list stands for good from now on -/
theorem Rel.freeze {p : Addr} {xs : List A} (h : Rel K μ M F H) (e : μ p = some (.lst xs)) : ∃ F', Ex F F' ∧ Rel K (μ.del p) M F' H ∧ Rep K F' (.lst xs) (.ref p) := by
  obtain ⟨h1, o, h2, vs, rfl, h3⟩ := h.own p _ e
  have ex : Ex F (upd F p (.lst vs)) := .new h1
  refine ⟨upd F p (.lst vs), ex, ⟨fun a o q => ?_, fun q m e' => ?_, fun q o e' => ?_⟩, ?_⟩
  · by_cases ha : a = p
    · subst ha; rw [upd_same] at q; cases q; exact h2
    · rw [upd_ne ha] at q; exact h.sub a o q
  · have hq : q ≠ p := fun z => by rw [z, Mu.del_same] at e'; cases e'
    rw [Mu.del_ne hq] at e'
    obtain ⟨g1, o', g2, g3⟩ := h.own q m e'
    exact ⟨by rw [upd_ne hq]; exact g1, o', g2, g3.mono ex⟩
  · obtain ⟨g1, g2, g3⟩ := h.frm q o e'
    have hq : q ≠ p := fun z => by rw [z, e] at g2; cases g2
    exact ⟨by rw [upd_ne hq]; exact g1, by rw [Mu.del_ne hq]; exact g2, g3⟩
  · rw [rep_lst]; exact ⟨p, vs, rfl, upd_same, h3.mono ex⟩
/-- a new object that is ours -/
theorem Rel.new {p : Addr} {m : MO} {o : HO} (h : Rel K μ M F H) (n : H p = none) (r : RepO K F m o) : μ p = none ∧ Rel K (μ.upd p m) M F (upd H p o) := by
  have hF : F p = none := h.sub.none n
  have hμ : μ p = none := by
    cases q : μ p with
    | none => rfl
    | some m => obtain ⟨_, o, e, _⟩ := h.own p m q; rw [n] at e; cases e
  refine ⟨hμ, h.sub.trans (.new n), fun q m' e => ?_, fun q o' e => ?_⟩
  · by_cases hq : q = p
    · subst hq; rw [Mu.upd_same] at e; cases e
      exact ⟨hF, o, upd_same, r⟩
    · rw [Mu.upd_ne hq] at e
      obtain ⟨g1, o', g2, g3⟩ := h.own q m' e
      exact ⟨g1, o', by rw [upd_ne hq]; exact g2, g3⟩
  · obtain ⟨g1, g2, g3⟩ := h.frm q o' e
    have hq : q ≠ p := fun z => by rw [z, n] at g3; cases g3
    exact ⟨g1, by rw [Mu.upd_ne hq]; exact g2, by rw [upd_ne hq]; exact g3⟩
/-- a new object that stands for good -/
theorem Rel.newF {p : Addr} {o : HO} (h : Rel K μ M F H) (n : H p = none) : Ex F (upd F p o) ∧ Rel K μ M (upd F p o) (upd H p o) := by
  have hF : F p = none := h.sub.none n
  refine ⟨.new hF, fun a u q => ?_, fun q m' e => ?_, fun q o' e => ?_⟩
  · by_cases ha : a = p
    · subst ha; rw [upd_same] at q ⊢; exact q
    · rw [upd_ne ha] at q ⊢; exact h.sub a u q
  · obtain ⟨g1, o', g2, g3⟩ := h.own q m' e
    have hq : q ≠ p := fun z => by rw [z, n] at g2; cases g2
    exact ⟨by rw [upd_ne hq]; exact g1, o', by rw [upd_ne hq]; exact g2, g3.mono (.new hF)⟩
  · obtain ⟨g1, g2, g3⟩ := h.frm q o' e
    have hq : q ≠ p := fun z => by rw [z, n] at g3; cases g3
    exact ⟨by rw [upd_ne hq]; exact g1, g2, by rw [upd_ne hq]; exact g3⟩
/-- what is ours changes -/
theorem Rel.write {p : Addr} {m m' : MO} {o : HO} (h : Rel K μ M F H) (e : μ p = some m) (r : RepO K F m' o) : Rel K (μ.upd p m') M F (upd H p o) := by
  obtain ⟨h1, o0, h2, h3⟩ := h.own p _ e
  refine ⟨fun a u q => ?_, fun q m1 e1 => ?_, fun q o' e' => ?_⟩
  · have ha : a ≠ p := fun z => by rw [z, h1] at q; cases q
    rw [upd_ne ha]; exact h.sub a u q
  · by_cases hq : q = p
    · subst hq; rw [Mu.upd_same] at e1; cases e1
      exact ⟨h1, o, upd_same, r⟩
    · rw [Mu.upd_ne hq] at e1
      obtain ⟨g1, o', g2, g3⟩ := h.own q m1 e1
      exact ⟨g1, o', by rw [upd_ne hq]; exact g2, g3⟩
  · obtain ⟨g1, g2, g3⟩ := h.frm q o' e'
    have hq : q ≠ p := fun z => by rw [z, e] at g2; cases g2
    exact ⟨g1, by rw [Mu.upd_ne hq]; exact g2, by rw [upd_ne hq]; exact g3⟩
end

/-! ### readings by what runs -/
/-- a wrapped proposition: nothing looks through it unasked -/
structure Bx (p : Prop) : Prop where
  o : p
def rdE (X : Cx) (e : Expr) : TE := fun σ H Q => Bx (∀ (pins : List (Addr × Obj)) (s : Shared), Inv X pins σ H s → wpAny (model X.prog X.w) X.A (eval e X.env) (EP X pins σ Q) X.xe s)
theorem pe_rd {X : Cx} {e : Expr} : PE X e (rdE X e) := ⟨fun pins s _ _ _ I h => h.o pins s I⟩
theorem rd_pe {X : Cx} {e : Expr} {t : TE} (h : PE X e t) {σ : L2.St} {H : Hp} {Q : VK} (q : t σ H Q) : rdE X e σ H Q := ⟨fun pins s I => h.run pins s σ H Q I q⟩
theorem rdE_mono {X : Cx} {e : Expr} {σ : L2.St} {H : Hp} {Q Q' : VK} (h : rdE X e σ H Q) (w : ∀ v H', Q v H' → Q' v H') : rdE X e σ H Q' :=
  ⟨fun pins s I => thn (h.o pins s I) fun _ _ ⟨v, H', I', r, q⟩ => ⟨v, H', I', r, w v H' q⟩⟩
def rdT (X : Cx) (e : Expr) : TT := fun σ H Q => Bx (∀ (pins : List (Addr × Obj)) (s : Shared), Inv X pins σ H s → wpAny (model X.prog X.w) X.A (isTrue e X.env (eval e X.env)) (TP X pins σ Q) X.xe s)
theorem pt_rd {X : Cx} {e : Expr} : PT X e (rdT X e) := ⟨fun pins s _ _ _ I h => h.o pins s I⟩
theorem rd_pt {X : Cx} {e : Expr} {t : TT} (h : PT X e t) {σ : L2.St} {H : Hp} {Q : Bool → Hp → Prop} (q : t σ H Q) : rdT X e σ H Q := ⟨fun pins s I => h.run pins s σ H Q I q⟩
def rdA (X : Cx) (es : List Expr) : TA := fun σ H Q => Bx (∀ (pos : Pos) (pins : List (Addr × Obj)) (s : Shared), Inv X pins σ H s → wpAny (model X.prog X.w) X.A (spliced (backTo pos (starEach es X.env))) (AP X pins σ Q) X.xe s)
theorem pa_rd {X : Cx} {es : List Expr} : PA X es (rdA X es) := ⟨fun pos pins s _ _ _ I h => h.o pos pins s I⟩
theorem rd_pa {X : Cx} {es : List Expr} {t : TA} (h : PA X es t) {σ : L2.St} {H : Hp} {Q : List V → Hp → Prop} (q : t σ H Q) : rdA X es σ H Q := ⟨fun pos pins s I => h.run pos pins s σ H Q I q⟩
def rdS (X : Cx) (st : Stmt) : TS := fun D σ H => Bx (∀ (pins : List (Addr × Obj)) (s : Shared), Inv X pins σ H s → wpAny (model X.prog X.w) X.A (exec st X.env) (SP X pins D) X.xe s)
theorem ps_rd {X : Cx} {st : Stmt} : PS X st (rdS X st) := ⟨fun pins s _ _ _ I h => h.o pins s I⟩
theorem rd_ps {X : Cx} {st : Stmt} {t : TS} (h : PS X st t) {σ : L2.St} {H : Hp} {D : Ends} (q : t D σ H) : rdS X st D σ H := ⟨fun pins s I => h.run pins s σ H D I q⟩
def rdSs (X : Cx) (st : List Stmt) : TS := fun D σ H => Bx (∀ (pins : List (Addr × Obj)) (s : Shared), Inv X pins σ H s → wpAny (model X.prog X.w) X.A (execs st X.env) (SP X pins D) X.xe s)
theorem pss_rd {X : Cx} {st : List Stmt} : PSs X st (rdSs X st) := ⟨fun pins s _ _ _ I h => h.o pins s I⟩
theorem rd_pss {X : Cx} {st : List Stmt} {t : TS} (h : PSs X st t) {σ : L2.St} {H : Hp} {D : Ends} (q : t D σ H) : rdSs X st D σ H := ⟨fun pins s I => h.run pins s σ H D I q⟩
def rdG (X : Cx) (tg : Expr) : TG := fun v σ H Q => Bx (∀ (pins : List (Addr × Obj)) (s : Shared) (u : Value), Inv X pins σ H s → RelV v u →
    wpAny (model X.prog X.w) X.A (assign tg X.env u) (fun _ s' => ∃ σ' H', Inv X pins σ' H' s' ∧ Q σ' H') X.xe s)
theorem pg_rd {X : Cx} {e : Expr} : PG X e (rdG X e) := ⟨fun pins s _ _ _ u _ I r h => h.o pins s u I r⟩
theorem rd_pg {X : Cx} {e : Expr} {t : TG} (h : PG X e t) {v : V} {σ : L2.St} {H : Hp} {Q : L2.St → Hp → Prop} (q : t v σ H Q) : rdG X e v σ H Q := ⟨fun pins s u I r => h.run pins s σ H v u Q I r q⟩
/-- an operator, a call, by values -/
def rdOp (X : Cx) (f : Value → Value → Sem Value) : R2 := fun x y H Q => Bx (∀ (pins : List (Addr × Obj)) (s : Shared) (σ : L2.St) (v u : Value), Inv X pins σ H s → RelV x v → RelV y u → wpAny (model X.prog X.w) X.A (f v u) (EP X pins σ Q) X.xe s)
theorem opr_rd {X : Cx} {f : Value → Value → Sem Value} : OpR X f (rdOp X f) := fun pins s σ H x y v u Q I r1 r2 h => h.o pins s σ v u I r1 r2
theorem rd_opr {X : Cx} {f : Value → Value → Sem Value} {r : R2} (h : OpR X f r) {x y : V} {H : Hp} {Q : VK} (q : r x y H Q) : rdOp X f x y H Q := ⟨fun pins s σ v u I r1 r2 => h pins s σ H x y v u Q I r1 r2 q⟩

/-! ### the judgements -/
/-- what stood at a def's entry: others' things, what stands for good -/
structure Bs where
  M : Hp
  F : Hp
/-- still so -/
structure Bs.ok (B : Bs) (M F : Hp) : Prop where
  m : Ex B.M M
  f : Ex B.F F
theorem Bs.ok.mono {B : Bs} {M F F' : Hp} (h : B.ok M F) (e : Ex F F') : B.ok M F' := ⟨h.m, h.f.trans e⟩
theorem Bs.ok.up {B : Bs} {M M' F : Hp} (h : B.ok M F) (e : Ex M M') : B.ok M' F := ⟨h.m.trans e, h.f⟩
theorem Bs.ok.own (M F : Hp) : Bs.ok ⟨M, F⟩ M F := ⟨.refl _, .refl _⟩
def QE (K : PySem.W.Frag) (M F : Hp) (Q : A → Mu → Prop) : VK := fun v H' => ∃ x F' μ', Ex F F' ∧ Rel K μ' M F' H' ∧ Rep K F' x v ∧ Q x μ'
def wE (B : Bs) (X : Cx) (e : Expr) (Γ : G) (μ : Mu) (Q : A → Mu → Prop) : Prop := ∀ σ M F H, B.ok M F → RelS X.K Γ F σ → Rel X.K μ M F H → rdE X e σ H (QE X.K M F Q)
def QT (K : PySem.W.Frag) (M F : Hp) (Q : Bool → Mu → Prop) : Bool → Hp → Prop := fun b H' => ∃ F' μ', Ex F F' ∧ Rel K μ' M F' H' ∧ Q b μ'
def wT (B : Bs) (X : Cx) (e : Expr) (Γ : G) (μ : Mu) (Q : Bool → Mu → Prop) : Prop := ∀ σ M F H, B.ok M F → RelS X.K Γ F σ → Rel X.K μ M F H → rdT X e σ H (QT X.K M F Q)
def QA (K : PySem.W.Frag) (M F : Hp) (Q : List A → Mu → Prop) : List V → Hp → Prop := fun vs H' => ∃ xs F' μ', Ex F F' ∧ Rel K μ' M F' H' ∧ RepL K F' xs vs ∧ Q xs μ'
def wA (B : Bs) (X : Cx) (es : List Expr) (Γ : G) (μ : Mu) (Q : List A → Mu → Prop) : Prop := ∀ σ M F H, B.ok M F → RelS X.K Γ F σ → Rel X.K μ M F H → rdA X es σ H (QA X.K M F Q)
structure AD where
  nx : G → Mu → Prop
  rt : A → Mu → Prop
  bk : G → Mu → Prop := fun _ _ => False
  ct : G → Mu → Prop := fun _ _ => False
def QS (K : PySem.W.Frag) (M F : Hp) (Q : G → Mu → Prop) : L2.St → Hp → Prop := fun σ' H' => ∃ Γ' F' μ', Ex F F' ∧ RelS K Γ' F' σ' ∧ Rel K μ' M F' H' ∧ Q Γ' μ'
def ends (K : PySem.W.Frag) (M F : Hp) (D : AD) : Ends := { nx := QS K M F D.nx, rt := QE K M F D.rt, bk := QS K M F D.bk, ct := QS K M F D.ct }
def wS (B : Bs) (X : Cx) (st : Stmt) (Γ : G) (μ : Mu) (D : AD) : Prop := ∀ σ M F H, B.ok M F → RelS X.K Γ F σ → Rel X.K μ M F H → rdS X st (ends X.K M F D) σ H
def wSs (B : Bs) (X : Cx) (st : List Stmt) (Γ : G) (μ : Mu) (D : AD) : Prop := ∀ σ M F H, B.ok M F → RelS X.K Γ F σ → Rel X.K μ M F H → rdSs X st (ends X.K M F D) σ H
def wG (B : Bs) (X : Cx) (tg : Expr) (x : A) (Γ : G) (μ : Mu) (Q : G → Mu → Prop) : Prop := ∀ σ M F H v, B.ok M F → RelS X.K Γ F σ → Rel X.K μ M F H → Rep X.K F x v → rdG X tg v σ H (QS X.K M F Q)
/-- operators by values -/
def wO (X : Cx) (f : Value → Value → Sem Value) (x y : A) (μ : Mu) (Q : A → Mu → Prop) : Prop := ∀ M F H v w, Rel X.K μ M F H → Rep X.K F x v → Rep X.K F y w → rdOp X f v w H (QE X.K M F Q)

section
variable {B : Bs} {X : Cx} {Γ : G} {μ : Mu}
theorem QE.mono {K : PySem.W.Frag} {M F F1 : Hp} {Q : A → Mu → Prop} (e : Ex F F1) {v : V} {H : Hp} (h : QE K M F1 Q v H) : QE K M F Q v H :=
  let ⟨x, F', μ', h1, h2⟩ := h; ⟨x, F', μ', e.trans h1, h2⟩
theorem QT.mono {K : PySem.W.Frag} {M F F1 : Hp} {Q : Bool → Mu → Prop} (e : Ex F F1) {v : Bool} {H : Hp} (h : QT K M F1 Q v H) : QT K M F Q v H :=
  let ⟨F', μ', h1, h2⟩ := h; ⟨F', μ', e.trans h1, h2⟩
theorem QA.mono {K : PySem.W.Frag} {M F F1 : Hp} {Q : List A → Mu → Prop} (e : Ex F F1) {v : List V} {H : Hp} (h : QA K M F1 Q v H) : QA K M F Q v H :=
  let ⟨x, F', μ', h1, h2⟩ := h; ⟨x, F', μ', e.trans h1, h2⟩
theorem QS.mono {K : PySem.W.Frag} {M F F1 : Hp} {Q : G → Mu → Prop} (e : Ex F F1) {σ : L2.St} {H : Hp} (h : QS K M F1 Q σ H) : QS K M F Q σ H :=
  let ⟨x, F', μ', h1, h2⟩ := h; ⟨x, F', μ', e.trans h1, h2⟩
/-- what is wanted is weakened -/
theorem rdE.imp {e : Expr} {σ : L2.St} {H : Hp} {Q Q' : VK} (h : rdE X e σ H Q) (w : ∀ v H', Q v H' → Q' v H') : rdE X e σ H Q' := rdE_mono h w
theorem rdS.imp {e : Stmt} {σ : L2.St} {H : Hp} {D D' : Ends} (h : rdS X e D σ H) (w1 : ∀ σ H, D.nx σ H → D'.nx σ H) (w2 : ∀ v H, D.rt v H → D'.rt v H) (w3 : ∀ σ H, D.bk σ H → D'.bk σ H) (w4 : ∀ σ H, D.ct σ H → D'.ct σ H) : rdS X e D' σ H := ⟨fun pins s I => thn (h.o pins s I) fun f s' q => by
  cases f with
  | next => obtain ⟨a, b, c, d⟩ := q; exact ⟨a, b, c, w1 _ _ d⟩
  | brk => obtain ⟨a, b, c, d⟩ := q; exact ⟨a, b, c, w3 _ _ d⟩
  | cont => obtain ⟨a, b, c, d⟩ := q; exact ⟨a, b, c, w4 _ _ d⟩
  | ret u => obtain ⟨v, a, b, c, r, d⟩ := q; exact ⟨v, a, b, c, r, w2 _ _ d⟩⟩
theorem rdSs.imp {e : List Stmt} {σ : L2.St} {H : Hp} {D D' : Ends} (h : rdSs X e D σ H) (w1 : ∀ σ H, D.nx σ H → D'.nx σ H) (w2 : ∀ v H, D.rt v H → D'.rt v H) (w3 : ∀ σ H, D.bk σ H → D'.bk σ H) (w4 : ∀ σ H, D.ct σ H → D'.ct σ H) : rdSs X e D' σ H := ⟨fun pins s I => thn (h.o pins s I) fun f s' q => by
  cases f with
  | next => obtain ⟨a, b, c, d⟩ := q; exact ⟨a, b, c, w1 _ _ d⟩
  | brk => obtain ⟨a, b, c, d⟩ := q; exact ⟨a, b, c, w3 _ _ d⟩
  | cont => obtain ⟨a, b, c, d⟩ := q; exact ⟨a, b, c, w4 _ _ d⟩
  | ret u => obtain ⟨v, a, b, c, r, d⟩ := q; exact ⟨v, a, b, c, r, w2 _ _ d⟩⟩
theorem ends_mono {e : List Stmt} {σ : L2.St} {H M F F1 : Hp} {D : AD} (ex : Ex F F1) (h : rdSs X e (ends X.K M F1 D) σ H) : rdSs X e (ends X.K M F D) σ H :=
  h.imp (fun _ _ q => QS.mono ex q) (fun _ _ q => QE.mono ex q) (fun _ _ q => QS.mono ex q) (fun _ _ q => QS.mono ex q)
theorem ends_mono1 {e : Stmt} {σ : L2.St} {H M F F1 : Hp} {D : AD} (ex : Ex F F1) (h : rdS X e (ends X.K M F1 D) σ H) : rdS X e (ends X.K M F D) σ H :=
  h.imp (fun _ _ q => QS.mono ex q) (fun _ _ q => QE.mono ex q) (fun _ _ q => QS.mono ex q) (fun _ _ q => QS.mono ex q)
/-- the end of a pure step -/
theorem QE.pure {K : PySem.W.Frag} {M F H : Hp} {Q : A → Mu → Prop} {x : A} {v : V} (r : Rel K μ M F H) (h : Rep K F x v) (q : Q x μ) : QE K M F Q v H := ⟨x, F, μ, .refl _, r, h, q⟩
end
end D

set_option exponentiation.threshold 256
set_option pp.maxSteps 5000
set_option Elab.async false
set_option linter.all false
set_option maxRecDepth 100000
set_option maxHeartbeats 4000000
/-! D2: the rules over data: expressions, tests, arguments, statements. -/
namespace D
open PySem PySem.Spec PyProof.Rows L2

/-- a call, a method's call, a subscript by values -/
def rdC (X : Cx) (f : Value) : List V → Hp → VK → Prop := fun xs H Q => Bx (∀ (pins : List (Addr × Obj)) (s : Shared) (σ : L2.St) (us : List Value), Inv X pins σ H s → Vals xs us → wpAny (model X.prog X.w) X.A (call f us) (EP X pins σ Q) X.xe s)
def wC (X : Cx) (f : Value) (xs : List A) (μ : Mu) (Q : A → Mu → Prop) : Prop := ∀ M F H vs, Rel X.K μ M F H → RepL X.K F xs vs → rdC X f vs H (QE X.K M F Q)

section
variable {B : Bs} {X : Cx} {Γ : G} {μ : Mu} {Q : A → Mu → Prop} {a b c e : Expr} {es : List Expr} {pos : Pos}

/-! ### weakening -/
theorem wE.imp {Q' : A → Mu → Prop} (h : wE B X e Γ μ Q) (w : ∀ x μ', Q x μ' → Q' x μ') : wE B X e Γ μ Q' := fun σ M F H bo rs r =>
  (h σ M F H bo rs r).imp fun v H' ⟨x, F', μ', h1, h2, h3, h4⟩ => ⟨x, F', μ', h1, h2, h3, w _ _ h4⟩
/-- a value that is a list of ours stands for good -/
theorem wE_frz (h : wE B X e Γ μ fun x μ' => ∃ p xs, x = .loc p ∧ μ' p = some (.lst xs) ∧ Q (.lst xs) (μ'.del p)) : wE B X e Γ μ Q := fun σ M F H bo rs r =>
  (h σ M F H bo rs r).imp fun v H' ⟨x, F', μ', h1, h2, h3, p, xs, h4, h5, h6⟩ => by
    subst h4
    rw [rep_loc] at h3
    obtain ⟨F2, e2, r2, q2⟩ := h2.freeze h5
    exact ⟨_, F2, _, h1.trans e2, r2, by rw [h3]; exact q2, h6⟩
/-- less is known of what may change -/
theorem wE_weak {μ' : Mu} (w : ∀ p m, μ' p = some m → μ p = some m) (h : wE B X e Γ μ' Q) : wE B X e Γ μ Q := fun σ M F H bo rs r => h σ M F H bo rs (r.weak w)
theorem wE_of {t : TE} (h : PE X e t) (q : ∀ σ M F H, B.ok M F → RelS X.K Γ F σ → Rel X.K μ M F H → t σ H (QE X.K M F Q)) : wE B X e Γ μ Q := fun σ M F H bo rs r => rd_pe h (q σ M F H bo rs r)

/-! names, and what is written out -/
theorem wE_name (i : Nat) {x : Str} {y : A} (hi : Γ[i]? = some (some y) := by rfl) (q : Q y μ) (hN : X.N[i]? = some x := by rfl)
    (hv : Vis X.env.scope x := by first | exact Or.inl rfl | exact Or.inr (Or.inl rfl) | exact Or.inr (Or.inr rfl)) (hd : (x == ("__debug__" : Str)) = false := by decide) (hcd : (x == ("__classdict__" : Str)) = false := by decide) :
    wE B X (.Name x pos) Γ μ Q := wE_of (pe_var hN hv hd hcd) fun σ M F H bo rs r => by
  obtain ⟨v, h1, h2⟩ := rs.at_ i y hi
  exact ⟨v, h1, .pure r h2 q⟩
theorem wE_int {i : Int} {j} (q : Q (.int i) μ) : wE B X (.Constant (.int i) j pos) Γ μ Q := wE_of pe_int fun σ M F H bo rs r => .pure r (rep_int.mpr rfl) q
theorem wE_bl {i : Bool} {j} (q : Q (.bl i) μ) : wE B X (.Constant (.bool i) j pos) Γ μ Q := wE_of pe_bl fun σ M F H bo rs r => .pure r (rep_bl.mpr rfl) q
theorem wE_non {j} (q : Q .non μ) : wE B X (.Constant .none j pos) Γ μ Q := wE_of pe_non fun σ M F H bo rs r => .pure r (rep_non.mpr rfl) q
theorem wE_str {x : Str} {j} (q : Q (.str x) μ) : wE B X (.Constant (.str x) j pos) Γ μ Q := wE_of pe_str fun σ M F H bo rs r => .pure r (rep_str.mpr rfl) q
/-- what the module's name holds, for good -/
structure Kn (K : PySem.W.Frag) (mg : Str → Option Value) (x : Str) (y : A) : Prop where
  ex : ∃ v u, mg x = some u ∧ RelV v u ∧ ∀ F, Rep K F y v
theorem wE_glob {x : Str} {y : A} (k : Kn X.K X.mg x y) (q : Q y μ) (hg : Gl X x := by rfl) (hd : (x == ("__debug__" : Str)) = false := by decide) : wE B X (.Name x pos) Γ μ Q := by
  obtain ⟨v, u, h1, h2, h3⟩ := k.ex
  exact wE_of (pe_glob hg h1 h2 hd) fun σ M F H bo rs r => .pure r (h3 F) q
/-- a built-in class as a value -/
theorem wE_type {x : Str} {n : String} (hm : X.mg x = none) (hv : bootBuiltins x = some (.type n)) (q : Q (.ty n) μ) (hg : Gl X x := by rfl) (hn : x ≠ "__name__" := by decide) (hd : (x == ("__debug__" : Str)) = false := by decide) : wE B X (.Name x pos) Γ μ Q :=
  wE_of (pe_bltn (v := .ty n) hg hm hv rfl hn hd) fun σ M F H bo rs r => .pure r (rep_ty.mpr rfl) q

/-! ### operators -/
theorem wO_of {f : Value → Value → Sem Value} {r : R2} {x y : A} (h : OpR X f r) (q : ∀ M F H v w, Rel X.K μ M F H → Rep X.K F x v → Rep X.K F y w → r v w H (QE X.K M F Q)) : wO X f x y μ Q :=
  fun M F H v w rl r1 r2 => rd_opr h (q M F H v w rl r1 r2)
theorem wE_bin {op : Operator} (h : wE B X a Γ μ fun x μ1 => wE B X b Γ μ1 fun y μ2 => wO X (binaryOp op) x y μ2 Q) : wE B X (.BinOp a op b pos) Γ μ Q := wE_of (pe_op opr_rd pe_rd pe_rd) fun σ M F H bo rs r => by
  refine (h σ M F H bo rs r).imp fun v H1 ⟨x, F1, μ1, e1, r1, p1, q1⟩ => ?_
  refine (q1 σ M F1 H1 (bo.mono e1) (rs.mono e1) r1).imp fun w H2 ⟨y, F2, μ2, e2, r2, p2, q2⟩ => ?_
  exact ⟨fun pins s σ' v' u' I hv hw => thn ((q2 M F2 H2 v w r2 (p1.mono e2) p2).o pins s σ' v' u' I hv hw) fun _ _ ⟨z, H3, I3, r3, q3⟩ => ⟨z, H3, I3, r3, q3.mono (e1.trans e2)⟩⟩
theorem wE_cmp {op : CmpOp} (h : wE B X a Γ μ fun x μ1 => wE B X b Γ μ1 fun y μ2 => wO X (compareOp op) x y μ2 Q) (hm : behindInMarks op b = false := by first | exact nomark _ | rfl) : wE B X (.Compare a [op] [b] pos) Γ μ Q := wE_of (pe_cmpR opr_rd pe_rd pe_rd hm) fun σ M F H bo rs r => by
  refine (h σ M F H bo rs r).imp fun v H1 ⟨x, F1, μ1, e1, r1, p1, q1⟩ => ?_
  refine (q1 σ M F1 H1 (bo.mono e1) (rs.mono e1) r1).imp fun w H2 ⟨y, F2, μ2, e2, r2, p2, q2⟩ => ?_
  exact ⟨fun pins s σ' v' u' I hv hw => thn ((q2 M F2 H2 v w r2 (p1.mono e2) p2).o pins s σ' v' u' I hv hw) fun _ _ ⟨z, H3, I3, r3, q3⟩ => ⟨z, H3, I3, r3, q3.mono (e1.trans e2)⟩⟩
theorem wE_un {op : UnaryOp} {r : V → Hp → VK → Prop} (ho : UnR X (unaryOp op) r) (h : wE B X a Γ μ fun x μ1 => ∀ M F H v, Rel X.K μ1 M F H → Rep X.K F x v → r v H (QE X.K M F Q))
    (mono : ∀ v H Q Q', (∀ z H', Q z H' → Q' z H') → r v H Q → r v H Q') : wE B X (.UnaryOp op a pos) Γ μ Q := wE_of (pe_un ho pe_rd) fun σ M F H bo rs r => by
  refine (h σ M F H bo rs r).imp fun v H1 ⟨x, F1, μ1, e1, r1, p1, q1⟩ => ?_
  exact mono _ _ _ _ (fun _ _ q => q.mono e1) (q1 M F1 H1 v r1 p1)
theorem wE_neg (h : wE B X a Γ μ fun x μ1 => ∃ i, x = .int i ∧ Q (.int (-i)) μ1) : wE B X (.UnaryOp .USub a pos) Γ μ Q :=
  wE_un un_neg (h.imp fun x μ1 ⟨i, e, q⟩ M F H v rl rp => by
    subst e; rw [rep_int] at rp
    exact ⟨i, rp, .pure rl (rep_int.mpr rfl) q⟩) fun v H Q Q' w ⟨i, e, q⟩ => ⟨i, e, w _ _ q⟩
/-- not a, as a value -/
theorem wE_not (h : wE B X a Γ μ fun x μ1 => ∃ k, x = .bl k ∧ Q (.bl (!k)) μ1) : wE B X (.UnaryOp .Not a pos) Γ μ Q := wE_of (pe_not pe_rd) fun σ M F H bo rs r => by
  refine (h σ M F H bo rs r).imp fun v H1 ⟨x, F1, μ1, e1, r1, p1, k, ek, q1⟩ => ?_
  subst ek; rw [rep_bl] at p1
  exact ⟨k, p1, _, F1, μ1, e1, r1, rep_bl.mpr rfl, q1⟩
theorem wE_one {op} (h : wE B X a Γ μ Q) : wE B X (.BoolOp op [a] pos) Γ μ Q := wE_of (pe_one pe_rd) fun σ M F H bo rs r => h σ M F H bo rs r
theorem wE_and (h : wE B X a Γ μ fun x μ1 => ∃ k, x = .bl k ∧ (k = true → wE B X (.BoolOp .And (b :: es) pos) Γ μ1 Q) ∧ (k = false → Q (.bl false) μ1)) : wE B X (.BoolOp .And (a :: b :: es) pos) Γ μ Q := wE_of (pe_and pe_rd pe_rd) fun σ M F H bo rs r => by
  refine (h σ M F H bo rs r).imp fun v H1 ⟨x, F1, μ1, e1, r1, p1, k, ek, q1, q2⟩ => ?_
  subst ek; rw [rep_bl] at p1
  refine ⟨k, p1, ?_⟩
  cases k with
  | true => exact iteT ((q1 rfl σ M F1 H1 (bo.mono e1) (rs.mono e1) r1).imp fun _ _ q => q.mono e1)
  | false => exact iteF ⟨_, F1, μ1, e1, r1, rep_bl.mpr rfl, q2 rfl⟩
theorem wE_or (h : wE B X a Γ μ fun x μ1 => ∃ k, x = .bl k ∧ (k = true → Q (.bl true) μ1) ∧ (k = false → wE B X (.BoolOp .Or (b :: es) pos) Γ μ1 Q)) : wE B X (.BoolOp .Or (a :: b :: es) pos) Γ μ Q := wE_of (pe_or pe_rd pe_rd) fun σ M F H bo rs r => by
  refine (h σ M F H bo rs r).imp fun v H1 ⟨x, F1, μ1, e1, r1, p1, k, ek, q1, q2⟩ => ?_
  subst ek; rw [rep_bl] at p1
  refine ⟨k, p1, ?_⟩
  cases k with
  | true => exact iteT ⟨_, F1, μ1, e1, r1, rep_bl.mpr rfl, q1 rfl⟩
  | false => exact iteF ((q2 rfl σ M F1 H1 (bo.mono e1) (rs.mono e1) r1).imp fun _ _ q => q.mono e1)

/-! ### tests -/
theorem rdT.imp {σ : L2.St} {H : Hp} {Q Q' : Bool → Hp → Prop} (h : rdT X e σ H Q) (w : ∀ v H', Q v H' → Q' v H') : rdT X e σ H Q' :=
  ⟨fun pins s I => thn (h.o pins s I) fun _ _ ⟨H', I', q⟩ => ⟨H', I', w _ _ q⟩⟩
variable {QB : Bool → Mu → Prop}
theorem wT.imp {Q' : Bool → Mu → Prop} (h : wT B X e Γ μ QB) (w : ∀ x μ', QB x μ' → Q' x μ') : wT B X e Γ μ Q' := fun σ M F H bo rs r =>
  (h σ M F H bo rs r).imp fun v H' ⟨F', μ', h1, h2, h4⟩ => ⟨F', μ', h1, h2, w _ _ h4⟩
theorem wT_of {t : TT} (h : PT X e t) (q : ∀ σ M F H, B.ok M F → RelS X.K Γ F σ → Rel X.K μ M F H → t σ H (QT X.K M F QB)) : wT B X e Γ μ QB := fun σ M F H bo rs r => rd_pt h (q σ M F H bo rs r)
theorem wT_val (h : wE B X e Γ μ fun x μ1 => ∃ k, x = .bl k ∧ QB k μ1) (he : ∀ whole, isTrue e X.env whole = (do let v ← whole; standAt e.pos; holding [v] (truthy v)) := by intro _; rfl) : wT B X e Γ μ QB := wT_of (pt_val pe_rd he) fun σ M F H bo rs r => by
  refine (h σ M F H bo rs r).imp fun v H1 ⟨x, F1, μ1, e1, r1, p1, k, ek, q1⟩ => ?_
  subst ek; rw [rep_bl] at p1
  exact ⟨k, p1, F1, μ1, e1, r1, q1⟩
theorem wT_cmp {op : CmpOp} (h : wE B X a Γ μ fun x μ1 => wE B X b Γ μ1 fun y μ2 => wO X (compareOp op) x y μ2 fun z μ3 => ∃ k, z = .bl k ∧ QB k μ3) (hm : behindInMarks op b = false := by first | exact nomark _ | rfl) : wT B X (.Compare a [op] [b] pos) Γ μ QB := wT_of (pt_cmpR opr_rd pe_rd pe_rd hm) fun σ M F H bo rs r => by
  refine (h σ M F H bo rs r).imp fun v H1 ⟨x, F1, μ1, e1, r1, p1, q1⟩ => ?_
  refine (q1 σ M F1 H1 (bo.mono e1) (rs.mono e1) r1).imp fun w H2 ⟨y, F2, μ2, e2, r2, p2, q2⟩ => ?_
  exact ⟨fun pins s σ' v' u' I hv hw => thn ((q2 M F2 H2 v w r2 (p1.mono e2) p2).o pins s σ' v' u' I hv hw) fun _ _ ⟨z, H3, I3, r3, x3, F3, μ3, e3, rl3, p3, k, ek, q3⟩ => by
    subst ek; rw [rep_bl] at p3
    exact ⟨z, H3, I3, r3, k, p3, F3, μ3, (e1.trans e2).trans e3, rl3, q3⟩⟩
theorem wT_not (h : wT B X a Γ μ fun k μ1 => QB (!k) μ1) : wT B X (.UnaryOp .Not a pos) Γ μ QB := wT_of (pt_not pt_rd) fun σ M F H bo rs r =>
  (h σ M F H bo rs r).imp fun k H1 ⟨F1, μ1, e1, r1, q1⟩ => ⟨F1, μ1, e1, r1, q1⟩
/-- a test in a chain of and, or -/
def rdW (X : Cx) (e : Expr) : TT := fun σ H Q => Bx (∀ (whole : Sem Value) (pins : List (Addr × Obj)) (s : Shared), Inv X pins σ H s → wpAny (model X.prog X.w) X.A (isTrue e X.env whole) (TP X pins σ Q) X.xe s)
theorem pw_rd : PW X e (rdW X e) := ⟨fun wh pins s _ _ _ I h => h.o wh pins s I⟩
theorem rd_pw {t : TT} (h : PW X e t) {σ : L2.St} {H : Hp} {Q : Bool → Hp → Prop} (q : t σ H Q) : rdW X e σ H Q := ⟨fun wh pins s I => h.run wh pins s σ H Q I q⟩
theorem rdW.imp {σ : L2.St} {H : Hp} {Q Q' : Bool → Hp → Prop} (h : rdW X e σ H Q) (w : ∀ v H', Q v H' → Q' v H') : rdW X e σ H Q' :=
  ⟨fun wh pins s I => thn (h.o wh pins s I) fun _ _ ⟨H', I', q⟩ => ⟨H', I', w _ _ q⟩⟩
def wW (B : Bs) (X : Cx) (e : Expr) (Γ : G) (μ : Mu) (Q : Bool → Mu → Prop) : Prop := ∀ σ M F H, B.ok M F → RelS X.K Γ F σ → Rel X.K μ M F H → rdW X e σ H (QT X.K M F Q)
theorem wT_chain (h : wW B X e Γ μ QB) : wT B X e Γ μ QB := wT_of (PW.pt pw_rd) h
theorem wW_and1 (h : wT B X a Γ μ QB) : wW B X (.BoolOp .And [a] pos) Γ μ QB := fun σ M F H bo rs r => rd_pw (pw_and1 pt_rd) (h σ M F H bo rs r)
theorem wW_or1 (h : wT B X a Γ μ QB) : wW B X (.BoolOp .Or [a] pos) Γ μ QB := fun σ M F H bo rs r => rd_pw (pw_or1 pt_rd) (h σ M F H bo rs r)
theorem wW_and (h : wT B X a Γ μ fun k μ1 => (k = true → wW B X (.BoolOp .And (b :: es) pos) Γ μ1 QB) ∧ (k = false → QB false μ1)) : wW B X (.BoolOp .And (a :: b :: es) pos) Γ μ QB := fun σ M F H bo rs r => rd_pw (pw_and pt_rd pw_rd) (by
  refine (h σ M F H bo rs r).imp fun k H1 ⟨F1, μ1, e1, r1, q1, q2⟩ => ?_
  cases k with
  | true => exact iteT ((q1 rfl σ M F1 H1 (bo.mono e1) (rs.mono e1) r1).imp fun _ _ q => q.mono e1)
  | false => exact iteF ⟨F1, μ1, e1, r1, q2 rfl⟩)
theorem wW_or (h : wT B X a Γ μ fun k μ1 => (k = true → QB true μ1) ∧ (k = false → wW B X (.BoolOp .Or (b :: es) pos) Γ μ1 QB)) : wW B X (.BoolOp .Or (a :: b :: es) pos) Γ μ QB := fun σ M F H bo rs r => rd_pw (pw_or pt_rd pw_rd) (by
  refine (h σ M F H bo rs r).imp fun k H1 ⟨F1, μ1, e1, r1, q1, q2⟩ => ?_
  cases k with
  | true => exact iteT ⟨F1, μ1, e1, r1, q1 rfl⟩
  | false => exact iteF ((q2 rfl σ M F1 H1 (bo.mono e1) (rs.mono e1) r1).imp fun _ _ q => q.mono e1))
/-- a if t else b -/
theorem wE_if (h : wT B X c Γ μ fun k μ1 => (k = true → wE B X a Γ μ1 Q) ∧ (k = false → wE B X b Γ μ1 Q)) : wE B X (.IfExp c a b pos) Γ μ Q := wE_of (pe_ifExp pt_rd pe_rd pe_rd) fun σ M F H bo rs r => by
  refine (h σ M F H bo rs r).imp fun k H1 ⟨F1, μ1, e1, r1, q1, q2⟩ => ?_
  cases k with
  | true => exact iteT ((q1 rfl σ M F1 H1 (bo.mono e1) (rs.mono e1) r1).imp fun _ _ q => q.mono e1)
  | false => exact iteF ((q2 rfl σ M F1 H1 (bo.mono e1) (rs.mono e1) r1).imp fun _ _ q => q.mono e1)

/-! ### argument lists, displays -/
theorem rdA.imp {σ : L2.St} {H : Hp} {Q Q' : List V → Hp → Prop} (h : rdA X es σ H Q) (w : ∀ v H', Q v H' → Q' v H') : rdA X es σ H Q' :=
  ⟨fun pos pins s I => thn (h.o pos pins s I) fun _ _ ⟨v, H', I', r, q⟩ => ⟨v, H', I', r, w v H' q⟩⟩
variable {QL : List A → Mu → Prop}
theorem wA_nil (q : QL [] μ) : wA B X [] Γ μ QL := fun σ M F H bo rs r => rd_pa pa_nil ⟨[], F, μ, .refl _, r, .nil, q⟩
theorem wA_cons (h : wE B X e Γ μ fun x μ1 => wA B X es Γ μ1 fun xs μ2 => QL (x :: xs) μ2) (hs : starEach (e :: es) X.env = (false, eval e X.env) :: starEach es X.env := by rfl) : wA B X (e :: es) Γ μ QL := fun σ M F H bo rs r => rd_pa (pa_cons pe_rd pa_rd hs) (by
  refine (h σ M F H bo rs r).imp fun v H1 ⟨x, F1, μ1, e1, r1, p1, q1⟩ => ?_
  refine (q1 σ M F1 H1 (bo.mono e1) (rs.mono e1) r1).imp fun vs H2 ⟨xs, F2, μ2, e2, r2, p2, q2⟩ => ?_
  exact ⟨x :: xs, F2, μ2, e1.trans e2, r2, .cons (p1.mono e2) p2, q2⟩)
theorem wE_tup {k : Nat} (h : wA B X es Γ μ fun xs μ1 => xs.length ≤ sizeLine ∧ Q (.tup xs) μ1) : wE B X (.Tuple es k pos) Γ μ Q := wE_of (pe_tup pa_rd) fun σ M F H bo rs r => by
  refine (h σ M F H bo rs r).imp fun vs H1 ⟨xs, F1, μ1, e1, r1, p1, z, q1⟩ => ⟨by rw [p1.len]; exact z, fun p np => ?_⟩
  obtain ⟨ex, rl⟩ := r1.newF (o := .tup vs) np
  exact ⟨_, _, μ1, e1.trans ex, rl, rep_tup.mpr ⟨p, vs, rfl, .inl (.inl upd_same), p1.mono ex⟩, q1⟩
/-- a list that is ours -/
theorem wE_lst (h : wA B X es Γ μ fun xs μ1 => xs.length ≤ sizeLine ∧ ∀ p, μ1 p = none → Q (.loc p) (μ1.upd p (.lst xs))) : wE B X (.List es pos) Γ μ Q := wE_of (pe_lst pa_rd) fun σ M F H bo rs r => by
  refine (h σ M F H bo rs r).imp fun vs H1 ⟨xs, F1, μ1, e1, r1, p1, z, q1⟩ => ⟨by rw [p1.len]; exact z, fun p np => ?_⟩
  obtain ⟨nμ, rl⟩ := r1.new (m := .lst xs) (o := .lst vs) np ⟨vs, rfl, p1⟩
  exact ⟨_, _, _, e1, rl, rep_loc.mpr rfl, q1 p nμ⟩
/-- a list that stands for good -/
theorem wE_lstF (h : wA B X es Γ μ fun xs μ1 => xs.length ≤ sizeLine ∧ Q (.lst xs) μ1) : wE B X (.List es pos) Γ μ Q := wE_of (pe_lst pa_rd) fun σ M F H bo rs r => by
  refine (h σ M F H bo rs r).imp fun vs H1 ⟨xs, F1, μ1, e1, r1, p1, z, q1⟩ => ⟨by rw [p1.len]; exact z, fun p np => ?_⟩
  obtain ⟨ex, rl⟩ := r1.newF (o := .lst vs) np
  exact ⟨_, _, μ1, e1.trans ex, rl, rep_lst.mpr ⟨p, vs, rfl, upd_same, p1.mono ex⟩, q1⟩

/-! ### subscripts, slices -/
def rdIx (X : Cx) : R2 := fun x y H Q => Bx (∀ (value slice : Expr) (pins : List (Addr × Obj)) (s : Shared) (σ : L2.St) (v u : Value), Inv X pins σ H s → RelV x v → RelV y u → subscripted slice false v u = operate [v, u] (getItem v u) → wpAny (model X.prog X.w) X.A (subscriptTail value slice v u) (EP X pins σ Q) X.xe s)
theorem ixr_rd : IxR X (rdIx X) := fun value slice pins s σ H x y v u Q I r1 r2 h hs => h.o value slice pins s σ v u I r1 r2 hs
theorem rd_ixr {r : R2} (h : IxR X r) {x y : V} {H : Hp} {Q : VK} (q : r x y H Q) : rdIx X x y H Q := ⟨fun value slice pins s σ v u I r1 r2 hs => h value slice pins s σ H x y v u Q I r1 r2 q hs⟩
def wI (X : Cx) (x y : A) (μ : Mu) (Q : A → Mu → Prop) : Prop := ∀ M F H v w, Rel X.K μ M F H → Rep X.K F x v → Rep X.K F y w → rdIx X v w H (QE X.K M F Q)
theorem wE_ix (h : wE B X a Γ μ fun x μ1 => wE B X b Γ μ1 fun y μ2 => wI X x y μ2 Q) (hs : PlainIx b := by exact fun _ _ => rfl) : wE B X (.Subscript a b pos) Γ μ Q := wE_of (pe_ix ixr_rd pe_rd pe_rd hs) fun σ M F H bo rs r => by
  refine (h σ M F H bo rs r).imp fun v H1 ⟨x, F1, μ1, e1, r1, p1, q1⟩ => ?_
  refine (q1 σ M F1 H1 (bo.mono e1) (rs.mono e1) r1).imp fun w H2 ⟨y, F2, μ2, e2, r2, p2, q2⟩ => ?_
  exact ⟨fun value slice pins s σ' v' u' I hv hw hs => thn ((q2 M F2 H2 v w r2 (p1.mono e2) p2).o value slice pins s σ' v' u' I hv hw hs) fun _ _ ⟨z, H3, I3, r3, q3⟩ => ⟨z, H3, I3, r3, q3.mono (e1.trans e2)⟩⟩
theorem atI_rep {K : PySem.W.Frag} {F : Hp} {xs : List A} {vs : List V} {i : Int} {y : A} (h : RepL K F xs vs) (e : atI xs i = some y) : ∃ v, atI vs i = some v ∧ Rep K F y v := by
  unfold atI at e ⊢
  rw [h.len]
  cases q : ixN xs.length i with
  | none => simp [q] at e
  | some j => rw [q] at e; exact h.get e
theorem wI_tup {xs : List A} {i : Int} {y : A} (e : atI xs i = some y) (q : Q y μ) : wI X (.tup xs) (.int i) μ Q := fun M F H v w rl r1 r2 => rd_ixr ix_tup (by
  rw [rep_tup] at r1; rw [rep_int] at r2
  obtain ⟨p, vs, rfl, h1, h2⟩ := r1
  obtain ⟨z, e1, e2⟩ := atI_rep h2 e
  exact ⟨p, vs, i, z, rfl, r2, rl.sub.t h1, e1, .pure rl e2 q⟩)
theorem wI_lst {xs : List A} {i : Int} {y : A} (e : atI xs i = some y) (q : Q y μ) : wI X (.lst xs) (.int i) μ Q := fun M F H v w rl r1 r2 => rd_ixr ix_list (by
  rw [rep_lst] at r1; rw [rep_int] at r2
  obtain ⟨p, vs, rfl, h1, h2⟩ := r1
  obtain ⟨z, e1, e2⟩ := atI_rep h2 e
  exact ⟨p, vs, i, z, rfl, r2, .inl (.inl (rl.sub _ _ h1)), e1, .pure rl e2 q⟩)
theorem wI_fls {xs : List A} {i : Int} {y : A} (e : atI xs i = some y) (q : Q y μ) : wI X (.fls xs) (.int i) μ Q := fun M F H v w rl r1 r2 => rd_ixr ix_list (by
  rw [rep_fls] at r1; rw [rep_int] at r2
  obtain ⟨p, vs, rfl, h1, h2⟩ := r1
  obtain ⟨z, e1, e2⟩ := atI_rep h2 e
  exact ⟨p, vs, i, z, rfl, r2, rl.sub.l h1, e1, .pure rl e2 q⟩)
theorem wI_loc {p : Addr} {xs : List A} {i : Int} {y : A} (hp : μ p = some (.lst xs)) (e : atI xs i = some y) (q : Q y μ) : wI X (.loc p) (.int i) μ Q := fun M F H v w rl r1 r2 => rd_ixr ix_list (by
  rw [rep_loc] at r1; rw [rep_int] at r2
  obtain ⟨_, o, h1, vs, rfl, h2⟩ := rl.own p _ hp
  obtain ⟨z, e1, e2⟩ := atI_rep h2 e
  exact ⟨p, vs, i, z, r1, r2, .inl (.inl h1), e1, .pure rl e2 q⟩)
theorem wI_str {x : Str} {i : Int} {ch : Nat} (hz : x.length ≤ sizeLine) (e : atI x.cps.toList i = some ch) (q : Q (.str ⟨#[ch]⟩) μ) : wI X (.str x) (.int i) μ Q := fun M F H v w rl r1 r2 => rd_ixr ix_str (by
  rw [rep_str] at r1; rw [rep_int] at r2
  exact ⟨x, i, ch, r1, r2, hz, e, .pure rl (rep_str.mpr rfl) q⟩)

def wP (B : Bs) (X : Cx) (e : Option Expr) (Γ : G) (μ : Mu) (Q : Option Int → Mu → Prop) : Prop := match e with
  | none => Q none μ
  | some e => wE B X e Γ μ fun x μ1 => ∃ i, x = .int i ∧ Q (some i) μ1
def cutA (xs : List A) (lo hi : Option Int) : List A := (xs.drop (HT.sIx xs.length 0 lo)).take (HT.sIx xs.length xs.length hi - HT.sIx xs.length 0 lo)
theorem cut_rep {K : PySem.W.Frag} {F : Hp} {xs : List A} {vs : List V} {lo hi : Option Int} (h : RepL K F xs vs) : RepL K F (cutA xs lo hi) (cutV vs lo hi) := by
  unfold cutA cutV; rw [h.len]; exact (h.drop _).take _
def rdSl (X : Cx) : V → Option Int → Option Int → Hp → VK → Prop := fun x lo hi H Q => Bx (∀ (pins : List (Addr × Obj)) (s : Shared) (σ : L2.St) (v vl vu : Value) (sl : Addr), Inv X pins σ H s → RelV x v → s.heap.IsSliceOf sl vl vu .none → IsPart vl lo → IsPart vu hi →
    ∃ T id, typeLookup (.type T) "__getitem__" = pure (some (.builtin id)) ∧ s.TypeIs v T ∧ wpAny (model X.prog X.w) X.A (getItem v (.ref sl)) (EP X pins σ Q) X.xe s)
theorem slr_rd : SlR X (rdSl X) := fun pins s σ H x v vl vu lo hi sl Q I rx hs pl pu h => h.o pins s σ v vl vu sl I rx hs pl pu
theorem rd_slr {r : V → Option Int → Option Int → Hp → VK → Prop} (h : SlR X r) {x : V} {lo hi : Option Int} {H : Hp} {Q : VK} (q : r x lo hi H Q) : rdSl X x lo hi H Q := ⟨fun pins s σ v vl vu sl I rx hs pl pu => h pins s σ H x v vl vu lo hi sl Q I rx hs pl pu q⟩
def wSl (X : Cx) (x : A) (lo hi : Option Int) (μ : Mu) (Q : A → Mu → Prop) : Prop := ∀ M F H v, Rel X.K μ M F H → Rep X.K F x v → rdSl X v lo hi H (QE X.K M F Q)
def toP (X : Cx) (e : Option Expr) : TO := match e with
  | none => tNoPart
  | some e => tPart (rdE X e)
theorem po_rd : ∀ {e : Option Expr}, PO X e (toP X e)
  | none => po_none
  | some _ => po_some pe_rd
theorem toP_of {o : Option Expr} {Q0 : Option Int → Mu → Prop} (h : wP B X o Γ μ Q0) {σ : L2.St} {M F H : Hp} {R : Option Int → Hp → Prop} (bo : B.ok M F) (rs : RelS X.K Γ F σ) (r : Rel X.K μ M F H)
    (w : ∀ i F' μ' H', Ex F F' → Rel X.K μ' M F' H' → Q0 i μ' → R i H') : toP X o σ H R := by
  cases o with
  | none => exact w none F μ H (.refl _) r h
  | some e =>
    refine (show wE B X e Γ μ _ from h) σ M F H bo rs r |>.imp fun v H' ⟨x, F', μ', e1, r1, p1, i, ei, q1⟩ => ?_
    subst ei; rw [rep_int] at p1
    exact ⟨i, p1, w _ F' μ' H' e1 r1 q1⟩
theorem wE_slice {lo hi : Option Expr} {p2 : Pos} (h : wE B X a Γ μ fun x μ1 => wP B X lo Γ μ1 fun l μ2 => wP B X hi Γ μ2 fun u μ3 => wSl X x l u μ3 Q) : wE B X (.Subscript a (.Slice lo hi none p2) pos) Γ μ Q := wE_of (pe_slice slr_rd pe_rd po_rd po_rd) fun σ M F H bo rs r => by
  refine (h σ M F H bo rs r).imp fun v H1 ⟨x, F1, μ1, e1, r1, p1, q1⟩ => ?_
  refine toP_of q1 (bo.mono e1) (rs.mono e1) r1 fun l F2 μ2 H2 e2 r2 q2 => ?_
  refine toP_of q2 (bo.mono (e1.trans e2)) (rs.mono (e1.trans e2)) r2 fun u F3 μ3 H3 e3 r3 q3 => ?_
  refine ⟨fun pins s σ' v' vl vu sl I rx hs pl pu => ?_⟩
  obtain ⟨T, id, h1, h2, h3⟩ := (q3 M F3 H3 v r3 (p1.mono (e2.trans e3))).o pins s σ' v' vl vu sl I rx hs pl pu
  exact ⟨T, id, h1, h2, thn h3 fun _ _ ⟨z, H4, I4, r4, q4⟩ => ⟨z, H4, I4, r4, q4.mono ((e1.trans e2).trans e3)⟩⟩
theorem wSl_lst {xs : List A} {lo hi : Option Int} (q : ∀ p, μ p = none → Q (.loc p) (μ.upd p (.lst (cutA xs lo hi)))) : wSl X (.lst xs) lo hi μ Q := fun M F H v rl r1 => rd_slr sl_list (by
  rw [rep_lst] at r1
  obtain ⟨a, vs, rfl, h1, h2⟩ := r1
  refine ⟨a, vs, rfl, .inl (.inl (rl.sub _ _ h1)), fun p np => ?_⟩
  obtain ⟨nμ, rl'⟩ := rl.new (m := .lst (cutA xs lo hi)) np ⟨_, rfl, cut_rep h2⟩
  exact ⟨_, _, _, .refl _, rl', rep_loc.mpr rfl, q p nμ⟩)
theorem wSl_lstF {xs : List A} {lo hi : Option Int} (q : Q (.lst (cutA xs lo hi)) μ) : wSl X (.lst xs) lo hi μ Q := fun M F H v rl r1 => rd_slr sl_list (by
  rw [rep_lst] at r1
  obtain ⟨a, vs, rfl, h1, h2⟩ := r1
  refine ⟨a, vs, rfl, .inl (.inl (rl.sub _ _ h1)), fun p np => ?_⟩
  obtain ⟨ex, rl'⟩ := rl.newF (o := .lst (cutV vs lo hi)) np
  exact ⟨_, _, _, ex, rl', rep_lst.mpr ⟨p, _, rfl, upd_same, (cut_rep h2).mono ex⟩, q⟩)
theorem wSl_locF {p0 : Addr} {xs : List A} {lo hi : Option Int} (hp : μ p0 = some (.lst xs)) (q : Q (.lst (cutA xs lo hi)) μ) : wSl X (.loc p0) lo hi μ Q := fun M F H v rl r1 => rd_slr sl_list (by
  rw [rep_loc] at r1
  obtain ⟨_, o, h1, vs, rfl, h2⟩ := rl.own p0 _ hp
  refine ⟨p0, vs, r1, .inl (.inl h1), fun p np => ?_⟩
  obtain ⟨ex, rl'⟩ := rl.newF (o := .lst (cutV vs lo hi)) np
  exact ⟨_, _, _, ex, rl', rep_lst.mpr ⟨p, _, rfl, upd_same, (cut_rep h2).mono ex⟩, q⟩)
theorem wSl_str {x : Str} {lo hi : Option Int} (hz : x.length ≤ sizeLine) (q : Q (.str (cutS x lo hi)) μ) : wSl X (.str x) lo hi μ Q := fun M F H v rl r1 => rd_slr sl_str (by
  rw [rep_str] at r1
  exact ⟨x, r1, hz, .pure rl (rep_str.mpr rfl) q⟩)
end
end D

set_option exponentiation.threshold 256
set_option pp.maxSteps 5000
set_option Elab.async false
set_option linter.all false
set_option maxRecDepth 100000
set_option maxHeartbeats 4000000
/-! D3: operators, calls of built-ins, methods, by data; statements, loops, comprehensions; a def's promise over data. -/
namespace D
open PySem PySem.Spec PyProof.Rows L2

section
variable {B : Bs} {X : Cx} {Γ : G} {μ : Mu} {Q : A → Mu → Prop} {a b c e : Expr} {es : List Expr} {pos : Pos}

/-! ### whole numbers -/
theorem op_mulG : OpR X (binaryOp .Mult) (rI IntMulOk fun i j => .int (i * j)) := opI fun _ _ _ _ _ _ _ hc q => mul_int q hc
def DivOk (i j : Int) : Prop := j ≠ 0 ∧ Builtin.divisionGoesByPylong i j = false
theorem op_fdivG : OpR X (binaryOp .FloorDiv) (rI DivOk fun i j => .int (i.fdiv j)) := opI fun _ _ _ _ _ _ _ hc q => floordiv_int hc.1 q (.inl hc.2)
theorem wO_I {f : Value → Value → Sem Value} {C : Int → Int → Prop} {g : Int → Int → Int} (h : OpR X f (rI C fun i j => .int (g i j))) {i j : Int} (hc : C i j) (q : Q (.int (g i j)) μ) : wO X f (.int i) (.int j) μ Q :=
  wO_of h fun M F H v w rl r1 r2 => ⟨i, j, rep_int.mp r1, rep_int.mp r2, hc, .pure rl (rep_int.mpr rfl) q⟩
theorem wO_I0 {f : Value → Value → Sem Value} {g : Int → Int → Int} (h : OpR X f (rI0 fun i j => .int (g i j))) {i j : Int} (q : Q (.int (g i j)) μ) : wO X f (.int i) (.int j) μ Q :=
  wO_of h fun M F H v w rl r1 r2 => ⟨i, j, rep_int.mp r1, rep_int.mp r2, .pure rl (rep_int.mpr rfl) q⟩
theorem wO_B0 {f : Value → Value → Sem Value} {g : Int → Int → Bool} (h : OpR X f (rI0 fun i j => .bl (g i j))) {i j : Int} (q : Q (.bl (g i j)) μ) : wO X f (.int i) (.int j) μ Q :=
  wO_of h fun M F H v w rl r1 r2 => ⟨i, j, rep_int.mp r1, rep_int.mp r2, .pure rl (rep_bl.mpr rfl) q⟩
theorem wO_add {i j : Int} (q : Q (.int (i + j)) μ) : wO X (binaryOp .Add) (.int i) (.int j) μ Q := wO_I0 op_add q
theorem wO_sub {i j : Int} (q : Q (.int (i - j)) μ) : wO X (binaryOp .Sub) (.int i) (.int j) μ Q := wO_I0 op_sub q
theorem wO_mul {i j : Int} (hc : IntMulOk i j) (q : Q (.int (i * j)) μ) : wO X (binaryOp .Mult) (.int i) (.int j) μ Q := wO_I op_mulG hc q
/-- one factor below 2 ^ 64 -/
theorem mulR {i j : Int} (h1 : -(2 ^ 64) < j) (h2 : j < 2 ^ 64) : IntMulOk i j := .of_right (intBits_le_64 h1 h2)
theorem mulL {i j : Int} (h1 : -(2 ^ 64) < i) (h2 : i < 2 ^ 64) : IntMulOk i j := .of_left (intBits_le_64 h1 h2)
theorem wO_fdiv {i j : Int} (h0 : 0 < j) (hc : Builtin.divisionGoesByPylong i j = false) (q : Q (.int (i / j)) μ) : wO X (binaryOp .FloorDiv) (.int i) (.int j) μ Q :=
  wO_I op_fdivG ⟨by omega, hc⟩ (by rw [Int.fdiv_eq_ediv_of_nonneg i (by omega)]; exact q)
theorem wO_fdivN {i j : Int} (h0 : j ≠ 0) (hc : Builtin.divisionGoesByPylong i j = false) (q : Q (.int (i.fdiv j)) μ) : wO X (binaryOp .FloorDiv) (.int i) (.int j) μ Q := wO_I op_fdivG ⟨h0, hc⟩ q
theorem divS {i j : Int} (h : j.natAbs < 1073741824) : Builtin.divisionGoesByPylong i j = false := PyProof.noPylong_small h
theorem wO_mod {i j : Int} (h0 : 0 < j) (q : Q (.int (i % j)) μ) : wO X (binaryOp .Mod) (.int i) (.int j) μ Q := wO_I (C := fun _ j => 0 < j) op_mod h0 q
theorem wO_pow {i j : Int} (hc : 0 ≤ j ∧ j ≤ 1000000 ∧ i.natAbs < 2 ^ 64) (q : Q (.int (i ^ j.toNat)) μ) : wO X (binaryOp .Pow) (.int i) (.int j) μ Q := wO_I op_pow hc q
theorem wO_lt {i j : Int} (q : Q (.bl (decide (i < j))) μ) : wO X (compareOp .Lt) (.int i) (.int j) μ Q := wO_B0 (g := fun i j => decide (i < j)) op_lt q
theorem wO_le {i j : Int} (q : Q (.bl (decide (i ≤ j))) μ) : wO X (compareOp .LtE) (.int i) (.int j) μ Q := wO_B0 (g := fun i j => decide (i ≤ j)) op_le q
theorem wO_gt {i j : Int} (q : Q (.bl (decide (j < i))) μ) : wO X (compareOp .Gt) (.int i) (.int j) μ Q := wO_B0 (g := fun i j => decide (j < i)) op_gt q
theorem wO_ge {i j : Int} (q : Q (.bl (decide (j ≤ i))) μ) : wO X (compareOp .GtE) (.int i) (.int j) μ Q := wO_B0 (g := fun i j => decide (j ≤ i)) op_ge q

/-! ### == of data -/
mutual
def toD : A → PyData
  | .non => .none
  | .bl b => .bool b
  | .int i => .int i
  | .str x => .str x
  | .ty _ => .none
  | .loc _ => .none
  | .tup xs => .tuple (toDs xs)
  | .lst xs => .list (toDs xs)
  | .fls xs => .list (toDs xs)
def toDs : List A → List PyData
  | [] => []
  | x :: xs => toD x :: toDs xs
end
mutual
def isD : A → Bool
  | .non | .bl _ | .int _ => true
  | .str x => PyData.strOk x
  | .ty _ => false
  | .loc _ => false
  | .tup xs => isDs xs
  | .lst xs => isDs xs
  | .fls xs => isDs xs
def isDs : List A → Bool
  | [] => true
  | x :: xs => isD x && isDs xs
end
section
variable {K : PySem.W.Frag} {H : Hp}
mutual
theorem dp_of : ∀ {x : A} {v : V}, isD x = true → Rep K H x v → Dp K H v (toD x)
  | .non, _, _, h => by rw [rep_non] at h; subst h; exact .non
  | .bl b, _, _, h => by rw [rep_bl] at h; subst h; exact .bl b
  | .int i, _, _, h => by rw [rep_int] at h; subst h; exact .int i
  | .str x, _, _, h => by rw [rep_str] at h; subst h; exact .str x
  | .ty _, _, h, _ => by simp [isD] at h
  | .loc _, _, h, _ => by simp [isD] at h
  | .tup xs, _, hd, h => by
    rw [rep_tup] at h; obtain ⟨a, vs, rfl, h1, h2⟩ := h
    simp only [toD]
    exact .tup h1 (dps_of (by simpa [isD] using hd) h2)
  | .lst xs, _, hd, h => by
    rw [rep_lst] at h; obtain ⟨a, vs, rfl, h1, h2⟩ := h
    simp only [toD]
    exact .lst (.inl (.inl h1)) (dps_of (by simpa [isD] using hd) h2)
  | .fls xs, _, hd, h => by
    rw [rep_fls] at h; obtain ⟨a, vs, rfl, h1, h2⟩ := h
    simp only [toD]
    exact .lst h1 (dps_of (by simpa [isD] using hd) h2)
theorem dps_of : ∀ {xs : List A} {vs : List V}, isDs xs = true → RepL K H xs vs → DpAll K H vs (toDs xs)
  | [], _, _, h => by simp only [RepL] at h; subst h; exact .nil
  | x :: xs, _, hd, h => by
    simp only [RepL] at h
    obtain ⟨v, r, rfl, h1, h2⟩ := h
    simp only [isDs, Bool.and_eq_true] at hd
    simp only [toDs]
    exact .cons (dp_of hd.1 h1) (dps_of hd.2 h2)
end
end
mutual
theorem canLay_of : ∀ x : A, isD x = true → (toD x).canLay0 = true
  | .non, _ => by simp only [toD, PyData.canLay0]
  | .bl _, _ => by simp only [toD, PyData.canLay0]
  | .int _, _ => by simp only [toD, PyData.canLay0]
  | .str x, h => by simpa only [toD, PyData.canLay0, isD] using h
  | .ty _, h => by simp [isD] at h
  | .loc _, h => by simp [isD] at h
  | .tup xs, h => by simp only [toD, PyData.canLay0]; exact canLays_of xs (by simpa [isD] using h)
  | .lst xs, h => by simp only [toD, PyData.canLay0]; exact canLays_of xs (by simpa [isD] using h)
  | .fls xs, h => by simp only [toD, PyData.canLay0]; exact canLays_of xs (by simpa [isD] using h)
theorem canLays_of : ∀ xs : List A, isDs xs = true → PyData.canLayAll0 (toDs xs) = true
  | [], _ => by simp only [toDs, PyData.canLayAll0]
  | x :: xs, h => by
    simp only [isDs, Bool.and_eq_true] at h
    simp only [toDs, PyData.canLayAll0, canLay_of x h.1, canLays_of xs h.2, Bool.and_self]
end
theorem toDs_map {α : Type} (f : α → A) : ∀ l : List α, toDs (l.map f) = l.map fun a => toD (f a)
  | [] => rfl
  | a :: l => by simp only [List.map_cons, toDs, toDs_map f l]
theorem toDs_eq : ∀ l : List A, toDs l = l.map toD
  | [] => rfl
  | a :: l => by simp only [List.map_cons, toDs, toDs_eq l]
theorem isDs_map {α : Type} {f : α → A} (h : ∀ a, isD (f a) = true) : ∀ l : List α, isDs (l.map f) = true
  | [] => rfl
  | a :: l => by simp only [List.map_cons, isDs, h a, isDs_map h l, Bool.and_self]
theorem isDs_all {l : List A} (h : ∀ a ∈ l, isD a = true) : isDs l = true := by
  induction l with
  | nil => rfl
  | cons a l ih => simp only [isDs, h a List.mem_cons_self, ih fun b hb => h b (List.mem_cons_of_mem _ hb), Bool.and_self]
theorem isDs_mem {l : List A} (h : isDs l = true) : ∀ a ∈ l, isD a = true := by
  induction l with
  | nil => simp
  | cons a l ih =>
    simp only [isDs, Bool.and_eq_true] at h
    exact List.forall_mem_cons.mpr ⟨h.1, ih h.2⟩
/-! depths -/
mutual
def deep : A → Nat
  | .tup xs => deeps xs + 1
  | .lst xs => deeps xs + 1
  | .fls xs => deeps xs + 1
  | _ => 0
def deeps : List A → Nat
  | [] => 0
  | x :: xs => max (deep x) (deeps xs)
end
mutual
theorem depth_of : ∀ x : A, (toD x).depth ≤ deep x
  | .non => by simp [toD, PyData.depth]
  | .bl _ => by simp [toD, PyData.depth]
  | .int _ => by simp [toD, PyData.depth]
  | .str _ => by simp [toD, PyData.depth]
  | .ty _ => by simp [toD, PyData.depth]
  | .loc _ => by simp [toD, PyData.depth]
  | .tup xs => by simp only [toD, PyData.depth, deep]; have := depths_of xs; omega
  | .lst xs => by simp only [toD, PyData.depth, deep]; have := depths_of xs; omega
  | .fls xs => by simp only [toD, PyData.depth, deep]; have := depths_of xs; omega
theorem depths_of : ∀ xs : List A, PyData.depthAll (toDs xs) ≤ deeps xs
  | [] => by simp [toDs, PyData.depthAll]
  | x :: xs => by simp only [toDs, PyData.depthAll, deeps]; have := depth_of x; have := depths_of xs; omega
end
theorem deeps_le {l : List A} {n : Nat} (h : ∀ a ∈ l, deep a ≤ n) : deeps l ≤ n := by
  induction l with
  | nil => exact Nat.zero_le _
  | cons a l ih =>
    have h1 := h a List.mem_cons_self
    have h2 := ih fun b hb => h b (List.mem_cons_of_mem _ hb)
    simp only [deeps]; omega
/-- data that is compared, shown -/
def DatOk (x : A) : Prop := isD x = true ∧ deep x ≤ 60
theorem DatOk.shaped {x : A} (h : DatOk x) : SeqAt.shaped (toD x) = true := by
  unfold SeqAt.shaped
  rw [canLay_of x h.1]
  have := depth_of x
  have h2 := h.2
  simp only [Bool.true_and, decide_eq_true_eq]
  omega
theorem wO_eqD {x y : A} (hu : X.A.units + 64 < cLine) (hx : DatOk x) (hy : DatOk y) (q : Q (.bl (PyData.eqv (toD x) (toD y))) μ) : wO X (compareOp .Eq) x y μ Q :=
  wO_of (op_eqD hu) fun M F H v w rl r1 r2 => ⟨_, _, dp_of hx.1 (r1.mono rl.sub), dp_of hy.1 (r2.mono rl.sub), hx.shaped, hy.shaped, .pure rl (rep_bl.mpr rfl) q⟩
theorem wO_neD {x y : A} (hu : X.A.units + 64 < cLine) (hx : DatOk x) (hy : DatOk y) (q : Q (.bl (!PyData.eqv (toD x) (toD y))) μ) : wO X (compareOp .NotEq) x y μ Q :=
  wO_of (op_neD hu) fun M F H v w rl r1 r2 => ⟨_, _, dp_of hx.1 (r1.mono rl.sub), dp_of hy.1 (r2.mono rl.sub), hx.shaped, hy.shaped, .pure rl (rep_bl.mpr rfl) q⟩
/-- == of ints, of texts -/
theorem wO_eqI {i j : Int} (q : Q (.bl (decide (i = j))) μ) : wO X (compareOp .Eq) (.int i) (.int j) μ Q :=
  wO_of op_eq fun M F H v w rl r1 r2 => by
    rw [rep_int] at r1 r2; subst r1; subst r2
    exact ⟨rfl, .pure rl (rep_bl.mpr (by simp)) q⟩
theorem wO_neI {i j : Int} (q : Q (.bl (!decide (i = j))) μ) : wO X (compareOp .NotEq) (.int i) (.int j) μ Q :=
  wO_of op_ne fun M F H v w rl r1 r2 => by
    rw [rep_int] at r1 r2; subst r1; subst r2
    exact ⟨rfl, .pure rl (rep_bl.mpr (by simp)) q⟩
theorem wO_eqS {i j : Str} (q : Q (.bl (decide (i = j))) μ) : wO X (compareOp .Eq) (.str i) (.str j) μ Q :=
  wO_of op_eq fun M F H v w rl r1 r2 => by
    rw [rep_str] at r1 r2; subst r1; subst r2
    exact ⟨rfl, .pure rl (rep_bl.mpr (by simp)) q⟩
theorem wO_neS {i j : Str} (q : Q (.bl (!decide (i = j))) μ) : wO X (compareOp .NotEq) (.str i) (.str j) μ Q :=
  wO_of op_ne fun M F H v w rl r1 r2 => by
    rw [rep_str] at r1 r2; subst r1; subst r2
    exact ⟨rfl, .pure rl (rep_bl.mpr (by simp)) q⟩
/-- is None -/
def isNon : A → Bool
  | .non => true
  | _ => false
theorem isNon_rep {K : PySem.W.Frag} {F : Hp} {x : A} {v : V} (h : Rep K F x v) : decide (v = .non) = isNon x := by
  cases x with
  | non => rw [rep_non] at h; subst h; rfl
  | bl b => rw [rep_bl] at h; subst h; rfl
  | int i => rw [rep_int] at h; subst h; rfl
  | str i => rw [rep_str] at h; subst h; rfl
  | ty i => rw [rep_ty] at h; subst h; rfl
  | loc i => rw [rep_loc] at h; subst h; rfl
  | tup i => rw [rep_tup] at h; obtain ⟨_, _, rfl, _⟩ := h; rfl
  | lst i => rw [rep_lst] at h; obtain ⟨_, _, rfl, _⟩ := h; rfl
  | fls i => rw [rep_fls] at h; obtain ⟨_, _, rfl, _⟩ := h; rfl
theorem wO_isN {x : A} (q : Q (.bl (isNon x)) μ) : wO X (compareOp .Is) x .non μ Q :=
  wO_of op_isN fun M F H v w rl r1 r2 => ⟨rep_non.mp r2, .pure rl (rep_bl.mpr (by rw [isNon_rep r1])) q⟩
theorem wO_notN {x : A} (q : Q (.bl (!isNon x)) μ) : wO X (compareOp .IsNot) x .non μ Q :=
  wO_of op_notN fun M F H v w rl r1 r2 => ⟨rep_non.mp r2, .pure rl (rep_bl.mpr (by rw [isNon_rep r1])) q⟩
theorem wO_isB {i j : Bool} (q : Q (.bl (decide (i = j))) μ) : wO X (compareOp .Is) (.bl i) (.bl j) μ Q :=
  wO_of op_isBl fun M F H v w rl r1 r2 => ⟨i, j, rep_bl.mp r1, rep_bl.mp r2, .pure rl (rep_bl.mpr rfl) q⟩
theorem wO_notB {i j : Bool} (q : Q (.bl (!decide (i = j))) μ) : wO X (compareOp .IsNot) (.bl i) (.bl j) μ Q :=
  wO_of op_notBl fun M F H v w rl r1 r2 => ⟨i, j, rep_bl.mp r1, rep_bl.mp r2, .pure rl (rep_bl.mpr rfl) q⟩
/-! ### sequences -/
theorem wO_addS {x y : Str} (hz : x.length + y.length ≤ sizeLine) (q : Q (.str (x ++ y)) μ) : wO X (binaryOp .Add) (.str x) (.str y) μ Q :=
  wO_of op_add_str fun M F H v w rl r1 r2 => ⟨x, y, rep_str.mp r1, rep_str.mp r2, hz, .pure rl (rep_str.mpr rfl) q⟩
theorem wO_catT {xs ys : List A} (hz : xs.length + ys.length ≤ sizeLine) (q : Q (.tup (xs ++ ys)) μ) : wO X (binaryOp .Add) (.tup xs) (.tup ys) μ Q :=
  wO_of op_catA fun M F H v w rl r1 r2 => by
    rw [rep_tup] at r1 r2
    obtain ⟨a, vs, rfl, h1, h2⟩ := r1
    obtain ⟨b, ws, rfl, g1, g2⟩ := r2
    refine ⟨a, b, vs, ws, rfl, rfl, rl.sub.t h1, rl.sub.t g1, by rw [h2.len, g2.len]; exact hz, fun e => ?_, fun _ e => ?_, fun _ _ p np => ?_⟩
    · have e1 : xs = [] := by have := h2.len; rw [e] at this; exact List.length_eq_zero_iff.mp this.symm
      subst e1
      exact .pure rl (rep_tup.mpr ⟨b, ws, rfl, g1, by simpa using g2⟩) q
    · have e1 : ys = [] := by have := g2.len; rw [e] at this; exact List.length_eq_zero_iff.mp this.symm
      subst e1
      exact .pure rl (rep_tup.mpr ⟨a, vs, rfl, h1, by simpa using h2⟩) q
    · obtain ⟨ex, rl'⟩ := rl.newF (o := .tup (vs ++ ws)) np
      exact ⟨_, _, μ, ex, rl', rep_tup.mpr ⟨p, _, rfl, .inl (.inl upd_same), (h2.append g2).mono ex⟩, q⟩
/-- what a list reads as -/
inductive IsL (μ : Mu) : A → List A → Prop
  | lst (xs) : IsL μ (.lst xs) xs
  | loc {p xs} (h : μ p = some (.lst xs)) : IsL μ (.loc p) xs
theorem IsL.rep {K : PySem.W.Frag} {M F H : Hp} {x : A} {xs : List A} {v : V} (h : IsL μ x xs) (rl : Rel K μ M F H) (r : Rep K F x v) : ∃ p vs, v = .ref p ∧ H p = some (.lst vs) ∧ RepL K F xs vs := by
  cases h with
  | lst => rw [rep_lst] at r; obtain ⟨a, vs, h1, h2, h3⟩ := r; exact ⟨a, vs, h1, rl.sub _ _ h2, h3⟩
  | loc h => rw [rep_loc] at r; obtain ⟨_, o, h1, vs, rfl, h2⟩ := rl.own _ _ h; exact ⟨_, vs, r, h1, h2⟩
theorem wO_cat {x y : A} {xs ys : List A} (hx : IsL μ x xs) (hy : IsL μ y ys) (hz : xs.length + ys.length ≤ sizeLine) (q : ∀ p, μ p = none → Q (.loc p) (μ.upd p (.lst (xs ++ ys)))) : wO X (binaryOp .Add) x y μ Q :=
  wO_of op_cat fun M F H v w rl r1 r2 => by
    obtain ⟨a, vs, e1, h1, h2⟩ := hx.rep rl r1
    obtain ⟨b, ws, e2, g1, g2⟩ := hy.rep rl r2
    refine ⟨a, b, vs, ws, e1, e2, h1, g1, by rw [h2.len, g2.len]; exact hz, fun p np => ?_⟩
    obtain ⟨nμ, rl'⟩ := rl.new (m := .lst (xs ++ ys)) np ⟨_, rfl, h2.append g2⟩
    exact ⟨_, _, _, .refl _, rl', rep_loc.mpr rfl, q p nμ⟩
theorem wO_catF {x y : A} {xs ys : List A} (hx : IsL μ x xs) (hy : IsL μ y ys) (hz : xs.length + ys.length ≤ sizeLine) (q : Q (.lst (xs ++ ys)) μ) : wO X (binaryOp .Add) x y μ Q :=
  wO_of op_cat fun M F H v w rl r1 r2 => by
    obtain ⟨a, vs, e1, h1, h2⟩ := hx.rep rl r1
    obtain ⟨b, ws, e2, g1, g2⟩ := hy.rep rl r2
    refine ⟨a, b, vs, ws, e1, e2, h1, g1, by rw [h2.len, g2.len]; exact hz, fun p np => ?_⟩
    obtain ⟨ex, rl'⟩ := rl.newF (o := .lst (vs ++ ws)) np
    exact ⟨_, _, _, ex, rl', rep_lst.mpr ⟨p, _, rfl, upd_same, (h2.append g2).mono ex⟩, q⟩
theorem rep_flat {K : PySem.W.Frag} {F : Hp} {xs : List A} {vs : List V} (h : RepL K F xs vs) : ∀ n : Nat, RepL K F (List.replicate n xs).flatten (List.replicate n vs).flatten
  | 0 => .nil
  | n + 1 => by rw [List.replicate_succ, List.replicate_succ, List.flatten_cons, List.flatten_cons]; exact h.append (rep_flat h n)
theorem wO_repF {x : A} {xs : List A} {k : Int} (hx : IsL μ x xs) (h1 : -(2 ^ 63) ≤ k) (h2 : k < 2 ^ 63) (hz : xs.length * k.toNat ≤ sizeLine) (q : Q (.lst (List.replicate k.toNat xs).flatten) μ) : wO X (binaryOp .Mult) x (.int k) μ Q :=
  wO_of op_rep fun M F H v w rl r1 r2 => by
    obtain ⟨a, vs, e1, g1, g2⟩ := hx.rep rl r1
    refine ⟨a, k, vs, e1, rep_int.mp r2, g1, h1, h2, by rw [g2.len]; exact hz, fun p np => ?_⟩
    obtain ⟨ex, rl'⟩ := rl.newF (o := .lst (List.replicate k.toNat vs).flatten) np
    exact ⟨_, _, _, ex, rl', rep_lst.mpr ⟨p, _, rfl, upd_same, (rep_flat g2 _).mono ex⟩, q⟩
theorem wSl_tup {xs : List A} {lo hi : Option Int} (q : Q (.tup (cutA xs lo hi)) μ) : wSl X (.tup xs) lo hi μ Q := fun M F H v rl r1 => rd_slr sl_tupA (by
  rw [rep_tup] at r1
  obtain ⟨a, vs, rfl, h1, h2⟩ := r1
  refine ⟨a, vs, rfl, rl.sub.t h1, fun e => ?_, fun _ p np => ?_⟩
  · refine .pure rl (rep_tup.mpr ⟨a, vs, rfl, h1, ?_⟩) q
    have e2 : cutA xs lo hi = xs := by
      unfold cutA
      rw [h2.len] at e
      rw [e.1, e.2]; simp
    rw [e2]; exact h2
  · obtain ⟨ex, rl'⟩ := rl.newF (o := .tup (cutV vs lo hi)) np
    exact ⟨_, _, _, ex, rl', rep_tup.mpr ⟨p, _, rfl, .inl (.inl upd_same), (cut_rep h2).mono ex⟩, q⟩)
/-! x in a list, x in a tuple -/
def flatA : A → Bool
  | .non | .bl _ | .int _ | .str _ => true
  | .ty _ | .loc _ | .tup _ | .lst _ | .fls _ => false
/-- a bool as a number -/
def numB (b : Bool) : Int := if b then 1 else 0
def isNon0 : A → Bool
  | .non => true
  | _ => false
def eqA : A → A → Bool
  | .str x, .str y => x == y
  | .int i, .int j => i == j
  | .bl s, .bl t => s == t
  | .bl s, .int j => numB s == j
  | .int i, .bl t => i == numB t
  | .non, y => isNon0 y
  | _, _ => false
def inA (x : A) (xs : List A) : Bool := xs.any fun y => eqA y x
theorem flat_rep {K : PySem.W.Frag} {F : Hp} {x : A} {v : V} (h : Rep K F x v) (f : flatA x = true) : flatV v = true := by
  cases x <;> simp [flatA] at f <;> simp only [Rep] at h <;> subst h <;> rfl
theorem eq_rep {K : PySem.W.Frag} {F : Hp} {x y : A} {v w : V} (h : Rep K F x v) (g : Rep K F y w) (f : flatA x = true) (f' : flatA y = true) : eqV v w = eqA x y := by
  cases x <;> simp [flatA] at f <;> cases y <;> simp [flatA] at f' <;> simp only [Rep] at h g <;> subst h <;> subst g <;> rfl
theorem flats_rep {K : PySem.W.Frag} {F : Hp} : ∀ {xs : List A} {vs : List V}, RepL K F xs vs → xs.all flatA = true → vs.all flatV = true
  | [], _, h, _ => by simp only [RepL] at h; subst h; rfl
  | x :: xs, _, h, f => by
    simp only [RepL] at h; obtain ⟨v, r, rfl, h1, h2⟩ := h
    rw [List.all_cons, Bool.and_eq_true] at f ⊢
    exact ⟨flat_rep h1 f.1, flats_rep h2 f.2⟩
theorem in_rep {K : PySem.W.Frag} {F : Hp} {y : A} {w : V} (g : Rep K F y w) (f' : flatA y = true) : ∀ {xs : List A} {vs : List V}, RepL K F xs vs → xs.all flatA = true → inV w vs = inA y xs
  | [], _, h, _ => by simp only [RepL] at h; subst h; rfl
  | x :: xs, _, h, f => by
    simp only [RepL] at h; obtain ⟨v, r, rfl, h1, h2⟩ := h
    obtain ⟨f1, f2⟩ := Bool.and_eq_true_iff.mp (List.all_cons ▸ f)
    have ih := in_rep g f' h2 f2
    unfold inV inA at ih ⊢
    rw [List.any_cons, List.any_cons, eq_rep h1 g f1 f', ih]
inductive IsQ (μ : Mu) : A → List A → Prop
  | lst (xs) : IsQ μ (.lst xs) xs
  | fls (xs) : IsQ μ (.fls xs) xs
  | tup (xs) : IsQ μ (.tup xs) xs
  | loc {p xs} (h : μ p = some (.lst xs)) : IsQ μ (.loc p) xs
theorem IsQ.rep {K : PySem.W.Frag} {M F H : Hp} {x : A} {xs : List A} {v : V} (h : IsQ μ x xs) (rl : Rel K μ M F H) (r : Rep K F x v) : ∃ p vs, v = .ref p ∧ (SqL K H p vs ∨ SqT K H p vs) ∧ RepL K F xs vs := by
  cases h with
  | lst => rw [rep_lst] at r; obtain ⟨a, vs, h1, h2, h3⟩ := r; exact ⟨a, vs, h1, .inl (.inl (.inl (rl.sub _ _ h2))), h3⟩
  | fls => rw [rep_fls] at r; obtain ⟨a, vs, h1, h2, h3⟩ := r; exact ⟨a, vs, h1, .inl (rl.sub.l h2), h3⟩
  | tup => rw [rep_tup] at r; obtain ⟨a, vs, h1, h2, h3⟩ := r; exact ⟨a, vs, h1, .inr (rl.sub.t h2), h3⟩
  | loc h => rw [rep_loc] at r; obtain ⟨_, o, h1, vs, rfl, h2⟩ := rl.own _ _ h; exact ⟨_, vs, r, .inl (.inl (.inl h1)), h2⟩
theorem wO_in {x y : A} {xs : List A} (hy : IsQ μ y xs) (hx : flatA x = true) (hs : xs.all flatA = true) (q : Q (.bl (inA x xs)) μ) : wO X (compareOp .In) x y μ Q :=
  wO_of op_in_seq fun M F H v w rl r1 r2 => by
    obtain ⟨p, vs, e, h1, h2⟩ := hy.rep rl r2
    refine ⟨p, vs, e, h1, flat_rep r1 hx, flats_rep h2 hs, .pure rl (rep_bl.mpr ?_) q⟩
    rw [in_rep r1 hx h2 hs]; simp
theorem wO_notIn {x y : A} {xs : List A} (hy : IsQ μ y xs) (hx : flatA x = true) (hs : xs.all flatA = true) (q : Q (.bl (!inA x xs)) μ) : wO X (compareOp .NotIn) x y μ Q :=
  wO_of op_notIn_seq fun M F H v w rl r1 r2 => by
    obtain ⟨p, vs, e, h1, h2⟩ := hy.rep rl r2
    refine ⟨p, vs, e, h1, flat_rep r1 hx, flats_rep h2 hs, .pure rl (rep_bl.mpr ?_) q⟩
    rw [in_rep r1 hx h2 hs]; simp
theorem wO_inSign {ch : Nat} {z : Str} (q : Q (.bl (decide (ch ∈ z.cps.toList))) μ) : wO X (compareOp .In) (.str ⟨#[ch]⟩) (.str z) μ Q :=
  wO_of op_in_sign fun M F H v w rl r1 r2 => ⟨ch, z, rep_str.mp r1, rep_str.mp r2, .pure rl (rep_bl.mpr rfl) q⟩

/-! ### calls of built-ins -/
theorem wC_of {f : Value} {r : List V → Hp → VK → Prop} {xs : List A} (h : CallR X f r) (q : ∀ M F H vs, Rel X.K μ M F H → RepL X.K F xs vs → r vs H (QE X.K M F Q)) : wC X f xs μ Q :=
  fun M F H vs rl r1 => ⟨fun pins s σ us I rv => h pins s σ H vs us _ I rv (q M F H vs rl r1)⟩
theorem callr_rd {f : Value} : CallR X f (rdC X f) := fun pins s σ H xs us Q I r h => h.o pins s σ us I r
theorem wE_callB {x : Str} {p : Pos} {id : String} (hm : X.mg x = none) (hv : bootBuiltins x = some (.builtin id)) (h : wA B X (e :: es) Γ μ fun xs μ1 => wC X (.builtin id) xs μ1 Q) (hg : Gl X x := by rfl) (hn : x ≠ "__name__" := by decide) (hdb : (x == ("__debug__" : Str)) = false := by decide)
    (he : starEach (e :: es) X.env = (false, eval e X.env) :: starEach es X.env := by rfl) (hpl : (backTo pos (starEach es X.env)).any (·.1) = false := by rfl) : wE B X (.Call (.Name x p) (e :: es) [] pos) Γ μ Q := wE_of (pe_callB callr_rd hg hm hv pa_rd hn hdb he hpl) fun σ M F H bo rs r => by
  refine (h σ M F H bo rs r).imp fun vs H1 ⟨xs, F1, μ1, e1, r1, p1, q1⟩ => ?_
  exact ⟨fun pins s σ' us I rv => thn ((q1 M F1 H1 vs r1 p1).o pins s σ' us I rv) fun _ _ ⟨z, H3, I3, r3, q3⟩ => ⟨z, H3, I3, r3, q3.mono e1⟩⟩
theorem wE_callTy {x : Str} {p : Pos} {T : String} (hm : X.mg x = none) (hv : bootBuiltins x = some (.type T)) (h : wA B X (e :: es) Γ μ fun xs μ1 => wC X (.type T) xs μ1 Q) (hg : Gl X x := by rfl) (hn : x ≠ "__name__" := by decide) (hdb : (x == ("__debug__" : Str)) = false := by decide)
    (he : starEach (e :: es) X.env = (false, eval e X.env) :: starEach es X.env := by rfl) (hpl : (backTo pos (starEach es X.env)).any (·.1) = false := by rfl) : wE B X (.Call (.Name x p) (e :: es) [] pos) Γ μ Q := wE_of (pe_callTy callr_rd hg hm hv pa_rd hn hdb he hpl) fun σ M F H bo rs r => by
  refine (h σ M F H bo rs r).imp fun vs H1 ⟨xs, F1, μ1, e1, r1, p1, q1⟩ => ?_
  exact ⟨fun pins s σ' us I rv => thn ((q1 M F1 H1 vs r1 p1).o pins s σ' us I rv) fun _ _ ⟨z, H3, I3, r3, q3⟩ => ⟨z, H3, I3, r3, q3.mono e1⟩⟩
theorem RepL.one {K : PySem.W.Frag} {F : Hp} {x : A} {vs : List V} (h : RepL K F [x] vs) : ∃ v, vs = [v] ∧ Rep K F x v := by
  simp only [RepL] at h; obtain ⟨v, r, rfl, h1, rfl⟩ := h; exact ⟨v, rfl, h1⟩
theorem RepL.two {K : PySem.W.Frag} {F : Hp} {x y : A} {vs : List V} (h : RepL K F [x, y] vs) : ∃ v w, vs = [v, w] ∧ Rep K F x v ∧ Rep K F y w := by
  simp only [RepL] at h; obtain ⟨v, r, rfl, h1, w, r', rfl, h2, rfl⟩ := h; exact ⟨v, w, rfl, h1, h2⟩
theorem wC_abs {i : Int} (q : Q (.int (if i < 0 then -i else i)) μ) : wC X (.builtin "abs") [.int i] μ Q := wC_of call_abs fun M F H vs rl r => by
  obtain ⟨v, rfl, h⟩ := r.one; rw [rep_int] at h; subst h
  exact ⟨i, rfl, .pure rl (rep_int.mpr rfl) q⟩
theorem wC_max2 {i j : Int} (hc : X.calm = true) (q : Q (.int (if j > i then j else i)) μ) : wC X (.builtin "max") [.int i, .int j] μ Q := wC_of (call_max2 hc) fun M F H vs rl r => by
  obtain ⟨v, w, rfl, h, h'⟩ := r.two; rw [rep_int] at h h'; subst h; subst h'
  exact ⟨i, j, rfl, .pure rl (rep_int.mpr rfl) q⟩
theorem wC_min2 {i j : Int} (hc : X.calm = true) (q : Q (.int (if j < i then j else i)) μ) : wC X (.builtin "min") [.int i, .int j] μ Q := wC_of (call_min2 hc) fun M F H vs rl r => by
  obtain ⟨v, w, rfl, h, h'⟩ := r.two; rw [rep_int] at h h'; subst h; subst h'
  exact ⟨i, j, rfl, .pure rl (rep_int.mpr rfl) q⟩
theorem wC_len {x : A} {xs : List A} (hx : IsQ μ x xs) (q : Q (.int xs.length) μ) : wC X (.builtin "len") [x] μ Q := wC_of call_len_seq fun M F H vs rl r => by
  obtain ⟨v, rfl, h⟩ := r.one
  obtain ⟨p, ws, e, h1, h2⟩ := hx.rep rl h
  exact ⟨p, ws, by rw [e], h1, .pure rl (rep_int.mpr (by rw [h2.len])) q⟩
theorem wC_lenS {x : Str} (hz : x.length ≤ sizeLine) (q : Q (.int x.length) μ) : wC X (.builtin "len") [.str x] μ Q := wC_of call_len_str fun M F H vs rl r => by
  obtain ⟨v, rfl, h⟩ := r.one; rw [rep_str] at h; subst h
  exact ⟨x, rfl, hz, .pure rl (rep_int.mpr rfl) q⟩
theorem wC_list {x : A} {xs : List A} (hx : IsQ μ x xs) (q : ∀ p, μ p = none → Q (.loc p) (μ.upd p (.lst xs))) : wC X (.type "list") [x] μ Q := wC_of call_list_of fun M F H vs rl r => by
  obtain ⟨v, rfl, h⟩ := r.one
  obtain ⟨p, ws, e, h1, h2⟩ := hx.rep rl h
  refine ⟨p, ws, by rw [e], h1, fun l nl => ?_⟩
  obtain ⟨nμ, rl'⟩ := rl.new (m := .lst xs) nl ⟨_, rfl, h2⟩
  exact ⟨_, _, _, .refl _, rl', rep_loc.mpr rfl, q l nμ⟩
theorem wC_listF {x : A} {xs : List A} (hx : IsQ μ x xs) (q : Q (.lst xs) μ) : wC X (.type "list") [x] μ Q := wC_of call_list_of fun M F H vs rl r => by
  obtain ⟨v, rfl, h⟩ := r.one
  obtain ⟨p, ws, e, h1, h2⟩ := hx.rep rl h
  refine ⟨p, ws, by rw [e], h1, fun l nl => ?_⟩
  obtain ⟨ex, rl'⟩ := rl.newF (o := .lst ws) nl
  exact ⟨_, _, _, ex, rl', rep_lst.mpr ⟨l, _, rfl, upd_same, h2.mono ex⟩, q⟩
theorem wC_tuple {x : A} {xs : List A} (hx : IsL μ x xs) (q : Q (.tup xs) μ) : wC X (.type "tuple") [x] μ Q := wC_of call_tuple_of fun M F H vs rl r => by
  obtain ⟨v, rfl, h⟩ := r.one
  obtain ⟨p, ws, e, h1, h2⟩ := hx.rep rl h
  refine ⟨p, ws, by rw [e], .inl ⟨.inl (.inl h1), fun l nl => ?_⟩⟩
  obtain ⟨ex, rl'⟩ := rl.newF (o := .tup ws) nl
  exact ⟨_, _, _, ex, rl', rep_tup.mpr ⟨l, _, rfl, .inl (.inl upd_same), h2.mono ex⟩, q⟩
theorem wC_tupleT {xs : List A} (q : Q (.tup xs) μ) : wC X (.type "tuple") [.tup xs] μ Q := wC_of call_tupleT fun M F H vs rl r => by
  obtain ⟨v, rfl, h⟩ := r.one
  have h0 := h
  rw [rep_tup] at h
  obtain ⟨p, ws, rfl, h1, h2⟩ := h
  exact ⟨p, ws, rfl, rl.sub.t h1, .pure rl h0 q⟩
theorem IsL.q {x : A} {xs : List A} (h : IsL μ x xs) : IsQ μ x xs := by
  cases h with
  | lst => exact .lst _
  | loc h => exact .loc h
/-! sums, greatest, least, all -/
theorem repL_int' {K : PySem.W.Frag} {F : Hp} {ns : List Int} {vs : List V} (h : RepL K F (ns.map A.int) vs) : vs = ns.map V.int := repL_ints h
theorem wC_min {x : A} {ns : List Int} (hc : X.calm = true) (hx : IsL μ x (ns.map A.int)) (hn : 0 < ns.length) (q : ∀ m, m ∈ ns → (∀ y, y ∈ ns → m ≤ y) → Q (.int m) μ) : wC X (.builtin "min") [x] μ Q := wC_of (cr_min hc) fun M F H vs rl r => by
  obtain ⟨v, rfl, h⟩ := r.one
  obtain ⟨p, ws, e, h1, h2⟩ := hx.rep rl h
  rw [repL_ints h2] at h1
  exact ⟨p, ns, by rw [e], .inl (.inl h1), hn, fun m h3 h4 => .pure rl (rep_int.mpr rfl) (q m h3 h4)⟩
theorem wC_max {x : A} {ns : List Int} (hc : X.calm = true) (hx : IsL μ x (ns.map A.int)) (hn : 0 < ns.length) (q : ∀ m, m ∈ ns → (∀ y, y ∈ ns → y ≤ m) → Q (.int m) μ) : wC X (.builtin "max") [x] μ Q := wC_of (cr_max hc) fun M F H vs rl r => by
  obtain ⟨v, rfl, h⟩ := r.one
  obtain ⟨p, ws, e, h1, h2⟩ := hx.rep rl h
  rw [repL_ints h2] at h1
  exact ⟨p, ns, by rw [e], .inl (.inl h1), hn, fun m h3 h4 => .pure rl (rep_int.mpr rfl) (q m h3 h4)⟩
theorem wC_sum {x : A} {ns : List Int} (hc : X.calm = true) (hx : IsL μ x (ns.map A.int)) (q : Q (.int ns.sum) μ) : wC X (.builtin "sum") [x] μ Q := wC_of (cr_sum hc) fun M F H vs rl r => by
  obtain ⟨v, rfl, h⟩ := r.one
  obtain ⟨p, ws, e, h1, h2⟩ := hx.rep rl h
  rw [repL_ints h2] at h1
  exact ⟨p, ns, by rw [e], .inl (.inl h1), .pure rl (rep_int.mpr rfl) q⟩
theorem wC_all {x : A} {ns : List Bool} (hc : X.calm = true) (hx : IsL μ x (ns.map A.bl)) (q : Q (.bl (ns.all id)) μ) : wC X (.builtin "all") [x] μ Q := wC_of (cr_all hc) fun M F H vs rl r => by
  obtain ⟨v, rfl, h⟩ := r.one
  obtain ⟨p, ws, e, h1, h2⟩ := hx.rep rl h
  rw [repL_bls h2] at h1
  exact ⟨p, ns, by rw [e], .inl (.inl h1), .pure rl (rep_bl.mpr rfl) q⟩
theorem wC_any {x : A} {ns : List Bool} (hc : X.calm = true) (hx : IsL μ x (ns.map A.bl)) (q : Q (.bl (ns.any id)) μ) : wC X (.builtin "any") [x] μ Q := wC_of (cr_any hc) fun M F H vs rl r => by
  obtain ⟨v, rfl, h⟩ := r.one
  obtain ⟨p, ws, e, h1, h2⟩ := hx.rep rl h
  rw [repL_bls h2] at h1
  exact ⟨p, ns, by rw [e], .inl (.inl h1), .pure rl (rep_bl.mpr rfl) q⟩
theorem wC_intI {i : Int} (q : Q (.int i) μ) : wC X (.type "int") [.int i] μ Q := wC_of call_int1 fun M F H vs rl r => by
  obtain ⟨v, rfl, h⟩ := r.one; rw [rep_int] at h; subst h
  exact .inl ⟨i, rfl, .pure rl (rep_int.mpr rfl) q⟩
theorem wC_intB {i : Bool} (q : Q (.int (if i then 1 else 0)) μ) : wC X (.type "int") [.bl i] μ Q := wC_of call_int1 fun M F H vs rl r => by
  obtain ⟨v, rfl, h⟩ := r.one; rw [rep_bl] at h; subst h
  exact .inr ⟨i, rfl, .pure rl (rep_int.mpr rfl) q⟩
theorem wC_boolI {i : Int} (q : Q (.bl (i != 0)) μ) : wC X (.type "bool") [.int i] μ Q := wC_of call_bool1 fun M F H vs rl r => by
  obtain ⟨v, rfl, h⟩ := r.one; rw [rep_int] at h; subst h
  exact .inl ⟨i, rfl, .pure rl (rep_bl.mpr rfl) q⟩
theorem wC_strI {i : Int} (hz : i.natAbs.log2 < 1920) (q : Q (.str (toString i)) μ) : wC X (.type "str") [.int i] μ Q := wC_of call_str_int fun M F H vs rl r => by
  obtain ⟨v, rfl, h⟩ := r.one; rw [rep_int] at h; subst h
  exact ⟨i, rfl, hz, .pure rl (rep_str.mpr rfl) q⟩
/-! isinstance with a built-in class -/
def tyN (μ : Mu) : A → Option String
  | .non => some "NoneType" | .bl _ => some "bool" | .int _ => some "int" | .str _ => some "str" | .tup _ => some "tuple" | .lst _ => some "list"
  | .loc p => (match μ p with | some (.lst _) => some "list" | some (.dic _) => some "dict" | _ => none)
  | _ => none
theorem tyX_of {K : PySem.W.Frag} {M F H : Hp} {x : A} {n : String} {v : V} (rl : Rel K μ M F H) (r : Rep K F x v) (h : tyN μ x = some n) : TyX K H v (.type n) := by
  cases x with
  | non => rw [rep_non] at r; subst r; cases h; exact .base .non
  | bl b => rw [rep_bl] at r; subst r; cases h; exact .base (.bl b)
  | int i => rw [rep_int] at r; subst r; cases h; exact .base (.int i)
  | str i => rw [rep_str] at r; subst r; cases h; exact .base (.str i)
  | ty i => cases h
  | fls i => cases h
  | tup i =>
    rw [rep_tup] at r; obtain ⟨a, vs, rfl, g1, g2⟩ := r; cases h
    rcases rl.sub.t g1 with (g | ⟨o, g⟩) | ⟨o, its, n, g, gc, _⟩
    · exact .base (.tup g)
    · exact .fTuple g
    · exact .kTuple g gc
  | lst i => rw [rep_lst] at r; obtain ⟨a, vs, rfl, g1, g2⟩ := r; cases h; exact .base (.lst (rl.sub _ _ g1))
  | loc p =>
    rw [rep_loc] at r; subst r
    simp only [tyN] at h
    split at h
    · rename_i xs e; cases h; obtain ⟨_, o, g1, vs, rfl, _⟩ := rl.own _ _ e; exact .base (.lst g1)
    · rename_i xs e; cases h; obtain ⟨_, o, g1, vs, rfl, _⟩ := rl.own _ _ e; exact .base (.dK g1)
    · cases h
theorem wC_isi {x : A} {n m : String} {k : Bool} (hx : tyN μ x = some n) (hk : kitB n m = some k) (q : Q (.bl k) μ) : wC X (.builtin "isinstance") [x, .ty m] μ Q := wC_of call_isi fun M F H vs rl r => by
  obtain ⟨v, w, rfl, h, h'⟩ := r.two
  rw [rep_ty] at h'; subst h'
  exact ⟨v, _, _, _, k, rfl, .ty m, tyX_of rl h hx, kit_ty hk, .pure rl (rep_bl.mpr rfl) q⟩
end
end D

set_option exponentiation.threshold 256
set_option pp.maxSteps 5000
set_option Elab.async false
set_option linter.all false
set_option maxRecDepth 100000
set_option maxHeartbeats 4000000
/-! D4: a def's promise over data, its call, its body; the law's own end. What is known of the runs around: room, and that nothing is being shown. -/
namespace D
open PySem PySem.Spec PyProof.Rows L2

/-- a promise over data: the arguments, what may change, what is wanted of the answer, what is wanted of an exception -/
abbrev AC := List A → Mu → (A → Mu → Prop) → (Value → Option Addr → Mu → Prop) → Prop
def spOf (K : PySem.W.Frag) (c : AC) : Sp := fun vs H Q E => ∃ (xs : List A) (F M : Hp) (μ : Mu) (Q0 : A → Mu → Prop) (E0 : Value → Option Addr → Mu → Prop), RepL K F xs vs ∧ Rel K μ M F H ∧ c xs μ Q0 E0 ∧
  (∀ y μ' F' H' v, Q0 y μ' → Ex F F' → Rel K μ' M F' H' → Rep K F' y v → Q v H') ∧ (∀ cls d μ' F' H', E0 cls d μ' → Ex F F' → Rel K μ' M F' H' → E cls d H')

structure FnD (P : Program) (w : World) (K : PySem.W.Frag) (mg : Str → Option Value) (base : Heap) (CX : CXT) (k : Nat) (f : Addr) (fd : FuncData) (ps : List Str) (c : AC) : Prop where
  len : ∀ xs μ Q E, c xs μ Q E → xs.length = ps.length
  run : ∀ (A : Around) (outer : List Env) (s : Shared) (H : Hp) (args : Args) (us : List Value) (vs : List V) (Q : VK) (E : XK), Room k A → A.guards = some [] → Env0 P w K mg base A outer s H → BindsTo s fd args (ps.zip us) → Vals vs us →
    spOf K c vs H Q E → codeAny (model P w) A (.call (.ref f) args) (CR CX outer P w H s Q E) s
section
variable {P : Program} {w : World} {mg : Str → Option Value} {base : Heap} {K : PySem.W.Frag} {CX : CXT} {k : Nat} {f : Addr} {fd : FuncData} {ps : List Str} {c : AC}
theorem FnD.up {j : Nat} (F : FnD P w K mg base CX j f fd ps c) (h : j ≤ k) : FnD P w K mg base CX k f fd ps c := { len := F.len, run := fun A outer s H args us vs Q E hr => F.run A outer s H args us vs Q E (hr.mono h) }
theorem FnD.imp {c' : AC} (F : FnD P w K mg base CX k f fd ps c) (h : ∀ xs μ Q E, c' xs μ Q E → c xs μ Q E) : FnD P w K mg base CX k f fd ps c' :=
  { len := fun xs μ Q E q => F.len xs μ Q E (h xs μ Q E q)
    run := fun A outer s H args us vs Q E hr hg e0 hb hv ⟨xs, F1, M, μ, Q0, E0, h1, h2, h3, h4⟩ => F.run A outer s H args us vs Q E hr hg e0 hb hv ⟨xs, F1, M, μ, Q0, E0, h1, h2, h xs μ Q0 E0 h3, h4⟩ }
theorem spOf.len {vs : List V} {H : Hp} {Q : VK} {E : XK} (hl : ∀ xs μ Q E, c xs μ Q E → xs.length = ps.length) (h : spOf K c vs H Q E) : vs.length = ps.length := by
  obtain ⟨xs, F, M, μ, Q0, E0, h1, _, h3, _⟩ := h
  rw [h1.len]; exact hl _ _ _ _ h3
end

/-- what is known around a body -/
structure Ar (X : Cx) (k : Nat) : Prop where
  room : Room k X.A
  show0 : X.A.guards = some []
theorem Ar.mono {X : Cx} {j k : Nat} (h : Ar X k) (hj : j ≤ k) : Ar X j := ⟨h.room.mono hj, h.show0⟩
theorem Ar.u64 {X : Cx} {k : Nat} (h : Ar X k) : X.A.units + 64 < cLine := h.room.units
theorem Ar.u1 {X : Cx} {k : Nat} (h : Ar X k) : X.A.units + 1 < cLine := hu_of h.room

/-! ### the call -/
section
variable {B : Bs} {X : Cx} {CX : CXT} {k : Nat} {f : Addr} {fd : FuncData} {ps : List Str} {c : AC} {Γ : G} {μ : Mu} {Q : A → Mu → Prop} {e : Expr} {es : List Expr} {pos p : Pos} {x : Str} {E : XK}
theorem runD {pins : List (Addr × Obj)} {σ : L2.St} {H : Hp} {s : Shared} {R : VK} {us ds : List Value} {vs dvs : List V} (F : FnD X.prog X.w X.K X.mg X.base CX k f fd ps c) (ar : Ar X k) (bi : Binds X.K fd ps ds) (dv : Vals dvs ds) (pa : Passes CX X E)
    (I : Inv X pins σ H s) (rv : Vals vs us) (sp : spOf X.K c (vs ++ dvs) H R E) : wpAny (model X.prog X.w) X.A (call (.ref f) us) (EP X pins σ R) X.xe s := by
  have all := rv.append dv
  have many : (us ++ ds).length = ps.length := all.length.symm.trans (spOf.len F.len sp)
  have go := F.run X.A X.stack s H ⟨us, []⟩ (us ++ ds) (vs ++ dvs) R E ar.room ar.show0 I.env0 (bi s us I.kIn many) all sp
  refine wpAny_call (codeAny_mono go fun res s2 end2 => ?_)
  match res, end2 with
  | .error e2, end2 => exact pa pins σ H s e2 s2 I end2
  | .ok (.ret u), end2 => exact I.after end2
  | .ok .next, end2 => exact end2.elim
  | .ok .brk, end2 => exact end2.elim
  | .ok .cont, end2 => exact end2.elim
/-- how a def is found by its name, and bound: what a caller needs besides the promise -/
structure At (X : Cx) (x : Str) (f : Addr) (fd : FuncData) (ps : List Str) (ds : List Value) : Prop where
  mg : X.mg x = some (.ref f)
  kp : PySem.W.keepIn X.K (.ref f) = true
  bi : Binds X.K fd ps ds
theorem wE_callX {ds : List Value} {dvs : List V} {das : List A} {E0 : Value → Option Addr → Mu → Prop} (F : FnD X.prog X.w X.K X.mg X.base CX k f fd ps c) (at0 : At X x f fd ps ds) (ar : Ar X k) (dv : Vals dvs ds) (da : ∀ F, RepL X.K F das dvs)
    (pa : ∀ M F, Passes CX X (fun cls d H' => ∃ F' μ', Ex F F' ∧ Rel X.K μ' M F' H' ∧ E0 cls d μ'))
    (h : wA B X (e :: es) Γ μ fun xs μ1 => c (xs ++ das) μ1 Q E0) (hg : Gl X x := by rfl) (hdb : (x == ("__debug__" : Str)) = false := by decide)
    (he : starEach (e :: es) X.env = (false, eval e X.env) :: starEach es X.env := by rfl) (hpl : (backTo pos (starEach es X.env)).any (·.1) = false := by rfl) : wE B X (.Call (.Name x p) (e :: es) [] pos) Γ μ Q := by
  intro σ M F0 H bo rs rl
  refine ⟨fun pins s I => ?_⟩
  refine wpAny_Call_Name_kw (ld_glob I hg at0.mg ?_ hdb)
  refine PySem.W.callWith_K (h₀ := X.base) I.ok.mod.kin at0.kp (thn ((h σ M F0 H bo rs rl).o pos pins s I) fun us s1 got => ?_) he hpl
  obtain ⟨vs, H1, I1, rv, xs, F1, μ1, ex, rl1, rp, hc⟩ := got
  refine ⟨I1.kIn, runD F ar at0.bi dv (pa M F0) I1 rv ⟨xs ++ das, F1, M, μ1, Q, E0, rp.append (da F1), rl1, hc, fun y μ' F' H' v q e1 r1 p1 => ?_, fun cls d μ' F' H' q e1 r1 => ?_⟩⟩
  · exact ⟨y, F', μ', ex.trans e1, r1, p1, q⟩
  · exact ⟨F', μ', ex.trans e1, r1, q⟩
/-- f(e, ..) where nothing is raised -/
theorem wE_call (F : FnD X.prog X.w X.K X.mg X.base CX0 k f fd ps c) (at0 : At X x f fd ps []) (ar : Ar X k) (h : wA B X (e :: es) Γ μ fun xs μ1 => c xs μ1 Q fun _ _ _ => False) (hg : Gl X x := by rfl) (hdb : (x == ("__debug__" : Str)) = false := by decide)
    (he : starEach (e :: es) X.env = (false, eval e X.env) :: starEach es X.env := by rfl) (hpl : (backTo pos (starEach es X.env)).any (·.1) = false := by rfl) : wE B X (.Call (.Name x p) (e :: es) [] pos) Γ μ Q :=
  wE_callX (das := []) (dvs := []) F at0 ar .nil (fun _ => .nil) (fun _ _ _ _ _ _ _ _ _ z => z.elim) (by simpa only [List.append_nil] using h) hg hdb he hpl
/-- .. where defaults fill up -/
theorem wE_callD {ds : List Value} {dvs : List V} (das : List A) (F : FnD X.prog X.w X.K X.mg X.base CX0 k f fd ps c) (at0 : At X x f fd ps ds) (ar : Ar X k) (dv : Vals dvs ds) (da : ∀ F, RepL X.K F das dvs) (h : wA B X (e :: es) Γ μ fun xs μ1 => c (xs ++ das) μ1 Q fun _ _ _ => False) (hg : Gl X x := by rfl) (hdb : (x == ("__debug__" : Str)) = false := by decide)
    (he : starEach (e :: es) X.env = (false, eval e X.env) :: starEach es X.env := by rfl) (hpl : (backTo pos (starEach es X.env)).any (·.1) = false := by rfl) : wE B X (.Call (.Name x p) (e :: es) [] pos) Γ μ Q :=
  wE_callX F at0 ar dv da (fun _ _ _ _ _ _ _ _ _ z => z.elim) h hg hdb he hpl
/-- f() -/
theorem wE_call0 (F : FnD X.prog X.w X.K X.mg X.base CX0 k f fd ps c) (at0 : At X x f fd ps []) (ar : Ar X k) (h : c [] μ Q fun _ _ _ => False) (hg : Gl X x := by rfl) (hdb : (x == ("__debug__" : Str)) = false := by decide) : wE B X (.Call (.Name x p) [] [] pos) Γ μ Q := by
  intro σ M F0 H bo rs rl
  refine ⟨fun pins s I => ?_⟩
  refine wpAny_Call_Name_kw (ld_glob I hg at0.mg ?_ hdb)
  refine PySem.W.callWith_K0 I.kIn at0.kp (runD (us := []) (vs := []) (dvs := []) (E := fun _ _ _ => False) F ar at0.bi .nil (fun _ _ _ _ _ _ _ z => z.elim) I .nil ⟨[], F0, M, μ, Q, _, .nil, rl, h, fun y μ' F' H' v q e1 r1 p1 => ?_, fun cls d μ' F' H' q e1 r1 => q⟩)
  exact ⟨y, F', μ', e1, r1, p1, q⟩
end

/-! ### the body -/
/-- the names' data at the entry -/
def startA (N : List Str) (xs : List A) : G := xs.map some ++ List.replicate (N.length - xs.length) none
theorem relS_start {K : PySem.W.Frag} {F : Hp} {xs : List A} {vs : List V} (N : List Str) (h : RepL K F xs vs) : RelS K (startA N xs) F (L2.start N vs) := by
  unfold startA L2.start
  have hl := h.len
  refine ⟨by simp [hl], fun i x q => ?_⟩
  by_cases hi : i < xs.length
  · rw [List.getElem?_append_left (by simpa using hi), List.getElem?_map] at q
    cases e : xs[i]? with
    | none => rw [e] at q; cases q
    | some y =>
      rw [e] at q; cases q
      obtain ⟨v, h1, h2⟩ := h.get e
      refine ⟨v, ?_, h2⟩
      rw [List.getElem?_append_left (by rw [List.length_map, hl]; exact hi), List.getElem?_map, h1]; rfl
  · rw [List.getElem?_append_right (by simpa using hi), List.getElem?_replicate] at q
    split at q <;> cases q

section
variable {P : Program} {w : World} {mg : Str → Option Value} {base : Heap} {K : PySem.W.Frag}
/-- the context of a def's body that lets nothing out -/
abbrev cx0 (P : Program) (w : World) (K : PySem.W.Frag) (mg : Str → Option Value) (base : Heap) (N : List Str) (qual : Str) (sc : Scope) (f : Addr) (cdv : Value) (A : Around) (outer : List Env) (s : Shared) (H : Hp) (E : XK) : Cx := (cxOf CX0 P w K mg base N qual sc f cdv A outer s H E).nox
theorem FnD.body {CX : CXT} {k : Nat} {f : Addr} {name qual : Str} {params : Arguments} {body : List Stmt} {scope : Scope} {dV kV doc pm cdv ct oc : Value} {an od : Option Addr} {osl : Array (Option Value)} {N ps : List Str} {c : AC}
    (lk : K.lookup f = some ⟨oc, od, .func (PySem.W.fnOf name qual params body scope dV kV doc pm an cdv ct), osl⟩) (hcd : PySem.W.codeIn K cdv qual = true) (S : FnScope N ps scope) (len : ∀ xs μ Q E, c xs μ Q E → xs.length = ps.length)
    (go : ∀ (A : Around) (outer : List Env) (s : Shared) (H : Hp) (vs : List V) (Q : VK) (E : XK), Room k (A.deeper (envOfC qual scope s.heap.objs.size f cdv)) → A.guards = some [] → spOf K c vs H Q E →
      rdSs (cxOf CX P w K mg base N qual scope f cdv A outer s H E) body { nx := fun _ H' => Q .non H', rt := Q } (L2.start N vs) H) : FnD P w K mg base CX (k + 1) f (PySem.W.fnOf name qual params body scope dV kV doc pm an cdv ct) ps c := by
  refine { len := len, run := fun A outer s H args us vs Q E room sh e0 bound rv sp => ?_ }
  have many : vs.length = ps.length := spOf.len len sp
  have inK : K.In s.heap := e0.mod.kin.keeps fun b o z => (e0.bs b o z).1
  have noLim : s.heap.NoLimit := e0.mod.nolimit.keeps fun b o z => (e0.bs b o z).1
  have kinds : ∀ y ∈ ps.zip us, scope.names.lookup y.1 = some .local ∨ (scope.names.lookup y.1 = some .cell ∧ ((cellsFrom (s.heap.objs.size + 1) scope.names []).lookup y.1).isSome = true) := by
    intro y hy
    obtain ⟨n, v⟩ := y
    have hn := S.par n (List.of_mem_zip hy).1
    exact hn.elim .inl fun z => .inr ⟨z, PySem.W.cellsFrom_some _ _ _ (.inl z)⟩
  refine codeAny_call_function room.depth (inK _ _ lk) rfl S.co S.gen rfl (PySem.W.codeRec_of inK hcd) (bound _ _ _ _ ?_)
  refine wpAny_newFunctionEnv_cells S.kind kinds fun env he s1 new => ?_
  subst he
  refine ⟨noLim.keeps new.toInCall.keep, codeAny_func ?_⟩
  have I := inv_start (CX := CX) (P := P) (w := w) (mg := mg) (base := base) (N := N) (outer := outer) (E := E) S room.hd e0 many rv new
  refine wpAny_mono ((go A outer s H vs Q E (room.deeper _) sh sp).o [] s1 I) (fun fl s2 q => ?_) fun e2 s2 q => q
  have fin : ∀ {σ2 : L2.St} {H2 : Hp} {v : V} {u : Value}, Inv (cxOf CX P w K mg base N qual scope f cdv A outer s H E) [] σ2 H2 s2 → RelV v u → Q v H2 → CE outer P w H s Q u s2 :=
    fun {σ2 H2 v u} J r q => ⟨v, H2, J.os, J.bare, J.base, J.hok, r, q⟩
  match fl, q with
  | .ret u, ⟨v, σ2, H2, J, r, q⟩ => exact fin J r q
  | .next, ⟨σ2, H2, J, q⟩ => exact fin (v := V.non) (u := Value.none) J rfl q
  | .brk, ⟨_, _, _, q⟩ => exact q.elim
  | .cont, ⟨_, _, _, q⟩ => exact q.elim
theorem rdSs_nox {X : Cx} {st : List Stmt} {D : Ends} {σ : L2.St} {H : Hp} (h : rdSs X.nox st D σ H) : rdSs X st D σ H := rd_pss (PSs.nox pss_rd) h
/-- THE RULE for a def that lets nothing out: its body over data -/
theorem fnD {x qual : Str} {st : Stmt} {f : Addr} {fd : FuncData} {N ps : List Str} {k : Nat} {c : AC} (F : Fun K x qual st f fd) (S : FnScope N ps (defScope st)) (len : ∀ xs μ Q E, c xs μ Q E → xs.length = ps.length)
    (go : ∀ {B : Bs} (cdv : Value) (A : Around) (outer : List Env) (s : Shared) (H : Hp) (E : XK) (xs : List D.A) (μ : Mu) (Q : D.A → Mu → Prop) (E0 : Value → Option Addr → Mu → Prop), Ar (cx0 P w K mg base N qual (defScope st) f cdv A outer s H E) k → c xs μ Q E0 →
      wSs B (cx0 P w K mg base N qual (defScope st) f cdv A outer s H E) (defBody st) (startA N xs) μ { nx := fun _ μ' => Q .non μ', rt := Q }) : FnD P w K mg base CX0 (k + 1) f fd ps c := by
  obtain ⟨oc, od, kV, doc, pm, an, cdv, ct, osl, rfl, lk, hcd⟩ := F.ex
  refine FnD.body lk hcd S len fun A outer s H vs Q E room sh sp => rdSs_nox ?_
  obtain ⟨xs, F0, M, μ, Q0, E0, rp, rl, hc, hq, he⟩ := sp
  refine (go cdv A outer s H E xs μ Q0 E0 ⟨room, sh⟩ hc (L2.start N vs) M F0 H (Bs.ok.own M F0) (relS_start N rp) rl).imp (fun σ2 H2 q => ?_) (fun v H2 q => ?_) (fun σ2 H2 q => ?_) (fun σ2 H2 q => ?_)
  · obtain ⟨Γ', F', μ', ex, _, rl', q⟩ := q
    exact hq .non μ' F' H2 .non q ex rl' (rep_non.mpr rfl)
  · obtain ⟨y, F', μ', ex, rl', rp', q⟩ := q
    exact hq y μ' F' H2 v q ex rl' rp'
  · obtain ⟨_, _, _, _, _, _, q⟩ := q; exact q
  · obtain ⟨_, _, _, _, _, _, q⟩ := q; exact q
end

/-! ### the law's end -/
theorem law_end {P : Program} {w : World} {K : PySem.W.Frag} {mg mb : Str → Option Value} {CX : CXT} {k : Nat} {fa a : Addr} {fd : FuncData} {x : Str} {c : AC} {s1 : Shared} {vs : List Value} {ns : List Int}
    (inK : K.In s1.heap) (gl : s1.heap.Ns mainGlobals mg) (bl : s1.heap.Ns builtinsNs mb) (bl2 : ∀ x : Str, x ≠ "__name__" → mb x = bootBuiltins x) (lim : s1.heap.NoLimit) (gens : s1.gens = #[])
    (obj : s1.heap.get? a = some { cls := .type "list", data := .seq vs.toArray }) (hints : IntsAre vs ns) (len : ns.length ≤ sizeLine) (room : Room k callerA)
    (F : ∀ base : Heap, K.In base → base.Ns mainGlobals mg → FnD P w K mg base CX k fa fd [x] c) (bind : ∀ (s : Shared) (u : Value), BindsTo s fd ⟨[u], []⟩ [(x, u)])
    (hc : c [.fls (ns.map A.int)] (fun _ => none) (fun y _ => y = .bl true) fun _ _ _ => False) (hCX : ∀ H e s', CX [] H s1 (fun _ _ _ => False) e s' → False) :
    codeAny (model P w) callerA (.call (.ref fa) ⟨[.ref a], []⟩) (fun r s' => r = .ok (.ret (.bool true)) ∧ OldK s1.heap s'.heap ∧ s'.os = s1.os ∧ AllBare s'.gens) s1 := by
  have rv := vals_ints hints
  have many := hints.length
  have main : ∀ H : Hp, Only H → SqL K H a (ns.map V.int) → HOk P w H s1.heap → (∀ b, H b ≠ none → b = a) → (H a ≠ none → K.lookup a = none) →
      codeAny (model P w) callerA (.call (.ref fa) ⟨[.ref a], []⟩) (fun r s' => r = .ok (.ret (.bool true)) ∧ OldK s1.heap s'.heap ∧ s'.os = s1.os ∧ AllBare s'.gens) s1 := by
    intro H only sq hok isA notK
    have off : ∀ {b : Addr} {o : Obj} {es : Array DictEntry} {ep : Nat}, s1.heap.get? b = some o → o.data = .dict es ep → H b = none := by
      intro b o es ep e d
      match q : H b with
      | none => rfl
      | some u =>
        obtain rfl : b = a := isA b (by rw [q]; exact fun z => nomatch z)
        rw [obj] at e
        cases e
        exact nomatch d
    have ns' : ∀ {b : Addr} {m : Str → Option Value}, s1.heap.Ns b m → (hidT s1.heap H).Ns b m := by
      intro b m h
      obtain ⟨o, es, ep, e, d, r⟩ := h
      exact ⟨o, es, ep, hidT_get e (off e d), d, r⟩
    have inKb : K.In (hidT s1.heap H) := by
      intro b o e
      refine hidT_get (inK b o e) ?_
      match q : H b with
      | none => rfl
      | some u =>
        obtain rfl : b = a := isA b (by rw [q]; exact fun z => nomatch z)
        rw [notK (by rw [q]; exact fun z => nomatch z)] at e
        cases e
    obtain ⟨mc, l1, l2⟩ := lim
    have e0 : Env0 P w K mg (hidT s1.heap H) callerA [] s1 H :=
      { frames := rfl, mod := ⟨inKb, ns' gl, ⟨mb, ns' bl, bl2⟩, ⟨mc, ns' l1, l2⟩⟩, bs := fun b o e => of_hidT e, bsz := Nat.le_of_eq (hidT_size _ _), funs := trivial, frf := fun b hb => (List.not_mem_nil hb).elim, hok := hok, bare := .of_eq gens }
    have rl : Rel K (fun _ => none) (fun _ => none) H H := ⟨.refl _, fun _ _ z => (nomatch z), fun _ _ z => (nomatch z)⟩
    have sp : spOf K c [.ref a] H (fun v _ => v = .bl true) (fun _ _ _ => False) :=
      ⟨[.fls (ns.map A.int)], H, fun _ => none, fun _ => none, _, _, .cons (rep_fls.mpr ⟨a, _, rfl, sq, .map (fun i => rep_int.mpr rfl) ns⟩) .nil, rl, hc, fun y μ' F' H' v q _ _ r => by rw [q, rep_bl] at r; exact r, fun _ _ _ _ _ z _ _ => z⟩
    refine codeAny_mono ((F _ inKb (ns' gl)).run callerA [] s1 H ⟨[.ref a], []⟩ [.ref a] [.ref a] _ _ room rfl e0 (bind s1 (.ref a)) (.cons rfl .nil) sp) fun r s2 h => ?_
    match r, h with
    | .error e, h => exact (hCX H e s2 h).elim
    | .ok .next, h => exact h.elim
    | .ok .brk, h => exact h.elim
    | .ok .cont, h => exact h.elim
    | .ok (.ret u), ⟨v, H2, os, bare, un, hok2, rv2, q⟩ =>
      have q2 : v = .bl true := q
      subst q2
      obtain rfl : u = Value.bool true := rv2
      suffices keep : ∀ b o, s1.heap.get? b = some o → s2.heap.get? b = some o from ⟨rfl, OldK.of_keep keep, os, bare⟩
      intro b o e
      match q3 : H b with
      | none => exact un.keep b o e q3 List.not_mem_nil List.not_mem_nil
      | some u3 =>
        rcases only b with z | ⟨ob, xs, z⟩
        · rw [z] at q3; cases q3
        · obtain ⟨g1, _⟩ := hok b _ z
          obtain ⟨g2, _⟩ := hok2 b _ (un.frzs b ob _ z)
          rw [g1] at e; cases e
          exact g2
  match hk : K.lookup a with
  | some o =>
    have e := inK a o hk
    rw [obj] at e
    cases e
    exact main (fun _ => none) (fun _ => .inl rfl) (.inr ⟨_, vs.toArray, _, hk, rfl, rfl, rfl, by rw [List.size_toArray, many]; exact len, by simpa using rv⟩) (fun _ _ z => nomatch z) (fun _ z => absurd rfl z) fun z => absurd rfl z
  | none =>
    refine main (upd (fun _ => none) a (.frz { cls := .type "list", data := .seq vs.toArray } (.lst (ns.map V.int)))) (fun b => ?_) (.inl (.inr ⟨_, upd_same⟩)) (fun b u z => ?_) (fun b z => ?_) fun _ => hk
    · by_cases hb : b = a
      · subst hb; exact .inr ⟨_, _, upd_same⟩
      · exact .inl (upd_ne hb)
    · by_cases hb : b = a
      · subst hb
        rw [upd_same] at z; cases z
        exact ⟨obj, by rw [List.length_map]; exact len, vs, _, rv, obj⟩
      · rw [upd_ne hb] at z; cases z
    · exact Classical.byContradiction fun hb => z (upd_ne hb)
/-- the goal that k_head leaves, by the law's promise over data -/
theorem walk_end {l : PySem.W.OpenLaw} {k : Nat} {q : Program} {loose : List Str} {XP : (Str → Option Value) → Heap → Prop} {YP : World → Heap → Prop} {d : DefRec} {K : Params → PySem.W.Frag} {c : World → AC} {x : Str}
    (hn : l.most = some 63) (hdf : d.params.defaults = []) (room : Room k callerA) (hY : ∀ (w : World) (h : Heap), YP w h → (K w.params).In h)
    (F : ∀ (w : World) (mg : Str → Option Value) (fa : Addr) (g : Heap), (K w.params).In g → g.Ns mainGlobals mg →
      mg d.name = some (.ref fa) → ∃ fd : FuncData, (∀ (s : Shared) (u : Value), BindsTo s fd ⟨[u], []⟩ [(x, u)]) ∧ ∀ base : Heap, (K w.params).In base → base.Ns mainGlobals mg → FnD l.prog w (K w.params) mg base CX0 k fa fd [x] (c w))
    (hc : ∀ (w : World) (ns : List Int), ns.length ≤ 63 → c w [.fls (ns.map A.int)] (fun _ => none) (fun y _ => y = .bl true) fun _ _ _ => False) : PySem.W.WalkO q loose XP YP l.row.toRowW d [] (fun f vs => PySem.call f vs) := by
  refine Att.attach_call hn hdf ?_
  intro w s0 s1 mg mb fa o pm cd doc a vs ns gr Y ho hd hcd hmg hobj hints hlen hg
  have inK := hY w _ Y
  obtain ⟨fd, hb, hF⟩ := F w mg fa _ inK gr.T.g hmg
  exact law_end inK gr.T.g gr.T.b gr.T.builtins gr.T.nolimit hg hobj hints (Nat.le_trans hlen (by decide)) room hF hb (hc w ns hlen) fun _ _ _ z => z
end D

set_option exponentiation.threshold 256
set_option pp.maxSteps 5000
set_option Elab.async false
set_option linter.all false
set_option maxRecDepth 100000
set_option maxHeartbeats 4000000
/-! D5: targets, statements, loops, comprehensions, methods, dicts, repr. -/
namespace D
open PySem PySem.Spec PyProof.Rows L2

section
variable {B : Bs} {X : Cx} {Γ : G} {μ : Mu} {Q : A → Mu → Prop} {Z : AD} {a b c e : Expr} {es : List Expr} {pos : Pos} {st : Stmt} {rest : List Stmt}

/-! ### targets -/
theorem rdG.imp {tg : Expr} {v : V} {σ : L2.St} {H : Hp} {R R' : L2.St → Hp → Prop} (h : rdG X tg v σ H R) (w : ∀ σ H, R σ H → R' σ H) : rdG X tg v σ H R' :=
  ⟨fun pins s u I r => thn (h.o pins s u I r) fun _ _ ⟨σ', H', I', q⟩ => ⟨σ', H', I', w _ _ q⟩⟩
variable {QG : G → Mu → Prop}
theorem wG_name (i : Nat) {x : Str} {y : A} (q : QG (Γ.set i (some y)) μ) (hN : X.N.Nodup) (hi : X.N[i]? = some x := by rfl) (hx : Loc X.env.scope x := by first | exact Or.inl rfl | exact Or.inr rfl)
    (hf : X.fn x = true ∨ X.env.scope.names.lookup x = some .local := by first | exact .inl rfl | exact .inr rfl) : wG B X (.Name x pos) y Γ μ QG := fun σ M F H v bo rs rl rp =>
  rd_pg (pg_name hN hi hx hf) (show QS X.K M F QG (σ.set i (some v)) H from ⟨_, F, μ, .refl _, rs.set rp, rl, q⟩)
/-- several names, from a tuple's items -/
def rdGs (X : Cx) (ts : List Expr) : TGs := fun vs σ H Q => Bx (∀ (pins : List (Addr × Obj)) (s : Shared) (us : List Value), Inv X pins σ H s → Vals vs us →
    wpAny (model X.prog X.w) X.A (assignInOrder ((assignEach ts X.env).map (·.2)) us) (fun _ s' => ∃ σ' H', Inv X pins σ' H' s' ∧ Q σ' H') X.xe s)
def wGs (B : Bs) (X : Cx) (ts : List Expr) (ys : List A) (Γ : G) (μ : Mu) (Q : G → Mu → Prop) : Prop := ∀ σ M F H vs, B.ok M F → RelS X.K Γ F σ → Rel X.K μ M F H → RepL X.K F ys vs → rdGs X ts vs σ H (QS X.K M F Q)
theorem pgs_rd {ts : List Expr} : PGs X ts (rdGs X ts) := ⟨fun pins s _ _ _ us _ I r h => h.o pins s us I r⟩
theorem rd_pgs {ts : List Expr} {t : TGs} (h : PGs X ts t) {vs : List V} {σ : L2.St} {H : Hp} {R : L2.St → Hp → Prop} (q : t vs σ H R) : rdGs X ts vs σ H R := ⟨fun pins s us I r => h.run pins s σ H vs us R I r q⟩
theorem wGs_nil (q : QG Γ μ) : wGs B X [] [] Γ μ QG := fun σ M F H vs bo rs rl rp => by
  simp only [RepL] at rp; subst rp
  exact rd_pgs pgs_nil (show gNil [] σ H (QS X.K M F QG) from ⟨rfl, Γ, F, μ, .refl _, rs, rl, q⟩)
theorem wGs_cons {t : Expr} {ts : List Expr} {y : A} {ys : List A} (h : wG B X t y Γ μ fun Γ1 μ1 => wGs B X ts ys Γ1 μ1 QG) (hs : (assignEach (t :: ts) X.env).map (·.2) = assign t X.env :: (assignEach ts X.env).map (·.2) := by rfl) : wGs B X (t :: ts) (y :: ys) Γ μ QG := fun σ M F H vs bo rs rl rp => by
  simp only [RepL] at rp
  obtain ⟨v, r, rfl, h1, h2⟩ := rp
  refine rd_pgs (pgs_cons pg_rd pgs_rd hs) ⟨v, r, rfl, (h σ M F H v bo rs rl h1).imp fun σ' H' q => ?_⟩
  obtain ⟨Γ', F', μ', ex, rs', rl', q⟩ := q
  refine ⟨fun pins s us I rv => ?_⟩
  refine thn ((q σ' M F' H' r (bo.mono ex) rs' rl' (h2.mono ex)).o pins s us I rv) fun _ _ ⟨σ2, H2, I2, q2⟩ => ⟨σ2, H2, I2, q2.mono ex⟩
theorem wG_tup {ts : List Expr} {k : Nat} {ys : List A} (h : wGs B X ts ys Γ μ QG) (hc : X.calm = true := by rfl) (hn : (assignEach ts X.env).length = ys.length := by rfl) (hst : (assignEach ts X.env).findIdx? (·.1) = none := by rfl) : wG B X (.Tuple ts k pos) (.tup ys) Γ μ QG := fun σ M F H v bo rs rl rp => by
  rw [rep_tup] at rp
  obtain ⟨p, vs, rfl, h1, h2⟩ := rp
  exact rd_pg (pg_tup (n := ys.length) hc pgs_rd hn hst) ⟨p, vs, rfl, rl.sub.t h1, h2.len, h σ M F H vs bo rs rl h2⟩
/-- o[i] = .., a list of ours -/
theorem wG_sub {o i : Expr} {y : A} (h : wE B X o Γ μ fun x μ1 => wE B X i Γ μ1 fun z μ2 => ∃ p xs k j, x = .loc p ∧ z = .int k ∧ μ2 p = some (.lst xs) ∧ ixN xs.length k = some j ∧ QG Γ (μ2.upd p (.lst (xs.set j y))))
    (ha : ∀ v, assign (.Subscript o i pos) X.env v = (holding [v] (eval o X.env) >>= fun a => holding [v, a] (eval i X.env) >>= fun b => (standAt pos >>= fun _ => (holding [v, a, b] (setItem a b v) >>= fun _ => release [v, a, b] []))) := by intro _; rfl) : wG B X (.Subscript o i pos) y Γ μ QG := fun σ M F H v bo rs rl rp =>
  rd_pg (pg_sub pe_rd pe_rd set_list ha) (by
    refine (h σ M F H bo rs rl).imp fun ov H1 ⟨x, F1, μ1, e1, r1, p1, q1⟩ => ?_
    refine (q1 σ M F1 H1 (bo.mono e1) (rs.mono e1) r1).imp fun iv H2 ⟨z, F2, μ2, e2, r2, p2, p, xs, k, j, ex, ez, hp, hj, q2⟩ => ?_
    subst ex; subst ez
    rw [rep_loc] at p1; rw [rep_int] at p2
    obtain ⟨_, ob, g1, vs, rfl, g2⟩ := r2.own p _ hp
    refine ⟨p, vs, k, j, p1, p2, g1, by rw [g2.len]; exact hj, Γ, F2, _, e1.trans e2, rs.mono (e1.trans e2), r2.write hp (m' := .lst (xs.set j y)) ⟨_, rfl, g2.set j (rp.mono (e1.trans e2))⟩, q2⟩)

/-! blocks; the small statements -/
theorem wSs.weak {μ' : Mu} (w : ∀ p m, μ' p = some m → μ p = some m) (h : wSs B X rest Γ μ' Z) : wSs B X rest Γ μ Z := fun σ M F H bo rs r => h σ M F H bo rs (r.weak w)
/-- a list in a slot stands for good from here on -/
theorem wSs_frz (i : Nat) {p : Addr} {xs : List A} (hp : μ p = some (.lst xs)) (hi : Γ[i]? = some (some (.loc p))) (h : wSs B X rest (Γ.set i (some (.lst xs))) (μ.del p) Z) : wSs B X rest Γ μ Z := fun σ M F H bo rs r => by
  obtain ⟨F', ex, rl', rp⟩ := r.freeze hp
  refine ends_mono ex (h σ M F' H (bo.mono ex) ?_ rl')
  have r2 := rs.mono ex
  refine ⟨by rw [List.length_set]; exact rs.len, fun j x q => ?_⟩
  rw [List.getElem?_set] at q
  split at q
  · rename_i e
    subst e
    split at q
    · cases q
      obtain ⟨v, h1, h2⟩ := rs.at_ _ _ hi
      rw [rep_loc] at h2; subst h2
      exact ⟨_, h1, rp⟩
    · cases q
  · exact r2.at_ j x q
theorem wSs_nil (q : Z.nx Γ μ) : wSs B X [] Γ μ Z := fun σ M F H bo rs r => rd_pss pss_nil (show QS X.K M F Z.nx σ H from ⟨Γ, F, μ, .refl _, rs, r, q⟩)
theorem wSs_cons (h : wS B X st Γ μ { Z with nx := fun Γ' μ' => wSs B X rest Γ' μ' Z }) : wSs B X (st :: rest) Γ μ Z := fun σ M F H bo rs r => rd_pss (pss_cons ps_rd pss_rd) (by
  refine (h σ M F H bo rs r).imp (fun σ' H' q => ?_) (fun _ _ q => q) (fun _ _ q => q) (fun _ _ q => q)
  obtain ⟨Γ', F', μ', ex, rs', r', q⟩ := q
  exact ends_mono ex (q σ' M F' H' (bo.mono ex) rs' r'))
theorem wS_of {t : TS} (h : PS X st t) (q : ∀ σ M F H, B.ok M F → RelS X.K Γ F σ → Rel X.K μ M F H → t (ends X.K M F Z) σ H) : wS B X st Γ μ Z := fun σ M F H bo rs r => rd_ps h (q σ M F H bo rs r)
theorem wS_pass (q : Z.nx Γ μ) : wS B X (.Pass pos) Γ μ Z := wS_of ps_pass fun σ M F H bo rs r => (show QS X.K M F Z.nx σ H from ⟨Γ, F, μ, .refl _, rs, r, q⟩)
theorem wS_break (q : Z.bk Γ μ) : wS B X (.Break pos) Γ μ Z := wS_of ps_break fun σ M F H bo rs r => (show QS X.K M F Z.bk σ H from ⟨Γ, F, μ, .refl _, rs, r, q⟩)
theorem wS_continue (q : Z.ct Γ μ) : wS B X (.Continue pos) Γ μ Z := wS_of ps_continue fun σ M F H bo rs r => (show QS X.K M F Z.ct σ H from ⟨Γ, F, μ, .refl _, rs, r, q⟩)
theorem wS_expr (h : wE B X e Γ μ fun _ μ' => Z.nx Γ μ') (hs : swapsWith e none pos.line X.env = pure false := by rfl) : wS B X (.Expr e pos) Γ μ Z := wS_of (ps_expr pe_rd hs) fun σ M F H bo rs r =>
  (h σ M F H bo rs r).imp fun v H' ⟨x, F', μ', e1, r1, _, q⟩ => ⟨Γ, F', μ', e1, rs.mono e1, r1, q⟩
theorem wS_ret (h : wE B X e Γ μ Z.rt) : wS B X (.Return (some e) pos) Γ μ Z := wS_of (ps_ret pe_rd) fun σ M F H bo rs r => h σ M F H bo rs r
theorem wS_retN (h : Z.rt .non μ) : wS B X (.Return none pos) Γ μ Z := wS_of ps_retN fun σ M F H bo rs r => (show QE X.K M F Z.rt .non H from .pure r (rep_non.mpr rfl) h)
theorem wS_if {s1 s2 : List Stmt} (h : wT B X c Γ μ fun k μ1 => (k = true → wSs B X s1 Γ μ1 Z) ∧ (k = false → wSs B X s2 Γ μ1 Z)) : wS B X (.If c s1 s2 pos) Γ μ Z := wS_of (ps_if pt_rd pss_rd pss_rd) fun σ M F H bo rs r => by
  refine (h σ M F H bo rs r).imp fun k H1 ⟨F1, μ1, e1, r1, q1, q2⟩ => ?_
  cases k with
  | true => exact iteT (ends_mono e1 (q1 rfl σ M F1 H1 (bo.mono e1) (rs.mono e1) r1))
  | false => exact iteF (ends_mono e1 (q2 rfl σ M F1 H1 (bo.mono e1) (rs.mono e1) r1))
/-- name = e -/
theorem wS_set (i : Nat) {x : Str} {pos' : Pos} (h : wE B X e Γ μ fun y μ1 => Z.nx (Γ.set i (some y)) μ1) (hN : X.N.Nodup) (hi : X.N[i]? = some x := by rfl) (hx : Loc X.env.scope x := by first | exact Or.inl rfl | exact Or.inr rfl)
    (hs : swapsWith e (some (.Name x pos')) pos.line X.env = pure false := by rfl) (hf : X.fn x = true ∨ X.env.scope.names.lookup x = some .local := by first | exact .inl rfl | exact .inr rfl) : wS B X (.Assign [.Name x pos'] e pos) Γ μ Z :=
  wS_of (ps_set hN hi hx pe_rd hs hf) fun σ M F H bo rs r => (h σ M F H bo rs r).imp fun v H1 ⟨y, F1, μ1, e1, r1, p1, q1⟩ =>
    (show QS X.K M F Z.nx (σ.set i (some v)) H1 from ⟨_, F1, μ1, e1, (rs.mono e1).set p1, r1, q1⟩)
/-- target = e -/
theorem wS_asg {tg : Expr} (h : wE B X e Γ μ fun y μ1 => wG B X tg y Γ μ1 Z.nx) (hs : swapsWithSole [tg] e pos.line X.env = pure false := by rfl) (hw : swappedStores [tg] e X.env = pure none := by rfl) (h1 : (assignEach [tg] X.env).map (·.2) = [assign tg X.env] := by rfl) : wS B X (.Assign [tg] e pos) Γ μ Z :=
  wS_of (ps_asg pe_rd pg_rd hs hw h1) fun σ M F H bo rs r => (h σ M F H bo rs r).imp fun v H1 ⟨y, F1, μ1, e1, r1, p1, q1⟩ =>
    (q1 σ M F1 H1 v (bo.mono e1) (rs.mono e1) r1 p1).imp fun σ' H' q => q.mono e1
/-- a, b = e1, e2 -/
theorem wS_par (i j : Nat) {x y : Str} {px py pt pt2 : Pos} {kt k2 : Nat} (h : wA B X [a, b] Γ μ fun xs μ1 => ∃ u w, xs = [u, w] ∧ Z.nx ((Γ.set i (some u)).set j (some w)) μ1) (hN : X.N.Nodup) (hc : X.calm = true := by rfl) (hi : X.N[i]? = some x := by rfl) (hj : X.N[j]? = some y := by rfl) (hij : i ≠ j := by decide)
    (hx : X.env.scope.names.lookup x = some .local := by rfl) (hy : X.env.scope.names.lookup y = some .local := by rfl)
    (hw : swappedStores [.Tuple [.Name x px, .Name y py] kt pt] (.Tuple [a, b] k2 pt2) X.env = pure (some [x, y]) := by rfl)
    (hs : swapsWithSole [.Tuple [.Name x px, .Name y py] kt pt] (.Tuple [a, b] k2 pt2) pos.line X.env = pure false := by rfl) : wS B X (.Assign [.Tuple [.Name x px, .Name y py] kt pt] (.Tuple [a, b] k2 pt2) pos) Γ μ Z :=
  wS_of (ps_par hc hN hi hj hij hx hy pa_rd hw hs) fun σ M F H bo rs r => (h σ M F H bo rs r).imp fun vs H1 ⟨xs, F1, μ1, e1, r1, p1, u, w, ex, q1⟩ => by
    subst ex
    obtain ⟨v1, v2, rfl, g1, g2⟩ := p1.two
    exact ⟨v1, v2, rfl, _, F1, μ1, e1, ((rs.mono e1).set g1).set g2, r1, q1⟩

/-! ### while -/
theorem wS_while {body : List Stmt} (W : Nat → G → Mu → Prop) (m0 : Nat) (h0 : W m0 Γ μ)
    (turn : ∀ m Γ μ, W m Γ μ → wT B X c Γ μ fun k μ1 => (k = true → wSs B X body Γ μ1 { nx := fun Γ' μ' => ∃ m', m' < m ∧ W m' Γ' μ', rt := Z.rt, ct := fun Γ' μ' => ∃ m', m' < m ∧ W m' Γ' μ', bk := Z.nx }) ∧ (k = false → Z.nx Γ μ1))
    (hp : PassesOwn (model X.prog X.w) X.A X.env X.xe := by first | exact PassesOwn.never | assumption) : wS B X (.While c body [] pos) Γ μ Z := wS_of (ps_while hp pt_rd pss_rd) fun σ M F H bo rs r => by
  refine ⟨fun m σ' H' => ∃ Γ' F' μ', Ex F F' ∧ RelS X.K Γ' F' σ' ∧ Rel X.K μ' M F' H' ∧ W m Γ' μ', ⟨m0, Γ, F, μ, .refl _, rs, r, h0⟩, fun m σ' H' ⟨Γ', F', μ', e1, rs1, r1, w1⟩ => ?_⟩
  refine (turn m Γ' μ' w1 σ' M F' H' (bo.mono e1) rs1 r1).imp fun k H1 ⟨F2, μ2, e2, r2, q1, q2⟩ => ?_
  cases k with
  | true =>
    refine iteT ⟨fun σ2 H2 => ∃ m', m' < m ∧ ∃ Γ' F' μ', Ex F F' ∧ RelS X.K Γ' F' σ2 ∧ Rel X.K μ' M F' H2 ∧ W m' Γ' μ', fun _ _ z => z, ?_⟩
    refine (q1 rfl σ' M F2 H1 (bo.mono (e1.trans e2)) (rs1.mono e2) r2).imp (fun σ3 H3 q => ?_) (fun v H3 q => q.mono (e1.trans e2)) (fun σ3 H3 q => q.mono (e1.trans e2)) (fun σ3 H3 q => ?_)
    · obtain ⟨Γ3, F3, μ3, e3, rs3, r3, m', hm, w3⟩ := q
      exact ⟨m', hm, Γ3, F3, μ3, (e1.trans e2).trans e3, rs3, r3, w3⟩
    · obtain ⟨Γ3, F3, μ3, e3, rs3, r3, m', hm, w3⟩ := q
      exact ⟨m', hm, Γ3, F3, μ3, (e1.trans e2).trans e3, rs3, r3, w3⟩
  | false => exact iteF ⟨Γ', F2, μ2, e1.trans e2, rs1.mono e2, r2, q2 rfl⟩

/-! ### what is walked -/
/-- n turns; while F stands the i-th gives the i-th of ys -/
structure WkA (K : PySem.W.Frag) (F : Hp) (J : It) (ys : List A) : Prop where
  goes : ∀ i H, i < ys.length → Ex F H → J.go i H
  stops : ∀ H, Ex F H → J.stop ys.length H
  yields : ∀ i H x H' M F1 μ, i < ys.length → Ex F F1 → Rel K μ M F1 H → J.yld i H x H' → ∃ F2 y, Ex F1 F2 ∧ Rel K μ M F2 H' ∧ ys[i]? = some y ∧ Rep K F2 y x
def rdI (X : Cx) (tg iter : Expr) : TI := fun σ H R => Bx (∀ (pins : List (Addr × Obj)) (s : Shared), Inv X pins σ H s → wpAny (model X.prog X.w) X.A (eval iter X.env) (fun v s1 => wpAny (model X.prog X.w) X.A (pyIter v) (PIE X pins σ tg R) X.xe s1) X.xe s)
theorem pi_rd {tg iter : Expr} : PI X tg iter (rdI X tg iter) := ⟨fun pins s _ _ _ I h => h.o pins s I⟩
theorem rd_pi {tg iter : Expr} {wi : TI} (h : PI X tg iter wi) {σ : L2.St} {H : Hp} {R : It → Hp → Prop} (q : wi σ H R) : rdI X tg iter σ H R := ⟨fun pins s I => h.run pins s σ H R I q⟩
def wIt (B : Bs) (X : Cx) (tg iter : Expr) (Γ : G) (μ : Mu) (R : List A → Mu → Prop) : Prop := ∀ σ M F H, B.ok M F → RelS X.K Γ F σ → Rel X.K μ M F H → rdI X tg iter σ H fun J H' => ∃ ys F' μ', Ex F F' ∧ Rel X.K μ' M F' H' ∧ WkA X.K F' J ys ∧ R ys μ'
variable {R : List A → Mu → Prop} {tg : Expr} {body : List Stmt}
theorem wS_for (h : wIt B X tg a Γ μ fun ys μ1 => ∃ I : Nat → G → Mu → Prop, I 0 Γ μ1 ∧
      (∀ (i : Nat) y Γ' μ', ys[i]? = some y → I i Γ' μ' → wG B X tg y Γ' μ' fun Γ2 μ2 => wSs B X body Γ2 μ2 { nx := I (i + 1), rt := Z.rt, ct := I (i + 1), bk := Z.nx }) ∧ (∀ Γ' μ', I ys.length Γ' μ' → Z.nx Γ' μ'))
    (hp : PassesOwn (model X.prog X.w) X.A X.env X.xe := by first | exact PassesOwn.never | assumption) (hc : X.calm = true := by rfl) (hs : ∀ x, foldedSetIterable a X.env x = pure x := by intro _; rfl) : wS B X (.For tg a body [] pos) Γ μ Z :=
  wS_of (ps_for hp hc pi_rd pg_rd pss_rd hs) fun σ M F H bo rs r => by
  refine ⟨fun pins s I0 => ?_⟩
  refine thn ((h σ M F H bo rs r).o pins s I0) fun v s1 h1 => thn h1 fun itv s2 h2 => ?_
  obtain ⟨it, fp, tn, J, H2, g1, g2, g3, g4, g5, ys, F1, μ1, e1, r1, wk, I, i0, turn, done⟩ := h2
  refine ⟨it, fp, tn, J, H2, g1, g2, g3, g4, g5, fun i m σ' H' => m = ys.length - i ∧ i ≤ ys.length ∧ QS X.K M F1 (I i) σ' H', ⟨ys.length, by simp, Nat.zero_le _, Γ, F1, μ1, .refl _, rs.mono e1, r1, i0⟩, ?_⟩
  rintro i m σ' H' ⟨rfl, hi, Γ', F', μ', e2, rs2, r2, q⟩
  by_cases lt : i < ys.length
  · refine .inr ⟨wk.goes i H' lt (e2.trans r2.sub), fun σ3 H3 => QS X.K M F1 (I (i + 1)) σ3 H3, fun σ3 H3 q3 => ⟨ys.length - (i + 1), by omega, rfl, lt, q3⟩, fun x H3 yl => ?_⟩
    obtain ⟨F2, y, e3, r3, hy, rp⟩ := wk.yields i H' x H3 M F' μ' lt e2 r2 yl
    refine (turn i y Γ' μ' hy q σ' M F2 H3 x (bo.mono (e1.trans (e2.trans e3))) (rs2.mono e3) r3 rp).imp fun σ4 H4 q4 => ?_
    obtain ⟨Γ4, F4, μ4, e4, rs4, r4, q4⟩ := q4
    have eF : Ex F1 F4 := (e2.trans e3).trans e4
    exact (q4 σ4 M F4 H4 (bo.mono (e1.trans eF)) rs4 r4).imp (fun _ _ q => q.mono eF) (fun _ _ q => q.mono (e1.trans eF)) (fun _ _ q => q.mono (e1.trans eF)) (fun _ _ q => q.mono eF)
  · obtain rfl : i = ys.length := by omega
    exact .inl ⟨wk.stops H' (e2.trans r2.sub), Γ', F', μ', e1.trans e2, rs2, r2, done Γ' μ' q⟩

theorem wk_list {K : PySem.W.Frag} {F : Hp} {p : Addr} {ys : List A} {vs : List V} (h : SqL K F p vs) (r : RepL K F ys vs) : WkA K F (Itl K p) ys :=
  { goes := fun i H hi e => ⟨vs, vs[i]'(by rw [r.len]; exact hi), e.l h, by simp [r.len, hi]⟩
    stops := fun H e => ⟨vs, e.l h, by rw [r.len]; exact Nat.le_refl _⟩
    yields := fun i H x H' M F1 μ hi e rl yl => by
      obtain ⟨rfl, g⟩ := yl
      obtain ⟨v, h1, h2⟩ := r.get (List.getElem?_eq_getElem hi)
      have := g vs ((e.trans rl.sub).l h)
      rw [h1] at this; cases this
      exact ⟨F1, _, .refl _, rl, List.getElem?_eq_getElem hi, h2.mono e⟩ }
theorem wk_tup {K : PySem.W.Frag} {F : Hp} {p : Addr} {ys : List A} {vs : List V} (h : SqT K F p vs) (r : RepL K F ys vs) : WkA K F (Itt K p) ys :=
  { goes := fun i H hi e => ⟨vs, vs[i]'(by rw [r.len]; exact hi), e.t h, by simp [r.len, hi]⟩
    stops := fun H e => ⟨vs, e.t h, by rw [r.len]; exact Nat.le_refl _⟩
    yields := fun i H x H' M F1 μ hi e rl yl => by
      obtain ⟨rfl, g⟩ := yl
      obtain ⟨v, h1, h2⟩ := r.get (List.getElem?_eq_getElem hi)
      have := g vs ((e.trans rl.sub).t h)
      rw [h1] at this; cases this
      exact ⟨F1, _, .refl _, rl, List.getElem?_eq_getElem hi, h2.mono e⟩ }
/-- for .. in a list that stands for good -/
theorem wIt_list (h : wE B X a Γ μ fun x μ1 => ∃ ys, x = .lst ys ∧ R ys μ1) : wIt B X tg a Γ μ R := fun σ M F H bo rs rl => rd_pi (pi_list pe_rd) (by
  refine (h σ M F H bo rs rl).imp fun v H1 ⟨x, F1, μ1, e1, r1, p1, ys, ex, q1⟩ => ?_
  subst ex; rw [rep_lst] at p1
  obtain ⟨p, vs, rfl, h1, h2⟩ := p1
  exact ⟨p, rfl, ⟨vs, .inl (.inl (r1.sub _ _ h1))⟩, ys, F1, μ1, e1, r1, wk_list (.inl (.inl h1)) h2, q1⟩)
theorem wIt_fls (h : wE B X a Γ μ fun x μ1 => ∃ ys, x = .fls ys ∧ R ys μ1) : wIt B X tg a Γ μ R := fun σ M F H bo rs rl => rd_pi (pi_list pe_rd) (by
  refine (h σ M F H bo rs rl).imp fun v H1 ⟨x, F1, μ1, e1, r1, p1, ys, ex, q1⟩ => ?_
  subst ex; rw [rep_fls] at p1
  obtain ⟨p, vs, rfl, h1, h2⟩ := p1
  exact ⟨p, rfl, ⟨vs, r1.sub.l h1⟩, ys, F1, μ1, e1, r1, wk_list h1 h2, q1⟩)
theorem wIt_tup (h : wE B X a Γ μ fun x μ1 => ∃ ys, x = .tup ys ∧ R ys μ1) : wIt B X tg a Γ μ R := fun σ M F H bo rs rl => rd_pi (pi_tup pe_rd) (by
  refine (h σ M F H bo rs rl).imp fun v H1 ⟨x, F1, μ1, e1, r1, p1, ys, ex, q1⟩ => ?_
  subst ex; rw [rep_tup] at p1
  obtain ⟨p, vs, rfl, h1, h2⟩ := p1
  exact ⟨p, rfl, ⟨vs, r1.sub.t h1⟩, ys, F1, μ1, e1, r1, wk_tup h1 h2, q1⟩)
/-- the ints lo, lo + 1, .. -/
def rgA (lo : Int) (n : Nat) : List A := (List.range n).map fun i => A.int (lo + (i : Nat))
theorem rgA_len (lo : Int) (n : Nat) : (rgA lo n).length = n := by simp [rgA]
theorem rgA_get {lo : Int} {n i : Nat} (h : i < n) : (rgA lo n)[i]? = some (.int (lo + (i : Nat))) := by simp [rgA, h]
theorem wk_range {K : PySem.W.Frag} {F : Hp} {lo : Int} {n : Nat} : WkA K F (Itr lo n) (rgA lo n) :=
  { goes := fun i H hi _ => by rw [rgA_len] at hi; exact hi
    stops := fun H _ => by rw [rgA_len]; exact Nat.le_refl _
    yields := fun i H x H' M F1 μ hi e rl yl => by
      obtain ⟨rfl, rfl⟩ := yl
      rw [rgA_len] at hi
      exact ⟨F1, _, .refl _, rl, rgA_get hi, rep_int.mpr rfl⟩ }
theorem wIt_range1 {p : Pos} (hm : X.mg "range" = none) (h : wA B X [a] Γ μ fun xs μ1 => ∃ n : Int, xs = [.int n] ∧ -(2 ^ 62) ≤ n ∧ n < 2 ^ 62 ∧ R (rgA 0 n.toNat) μ1) (hg : Gl X "range" := by rfl) (hs : starEach [a] X.env = [(false, eval a X.env)] := by rfl) :
    wIt B X tg (.Call (.Name "range" p) [a] [] pos) Γ μ R := fun σ M F H bo rs rl => rd_pi (pi_range1 hg hm pa_rd hs) (by
  refine (h σ M F H bo rs rl).imp fun vs H1 ⟨xs, F1, μ1, e1, r1, p1, n, ex, n1, n2, q1⟩ => ?_
  subst ex
  obtain ⟨v, rfl, h1⟩ := p1.one
  rw [rep_int] at h1; subst h1
  exact ⟨n, rfl, n1, n2, _, F1, μ1, e1, r1, wk_range, q1⟩)
theorem wIt_range2 {p : Pos} (hm : X.mg "range" = none) (h : wA B X [a, b] Γ μ fun xs μ1 => ∃ i j : Int, xs = [.int i, .int j] ∧ (-(2 ^ 62) ≤ i ∧ i < 2 ^ 62 ∧ -(2 ^ 62) ≤ j ∧ j < 2 ^ 62) ∧ R (rgA i (j - i).toNat) μ1) (hg : Gl X "range" := by rfl)
    (hs : starEach [a, b] X.env = [(false, eval a X.env), (false, eval b X.env)] := by rfl) (hs2 : starEach [b] X.env = [(false, eval b X.env)] := by rfl) :
    wIt B X tg (.Call (.Name "range" p) [a, b] [] pos) Γ μ R := fun σ M F H bo rs rl => rd_pi (pi_range2 hg hm pa_rd hs hs2) (by
  refine (h σ M F H bo rs rl).imp fun vs H1 ⟨xs, F1, μ1, e1, r1, p1, i, j, ex, n1, q1⟩ => ?_
  subst ex
  obtain ⟨v, w, rfl, h1, h2⟩ := p1.two
  rw [rep_int] at h1 h2; subst h1; subst h2
  exact ⟨i, j, rfl, n1, _, F1, μ1, e1, r1, wk_range, q1⟩)
/-- lo, lo + c, .. -/
def rgC (lo c : Int) (n : Nat) : List A := (List.range n).map fun i => A.int (lo + (i : Nat) * c)
theorem rgC_len (lo c : Int) (n : Nat) : (rgC lo c n).length = n := by simp [rgC]
theorem rgC_get {lo c : Int} {n i : Nat} (h : i < n) : (rgC lo c n)[i]? = some (.int (lo + (i : Nat) * c)) := by simp [rgC, h]
theorem wIt_range3 {p : Pos} (hm : X.mg "range" = none) (h : wA B X [a, b, c] Γ μ fun xs μ1 => ∃ (i j k : Int) (n : Nat), xs = [.int i, .int j, .int k] ∧ RgC i j k n ∧ R (rgC i k n) μ1) (hg : Gl X "range" := by rfl)
    (hs : starEach [a, b, c] X.env = (false, eval a X.env) :: starEach [b, c] X.env := by rfl) (hpl : (backTo pos (starEach [b, c] X.env)).any (·.1) = false := by rfl) :
    wIt B X tg (.Call (.Name "range" p) [a, b, c] [] pos) Γ μ R := fun σ M F H bo rs rl => rd_pi (pi_range3 hg hm pa_rd hs hpl) (by
  refine (h σ M F H bo rs rl).imp fun vs H1 ⟨xs, F1, μ1, e1, r1, p1, i, j, k, n, ex, n1, q1⟩ => ?_
  subst ex
  simp only [RepL] at p1
  obtain ⟨v, r, rfl, h1, v2, r', rfl, h2, v3, r'', rfl, h3, rfl⟩ := p1
  rw [rep_int] at h1 h2 h3; subst h1; subst h2; subst h3
  refine ⟨i, j, k, n, rfl, n1, _, F1, μ1, e1, r1, ?_, q1⟩
  exact { goes := fun i H hi _ => by rw [rgC_len] at hi; exact hi
          stops := fun H _ => by rw [rgC_len]; exact Nat.le_refl _
          yields := fun i H x H' M F1 μ hi e rl yl => by
            obtain ⟨rfl, rfl⟩ := yl
            rw [rgC_len] at hi
            exact ⟨F1, _, .refl _, rl, rgC_get hi, rep_int.mpr rfl⟩ })
/-- the pairs of two lists -/
def pairsA (f g : Nat → Option A) : Nat → List A
  | 0 => []
  | n + 1 => pairsA f g n ++ [.tup [(f n).getD .non, (g n).getD .non]]
def zipA : List A → List A → List A
  | x :: xs, y :: ys => .tup [x, y] :: zipA xs ys
  | _, _ => []
theorem zipA_len : ∀ xs ys : List A, (zipA xs ys).length = min xs.length ys.length
  | [], _ => by simp [zipA]
  | _ :: _, [] => by simp [zipA]
  | x :: xs, y :: ys => by simp only [zipA, List.length_cons, zipA_len xs ys]; omega
theorem zipA_get : ∀ {xs ys : List A} {i : Nat} {x y : A}, xs[i]? = some x → ys[i]? = some y → (zipA xs ys)[i]? = some (.tup [x, y])
  | [], _, _, _, _, h, _ => by simp at h
  | _ :: _, [], _, _, _, _, h => by simp at h
  | x :: xs, y :: ys, 0, _, _, h, h' => by simp at h h'; subst h; subst h'; rfl
  | x :: xs, y :: ys, i + 1, _, _, h, h' => by
    simp only [zipA, List.getElem?_cons_succ] at h h' ⊢
    exact zipA_get h h'
theorem zipA_map {α β : Type} (f : α → A) (g : β → A) : ∀ (l : List α) (m : List β), zipA (l.map f) (m.map g) = (l.zip m).map fun p => A.tup [f p.1, g p.2]
  | [], _ => by simp [zipA]
  | _ :: _, [] => by simp [zipA]
  | a :: l, b :: m => by simp only [List.map_cons, zipA, List.zip_cons_cons, zipA_map f g l m]
theorem pair_new {K : PySem.W.Frag} {μ : Mu} {M F H : Hp} {T : Addr} {x y : A} {v w : V} (rl : Rel K μ M F H) (n : H T = none) (h1 : Rep K F x v) (h2 : Rep K F y w) : ∃ F2, Ex F F2 ∧ Rel K μ M F2 (upd H T (.tup [v, w])) ∧ Rep K F2 (.tup [x, y]) (.ref T) := by
  obtain ⟨ex, rl'⟩ := rl.newF (o := .tup [v, w]) n
  exact ⟨_, ex, rl', rep_tup.mpr ⟨T, _, rfl, .inl (.inl upd_same), .cons (h1.mono ex) (.cons (h2.mono ex) .nil)⟩⟩
theorem wk_zip {K : PySem.W.Frag} {F : Hp} {p q : Addr} {xs ys : List A} {vs ws : List V} (h : SqL K F p vs) (r : RepL K F xs vs) (g : SqL K F q ws) (r' : RepL K F ys ws) : WkA K F (Itz K p q) (zipA xs ys) :=
  { goes := fun i H hi e => by
      rw [zipA_len] at hi
      have h1 : i < vs.length := by rw [r.len]; omega
      have h2 : i < ws.length := by rw [r'.len]; omega
      exact ⟨vs, ws, vs[i], ws[i], e.l h, e.l g, by simp [h1], by simp [h2]⟩
    stops := fun H e => ⟨vs, ws, e.l h, e.l g, by rw [zipA_len, r.len, r'.len]; omega⟩
    yields := fun i H x H' M F1 μ hi e rl yl => by
      rw [zipA_len] at hi
      obtain ⟨T, v, w, rfl, nT, rfl, g1, g2⟩ := yl
      have h1 := g1 vs ((e.trans rl.sub).l h)
      have h2 := g2 ws ((e.trans rl.sub).l g)
      obtain ⟨x1, k1, k2⟩ := r.rev h1
      obtain ⟨y1, k3, k4⟩ := r'.rev h2
      obtain ⟨F2, ex, rl', rp⟩ := pair_new rl nT (k2.mono e) (k4.mono e)
      exact ⟨F2, _, ex, rl', zipA_get k1 k3, rp⟩ }
theorem wk_zipT {K : PySem.W.Frag} {F : Hp} {p q : Addr} {xs ys : List A} {vs ws : List V} (h : SqT K F p vs) (r : RepL K F xs vs) (g : SqT K F q ws) (r' : RepL K F ys ws) : WkA K F (RZ.ItzT K p q) (zipA xs ys) :=
  { goes := fun i H hi e => by
      rw [zipA_len] at hi
      have h1 : i < vs.length := by rw [r.len]; omega
      have h2 : i < ws.length := by rw [r'.len]; omega
      exact ⟨vs, ws, vs[i], ws[i], e.t h, e.t g, by simp [h1], by simp [h2]⟩
    stops := fun H e => ⟨vs, ws, e.t h, e.t g, by rw [zipA_len, r.len, r'.len]; omega⟩
    yields := fun i H x H' M F1 μ hi e rl yl => by
      rw [zipA_len] at hi
      obtain ⟨T, v, w, rfl, nT, rfl, g1, g2⟩ := yl
      have h1 := g1 vs ((e.trans rl.sub).t h)
      have h2 := g2 ws ((e.trans rl.sub).t g)
      obtain ⟨x1, k1, k2⟩ := r.rev h1
      obtain ⟨y1, k3, k4⟩ := r'.rev h2
      obtain ⟨F2, ex, rl', rp⟩ := pair_new rl nT (k2.mono e) (k4.mono e)
      exact ⟨F2, _, ex, rl', zipA_get k1 k3, rp⟩ }
theorem wIt_zip {e2 : Expr} {p tpos : Pos} {elts : List Expr} {kk : Nat} (hm : X.mg "zip" = none) (h : wA B X [e, e2] Γ μ fun zs μ1 => ∃ xs ys, (zs = [.lst xs, .lst ys] ∨ zs = [.tup xs, .tup ys]) ∧ R (zipA xs ys) μ1) (hg : Gl X "zip" := by rfl)
    (hs : starEach [e, e2] X.env = (false, eval e X.env) :: starEach [e2] X.env := by rfl) (hpl : (backTo pos (starEach [e2] X.env)).any (·.1) = false := by rfl) : wIt B X (.Tuple elts kk tpos) (.Call (.Name "zip" p) [e, e2] [] pos) Γ μ R := fun σ M F H bo rs rl =>
  rd_pi (RZ.pi_zipA hg hm pa_rd hs hpl) (by
  refine (h σ M F H bo rs rl).imp fun us H1 ⟨zs, F1, μ1, e1, r1, p1, xs, ys, ez, q1⟩ => ?_
  rcases ez with ez | ez
  · subst ez
    obtain ⟨v, w, rfl, h1, h2⟩ := p1.two
    rw [rep_lst] at h1 h2
    obtain ⟨p, vs, rfl, g1, g2⟩ := h1
    obtain ⟨q, ws, rfl, k1, k2⟩ := h2
    exact ⟨p, q, vs, ws, rfl, .inl ⟨.inl (.inl (r1.sub _ _ g1)), .inl (.inl (r1.sub _ _ k1)), _, F1, μ1, e1, r1, wk_zip (.inl (.inl g1)) g2 (.inl (.inl k1)) k2, q1⟩⟩
  · subst ez
    obtain ⟨v, w, rfl, h1, h2⟩ := p1.two
    rw [rep_tup] at h1 h2
    obtain ⟨p, vs, rfl, g1, g2⟩ := h1
    obtain ⟨q, ws, rfl, k1, k2⟩ := h2
    exact ⟨p, q, vs, ws, rfl, .inr ⟨r1.sub.t g1, r1.sub.t k1, _, F1, μ1, e1, r1, wk_zipT g1 g2 k1 k2, q1⟩⟩)
/-- 0, x; 1, y; .. -/
def enumA : Nat → List A → List A
  | _, [] => []
  | n, x :: xs => .tup [.int (n : Nat), x] :: enumA (n + 1) xs
theorem enumA_len : ∀ (n : Nat) (xs : List A), (enumA n xs).length = xs.length
  | _, [] => rfl
  | n, x :: xs => by simp only [enumA, List.length_cons, enumA_len (n + 1) xs]
theorem enumA_get : ∀ {n : Nat} {xs : List A} {i : Nat} {x : A}, xs[i]? = some x → (enumA n xs)[i]? = some (.tup [.int ((n + i : Nat) : Int), x])
  | _, [], _, _, h => by simp at h
  | n, y :: xs, 0, _, h => by simp at h; subst h; simp [enumA]
  | n, y :: xs, i + 1, _, h => by
    simp only [enumA, List.getElem?_cons_succ] at h ⊢
    rw [enumA_get h, show n + 1 + i = n + (i + 1) by omega]
theorem wk_enum {K : PySem.W.Frag} {F : Hp} {p : Addr} {xs : List A} {vs : List V} (h : SqL K F p vs) (r : RepL K F xs vs) : WkA K F (Ite K p) (enumA 0 xs) :=
  { goes := fun i H hi e => by
      rw [enumA_len] at hi
      have h1 : i < vs.length := by rw [r.len]; omega
      exact ⟨vs, vs[i], e.l h, by simp [h1]⟩
    stops := fun H e => ⟨vs, e.l h, by rw [enumA_len, r.len]; exact Nat.le_refl _⟩
    yields := fun i H x H' M F1 μ hi e rl yl => by
      obtain ⟨T, v, rfl, nT, rfl, g1⟩ := yl
      have h1 := g1 vs ((e.trans rl.sub).l h)
      obtain ⟨x1, k1, k2⟩ := r.rev h1
      obtain ⟨F2, ex, rl', rp⟩ := pair_new (x := .int (i : Nat)) rl nT (rep_int.mpr rfl) (k2.mono e)
      exact ⟨F2, _, ex, rl', by rw [enumA_get k1]; simp, rp⟩ }
theorem wIt_enum {p tpos : Pos} {elts : List Expr} {kk : Nat} (hm : X.mg "enumerate" = none) (h : wA B X [e] Γ μ fun zs μ1 => ∃ xs, (zs = [.lst xs] ∨ zs = [.fls xs]) ∧ R (enumA 0 xs) μ1) (hg : Gl X "enumerate" := by rfl) (hs : starEach [e] X.env = [(false, eval e X.env)] := by rfl) :
    wIt B X (.Tuple elts kk tpos) (.Call (.Name "enumerate" p) [e] [] pos) Γ μ R := fun σ M F H bo rs rl => rd_pi (pi_enum hg hm pa_rd hs) (by
  refine (h σ M F H bo rs rl).imp fun us H1 ⟨zs, F1, μ1, e1, r1, p1, xs, ez, q1⟩ => ?_
  rcases ez with ez | ez
  · subst ez
    obtain ⟨v, rfl, h1⟩ := p1.one
    rw [rep_lst] at h1
    obtain ⟨p, vs, rfl, g1, g2⟩ := h1
    exact ⟨p, vs, rfl, .inl (.inl (r1.sub _ _ g1)), _, F1, μ1, e1, r1, wk_enum (.inl (.inl g1)) g2, q1⟩
  · subst ez
    obtain ⟨v, rfl, h1⟩ := p1.one
    rw [rep_fls] at h1
    obtain ⟨p, vs, rfl, g1, g2⟩ := h1
    exact ⟨p, vs, rfl, r1.sub.l g1, _, F1, μ1, e1, r1, wk_enum g1 g2, q1⟩)
/-- a text, sign by sign -/
def signsA (x : Str) : List A := x.cps.toList.map fun ch => A.str ⟨#[ch]⟩
theorem wIt_str (h : wE B X a Γ μ fun y μ1 => ∃ x, y = .str x ∧ R (signsA x) μ1) : wIt B X tg a Γ μ R := fun σ M F H bo rs rl => rd_pi (pi_str pe_rd) (by
  refine (h σ M F H bo rs rl).imp fun v H1 ⟨y, F1, μ1, e1, r1, p1, x, ex, q1⟩ => ?_
  subst ex; rw [rep_str] at p1; subst p1
  have hl : (signsA x).length = x.cps.size := by simp [signsA]
  refine ⟨x, rfl, _, F1, μ1, e1, r1, ?_, q1⟩
  exact { goes := fun i H hi _ => by rw [hl] at hi; exact hi
          stops := fun H _ => by rw [hl]; exact Nat.le_refl _
          yields := fun i H z H' M F1 μ hi e rl yl => by
            obtain ⟨rfl, ch, hc, rfl⟩ := yl
            refine ⟨F1, .str ⟨#[ch]⟩, .refl _, rl, ?_, rep_str.mpr rfl⟩
            simp only [signsA, List.getElem?_map, Array.getElem?_toList, hc, Option.map_some] })
end
end D

set_option exponentiation.threshold 256
set_option pp.maxSteps 5000
set_option Elab.async false
set_option linter.all false
set_option maxRecDepth 100000
set_option maxHeartbeats 4000000
/-! D6: comprehensions, methods, dicts, repr. -/
namespace D
open PySem PySem.Spec PyProof.Rows L2

/-! ### comprehensions -/
def wipeA (Γ : G) : List Nat → G
  | [] => Γ
  | v :: vs => (wipeA Γ vs).set v none
theorem wipeA_len (Γ : G) : ∀ vs, (wipeA Γ vs).length = Γ.length
  | [] => rfl
  | v :: vs => by unfold wipeA; rw [List.length_set, wipeA_len Γ vs]
theorem wipeA_rel {K : PySem.W.Frag} {Γ : G} {F : Hp} {σ : L2.St} (h : RelS K Γ F σ) : ∀ vs, RelS K (wipeA Γ vs) F (wipe σ vs)
  | [] => h
  | v :: vs => by
    have ih := wipeA_rel h vs
    unfold wipeA wipe
    refine ⟨by rw [List.length_set, List.length_set]; exact ih.len, fun i x q => ?_⟩
    rw [List.getElem?_set] at q ⊢
    split at q
    · split at q <;> cases q
    · rename_i e
      rw [if_neg e]
      exact ih.at_ i x q
theorem wipe_set_out {σ : L2.St} {i : Nat} {o : Option V} : ∀ vs : List Nat, (wipe (σ.set i o) vs).set i none = (wipe σ vs).set i none
  | [] => by show (σ.set i o).set i none = σ.set i none; rw [List.set_set]
  | v :: vs => by
    have ih := wipe_set_out (σ := σ) (i := i) (o := o) vs
    show ((wipe (σ.set i o) vs).set v none).set i none = ((wipe σ vs).set v none).set i none
    by_cases e : v = i
    · subst e; rw [ih]
    · rw [List.set_comm _ _ e, List.set_comm _ _ e, ih]
theorem wipe_set {σ : L2.St} {i : Nat} {o : Option V} : ∀ {vs : List Nat}, i ∈ vs → wipe (σ.set i o) vs = wipe σ vs
  | v :: vs, h => by
    show (wipe (σ.set i o) vs).set v none = (wipe σ vs).set v none
    by_cases e : i = v
    · subst e; exact wipe_set_out vs
    · rw [wipe_set (List.mem_of_ne_of_mem e h)]
theorem wipe_wipe {σ : L2.St} {vs : List Nat} : ∀ us : List Nat, (∀ u ∈ us, u ∈ vs) → wipe (wipe σ us) vs = wipe σ vs
  | [], _ => rfl
  | u :: us, h => by
    show wipe ((wipe σ us).set u none) vs = wipe σ vs
    rw [wipe_set (h u List.mem_cons_self), wipe_wipe us fun v hv => h v (List.mem_cons_of_mem _ hv)]

section
variable {K : PySem.W.Frag} {μ : Mu} {M F H : Hp} {p : Addr} {m : MO} {o : HO}
theorem Rel.frmNew (h : Rel K μ M F H) (n : H p = none) : M p = none ∧ Rel K μ (upd M p o) F (upd H p o) := by
  have hF : F p = none := h.sub.none n
  have hμ : μ p = none := by
    cases q : μ p with
    | none => rfl
    | some m => obtain ⟨_, o, e, _⟩ := h.own p m q; rw [n] at e; cases e
  have hM : M p = none := by
    cases q : M p with
    | none => rfl
    | some m => obtain ⟨_, _, e⟩ := h.frm p m q; rw [n] at e; cases e
  refine ⟨hM, h.sub.trans (.new n), fun q m' e => ?_, fun q o' e => ?_⟩
  · obtain ⟨g1, o', g2, g3⟩ := h.own q m' e
    have hq : q ≠ p := fun z => by rw [z, n] at g2; cases g2
    exact ⟨g1, o', by rw [upd_ne hq]; exact g2, g3⟩
  · by_cases hq : q = p
    · subst hq; rw [upd_same] at e; cases e
      exact ⟨hF, hμ, upd_same⟩
    · rw [upd_ne hq] at e
      obtain ⟨g1, g2, g3⟩ := h.frm q o' e
      exact ⟨g1, g2, by rw [upd_ne hq]; exact g3⟩
theorem Rel.frmWrite {o' : HO} (h : Rel K μ (upd M p o) F H) : Rel K μ (upd M p o') F (upd H p o') := by
  obtain ⟨hF, hμ, hH⟩ := h.frm p o upd_same
  refine ⟨fun a u q => ?_, fun q m' e => ?_, fun q u e => ?_⟩
  · have ha : a ≠ p := fun z => by rw [z, hF] at q; cases q
    rw [upd_ne ha]; exact h.sub a u q
  · obtain ⟨g1, o1, g2, g3⟩ := h.own q m' e
    have hq : q ≠ p := fun z => by rw [z, hμ] at e; cases e
    exact ⟨g1, o1, by rw [upd_ne hq]; exact g2, g3⟩
  · by_cases hq : q = p
    · subst hq; rw [upd_same] at e; cases e
      exact ⟨hF, hμ, upd_same⟩
    · rw [upd_ne hq] at e
      obtain ⟨g1, g2, g3⟩ := h.frm q u (by rw [upd_ne hq]; exact e)
      exact ⟨g1, g2, by rw [upd_ne hq]; exact g3⟩
theorem Rel.frmOut (h : Rel K μ (upd M p o) F H) (n : M p = none) (r : RepO K F m o) : μ p = none ∧ Rel K (μ.upd p m) M F H := by
  obtain ⟨hF, hμ, hH⟩ := h.frm p o upd_same
  refine ⟨hμ, h.sub, fun q m' e => ?_, fun q u e => ?_⟩
  · by_cases hq : q = p
    · subst hq; rw [Mu.upd_same] at e; cases e
      exact ⟨hF, o, hH, r⟩
    · rw [Mu.upd_ne hq] at e; exact h.own q m' e
  · have hq : q ≠ p := fun z => by rw [z, n] at e; cases e
    obtain ⟨g1, g2, g3⟩ := h.frm q u (by rw [upd_ne hq]; exact e)
    exact ⟨g1, by rw [Mu.upd_ne hq]; exact g2, g3⟩
end

section
variable {B : Bs} {X : Cx} {Γ : G} {μ : Mu} {Q : A → Mu → Prop} {Z : AD} {e : Expr} {pos : Pos} {QG : G → Mu → Prop}
/-- a target within a comprehension: only the comprehension's own slots vs change -/
def wGw (B : Bs) (X : Cx) (tg : Expr) (vs : List Nat) (y : A) (Γ : G) (μ : Mu) (Q : G → Mu → Prop) : Prop := ∀ σ M F H v, B.ok M F → RelS X.K Γ F σ → Rel X.K μ M F H → Rep X.K F y v → rdG X tg v σ H fun σ' H' => wipe σ' vs = wipe σ vs ∧ QS X.K M F Q σ' H'
theorem wGw_name (i : Nat) {x : Str} {vs : List Nat} {y : A} (q : QG (Γ.set i (some y)) μ) (hN : X.N.Nodup) (hv : i ∈ vs := by decide) (hi : X.N[i]? = some x := by rfl) (hx : Loc X.env.scope x := by first | exact Or.inl rfl | exact Or.inr rfl)
    (hf : X.fn x = true ∨ X.env.scope.names.lookup x = some .local := by first | exact .inl rfl | exact .inr rfl) : wGw B X (.Name x pos) vs y Γ μ QG := fun σ M F H v bo rs rl rp =>
  rd_pg (pg_name hN hi hx hf) (show _ ∧ QS X.K M F QG (σ.set i (some v)) H from ⟨wipe_set hv, _, F, μ, .refl _, rs.set rp, rl, q⟩)
theorem wGw_tup2 (i j : Nat) {x x' : Str} {p1 p2 : Pos} {kk : Nat} {vs : List Nat} {y z : A} (q : QG ((Γ.set i (some y)).set j (some z)) μ) (hN : X.N.Nodup) (hc : X.calm = true := by rfl) (hv : i ∈ vs := by decide) (hv' : j ∈ vs := by decide) (hi : X.N[i]? = some x := by rfl) (hj : X.N[j]? = some x' := by rfl)
    (hx : Loc X.env.scope x := by first | exact Or.inl rfl | exact Or.inr rfl) (hx' : Loc X.env.scope x' := by first | exact Or.inl rfl | exact Or.inr rfl)
    (hf : X.fn x = true ∨ X.env.scope.names.lookup x = some .local := by first | exact .inl rfl | exact .inr rfl) (hf' : X.fn x' = true ∨ X.env.scope.names.lookup x' = some .local := by first | exact .inl rfl | exact .inr rfl) : wGw B X (.Tuple [.Name x p1, .Name x' p2] kk pos) vs (.tup [y, z]) Γ μ QG := fun σ M F H v bo rs rl rp => by
  rw [rep_tup] at rp
  obtain ⟨p, ws, rfl, h1, h2⟩ := rp
  obtain ⟨v1, v2, rfl, g1, g2⟩ := h2.two
  refine rd_pg (pg_tup (n := 2) hc (pgs_cons (pg_name hN hi hx hf) (pgs_cons (pg_name hN hj hx' hf') pgs_nil))) ⟨p, [v1, v2], rfl, rl.sub.t h1, rfl, v1, [v2], rfl, v2, [], rfl, rfl, ?_⟩
  exact ⟨by rw [wipe_set hv', wipe_set hv], _, F, μ, .refl _, (rs.set g1).set g2, rl, q⟩
/-- the block of a comprehension -/
abbrev bk (X : Cx) (scope : Scope) (s0 : Shared) (H0 : Hp) (C : Addr) (cl : List (Str × Addr)) (fp : List Addr) : Cx := X.blk s0 H0 scope (compEnvC scope cl C X.env) fp
variable {elt tg iter c : Expr} {scope : Scope} {own : List (Str × Nat)}
/-- what a comprehension's turns ask: J by the turn, the list so far, what may change -/
def lcTurns (B : Bs) (X : Cx) (scope : Scope) (tg elt : Expr) (ifs : List Expr) (vs : List Nat) (Γ : G) (ys : List A) (J : Nat → List A → Mu → Prop) : Prop :=
  ∀ (i : Nat) y acc μ', ys[i]? = some y → J i acc μ' → ∀ s0 H0 C cl fp, wGw B (bk X scope s0 H0 C cl fp) tg vs y (wipeA Γ vs) μ' fun Γ2 μ2 =>
    match ifs with
    | [] => ∀ s0 H0 C cl fp, wE B (bk X scope s0 H0 C cl fp) elt Γ2 μ2 fun z μ4 => J (i + 1) (acc ++ [z]) μ4
    | [c] => ∀ s0 H0 C cl fp, wT B (bk X scope s0 H0 C cl fp) c Γ2 μ2 fun k μ3 => (k = true → ∀ s0 H0 C cl fp, wE B (bk X scope s0 H0 C cl fp) elt Γ2 μ3 fun z μ4 => J (i + 1) (acc ++ [z]) μ4) ∧ (k = false → J (i + 1) acc μ3)
    | _ => False
def lcAsk (B : Bs) (X : Cx) (scope : Scope) (tg iter elt : Expr) (ifs : List Expr) (vs : List Nat) (Γ : G) (μ : Mu) (Q : A → Mu → Prop) : Prop :=
  wIt B X tg iter Γ μ fun ys μ1 => ys.length ≤ sizeLine ∧ ∃ J : Nat → List A → Mu → Prop, J 0 [] μ1 ∧ lcTurns B X scope tg elt ifs vs Γ ys J ∧ ∀ acc μ', J ys.length acc μ' → ∀ p, μ' p = none → Q (.loc p) (μ'.upd p (.lst acc))
def bkG (X : Cx) (scope : Scope) (tg : Expr) : TG := fun v σ H Q => ∀ s0 H0 C cl fp, rdG (bk X scope s0 H0 C cl fp) tg v σ H Q
def bkE (X : Cx) (scope : Scope) (e : Expr) : TE := fun σ H Q => ∀ s0 H0 C cl fp, rdE (bk X scope s0 H0 C cl fp) e σ H Q
def bkT (X : Cx) (scope : Scope) (ifs : List Expr) : TT := match ifs with
  | [c] => fun σ H Q => ∀ s0 H0 C cl fp, rdT (bk X scope s0 H0 C cl fp) c σ H Q
  | _ => tYes
theorem lc_core_ask {ifs : List Expr} (hi : ifs = [] ∨ ∃ c, ifs = [c]) (h : lcAsk B X scope tg iter elt ifs (own.map (·.2)) Γ μ Q) {σ : L2.St} {M F H : Hp} (bo : B.ok M F) (rs : RelS X.K Γ F σ) (r : Rel X.K μ M F H) :
    tLc (rdI X tg iter) (bkG X scope tg) (bkT X scope ifs) (bkE X scope elt) (own.map (·.2)) σ H (QE X.K M F Q) := by
  generalize hvs : own.map (·.2) = vs at h
  refine ⟨fun pins s I0 => ?_⟩
  refine thn ((h σ M F H bo rs r).o pins s I0) fun v s1 h1 => thn h1 fun itv s2 h2 => ?_
  obtain ⟨it, fp, tn, J0, H2, g1, g2, g3, g4, g5, ys, F1, μ1, e1, r1, wk, hz, J, j0, turn, done⟩ := h2
  refine ⟨it, fp, tn, J0, H2, g1, g2, g3, g4, g5, fun p np => ?_⟩
  obtain ⟨hM, rN⟩ := r1.frmNew (o := .lst []) np
  refine ⟨fun i m H' => m = ys.length - i ∧ i ≤ ys.length ∧ ∃ F' μ' acc ws, Ex F1 F' ∧ Rel X.K μ' (upd M p (.lst ws)) F' H' ∧ RepL X.K F' acc ws ∧ acc.length ≤ i ∧ J i acc μ', ⟨ys.length, by simp, Nat.zero_le _, F1, μ1, [], [], .refl _, rN, .nil, Nat.le_refl _, j0⟩, ?_⟩
  rintro i m H' ⟨rfl, hi', F', μ', acc, ws, e2, r2, ra, hl, q⟩
  have rs' : RelS X.K (wipeA Γ vs) F' (wipe σ vs) := (wipeA_rel rs vs).mono (e1.trans e2)
  have bo' : B.ok (upd M p (.lst ws)) F' := (bo.up (.new hM)).mono (e1.trans e2)
  by_cases lt : i < ys.length
  · refine .inr ⟨wk.goes i H' lt (e2.trans r2.sub), fun H3 => ∃ F' μ' acc ws, Ex F1 F' ∧ Rel X.K μ' (upd M p (.lst ws)) F' H3 ∧ RepL X.K F' acc ws ∧ acc.length ≤ i + 1 ∧ J (i + 1) acc μ', fun H3 q3 => ⟨ys.length - (i + 1), by omega, rfl, lt, q3⟩, fun x H3 yl => ?_⟩
    obtain ⟨F2, y, e3, r3, hy, rp⟩ := wk.yields i H' x H3 _ F' μ' lt e2 r2 yl
    intro s0 H0 C cl fp'
    refine (turn i y acc μ' hy q s0 H0 C cl fp' (wipe σ vs) _ F2 H3 x (bo'.mono e3) (rs'.mono e3) r3 rp).imp fun σ4 H4 q4 => ?_
    obtain ⟨w4, Γ4, F4, μ4, e4, rs4, r4, q4⟩ := q4
    rw [hvs] at *
    have w5 : wipe σ4 vs = wipe σ vs := w4.trans (wipe_wipe vs fun _ h => h)
    refine ⟨w5, ?_⟩
    have elem : ∀ {F5 : Hp} {μ5 : Mu} {H5 : Hp}, Ex F4 F5 → Rel X.K μ5 (upd M p (.lst ws)) F5 H5 → (∀ s0 H0 C cl fp, wE B (bk X scope s0 H0 C cl fp) elt Γ4 μ5 fun z μ6 => J (i + 1) (acc ++ [z]) μ6) →
        bkE X scope elt σ4 H5 fun y H6 => ∃ acc', H6 p = some (.lst acc') ∧ acc'.length < sizeLine ∧ ∃ F' μ' acc ws, Ex F1 F' ∧ Rel X.K μ' (upd M p (.lst ws)) F' (upd H6 p (.lst (acc' ++ [y]))) ∧ RepL X.K F' acc ws ∧ acc.length ≤ i + 1 ∧ J (i + 1) acc μ' := by
      intro F5 μ5 H5 e5 r5 hE s0 H0 C cl fp6
      refine (hE s0 H0 C cl fp6 σ4 _ F5 H5 (bo'.mono ((e3.trans e4).trans e5)) (rs4.mono e5) r5).imp fun z6 H6 ⟨z, F6, μ6, e6, r6, p6, q6⟩ => ?_
      obtain ⟨_, _, hp6⟩ := r6.frm p _ upd_same
      have ex := ((e3.trans e4).trans e5).trans e6
      refine ⟨ws, hp6, by rw [ra.len]; omega, F6, μ6, acc ++ [z], ws ++ [z6], e2.trans ex, r6.frmWrite, (ra.mono ex).snoc p6, by simp; omega, q6⟩
    rcases hi with rfl | ⟨c, rfl⟩
    · have k := elem (.refl _) r4 q4
      simp only [bkT, tYes, if_true]
      exact k
    · intro s0 H0 C cl fp6
      refine (q4 s0 H0 C cl fp6 σ4 _ F4 H4 (bo'.mono (e3.trans e4)) rs4 r4).imp fun k H5 ⟨F5, μ5, e5, r5, k1, k2⟩ => ?_
      cases k with
      | true => exact iteT (elem e5 r5 (k1 rfl))
      | false => exact iteF ⟨F5, μ5, acc, ws, (e2.trans (e3.trans e4)).trans e5, r5, ra.mono ((e3.trans e4).trans e5), by omega, k2 rfl⟩
  · obtain rfl : i = ys.length := by omega
    obtain ⟨nμ, rO⟩ := r2.frmOut (m := .lst acc) hM ⟨ws, rfl, ra⟩
    exact .inl ⟨wk.stops H' (e2.trans r2.sub), .loc p, F', _, e1.trans e2, rO, rep_loc.mpr rfl, done acc μ' q p nμ⟩
end
end D

set_option exponentiation.threshold 256
set_option pp.maxSteps 5000
set_option Elab.async false
set_option linter.all false
set_option maxRecDepth 100000
set_option maxHeartbeats 4000000
/-! D7: comprehensions as they are used, methods, dicts, repr. -/
namespace D
open PySem PySem.Spec PyProof.Rows L2
section
variable {B : Bs} {X : Cx} {Γ : G} {μ : Mu} {Q : A → Mu → Prop} {Z : AD} {e o i : Expr} {pos apos cpos : Pos}
variable {elt tg iter c : Expr} {scope : Scope} {own : List (Str × Nat)} {ifs : List Expr}
theorem bk_pts (hi : ifs = [] ∨ ∃ c, ifs = [c]) : ∀ (s0 : Shared) (H0 : Hp) (C : Addr) (cl : List (Str × Addr)) (fp : List Addr), PTs (X.blk s0 H0 scope (compEnvC scope cl C X.env) fp) ifs (bkT X scope ifs) := by
  rcases hi with rfl | ⟨c, rfl⟩
  · exact fun _ _ _ _ _ => pts_nil
  · exact fun s0 H0 C cl fp => pts_one ⟨fun pins s σ H Q I h => (h s0 H0 C cl fp).o pins s I⟩
theorem bkG_pg (s0 : Shared) (H0 : Hp) (C : Addr) (cl : List (Str × Addr)) (fp : List Addr) : PG (X.blk s0 H0 scope (compEnvC scope cl C X.env) fp) tg (bkG X scope tg) := ⟨fun pins s _ _ _ u _ I r h => (h s0 H0 C cl fp).o pins s u I r⟩
theorem bkE_pe (s0 : Shared) (H0 : Hp) (C : Addr) (cl : List (Str × Addr)) (fp : List Addr) : PE (X.blk s0 H0 scope (compEnvC scope cl C X.env) fp) elt (bkE X scope elt) := ⟨fun pins s _ _ _ I h => (h s0 H0 C cl fp).o pins s I⟩
/-- a comprehension: a list that is ours -/
theorem wE_lc (own : List (Str × Nat)) (h : lcAsk B X scope tg iter elt ifs (own.map (·.2)) Γ μ Q) (hN : X.N.Nodup) (ok : BlkOk X.N X.env.scope scope own) (hi : ifs = [] ∨ ∃ c, ifs = [c] := by first | exact .inl rfl | exact .inr ⟨_, rfl⟩) (hc : X.calm = true := by rfl) (hs : ∀ x, foldedSetIterable iter X.env x = pure x := by intro _; rfl) :
    wE B X (.ListComp elt [⟨tg, iter, ifs, 0⟩] scope pos) Γ μ Q :=
  wE_of (pe_lc (own := own) hc hN pi_rd ok (fun s0 H0 C cl fp => bkG_pg s0 H0 C cl fp) (bk_pts hi) (fun s0 H0 C cl fp => bkE_pe s0 H0 C cl fp) hs) fun σ M F H bo rs r => lc_core_ask hi h bo rs r
/-- name = a comprehension -/
theorem wS_setLc (own : List (Str × Nat)) (i : Nat) {y : Str} {py spos : Pos} (h : lcAsk B X scope tg iter elt ifs (own.map (·.2)) Γ μ fun z μ1 => Z.nx (Γ.set i (some z)) μ1) (hN : X.N.Nodup) (ok : BlkOk X.N X.env.scope scope own)
    (hsw : swapsWith (.ListComp elt [⟨tg, iter, ifs, 0⟩] scope pos) (some (.Name y py)) spos.line X.env = pure true)
    (hi : ifs = [] ∨ ∃ c, ifs = [c] := by first | exact .inl rfl | exact .inr ⟨_, rfl⟩) (hc : X.calm = true := by rfl) (hy : X.N[i]? = some y := by rfl) (hyl : X.env.scope.names.lookup y = some .local := by rfl) (hs : ∀ x, foldedSetIterable iter X.env x = pure x := by intro _; rfl) :
    wS B X (.Assign [.Name y py] (.ListComp elt [⟨tg, iter, ifs, 0⟩] scope pos) spos) Γ μ Z :=
  wS_of (ps_setLc (own := own) hc hN hy hyl hsw pi_rd ok (fun s0 H0 C cl fp => bkG_pg s0 H0 C cl fp) (bk_pts hi) (fun s0 H0 C cl fp => bkE_pe s0 H0 C cl fp) hs) fun σ M F H bo rs r => by
  have k := lc_core_ask hi h bo rs r
  obtain ⟨K0⟩ : Nonempty Unit := ⟨()⟩
  refine ⟨fun pins s I => ?_⟩
  refine thn (k.o pins s I) fun v s1 h1 => thn h1 fun itv s2 h2 => ?_
  obtain ⟨it, fp, tn, J0, H2, g1, g2, g3, g4, g5, q⟩ := h2
  refine ⟨it, fp, tn, J0, H2, g1, g2, g3, g4, g5, fun p np => ?_⟩
  obtain ⟨W, w0, turn⟩ := q p np
  refine ⟨W, w0, fun i' m H' w => ?_⟩
  rcases turn i' m H' w with ⟨st, q⟩ | q
  · refine .inl ⟨st, ?_⟩
    obtain ⟨x, F', μ', ex, rl, rp, q⟩ := q
    exact ⟨_, F', μ', ex, (rs.mono ex).set rp, rl, q⟩
  · exact .inr q

/-! ### comprehensions whose turns change nothing: the list of the answers -/
def Sub (μ μ' : Mu) : Prop := ∀ p m, μ p = some m → μ' p = some m
theorem Sub.refl (μ : Mu) : Sub μ μ := fun _ _ h => h
theorem Sub.trans {μ μ1 μ2 : Mu} (a : Sub μ μ1) (b : Sub μ1 μ2) : Sub μ μ2 := fun p m h => b p m (a p m h)
theorem Sub.new {μ : Mu} {p : Addr} {m : MO} (h : μ p = none) : Sub μ (μ.upd p m) := fun q n e => by
  have hq : q ≠ p := fun z => by rw [z, h] at e; cases e
  rw [Mu.upd_ne hq]; exact e
theorem Sub.none {μ μ' : Mu} {p : Addr} (a : Sub μ μ') (h : μ' p = Option.none) : μ p = Option.none := by
  cases q : μ p with
  | none => rfl
  | some m => rw [a p m q] at h; cases h
/-- what is not ours any more is forgotten -/
theorem wE_sub (h : wE B X e Γ μ fun x μ' => ∃ μ2, Sub μ2 μ' ∧ Q x μ2) : wE B X e Γ μ Q := fun σ M F H bo rs r =>
  (h σ M F H bo rs r).imp fun v H' ⟨x, F', μ', h1, h2, h3, μ2, h4, h5⟩ => ⟨x, F', μ2, h1, h2.weak h4, h3, h5⟩
/-- an expression that comes to z and leaves what is ours -/
def vE (B : Bs) (X : Cx) (e : Expr) (Γ : G) (μ : Mu) (z : A) : Prop := wE B X e Γ μ fun z' μ' => z' = z ∧ Sub μ μ'
theorem vE.use {z : A} (h : vE B X e Γ μ z) (q : Q z μ) : wE B X e Γ μ Q := wE_sub (wE.imp h fun x μ' ⟨e1, s1⟩ => ⟨μ, s1, by rw [e1]; exact q⟩)
theorem lcMap {vs : List Nat} (h : wIt B X tg iter Γ μ fun ys μ1 => ys.length ≤ sizeLine ∧ ∃ zs : List A, zs.length = ys.length ∧
      (∀ (i : Nat) y z, ys[i]? = some y → zs[i]? = some z → ∀ s0 H0 C cl fp, wGw B (bk X scope s0 H0 C cl fp) tg vs y (wipeA Γ vs) μ1 fun Γ2 μ2 => μ2 = μ1 ∧ ∀ s0 H0 C cl fp, vE B (bk X scope s0 H0 C cl fp) elt Γ2 μ1 z) ∧
      ∀ p : Addr, μ1 p = none → Q (.loc p) (μ1.upd p (.lst zs))) : lcAsk B X scope tg iter elt [] vs Γ μ Q := fun σ M F H bo rs r => by
  refine ⟨fun pins s I => ?_⟩
  refine thn ((h σ M F H bo rs r).o pins s I) fun v s1 h1 => thn h1 fun itv s2 h2 => ?_
  obtain ⟨it, fp, tn, J0, H2, g1, g2, g3, g4, g5, ys, F1, μ1, e1, r1, wk, hz, zs, hl, turn, done⟩ := h2
  refine ⟨it, fp, tn, J0, H2, g1, g2, g3, g4, g5, ys, F1, μ1, e1, r1, wk, hz, fun i acc μ' => acc = zs.take i ∧ μ' = μ1, ⟨by simp, rfl⟩, ?_, ?_⟩
  · rintro i y acc _ hy ⟨ea, rfl⟩ s0 H0 C cl fp'
    have hi : i < zs.length := by rw [hl]; exact (List.getElem?_eq_some_iff.mp hy).1
    have t := turn i y zs[i] hy (List.getElem?_eq_getElem hi) s0 H0 C cl fp'
    intro σ3 M3 F3 H3 v3 bo3 rs3 r3 rp3
    refine (t σ3 M3 F3 H3 v3 bo3 rs3 r3 rp3).imp fun σ4 H4 ⟨w4, Γ4, F4, μ4, e4, rs4, r4, em, q4⟩ => ⟨w4, Γ4, F4, μ4, e4, rs4, r4, ?_⟩
    subst em
    intro s0 H0 C cl fp6
    refine (q4 s0 H0 C cl fp6).use ⟨?_, rfl⟩
    rw [ea, List.take_succ, List.getElem?_eq_getElem hi]; rfl
  · rintro acc _ ⟨ea, rfl⟩ p np
    rw [ea, ← hl, List.take_length]
    exact done p np
/-- .. with a test: ks tells which are taken -/
def pickA : List Bool → List A → List A
  | k :: ks, z :: zs => if k then z :: pickA ks zs else pickA ks zs
  | _, _ => []
theorem pickA_snoc : ∀ (ks : List Bool) (zs : List A) (k : Bool) (z : A), ks.length = zs.length → pickA (ks ++ [k]) (zs ++ [z]) = pickA ks zs ++ (if k then [z] else [])
  | [], [], k, z, _ => by cases k <;> simp [pickA]
  | k' :: ks, z' :: zs, k, z, h => by
    have ih := pickA_snoc ks zs k z (by simpa using h)
    simp only [List.cons_append, pickA, ih]
    cases k' <;> simp
  | [], _ :: _, _, _, h => by simp at h
  | _ :: _, [], _, _, h => by simp at h
theorem pickA_map {α : Type} (p : α → Bool) (f : α → A) : ∀ l : List α, pickA (l.map p) (l.map f) = (l.filter p).map f
  | [] => rfl
  | a :: l => by
    simp only [List.map_cons, pickA, pickA_map p f l, List.filter_cons]
    cases p a <;> simp
/-- a test that comes to k and leaves what is ours -/
def vT (B : Bs) (X : Cx) (e : Expr) (Γ : G) (μ : Mu) (k : Bool) : Prop := wT B X e Γ μ fun k' μ' => k' = k ∧ Sub μ μ'
theorem wT_sub {QB : Bool → Mu → Prop} (h : wT B X e Γ μ fun x μ' => ∃ μ2, Sub μ2 μ' ∧ QB x μ2) : wT B X e Γ μ QB := fun σ M F H bo rs r =>
  (h σ M F H bo rs r).imp fun v H' ⟨F', μ', h1, h2, μ2, h4, h5⟩ => ⟨F', μ2, h1, h2.weak h4, h5⟩
theorem vT.use {k : Bool} {QB : Bool → Mu → Prop} (h : vT B X e Γ μ k) (q : QB k μ) : wT B X e Γ μ QB := wT_sub (wT.imp h fun x μ' ⟨e1, s1⟩ => ⟨μ, s1, by rw [e1]; exact q⟩)
theorem lcPick {vs : List Nat} (h : wIt B X tg iter Γ μ fun ys μ1 => ys.length ≤ sizeLine ∧ ∃ (ks : List Bool) (zs : List A), ks.length = ys.length ∧ zs.length = ys.length ∧
      (∀ (i : Nat) y k z, ys[i]? = some y → ks[i]? = some k → zs[i]? = some z → ∀ s0 H0 C cl fp, wGw B (bk X scope s0 H0 C cl fp) tg vs y (wipeA Γ vs) μ1 fun Γ2 μ2 => μ2 = μ1 ∧ (∀ s0 H0 C cl fp, vT B (bk X scope s0 H0 C cl fp) c Γ2 μ1 k) ∧ (k = true → ∀ s0 H0 C cl fp, vE B (bk X scope s0 H0 C cl fp) elt Γ2 μ1 z)) ∧
      ∀ p : Addr, μ1 p = none → Q (.loc p) (μ1.upd p (.lst (pickA ks zs)))) : lcAsk B X scope tg iter elt [c] vs Γ μ Q := fun σ M F H bo rs r => by
  refine ⟨fun pins s I => ?_⟩
  refine thn ((h σ M F H bo rs r).o pins s I) fun v s1 h1 => thn h1 fun itv s2 h2 => ?_
  obtain ⟨it, fp, tn, J0, H2, g1, g2, g3, g4, g5, ys, F1, μ1, e1, r1, wk, hz, ks, zs, hk, hl, turn, done⟩ := h2
  refine ⟨it, fp, tn, J0, H2, g1, g2, g3, g4, g5, ys, F1, μ1, e1, r1, wk, hz, fun i acc μ' => acc = pickA (ks.take i) (zs.take i) ∧ μ' = μ1, ⟨by simp [pickA], rfl⟩, ?_, ?_⟩
  · rintro i y acc _ hy ⟨ea, rfl⟩ s0 H0 C cl fp'
    have hy' := (List.getElem?_eq_some_iff.mp hy).1
    have hi : i < zs.length := by rw [hl]; exact hy'
    have hi' : i < ks.length := by rw [hk]; exact hy'
    have t := turn i y ks[i] zs[i] hy (List.getElem?_eq_getElem hi') (List.getElem?_eq_getElem hi) s0 H0 C cl fp'
    have en : pickA (ks.take (i + 1)) (zs.take (i + 1)) = acc ++ (if ks[i] then [zs[i]] else []) := by
      rw [ea, List.take_succ, List.take_succ, List.getElem?_eq_getElem hi, List.getElem?_eq_getElem hi']
      exact pickA_snoc _ _ _ _ (by simp; omega)
    intro σ3 M3 F3 H3 v3 bo3 rs3 r3 rp3
    refine (t σ3 M3 F3 H3 v3 bo3 rs3 r3 rp3).imp fun σ4 H4 ⟨w4, Γ4, F4, μ4, e4, rs4, r4, em, q4, q5⟩ => ⟨w4, Γ4, F4, μ4, e4, rs4, r4, ?_⟩
    subst em
    intro s0 H0 C cl fp6
    refine (q4 s0 H0 C cl fp6).use ⟨fun kt s0 H0 C cl fp7 => (q5 kt s0 H0 C cl fp7).use ⟨?_, rfl⟩, fun kf => ⟨?_, rfl⟩⟩
    · rw [en, kt]; rfl
    · rw [en, kf]; simp
  · rintro acc _ ⟨ea, rfl⟩ p np
    rw [ea, ← hl, List.take_length, hl, ← hk, List.take_length]
    exact done p np

/-! ### methods of lists -/
theorem wE_append (h : wE B X o Γ μ fun x μ1 => ∃ p ys0, x = .loc p ∧ μ1 p = some (.lst ys0) ∧ wE B X e Γ μ1 fun y μ2 => ∃ ys, μ2 p = some (.lst ys) ∧ ys.length < sizeLine ∧ Q .non (μ2.upd p (.lst (ys ++ [y]))))
    (hbase : attributeBase o "append" X.env (eval o X.env) = eval o X.env := by rfl)
    (hfew : ((backTo cpos (starEach [e] X.env)).all (fun x => !x.1) && (backToKw cpos (keywordEach [] X.env)).all (fun x => x.1.isSome) && decide (([e] : List Expr).length + ([] : List Keyword).length + (if ([] : List Keyword).isEmpty then 0 else 1) < 30)) = true := by rfl)
    (hline : (apos.endLine == cpos.line) = true := by rfl) (hs : starEach [e] X.env = (false, eval e X.env) :: starEach [] X.env := by rfl) (hplain : (backTo cpos (starEach [] X.env)).any (·.1) = false := by rfl) : wE B X (.Call (.Attribute o "append" apos) [e] [] cpos) Γ μ Q :=
  wE_of (pe_bm PySem.F.plainAttrs_list PySem.F.slot_list_append PySem.F.type_list_append mt_append pe_rd (pa_cons pe_rd pa_nil hs) hbase hfew hline hs hplain) fun σ M F H bo rs r => by
  refine (h σ M F H bo rs r).imp fun v H1 ⟨x, F1, μ1, e1, r1, p1, p, ys0, ex, hp, q1⟩ => ?_
  subst ex; rw [rep_loc] at p1
  obtain ⟨_, ob, k1, vs, rfl, k2⟩ := r1.own p _ hp
  refine ⟨by rw [p1]; exact .inl ⟨rfl, _, .inl (.inl k1)⟩, ?_⟩
  refine (q1 σ M F1 H1 (bo.mono e1) (rs.mono e1) r1).imp fun w H2 ⟨y, F2, μ2, e2, r2, p2, ys, hq, hz, q2⟩ => ?_
  obtain ⟨_, ob, k3, ws, rfl, k4⟩ := r2.own p _ hq
  exact ⟨p, ws, w, p1, rfl, k3, by rw [k4.len]; exact hz, _, F2, _, e1.trans e2, r2.write hq (m' := .lst (ys ++ [y])) ⟨_, rfl, k4.snoc p2⟩, rep_non.mpr rfl, q2⟩

/-! ### dicts -/
def kA : Key → A
  | .inl i => .int i
  | .inr x => .str x
theorem kA_rep {K : PySem.W.Frag} {F : Hp} {k : Key} {v : V} (h : Rep K F (kA k) v) : v = kV k := by
  cases k with
  | inl i => exact rep_int.mp h
  | inr x => exact rep_str.mp h
def valA (kvs : List (Key × A)) (k : Key) : Option A := (kvs.find? fun kv => decide (kv.1 = k)).map (·.2)
def putA (kvs : List (Key × A)) (k : Key) (v : A) : List (Key × A) := if (kvs.any fun kv => decide (kv.1 = k)) = true then kvs.map (fun kv => if kv.1 = k then (kv.1, v) else kv) else kvs ++ [(k, v)]
theorem valA_rep {K : PySem.W.Frag} {F : Hp} : ∀ {kvs : List (Key × A)} {ws : List (Key × V)} (k : Key), RepK K F kvs ws → (valA kvs k = none ∧ valV ws k = none) ∨ ∃ z v, valA kvs k = some z ∧ valV ws k = some v ∧ Rep K F z v
  | [], _, k, h => by rw [show _ = [] from h]; exact .inl ⟨rfl, rfl⟩
  | (k', x) :: r, _, k, ⟨v, t, e, h1, h2⟩ => by
    subst e
    by_cases ek : k' = k
    · exact .inr ⟨x, v, by simp [valA, ek], by simp [valV, ek], h1⟩
    · rcases valA_rep k h2 with h | ⟨z, w, h3, h4, h5⟩
      · refine .inl ⟨?_, ?_⟩
        · have := h.1; simp only [valA, List.find?_cons, ek, decide_false] at this ⊢; exact this
        · have := h.2; simp only [valV, List.find?_cons, ek, decide_false] at this ⊢; exact this
      · refine .inr ⟨z, w, ?_, ?_, h5⟩
        · simp only [valA, List.find?_cons, ek, decide_false] at h3 ⊢; exact h3
        · simp only [valV, List.find?_cons, ek, decide_false] at h4 ⊢; exact h4
theorem any_rep {K : PySem.W.Frag} {F : Hp} (k : Key) : ∀ {kvs : List (Key × A)} {ws : List (Key × V)}, RepK K F kvs ws → (ws.any fun kv => decide (kv.1 = k)) = kvs.any fun kv => decide (kv.1 = k)
  | [], _, h => by rw [show _ = [] from h]; rfl
  | (k', x) :: r, _, ⟨v, t, e, h1, h2⟩ => by subst e; simp only [List.any_cons, any_rep k h2]
theorem mapK_rep {K : PySem.W.Frag} {F : Hp} {k : Key} {z : A} {w : V} (g : Rep K F z w) : ∀ {kvs : List (Key × A)} {ws : List (Key × V)}, RepK K F kvs ws → RepK K F (kvs.map fun kv => if kv.1 = k then (kv.1, z) else kv) (ws.map fun kv => if kv.1 = k then (kv.1, w) else kv)
  | [], _, h => by rw [show _ = [] from h]; rfl
  | (k', x) :: r, _, ⟨v, t, e, h1, h2⟩ => by
    subst e
    simp only [List.map_cons]
    by_cases ek : k' = k
    · rw [if_pos ek, if_pos ek]; exact ⟨w, _, rfl, g, mapK_rep g h2⟩
    · rw [if_neg ek, if_neg ek]; exact ⟨v, _, rfl, h1, mapK_rep g h2⟩
theorem snocK_rep {K : PySem.W.Frag} {F : Hp} {k : Key} {z : A} {w : V} (g : Rep K F z w) : ∀ {kvs : List (Key × A)} {ws : List (Key × V)}, RepK K F kvs ws → RepK K F (kvs ++ [(k, z)]) (ws ++ [(k, w)])
  | [], _, h => by rw [show _ = [] from h]; exact ⟨w, [], rfl, g, rfl⟩
  | (k', x) :: r, _, ⟨v, t, e, h1, h2⟩ => by subst e; exact ⟨v, _, rfl, h1, snocK_rep g h2⟩
theorem putA_rep {K : PySem.W.Frag} {F : Hp} {k : Key} {z : A} {w : V} (g : Rep K F z w) {kvs : List (Key × A)} {ws : List (Key × V)} (h : RepK K F kvs ws) : RepK K F (putA kvs k z) (putK ws k w) := by
  unfold putA putK
  rw [any_rep k h]
  split
  · exact mapK_rep g h
  · exact snocK_rep g h
theorem wE_dget {k : Nat} (ar : Ar X k) (h : wE B X o Γ μ fun x μ1 => wE B X i Γ μ1 fun y μ2 => ∃ p kvs k z, x = .loc p ∧ μ2 p = some (.dic kvs) ∧ y = kA k ∧ valA kvs k = some z ∧ Q z μ2) (hs : NoSl i := by exact fun _ _ => rfl) : wE B X (.Subscript o i pos) Γ μ Q :=
  wE_of (pe_dget ar.u1 pe_rd pe_rd hs) fun σ M F H bo rs r => by
  refine (h σ M F H bo rs r).imp fun v H1 ⟨x, F1, μ1, e1, r1, p1, q1⟩ => ?_
  refine (q1 σ M F1 H1 (bo.mono e1) (rs.mono e1) r1).imp fun w H2 ⟨y, F2, μ2, e2, r2, p2, p, kvs, k, z, ex, hp, ey, hv, q2⟩ => ?_
  subst ex; subst ey
  rw [rep_loc] at p1
  obtain ⟨_, ob, k1, ws, rfl, k2⟩ := r2.own p _ hp
  rcases valA_rep k k2 with ⟨h1, _⟩ | ⟨z', v', h1, h2, h3⟩
  · rw [h1] at hv; cases hv
  · rw [hv] at h1; cases h1
    refine ⟨p, v', p1, ?_, z, F2, μ2, e1.trans e2, r2, h3, q2⟩
    rw [kA_rep p2, ← h2]
    exact DGet.k k1
theorem wS_dput {k : Nat} {pos' : Pos} (ar : Ar X k) (h : wE B X e Γ μ fun z μ1 => wE B X o Γ μ1 fun x μ2 => wE B X i Γ μ2 fun y μ3 => ∃ p kvs k, x = .loc p ∧ μ3 p = some (.dic kvs) ∧ y = kA k ∧ kvs.length < sizeLine ∧ Z.nx Γ (μ3.upd p (.dic (putA kvs k z))))
    (hs : swapsWith e (some (.Subscript o i pos')) pos.line X.env = pure false := by rfl) : wS B X (.Assign [.Subscript o i pos'] e pos) Γ μ Z := wS_of (ps_dput ar.u1 pe_rd pe_rd pe_rd hs) fun σ M F H bo rs r => by
  refine (h σ M F H bo rs r).imp fun u H0 ⟨z, F0, μ0, e0, r0, p0, q0⟩ => ?_
  refine (q0 σ M F0 H0 (bo.mono e0) (rs.mono e0) r0).imp fun v H1 ⟨x, F1, μ1, e1, r1, p1, q1⟩ => ?_
  refine (q1 σ M F1 H1 (bo.mono (e0.trans e1)) (rs.mono (e0.trans e1)) r1).imp fun w H2 ⟨y, F2, μ2, e2, r2, p2, p, kvs, k, ex, hp, ey, hl, q2⟩ => ?_
  subst ex; subst ey
  rw [rep_loc] at p1
  obtain ⟨_, ob, k1, ws, rfl, k2⟩ := r2.own p _ hp
  refine ⟨p, upd H2 p (.dK (putK ws k u)), p1, ?_, Γ, F2, _, (e0.trans e1).trans e2, rs.mono ((e0.trans e1).trans e2), r2.write hp (m' := .dic (putA kvs k z)) ⟨_, rfl, putA_rep (p0.mono (e1.trans e2)) k2⟩, q2⟩
  rw [kA_rep p2]
  exact DPut.k k1 (by rw [k2.len]; exact hl)
/-- {} -/
theorem wE_dnew (q : ∀ p, μ p = none → Q (.loc p) (μ.upd p (.dic []))) : wE B X (.Dict [] [] pos) Γ μ Q := wE_of pe_dnewK fun σ M F H bo rs r p np => by
  obtain ⟨nμ, rl'⟩ := r.new (m := .dic []) (o := .dK []) np ⟨[], rfl, rfl⟩
  exact ⟨_, _, _, .refl _, rl', rep_loc.mpr rfl, q p nμ⟩
end
end D

set_option exponentiation.threshold 256
set_option pp.maxSteps 5000
set_option Elab.async false
set_option linter.all false
set_option maxRecDepth 100000
set_option maxHeartbeats 4000000
/-! D8: dict displays, repr. -/
namespace D
open PySem PySem.Spec PyProof.Rows L2
section
variable {B : Bs} {X : Cx} {Γ : G} {μ : Mu} {Q : A → Mu → Prop} {Z : AD} {e o i : Expr} {pos apos cpos : Pos}
/-! ### a written dict -/
def rdPs (X : Cx) : List (Option Expr) → List Expr → List (TE × TE)
  | some k :: ks, v :: vs => (rdE X k, rdE X v) :: rdPs X ks vs
  | _, _ => []
def okPs : List (Option Expr) → List Expr → Bool
  | [], [] => true
  | some _ :: ks, _ :: vs => okPs ks vs
  | _, _ => false
theorem pps_rd : ∀ {ks : List (Option Expr)} {vs : List Expr}, okPs ks vs = true → PPs X pos ks vs (rdPs X ks vs)
  | [], [], _ => pps_nil
  | some _ :: _, _ :: _, h => pps_cons pe_rd pe_rd (pps_rd (by simpa [okPs] using h))
  | [], _ :: _, h => by simp [okPs] at h
  | none :: _, _, h => by simp [okPs] at h
  | some _ :: _, [], h => by simp [okPs] at h
def wPs (B : Bs) (X : Cx) : List (Option Expr) → List Expr → G → Mu → (List (A × A) → Mu → Prop) → Prop
  | some k :: ks, v :: vs, Γ, μ, R => wE B X k Γ μ fun x μ1 => wE B X v Γ μ1 fun y μ2 => wPs B X ks vs Γ μ2 fun ps μ3 => R ((x, y) :: ps) μ3
  | _, _, _, μ, R => R [] μ
def RepP (K : PySem.W.Frag) (F : Hp) : List (A × A) → List (V × V) → Prop
  | [], vs => vs = []
  | (x, y) :: r, vs => ∃ v w t, vs = (v, w) :: t ∧ Rep K F x v ∧ Rep K F y w ∧ RepP K F r t
theorem RepP.mono {K : PySem.W.Frag} {F F' : Hp} (e : Ex F F') : ∀ {ps : List (A × A)} {vs : List (V × V)}, RepP K F ps vs → RepP K F' ps vs
  | [], _, h => h
  | (x, y) :: r, _, ⟨v, w, t, h1, h2, h3, h4⟩ => ⟨v, w, t, h1, h2.mono e, h3.mono e, RepP.mono e h4⟩
theorem pairs_run {M : Hp} : ∀ {ks : List (Option Expr)} {vs : List Expr} {μ : Mu} {R : List (A × A) → Mu → Prop} {σ : L2.St} {F H : Hp}, wPs B X ks vs Γ μ R → B.ok M F → RelS X.K Γ F σ → Rel X.K μ M F H → tPairs (rdPs X ks vs) σ H fun ps H' => ∃ qs F' μ', Ex F F' ∧ Rel X.K μ' M F' H' ∧ RepP X.K F' qs ps ∧ R qs μ'
  | [], [], μ, R, σ, F, H, h, bo, rs, r => ⟨[], F, μ, .refl _, r, rfl, h⟩
  | [], _ :: _, μ, R, σ, F, H, h, bo, rs, r => ⟨[], F, μ, .refl _, r, rfl, h⟩
  | none :: _, _, μ, R, σ, F, H, h, bo, rs, r => ⟨[], F, μ, .refl _, r, rfl, h⟩
  | some _ :: _, [], μ, R, σ, F, H, h, bo, rs, r => ⟨[], F, μ, .refl _, r, rfl, h⟩
  | some k :: ks, v :: vs, μ, R, σ, F, H, h, bo, rs, r => by
    refine (show wE B X k Γ μ _ from h) σ M F H bo rs r |>.imp fun a H1 ⟨x, F1, μ1, e1, r1, p1, q1⟩ => ?_
    refine (q1 σ M F1 H1 (bo.mono e1) (rs.mono e1) r1).imp fun b H2 ⟨y, F2, μ2, e2, r2, p2, q2⟩ => ?_
    have k := pairs_run q2 (bo.mono (e1.trans e2)) (rs.mono (e1.trans e2)) r2
    have mono : ∀ (trs : List (TE × TE)), (∀ p ∈ trs, ∃ e1 e2, p = (rdE X e1, rdE X e2)) → ∀ (σ : L2.St) (H : Hp) (P P' : List (V × V) → Hp → Prop), (∀ ps H, P ps H → P' ps H) → tPairs trs σ H P → tPairs trs σ H P' := by
      intro trs
      induction trs with
      | nil => intro _ σ H P P' w h; exact w _ _ h
      | cons p r ih =>
        intro hp σ H P P' w h
        obtain ⟨a1, a2, rfl⟩ := hp _ List.mem_cons_self
        exact rdE_mono h fun x H1 h1 => rdE_mono h1 fun y H2 h2 => ih (fun q hq => hp q (List.mem_cons_of_mem _ hq)) σ H2 _ _ (fun ps H3 q => w _ _ q) h2
    have shape : ∀ (ks : List (Option Expr)) (vs : List Expr), ∀ p ∈ rdPs X ks vs, ∃ e1 e2, p = (rdE X e1, rdE X e2) := by
      intro ks
      induction ks with
      | nil => intro vs p hp; simp [rdPs] at hp
      | cons k ks ih =>
        intro vs p hp
        cases k with
        | none => simp [rdPs] at hp
        | some k => cases vs with
          | nil => simp [rdPs] at hp
          | cons v vs =>
            simp only [rdPs, List.mem_cons] at hp
            rcases hp with rfl | hp
            · exact ⟨_, _, rfl⟩
            · exact ih vs p hp
    refine mono _ (shape ks vs) _ _ _ _ (fun ps H3 q => ?_) k
    obtain ⟨qs, F3, μ3, e3, r3, p3, q3⟩ := q
    exact ⟨(x, y) :: qs, F3, μ3, (e1.trans e2).trans e3, r3, ⟨a, b, ps, rfl, p1.mono (e2.trans e3), p2.mono e3, p3⟩, q3⟩
def mergeA (kvs more : List (Key × A)) : List (Key × A) := more.foldl (fun acc kv => putA acc kv.1 kv.2) kvs
theorem merge_rep {K : PySem.W.Frag} {F : Hp} : ∀ {more : List (Key × A)} {ms : List (Key × V)} {kvs : List (Key × A)} {ws : List (Key × V)}, RepK K F more ms → RepK K F kvs ws → RepK K F (mergeA kvs more) (mergeK ws ms)
  | [], _, _, _, h, g => by rw [show _ = [] from h]; exact g
  | (k, x) :: r, _, kvs, ws, ⟨v, t, e, h1, h2⟩, g => by subst e; exact merge_rep (kvs := putA kvs k x) (ws := putK ws k v) h2 (putA_rep h1 g)
theorem keys_rep {K : PySem.W.Frag} {F : Hp} : ∀ {kvs : List (Key × A)} {ps : List (V × V)}, RepP K F (kvs.map fun kv => (kA kv.1, kv.2)) ps → ∃ ws : List (Key × V), ps = ws.map (fun kv => (kV kv.1, kv.2)) ∧ RepK K F kvs ws
  | [], _, h => ⟨[], h, rfl⟩
  | (k, x) :: r, _, h => by
    obtain ⟨v, w, t, rfl, h1, h2, h3⟩ := h
    obtain ⟨ws, rfl, h4⟩ := keys_rep (kvs := r) h3
    exact ⟨(k, w) :: ws, by rw [kA_rep h1]; rfl, w, ws, rfl, h2, h4⟩
theorem wE_disp {ks : List (Option Expr)} {vs : List Expr} (h : wPs B X ks vs Γ μ fun ps μ1 => ∃ kvs : List (Key × A), ps = kvs.map (fun kv => (kA kv.1, kv.2)) ∧ kvs.length ≤ 15 ∧ ∀ p : Addr, μ1 p = none → Q (.loc p) (μ1.upd p (.dic (mergeA [] kvs))))
    (ok : okPs ks vs = true := by rfl) (h0 : ks ≠ [] := by exact fun z => nomatch z) (hall : ks.all (·.isSome) = true := by rfl) (hl : ks.length = vs.length := by rfl) (h15 : ks.length ≤ 15 := by decide) : wE B X (.Dict ks vs pos) Γ μ Q :=
  wE_of (pe_disp (pps_rd ok) hall hl h0 h15) fun σ M F H bo rs r p np => by
  obtain ⟨hM, rN⟩ := r.frmNew (o := .dK []) np
  have k := pairs_run h (bo.up (.new hM)) rs rN
  have mono : ∀ (trs : List (TE × TE)), (∀ p ∈ trs, ∃ e1 e2, p = (rdE X e1, rdE X e2)) → ∀ (σ : L2.St) (H : Hp) (P P' : List (V × V) → Hp → Prop), (∀ ps H, P ps H → P' ps H) → tPairs trs σ H P → tPairs trs σ H P' := by
    intro trs
    induction trs with
    | nil => intro _ σ H P P' w h; exact w _ _ h
    | cons p r ih =>
      intro hp σ H P P' w h
      obtain ⟨a1, a2, rfl⟩ := hp _ List.mem_cons_self
      exact rdE_mono h fun x H1 h1 => rdE_mono h1 fun y H2 h2 => ih (fun q hq => hp q (List.mem_cons_of_mem _ hq)) σ H2 _ _ (fun ps H3 q => w _ _ q) h2
  have shape : ∀ (ks : List (Option Expr)) (vs : List Expr), ∀ p ∈ rdPs X ks vs, ∃ e1 e2, p = (rdE X e1, rdE X e2) := by
    intro ks
    induction ks with
    | nil => intro vs p hp; simp [rdPs] at hp
    | cons k ks ih =>
      intro vs p hp
      cases k with
      | none => simp [rdPs] at hp
      | some k => cases vs with
        | nil => simp [rdPs] at hp
        | cons v vs =>
          simp only [rdPs, List.mem_cons] at hp
          rcases hp with rfl | hp
          · exact ⟨_, _, rfl⟩
          · exact ih vs p hp
  refine mono _ (shape ks vs) _ _ _ _ (fun ps H2 q => ?_) k
  obtain ⟨qs, F2, μ2, e2, r2, p2, kvs, rfl, hk, q2⟩ := q
  obtain ⟨_, _, hp2⟩ := r2.frm p _ upd_same
  obtain ⟨ws, ep, hw⟩ := keys_rep p2
  refine ⟨hp2, ws, ep, by rw [hw.len]; exact hk, ?_⟩
  have r3 := r2.frmWrite (o' := .dK (mergeK [] ws))
  obtain ⟨nμ, r4⟩ := r3.frmOut (m := .dic (mergeA [] kvs)) hM ⟨_, rfl, merge_rep hw rfl⟩
  exact ⟨_, F2, _, e2, r4, rep_loc.mpr rfl, q2 p nμ⟩

/-! ### repr -/
mutual
def isShow : A → Bool
  | .non => true
  | .bl _ => true
  | .int i => decide (i.natAbs.log2 < 1920)
  | .str _ => true
  | .ty _ => false
  | .loc _ => false
  | .tup xs => isShows xs
  | .lst xs => isShows xs
  | .fls xs => isShows xs
def isShows : List A → Bool
  | [] => true
  | x :: xs => isShow x && isShows xs
end
mutual
/-- a bound of the length of what is shown -/
def shl : A → Nat
  | .non => 4
  | .bl _ => 5
  | .int i => if i.natAbs < 10 ^ 18 then 20 else 1922
  | .str x => (reprText x).length
  | .ty _ => 4
  | .loc _ => 4
  | .tup xs => shls xs + 3
  | .lst xs => shls xs + 3
  | .fls xs => shls xs + 3
def shls : List A → Nat
  | [] => 0
  | x :: xs => shl x + 2 + shls xs
end
mutual
theorem showable_of : ∀ x : A, isShow x = true → (toD x).showable = true
  | .non, _ => by simp only [toD, PyData.showable]
  | .bl _, _ => by simp only [toD, PyData.showable]
  | .int _, h => by simpa only [toD, PyData.showable, isShow] using h
  | .str _, _ => by simp only [toD, PyData.showable]
  | .ty _, h => by simp [isShow] at h
  | .loc _, h => by simp [isShow] at h
  | .tup xs, h => by simp only [toD, PyData.showable]; exact showables_of xs (by simpa [isShow] using h)
  | .lst xs, h => by simp only [toD, PyData.showable]; exact showables_of xs (by simpa [isShow] using h)
  | .fls xs, h => by simp only [toD, PyData.showable]; exact showables_of xs (by simpa [isShow] using h)
theorem showables_of : ∀ xs : List A, isShows xs = true → PyData.showableAll (toDs xs) = true
  | [], _ => by simp only [toDs, PyData.showableAll]
  | x :: xs, h => by
    simp only [isShows, Bool.and_eq_true] at h
    simp only [toDs, PyData.showableAll, showable_of x h.1, showables_of xs h.2, Bool.and_self]
end
mutual
theorem noDict_of : ∀ x : A, (toD x).hasDict = false
  | .non => by simp only [toD, PyData.hasDict]
  | .bl _ => by simp only [toD, PyData.hasDict]
  | .int _ => by simp only [toD, PyData.hasDict]
  | .str _ => by simp only [toD, PyData.hasDict]
  | .ty _ => by simp only [toD, PyData.hasDict]
  | .loc _ => by simp only [toD, PyData.hasDict]
  | .tup xs => by simp only [toD, PyData.hasDict]; exact noDicts_of xs
  | .lst xs => by simp only [toD, PyData.hasDict]; exact noDicts_of xs
  | .fls xs => by simp only [toD, PyData.hasDict]; exact noDicts_of xs
theorem noDicts_of : ∀ xs : List A, PyData.hasDictAll (toDs xs) = false
  | [] => by simp only [toDs, PyData.hasDictAll]
  | x :: xs => by simp only [toDs, PyData.hasDictAll, noDict_of x, noDicts_of xs, Bool.or_self]
end
theorem len_intText {i : Int} (h : i.natAbs.log2 < 1920) : (Str.ofString (toString i)).length ≤ if i.natAbs < 10 ^ 18 then 20 else 1922 := by
  rw [PySem.ofString_length]
  split
  · rename_i h2
    have e := int_text_length_le10 (k := 18) (by decide) h2
    omega
  · have e := int_text_length_le (k := 1920) (by decide) h
    omega
theorem reprIs_d {x : A} (hs : isShow x = true) : isShow x = true := hs
mutual
theorem shown_le : ∀ x : A, isShow x = true → (toD x).shown.length ≤ shl x
  | .non, _ => by simp only [toD, PyData.shown, shl]; decide
  | .bl b, _ => by simp only [toD, PyData.shown, shl]; cases b <;> decide
  | .int i, h => by
    simp only [toD, PyData.shown, shl]
    exact len_intText (by simpa [isShow] using h)
  | .str x, _ => by simp only [toD, PyData.shown, shl]; exact Nat.le_refl _
  | .ty _, _ => by simp only [toD, PyData.shown, shl]; decide
  | .loc _, _ => by simp only [toD, PyData.shown, shl]; decide
  | .tup xs, h => by
    simp only [toD, PyData.shown, shl]
    have h1 := tupleText_len_le (PyData.shownAll (toDs xs))
    have h2 := showns_le xs (by simpa [isShow] using h)
    omega
  | .lst xs, h => by
    simp only [toD, PyData.shown, shl]
    have h1 := listText_len_le (PyData.shownAll (toDs xs))
    have h2 := showns_le xs (by simpa [isShow] using h)
    omega
  | .fls xs, h => by
    simp only [toD, PyData.shown, shl]
    have h1 := listText_len_le (PyData.shownAll (toDs xs))
    have h2 := showns_le xs (by simpa [isShow] using h)
    omega
theorem showns_le : ∀ xs : List A, isShows xs = true → ((PyData.shownAll (toDs xs)).map (·.length)).sum + 2 * (PyData.shownAll (toDs xs)).length ≤ shls xs
  | [], _ => by simp [toDs, PyData.shownAll, shls]
  | x :: xs, h => by
    simp only [isShows, Bool.and_eq_true] at h
    have h1 := shown_le x h.1
    have h2 := showns_le xs h.2
    simp only [toDs, PyData.shownAll, shls, List.map_cons, List.sum_cons, List.length_cons]
    omega
end
/-- data whose repr is asked -/
structure ShowOk (x : A) : Prop where
  sh : isShow x = true
  dp : deep x ≤ 60
  ln : shl x ≤ sizeLine
mutual
theorem dp_show : ∀ {K : PySem.W.Frag} {H : Hp} {x : A} {v : V}, isShow x = true → Rep K H x v → Dp K H v (toD x)
  | _, _, .non, _, _, h => by rw [rep_non] at h; subst h; exact .non
  | _, _, .bl b, _, _, h => by rw [rep_bl] at h; subst h; exact .bl b
  | _, _, .int i, _, _, h => by rw [rep_int] at h; subst h; exact .int i
  | _, _, .str x, _, _, h => by rw [rep_str] at h; subst h; exact .str x
  | _, _, .ty _, _, h, _ => by simp [isShow] at h
  | _, _, .loc _, _, h, _ => by simp [isShow] at h
  | _, _, .tup xs, _, hd, h => by
    rw [rep_tup] at h; obtain ⟨a, vs, rfl, h1, h2⟩ := h
    simp only [toD]
    exact .tup h1 (dps_show (by simpa [isShow] using hd) h2)
  | _, _, .lst xs, _, hd, h => by
    rw [rep_lst] at h; obtain ⟨a, vs, rfl, h1, h2⟩ := h
    simp only [toD]
    exact .lst (.inl (.inl h1)) (dps_show (by simpa [isShow] using hd) h2)
  | _, _, .fls xs, _, hd, h => by
    rw [rep_fls] at h; obtain ⟨a, vs, rfl, h1, h2⟩ := h
    simp only [toD]
    exact .lst h1 (dps_show (by simpa [isShow] using hd) h2)
theorem dps_show : ∀ {K : PySem.W.Frag} {H : Hp} {xs : List A} {vs : List V}, isShows xs = true → RepL K H xs vs → DpAll K H vs (toDs xs)
  | _, _, [], _, _, h => by simp only [RepL] at h; subst h; exact .nil
  | _, _, x :: xs, _, hd, h => by
    simp only [RepL] at h
    obtain ⟨v, r, rfl, h1, h2⟩ := h
    simp only [isShows, Bool.and_eq_true] at hd
    simp only [toDs]
    exact .cons (dp_show hd.1 h1) (dps_show hd.2 h2)
end
theorem wC_repr {k : Nat} {x : A} (ar : Ar X k) (hx : ShowOk x) (q : Q (.str (toD x).shown) μ) : wC X (.builtin "repr") [x] μ Q := by
  intro M F H vs rl rp
  refine ⟨fun pins s σ us I rv => ?_⟩
  obtain ⟨v, rfl, h⟩ := rp.one
  obtain ⟨u, rfl, ru⟩ := rv.one
  have hl := shown_le x hx.sh
  have hz : (toD x).shown.length ≤ sizeLine := Nat.le_trans hl hx.ln
  have fin : ∀ (t : Nat) (h' : Heap) (tk : Nat), (∀ b o, s.heap.get? b = some o → h'.get? b = some o) → EP X pins σ (QE X.K M F Q) (.str (toD x).shown t) { s with heap := h', toks := tk } := fun t h' tk kp => ⟨.str (toD x).shown, H, I.kept kp, ⟨t, rfl⟩, .pure rl (rep_str.mpr rfl) q⟩
  have big : ∀ a, u = .ref a → wpAny (model X.prog X.w) X.A (call (.builtin "repr") [u]) (EP X pins σ (QE X.K M F Q)) X.xe s := by
    intro a e
    subst e
    obtain ⟨as, rd⟩ := Dp.reads I (toD x) v _ (dp_show hx.sh (h.mono rl.sub)) ru
    have hd := depth_of x
    have hu := ar.u64
    exact repr_of_reads' rd (showable_of x hx.sh) (PyData.noDict_hsm (noDict_of x)) ar.show0 (by have := hx.dp; omega) (fun _ _ z => z) (fun h' t tk kp => fin t h' tk kp) hz
  cases x with
  | non =>
    rw [rep_non] at h; subst h; cases ru
    exact P.repr_of_none (by simpa only [toD, PyData.shown] using fin s.toks s.heap (s.toks + 1) fun _ _ z => z)
  | bl b =>
    rw [rep_bl] at h; subst h; cases ru
    exact P.repr_of_bool (by simpa only [toD, PyData.shown] using fin s.toks s.heap (s.toks + 1) fun _ _ z => z)
  | int i =>
    rw [rep_int] at h; subst h; obtain ⟨t, rfl⟩ := ru
    exact P.repr_of_int (by simpa [isShow] using hx.sh) (by simpa only [toD, PyData.shown] using fin s.toks s.heap (s.toks + 1) fun _ _ z => z)
  | str i =>
    rw [rep_str] at h; subst h; obtain ⟨t, rfl⟩ := ru
    exact P.repr_of_str (by simpa only [toD, PyData.shown] using fin s.toks s.heap (s.toks + 1) fun _ _ z => z) (by simpa only [toD, PyData.shown] using hz)
  | ty n => exact absurd hx.sh (by simp [isShow])
  | loc n => exact absurd hx.sh (by simp [isShow])
  | tup xs => rw [rep_tup] at h; obtain ⟨a, ws, rfl, _⟩ := h; cases ru; exact big a rfl
  | lst xs => rw [rep_lst] at h; obtain ⟨a, ws, rfl, _⟩ := h; cases ru; exact big a rfl
  | fls xs => rw [rep_fls] at h; obtain ⟨a, ws, rfl, _⟩ := h; cases ru; exact big a rfl
end
end D

set_option exponentiation.threshold 256
set_option pp.maxSteps 5000
set_option Elab.async false
set_option linter.all false
set_option maxRecDepth 100000
set_option maxHeartbeats 4000000
/-! D9: conveniences. -/
namespace D
open PySem PySem.Spec PyProof.Rows L2
section
variable {B : Bs} {X : Cx} {Γ : G} {μ : Mu} {Q : A → Mu → Prop} {Z Z' : AD} {e o i : Expr} {pos apos cpos : Pos} {st : Stmt} {ss rest : List Stmt}
variable {elt tg iter c : Expr} {scope : Scope} {ifs : List Expr}
theorem wS.imp (h : wS B X st Γ μ Z) (w1 : ∀ Γ μ, Z.nx Γ μ → Z'.nx Γ μ) (w2 : ∀ x μ, Z.rt x μ → Z'.rt x μ) (w3 : ∀ Γ μ, Z.bk Γ μ → Z'.bk Γ μ) (w4 : ∀ Γ μ, Z.ct Γ μ → Z'.ct Γ μ) : wS B X st Γ μ Z' := fun σ M F H bo rs r =>
  (h σ M F H bo rs r).imp (fun _ _ ⟨a, b, c, d, e, f, q⟩ => ⟨a, b, c, d, e, f, w1 _ _ q⟩) (fun _ _ ⟨a, b, c, d, e, f, q⟩ => ⟨a, b, c, d, e, f, w2 _ _ q⟩) (fun _ _ ⟨a, b, c, d, e, f, q⟩ => ⟨a, b, c, d, e, f, w3 _ _ q⟩) (fun _ _ ⟨a, b, c, d, e, f, q⟩ => ⟨a, b, c, d, e, f, w4 _ _ q⟩)
/-- a word P between a statement and what follows it -/
theorem wSs_cut (P : G → Mu → Prop) (h : wS B X st Γ μ { Z with nx := P }) (k : ∀ Γ' μ', P Γ' μ' → wSs B X rest Γ' μ' Z) : wSs B X (st :: rest) Γ μ Z :=
  wSs_cons (wS.imp h (fun _ _ q => k _ _ q) (fun _ _ q => q) (fun _ _ q => q) (fun _ _ q => q))
/-- what stands at the slots may be forgotten -/
theorem wSs_slots {Γ' : G} (hl : Γ'.length = Γ.length) (w : ∀ (i : Nat) (x : A), Γ'[i]? = some (some x) → Γ[i]? = some (some x)) (h : wSs B X ss Γ' μ Z) : wSs B X ss Γ μ Z := fun σ M F H bo rs r => h σ M F H bo (rs.weak hl w) r
/-- a comprehension whose turns only reckon, the list for good -/
theorem wE_lcF (own : List (Str × Nat)) (h : wIt B X tg iter Γ μ fun ys μ1 => ys.length ≤ sizeLine ∧ ∃ zs : List A, zs.length = ys.length ∧
      (∀ (i : Nat) y z, ys[i]? = some y → zs[i]? = some z → ∀ s0 H0 C cl fp, wGw B (bk X scope s0 H0 C cl fp) tg (own.map (·.2)) y (wipeA Γ (own.map (·.2))) μ1 fun Γ2 μ2 => μ2 = μ1 ∧ ∀ s0 H0 C cl fp, vE B (bk X scope s0 H0 C cl fp) elt Γ2 μ1 z) ∧ Q (.lst zs) μ1)
    (hN : X.N.Nodup) (ok : BlkOk X.N X.env.scope scope own) (hc : X.calm = true := by rfl) (hs : ∀ x, foldedSetIterable iter X.env x = pure x := by intro _; rfl) : wE B X (.ListComp elt [⟨tg, iter, [], 0⟩] scope pos) Γ μ Q := by
  refine wE_frz (wE_lc own (lcMap ?_) hN ok (.inl rfl) hc hs)
  intro σ M F H bo rs r
  refine ⟨fun pins s I => ?_⟩
  refine thn ((h σ M F H bo rs r).o pins s I) fun v s1 h1 => thn h1 fun itv s2 h2 => ?_
  obtain ⟨it, fp, tn, J0, H2, g1, g2, g3, g4, g5, ys, F1, μ1, e1, r1, wk, hz, zs, hl, turn, done⟩ := h2
  exact ⟨it, fp, tn, J0, H2, g1, g2, g3, g4, g5, ys, F1, μ1, e1, r1, wk, hz, zs, hl, turn, fun p np => ⟨p, zs, rfl, Mu.upd_same, by rw [Mu.del_upd np]; exact done⟩⟩
theorem wE_lcPF (own : List (Str × Nat)) (h : wIt B X tg iter Γ μ fun ys μ1 => ys.length ≤ sizeLine ∧ ∃ (ks : List Bool) (zs : List A), ks.length = ys.length ∧ zs.length = ys.length ∧
      (∀ (i : Nat) y k z, ys[i]? = some y → ks[i]? = some k → zs[i]? = some z → ∀ s0 H0 C cl fp, wGw B (bk X scope s0 H0 C cl fp) tg (own.map (·.2)) y (wipeA Γ (own.map (·.2))) μ1 fun Γ2 μ2 => μ2 = μ1 ∧ (∀ s0 H0 C cl fp, vT B (bk X scope s0 H0 C cl fp) c Γ2 μ1 k) ∧ (k = true → ∀ s0 H0 C cl fp, vE B (bk X scope s0 H0 C cl fp) elt Γ2 μ1 z)) ∧ Q (.lst (pickA ks zs)) μ1)
    (hN : X.N.Nodup) (ok : BlkOk X.N X.env.scope scope own) (hc : X.calm = true := by rfl) (hs : ∀ x, foldedSetIterable iter X.env x = pure x := by intro _; rfl) : wE B X (.ListComp elt [⟨tg, iter, [c], 0⟩] scope pos) Γ μ Q := by
  refine wE_frz (wE_lc own (lcPick ?_) hN ok (.inr ⟨_, rfl⟩) hc hs)
  intro σ M F H bo rs r
  refine ⟨fun pins s I => ?_⟩
  refine thn ((h σ M F H bo rs r).o pins s I) fun v s1 h1 => thn h1 fun itv s2 h2 => ?_
  obtain ⟨it, fp, tn, J0, H2, g1, g2, g3, g4, g5, ys, F1, μ1, e1, r1, wk, hz, ks, zs, hk, hl, turn, done⟩ := h2
  exact ⟨it, fp, tn, J0, H2, g1, g2, g3, g4, g5, ys, F1, μ1, e1, r1, wk, hz, ks, zs, hk, hl, turn, fun p np => ⟨p, _, rfl, Mu.upd_same, by rw [Mu.del_upd np]; exact done⟩⟩
/-- name = a comprehension, the list for good -/
theorem wS_frzNx (i : Nat) (h : wS B X st Γ μ { Z with nx := fun Γ' μ' => ∃ p xs, Γ'[i]? = some (some (.loc p)) ∧ μ' p = some (.lst xs) ∧ Z.nx (Γ'.set i (some (.lst xs))) (μ'.del p) }) : wS B X st Γ μ Z := fun σ M F H bo rs r =>
  (h σ M F H bo rs r).imp (fun σ' H' ⟨Γ', F', μ', ex, rs', rl', p, xs, e1, e2, q⟩ => by
    obtain ⟨F2, ex2, rl2, rp⟩ := rl'.freeze e2
    refine ⟨_, F2, _, ex.trans ex2, ?_, rl2, q⟩
    have r2 := rs'.mono ex2
    refine ⟨by rw [List.length_set]; exact rs'.len, fun j x q => ?_⟩
    rw [List.getElem?_set] at q
    split at q
    · rename_i e
      subst e
      split at q
      · cases q
        obtain ⟨v, h1, h2⟩ := rs'.at_ _ _ e1
        rw [rep_loc] at h2; subst h2
        exact ⟨_, h1, rp⟩
      · cases q
    · exact r2.at_ j x q) (fun _ _ q => q) (fun _ _ q => q) (fun _ _ q => q)
end
end D

set_option exponentiation.threshold 256
set_option pp.maxSteps 5000
set_option Elab.async false
set_option linter.all false
set_option maxRecDepth 100000
set_option maxHeartbeats 4000000
/-! DA: calls by what is known of a def, names for comprehensions. -/
namespace D
open PySem PySem.Spec PyProof.Rows L2
/-- what a caller knows of a def: it lets nothing out, keeps c, at most level k -/
structure Cal (P : Program) (w : World) (K : PySem.W.Frag) (mg : Str → Option Value) (base : Heap) (k : Nat) (x : Str) (c : AC) : Prop where
  ex : ∃ (f : Addr) (fd : FuncData) (ps : List Str), FnD P w K mg base CX0 k f fd ps c ∧ mg x = some (.ref f) ∧ PySem.W.keepIn K (.ref f) = true ∧ Binds K fd ps []
/-- .. the last arguments das by default -/
structure CalD (P : Program) (w : World) (K : PySem.W.Frag) (mg : Str → Option Value) (base : Heap) (k : Nat) (x : Str) (das : List A) (c : AC) : Prop where
  ex : ∃ (f : Addr) (fd : FuncData) (ps : List Str) (ds : List Value) (dvs : List V), FnD P w K mg base CX0 k f fd ps c ∧ mg x = some (.ref f) ∧ PySem.W.keepIn K (.ref f) = true ∧ Binds K fd ps ds ∧ Vals dvs ds ∧ ∀ F, RepL K F das dvs
section
variable {B : Bs} {X : Cx} {Γ : G} {μ : Mu} {Q : A → Mu → Prop} {Z : AD} {e : Expr} {es : List Expr} {pos p : Pos} {k j : Nat} {x : Str} {c : AC}
variable {elt tg iter t : Expr} {scope : Scope}
theorem wE_cal (C : Cal X.prog X.w X.K X.mg X.base k x c) (ar : Ar X j) (hk : k ≤ j) (h : wA B X (e :: es) Γ μ fun xs μ1 => c xs μ1 Q fun _ _ _ => False) (hg : Gl X x := by rfl) (hdb : (x == ("__debug__" : Str)) = false := by decide)
    (he : starEach (e :: es) X.env = (false, eval e X.env) :: starEach es X.env := by rfl) (hpl : (backTo pos (starEach es X.env)).any (·.1) = false := by rfl) : wE B X (.Call (.Name x p) (e :: es) [] pos) Γ μ Q := by
  obtain ⟨f, fd, ps, F, h1, h2, h3⟩ := C.ex
  exact wE_call F ⟨h1, h2, h3⟩ (ar.mono hk) h hg hdb he hpl
theorem wE_cal0 (C : Cal X.prog X.w X.K X.mg X.base k x c) (ar : Ar X j) (hk : k ≤ j) (h : c [] μ Q fun _ _ _ => False) (hg : Gl X x := by rfl) (hdb : (x == ("__debug__" : Str)) = false := by decide) : wE B X (.Call (.Name x p) [] [] pos) Γ μ Q := by
  obtain ⟨f, fd, ps, F, h1, h2, h3⟩ := C.ex
  exact wE_call0 F ⟨h1, h2, h3⟩ (ar.mono hk) h hg hdb
theorem wE_calD {das : List A} (C : CalD X.prog X.w X.K X.mg X.base k x das c) (ar : Ar X j) (hk : k ≤ j) (h : wA B X (e :: es) Γ μ fun xs μ1 => c (xs ++ das) μ1 Q fun _ _ _ => False) (hg : Gl X x := by rfl) (hdb : (x == ("__debug__" : Str)) = false := by decide)
    (he : starEach (e :: es) X.env = (false, eval e X.env) :: starEach es X.env := by rfl) (hpl : (backTo pos (starEach es X.env)).any (·.1) = false := by rfl) : wE B X (.Call (.Name x p) (e :: es) [] pos) Γ μ Q := by
  obtain ⟨f, fd, ps, ds, dvs, F, h1, h2, h3, h4, h5⟩ := C.ex
  exact wE_callD das F ⟨h1, h2, h3⟩ (ar.mono hk) h4 h5 h hg hdb he hpl
/-- name = a comprehension whose turns only reckon, the list for good -/
theorem wS_setLcF (own : List (Str × Nat)) (i : Nat) {y : Str} {py spos : Pos} (h : wIt B X tg iter Γ μ fun ys μ1 => ys.length ≤ sizeLine ∧ ∃ zs : List A, zs.length = ys.length ∧
      (∀ (i : Nat) y z, ys[i]? = some y → zs[i]? = some z → ∀ s0 H0 C cl fp, wGw B (bk X scope s0 H0 C cl fp) tg (own.map (·.2)) y (wipeA Γ (own.map (·.2))) μ1 fun Γ2 μ2 => μ2 = μ1 ∧ ∀ s0 H0 C cl fp, vE B (bk X scope s0 H0 C cl fp) elt Γ2 μ1 z) ∧ Z.nx (Γ.set i (some (.lst zs))) μ1)
    (hN : X.N.Nodup) (ok : BlkOk X.N X.env.scope scope own) (hsw : swapsWith (.ListComp elt [⟨tg, iter, [], 0⟩] scope pos) (some (.Name y py)) spos.line X.env = pure true) (hl : i < Γ.length := by exact Nat.le_of_ble_eq_true rfl)
    (hc : X.calm = true := by rfl) (hy : X.N[i]? = some y := by rfl) (hyl : X.env.scope.names.lookup y = some .local := by rfl) (hs : ∀ x, foldedSetIterable iter X.env x = pure x := by intro _; rfl) :
    wS B X (.Assign [.Name y py] (.ListComp elt [⟨tg, iter, [], 0⟩] scope pos) spos) Γ μ Z := by
  refine wS_frzNx i (wS_setLc own i (lcMap ?_) hN ok hsw (.inl rfl) hc hy hyl hs)
  intro σ M F H bo rs r
  refine ⟨fun pins s I => ?_⟩
  refine thn ((h σ M F H bo rs r).o pins s I) fun v s1 h1 => thn h1 fun itv s2 h2 => ?_
  obtain ⟨it, fp, tn, J0, H2, g1, g2, g3, g4, g5, ys, F1, μ1, e1, r1, wk, hz, zs, hl2, turn, done⟩ := h2
  refine ⟨it, fp, tn, J0, H2, g1, g2, g3, g4, g5, ys, F1, μ1, e1, r1, wk, hz, zs, hl2, turn, fun p np => ⟨p, zs, ?_, Mu.upd_same, ?_⟩⟩
  · rw [List.getElem?_set_self hl]
  · rw [Mu.del_upd np, List.set_set]; exact done
theorem wS_setLcPF (own : List (Str × Nat)) (i : Nat) {y : Str} {py spos : Pos} (h : wIt B X tg iter Γ μ fun ys μ1 => ys.length ≤ sizeLine ∧ ∃ (ks : List Bool) (zs : List A), ks.length = ys.length ∧ zs.length = ys.length ∧
      (∀ (i : Nat) y k z, ys[i]? = some y → ks[i]? = some k → zs[i]? = some z → ∀ s0 H0 C cl fp, wGw B (bk X scope s0 H0 C cl fp) tg (own.map (·.2)) y (wipeA Γ (own.map (·.2))) μ1 fun Γ2 μ2 => μ2 = μ1 ∧ (∀ s0 H0 C cl fp, vT B (bk X scope s0 H0 C cl fp) t Γ2 μ1 k) ∧ (k = true → ∀ s0 H0 C cl fp, vE B (bk X scope s0 H0 C cl fp) elt Γ2 μ1 z)) ∧ Z.nx (Γ.set i (some (.lst (pickA ks zs)))) μ1)
    (hN : X.N.Nodup) (ok : BlkOk X.N X.env.scope scope own) (hsw : swapsWith (.ListComp elt [⟨tg, iter, [t], 0⟩] scope pos) (some (.Name y py)) spos.line X.env = pure true) (hl : i < Γ.length := by exact Nat.le_of_ble_eq_true rfl)
    (hc : X.calm = true := by rfl) (hy : X.N[i]? = some y := by rfl) (hyl : X.env.scope.names.lookup y = some .local := by rfl) (hs : ∀ x, foldedSetIterable iter X.env x = pure x := by intro _; rfl) :
    wS B X (.Assign [.Name y py] (.ListComp elt [⟨tg, iter, [t], 0⟩] scope pos) spos) Γ μ Z := by
  refine wS_frzNx i (wS_setLc own i (lcPick ?_) hN ok hsw (.inr ⟨_, rfl⟩) hc hy hyl hs)
  intro σ M F H bo rs r
  refine ⟨fun pins s I => ?_⟩
  refine thn ((h σ M F H bo rs r).o pins s I) fun v s1 h1 => thn h1 fun itv s2 h2 => ?_
  obtain ⟨it, fp, tn, J0, H2, g1, g2, g3, g4, g5, ys, F1, μ1, e1, r1, wk, hz, ks, zs, hk, hl2, turn, done⟩ := h2
  refine ⟨it, fp, tn, J0, H2, g1, g2, g3, g4, g5, ys, F1, μ1, e1, r1, wk, hz, ks, zs, hk, hl2, turn, fun p np => ⟨p, _, ?_, Mu.upd_same, ?_⟩⟩
  · rw [List.getElem?_set_self hl]
  · rw [Mu.del_upd np, List.set_set]; exact done
end
section
variable {P : Program} {w : World} {mg : Str → Option Value} {base : Heap} {K : PySem.W.Frag}
theorem Cal.imp {k : Nat} {x : Str} {c c' : AC} (C : Cal P w K mg base k x c) (h : ∀ xs μ Q E, c' xs μ Q E → c xs μ Q E) : Cal P w K mg base k x c' := by
  obtain ⟨f, fd, ps, F, r⟩ := C.ex
  exact ⟨f, fd, ps, F.imp h, r⟩
end
theorem atI_pos {α : Type} {xs : List α} {i : Int} {y : α} (h : xs[i.toNat]? = some y) (h0 : 0 ≤ i) : atI xs i = some y := by
  have hl : i.toNat < xs.length := (List.getElem?_eq_some_iff.mp h).1
  unfold atI ixN
  rw [if_pos h0, if_pos (by omega)]
  exact h
theorem atI_neg {α : Type} {xs : List α} {i : Int} {y : α} (h : xs[(i + xs.length).toNat]? = some y) (h0 : i < 0) (h1 : -(xs.length : Int) ≤ i) : atI xs i = some y := by
  unfold atI ixN
  rw [if_neg (by omega), if_pos h1]
  exact h
end D

set_option exponentiation.threshold 256
set_option pp.maxSteps 5000
set_option Elab.async false
set_option linter.all false
set_option maxRecDepth 100000
set_option maxHeartbeats 4000000
/-! DB: small facts about what is walked; what a law draws by. -/
namespace D
open PySem PySem.Spec PyProof.Rows L2
theorem rgA_at {lo : Int} {n i : Nat} {y : A} (h : (rgA lo n)[i]? = some y) : i < n ∧ y = .int (lo + (i : Nat)) := by
  have hi : i < n := by have := (List.getElem?_eq_some_iff.mp h).1; rwa [rgA_len] at this
  rw [rgA_get hi] at h; cases h
  exact ⟨hi, rfl⟩
theorem mapR_at {α : Type} {f : Nat → α} {n i : Nat} {z : α} (h : ((List.range n).map f)[i]? = some z) : i < n ∧ z = f i := by
  have hi : i < n := by have := (List.getElem?_eq_some_iff.mp h).1; simpa using this
  simp [hi] at h
  exact ⟨hi, h.symm⟩
theorem map_at {α β : Type} {f : α → β} {l : List α} {i : Nat} {z : β} (h : (l.map f)[i]? = some z) : ∃ a, l[i]? = some a ∧ z = f a := by
  rw [List.getElem?_map] at h
  cases e : l[i]? with
  | none => simp [e] at h
  | some a => rw [e] at h; cases h; exact ⟨a, rfl, rfl⟩
theorem enumA_at {xs : List A} {i : Nat} {y : A} (h : (enumA 0 xs)[i]? = some y) : ∃ x, xs[i]? = some x ∧ y = .tup [.int (i : Nat), x] := by
  have hi : i < xs.length := by have := (List.getElem?_eq_some_iff.mp h).1; rwa [enumA_len] at this
  rw [enumA_get (List.getElem?_eq_getElem hi)] at h
  cases h
  exact ⟨xs[i], List.getElem?_eq_getElem hi, by simp⟩
theorem zipA_at : ∀ {xs ys : List A} {i : Nat} {y : A}, (zipA xs ys)[i]? = some y → ∃ a b, xs[i]? = some a ∧ ys[i]? = some b ∧ y = .tup [a, b]
  | [], _, _, _, h => by simp [zipA] at h
  | _ :: _, [], _, _, h => by simp [zipA] at h
  | x :: xs, z :: ys, 0, y, h => by simp [zipA] at h; exact ⟨x, z, rfl, rfl, h.symm⟩
  | x :: xs, z :: ys, i + 1, y, h => by
    simp only [zipA, List.getElem?_cons_succ] at h ⊢
    exact zipA_at h
section
variable {B : Bs} {X : Cx} {μ : Mu} {Q : A → Mu → Prop} {x y : A} {xs ys : List A}
/-- == of lists, ours or for good -/
theorem wO_eqL (hu : X.A.units + 64 < cLine) (hx : IsL μ x xs) (hy : IsL μ y ys) (dx : DatOk (.lst xs)) (dy : DatOk (.lst ys)) (q : Q (.bl (PyData.eqv (toD (.lst xs)) (toD (.lst ys)))) μ) : wO X (compareOp .Eq) x y μ Q :=
  wO_of (op_eqD hu) fun M F H v w rl r1 r2 => by
    obtain ⟨a, vs, e1, h1, h2⟩ := hx.rep rl r1
    obtain ⟨b, ws, e2, g1, g2⟩ := hy.rep rl r2
    have d1 : Dp X.K H v (toD (.lst xs)) := dp_of dx.1 (rep_lst.mpr ⟨a, vs, e1, h1, h2.mono rl.sub⟩)
    have d2 : Dp X.K H w (toD (.lst ys)) := dp_of dy.1 (rep_lst.mpr ⟨b, ws, e2, g1, g2.mono rl.sub⟩)
    exact ⟨_, _, d1, d2, dx.shaped, dy.shaped, .pure rl (rep_bl.mpr rfl) q⟩
theorem wO_neL (hu : X.A.units + 64 < cLine) (hx : IsL μ x xs) (hy : IsL μ y ys) (dx : DatOk (.lst xs)) (dy : DatOk (.lst ys)) (q : Q (.bl (!PyData.eqv (toD (.lst xs)) (toD (.lst ys)))) μ) : wO X (compareOp .NotEq) x y μ Q :=
  wO_of (op_neD hu) fun M F H v w rl r1 r2 => by
    obtain ⟨a, vs, e1, h1, h2⟩ := hx.rep rl r1
    obtain ⟨b, ws, e2, g1, g2⟩ := hy.rep rl r2
    have d1 : Dp X.K H v (toD (.lst xs)) := dp_of dx.1 (rep_lst.mpr ⟨a, vs, e1, h1, h2.mono rl.sub⟩)
    have d2 : Dp X.K H w (toD (.lst ys)) := dp_of dy.1 (rep_lst.mpr ⟨b, ws, e2, g1, g2.mono rl.sub⟩)
    exact ⟨_, _, d1, d2, dx.shaped, dy.shaped, .pure rl (rep_bl.mpr rfl) q⟩
end
theorem datInts (ns : List Int) : DatOk (.lst (ns.map A.int)) := by
  refine ⟨by simp only [isD]; exact isDs_map (fun _ => by simp only [isD]) ns, ?_⟩
  have : deeps (ns.map A.int) ≤ 0 := deeps_le fun a ha => by
    obtain ⟨n, _, rfl⟩ := List.mem_map.mp ha
    simp [deep]
  simp only [deep]; omega
theorem datNil : DatOk (.lst []) := ⟨rfl, by simp [deep, deeps]⟩
theorem eqvNil (xs : List A) : PyData.eqv (toD (.lst xs)) (toD (.lst [])) = xs.isEmpty := by
  cases xs with
  | nil => simp [toD, toDs, PyData.eqv, PyData.eqvAll]
  | cons x xs => simp [toD, toDs, PyData.eqv, PyData.eqvAll]
/-- sixty-four numbers -/
def G64 (fs : List Int) : Prop := fs.length = 64 ∧ ∀ v ∈ fs, 0 ≤ v ∧ v < 2 ^ 31
theorem G64.at {fs : List Int} (h : G64 fs) {i : Int} (h0 : 0 ≤ i) (h1 : i < 64) : ∃ v, atI (fs.map A.int) i = some (.int v) ∧ 0 ≤ v ∧ v < 2 ^ 31 := by
  have hi : i.toNat < fs.length := by rw [h.1]; omega
  refine ⟨fs[i.toNat], atI_pos (by rw [List.getElem?_map, List.getElem?_eq_getElem hi]; rfl) h0, h.2 _ (List.getElem_mem hi)⟩
theorem G64.set {fs : List Int} (h : G64 fs) (n : Nat) {v : Int} (h0 : 0 ≤ v) (h1 : v < 2 ^ 31) : G64 (fs.set n v) := by
  refine ⟨by rw [List.length_set]; exact h.1, fun u hu => ?_⟩
  rcases List.mem_or_eq_of_mem_set hu with hu | rfl
  · exact h.2 u hu
  · exact ⟨h0, h1⟩
theorem set_map {α : Type} (f : α → A) (l : List α) (n : Nat) (v : α) : (l.map f).set n (f v) = (l.set n v).map f := by rw [List.map_set]
theorem ixN_pos {n : Nat} {i : Int} (h0 : 0 ≤ i) (h1 : i < n) : ixN n i = some i.toNat := by
  unfold ixN; rw [if_pos h0, if_pos h1]
/-- what a law draws by: the dict at m, its list at l; at most c draws so far -/
structure Lw (m l : Addr) (c : Nat) (μ : Mu) : Prop where
  ex : ∃ (fs left : List Int) (at_ room : Int), μ m = some (.dic [(.inr "cells", .lst (fs.map A.int)), (.inr "left", .loc l), (.inr "at", .int at_), (.inr "room", .int room)]) ∧ μ l = some (.lst (left.map A.int)) ∧ G64 fs ∧ left.length ≤ 63 ∧ 0 ≤ at_ ∧ at_ ≤ c
  ne : l ≠ m
theorem Lw.up {m l : Addr} {c d : Nat} {μ : Mu} (h : Lw m l c μ) (hd : c ≤ d) : Lw m l d μ := by
  obtain ⟨⟨fs, left, a, r, h1, h2, h3, h4, h5, h6⟩, h7⟩ := h
  exact ⟨⟨fs, left, a, r, h1, h2, h3, h4, h5, by omega⟩, h7⟩
/-- all else stands -/
def Ls (m l : Addr) (μ μ' : Mu) : Prop := ∀ p o, p ≠ m → p ≠ l → μ p = some o → μ' p = some o
theorem Ls.refl {m l : Addr} (μ : Mu) : Ls m l μ μ := fun _ _ _ _ h => h
theorem Ls.trans {m l : Addr} {μ μ1 μ2 : Mu} (a : Ls m l μ μ1) (b : Ls m l μ1 μ2) : Ls m l μ μ2 := fun p o h1 h2 h => b p o h1 h2 (a p o h1 h2 h)
theorem Ls.m {m l : Addr} {μ : Mu} {o : MO} : Ls m l μ (μ.upd m o) := fun p o h1 h2 h => by rw [Mu.upd_ne h1]; exact h
theorem Ls.l {m l : Addr} {μ : Mu} {o : MO} : Ls m l μ (μ.upd l o) := fun p o h1 h2 h => by rw [Mu.upd_ne h2]; exact h
theorem Lw.sub {m l : Addr} {c : Nat} {μ μ' : Mu} (h : Lw m l c μ) (s : Sub μ μ') : Lw m l c μ' := by
  obtain ⟨⟨fs, left, a, r, h1, h2, h3⟩, h7⟩ := h
  exact ⟨⟨fs, left, a, r, s _ _ h1, s _ _ h2, h3⟩, h7⟩
/-- a new cell is neither m nor l -/
theorem Lw.off {m l : Addr} {c : Nat} {μ : Mu} (h : Lw m l c μ) {p : Addr} (n : μ p = none) : p ≠ m ∧ p ≠ l := by
  obtain ⟨⟨fs, left, a, r, h1, h2, h3⟩, h7⟩ := h
  exact ⟨fun z => by (rw [z, h1] at n; cases n), fun z => by (rw [z, h2] at n; cases n)⟩
end D

set_option exponentiation.threshold 256
set_option pp.maxSteps 5000
set_option Elab.async false
set_option linter.all false
set_option maxRecDepth 100000
set_option maxHeartbeats 4000000
/-! DF: small things of use in many laws. -/
namespace D
open PySem PySem.Spec PyProof.Rows L2
theorem szOk {n : Nat} (h : n ≤ 16777215) : n ≤ sizeLine := Nat.le_trans h (by decide)
theorem szLt {n : Nat} (h : n ≤ 16777215) : n < sizeLine := Nat.lt_of_le_of_lt h (by decide)
theorem and_flip {a b : Prop} (hb : b) (ha : a) : a ∧ b := ⟨ha, hb⟩
theorem Ar.bk {X : Cx} {k : Nat} (h : Ar X k) {scope : Scope} {s0 : Shared} {H0 : Hp} {C : Addr} {cl : List (Str × Addr)} {fp : List Addr} : Ar (D.bk X scope s0 H0 C cl fp) k := ⟨h.room, h.show0⟩
section
variable {B : Bs} {X : Cx} {Γ : G} {μ : Mu} {Q : A → Mu → Prop} {x : A} {xs : List A} {i : Int} {y : A}
theorem wI_tl (h : x = .tup xs ∨ x = .lst xs) (e : atI xs i = some y) (q : Q y μ) : wI X x (.int i) μ Q := by
  rcases h with rfl | rfl
  · exact wI_tup e q
  · exact wI_lst e q
end
theorem atInt {l : List Int} {i : Int} (k : Nat) (h0 : i = k) (h : k < l.length) : atI (l.map A.int) i = some (.int (l.getD k 0)) := by
  subst h0
  refine atI_pos ?_ (by omega)
  rw [Int.toNat_natCast, List.getElem?_map, List.getElem?_eq_getElem h]
  simp [List.getD_eq_getElem?_getD, List.getElem?_eq_getElem h]
theorem atLast {α : Type} {l : List α} {y : α} (h : l[l.length - 1]? = some y) : atI l (-1) = some y := by
  have hl : 0 < l.length := by have := (List.getElem?_eq_some_iff.mp h).1; omega
  refine atI_neg (by rw [show ((-1 : Int) + l.length).toNat = l.length - 1 by omega]; exact h) (by omega) (by omega)
theorem cut1 (l : List A) : cutA l (some 1) none = l.drop 1 := by
  unfold cutA HT.sIx
  simp only [show ¬ ((1 : Int) < 0) by omega, if_false]
  cases l with
  | nil => rfl
  | cons x l =>
    have e : min (1 : Int).toNat (x :: l).length = 1 := by simp
    rw [e]
    exact List.take_of_length_le (Nat.le_of_eq (by simp))
theorem cut1_at {α : Type} {f : α → A} {l : List α} {i : Nat} {y : A} (h : (cutA (l.map f) (some 1) none)[i]? = some y) : (l.map f)[i + 1]? = some y := by
  rw [cut1, List.getElem?_drop, Nat.add_comm] at h; exact h
def minL : List Int → Int
  | [] => 0
  | [x] => x
  | x :: y :: l => if x ≤ minL (y :: l) then x else minL (y :: l)
theorem minL_spec : ∀ {l : List Int}, 0 < l.length → minL l ∈ l ∧ ∀ y ∈ l, minL l ≤ y
  | [], h => by simp at h
  | [x], _ => by simp [minL]
  | x :: y :: l, _ => by
    obtain ⟨h1, h2⟩ := minL_spec (l := y :: l) (by simp)
    simp only [minL]
    split
    · rename_i hc
      exact ⟨by simp, List.forall_mem_cons.mpr ⟨Int.le_refl _, fun z hz => by have := h2 z hz; omega⟩⟩
    · rename_i hc
      exact ⟨List.mem_cons_of_mem _ h1, List.forall_mem_cons.mpr ⟨by omega, h2⟩⟩
theorem minL_eq {l : List Int} {m : Int} (h1 : m ∈ l) (h2 : ∀ y ∈ l, m ≤ y) : m = minL l := by
  obtain ⟨g1, g2⟩ := minL_spec (List.length_pos_of_mem h1)
  have := h2 _ g1
  have := g2 _ h1
  omega
mutual
theorem eqvInts_ : ∀ a b : List Int, PyData.eqvAll (toDs (a.map A.int)) (toDs (b.map A.int)) = decide (a = b)
  | [], [] => by simp [toDs, PyData.eqvAll]
  | [], y :: b => by simp [toDs, PyData.eqvAll]
  | x :: a, [] => by simp [toDs, PyData.eqvAll]
  | x :: a, y :: b => by
    simp only [List.map_cons, toDs, toD, PyData.eqvAll, PyData.eqv, eqvInts_ a b]
    by_cases h : x = y <;> by_cases h2 : a = b <;> simp [h, h2]
end
theorem eqvInts (a b : List Int) : PyData.eqv (toD (.lst (a.map A.int))) (toD (.lst (b.map A.int))) = decide (a = b) := by
  simp only [toD, PyData.eqv]; exact eqvInts_ a b
end D

set_option exponentiation.threshold 256
set_option pp.maxSteps 5000
set_option Elab.async false
set_option linter.all false
set_option maxRecDepth 100000
set_option maxHeartbeats 4000000
/-! DG: pop, extend, remove; chained comparisons. -/
namespace D
open PySem PySem.Spec PyProof.Rows L2
section
variable {B : Bs} {X : Cx} {Γ : G} {μ : Mu} {Q : A → Mu → Prop} {QB : Bool → Mu → Prop} {o e a b c : Expr} {apos cpos pos : Pos}
theorem RepL.dropLast {K : PySem.W.Frag} {F : Hp} {xs : List A} {vs : List V} (h : RepL K F xs vs) : RepL K F xs.dropLast vs.dropLast := by
  rw [List.dropLast_eq_take, List.dropLast_eq_take, h.len]; exact h.take _
theorem wE_pop (h : wE B X o Γ μ fun x μ1 => ∃ p ys y, x = .loc p ∧ μ1 p = some (.lst (ys ++ [y])) ∧ Q y (μ1.upd p (.lst ys)))
    (hbase : attributeBase o "pop" X.env (eval o X.env) = eval o X.env := by rfl)
    (hline : (apos.endLine == cpos.line) = true := by rfl) : wE B X (.Call (.Attribute o "pop" apos) [] [] cpos) Γ μ Q :=
  wE_of (pe_bm0 PySem.F.plainAttrs_list PySem.F.slot_list_pop PySem.F.type_list_pop mt_pop pe_rd hbase hline) fun σ M F H bo rs r => by
  refine (h σ M F H bo rs r).imp fun v H1 ⟨x, F1, μ1, e1, r1, p1, p, ys, y, ex, hp, q1⟩ => ?_
  subst ex; rw [rep_loc] at p1
  obtain ⟨_, ob, k1, vs, rfl, k2⟩ := r1.own p _ hp
  refine ⟨by rw [p1]; exact .inl ⟨rfl, _, .inl (.inl k1)⟩, ?_⟩
  have hl : (ys ++ [y])[vs.length - 1]? = some y := by rw [k2.len]; simp
  obtain ⟨w, g1, g2⟩ := k2.get hl
  refine ⟨p, vs, w, p1, rfl, k1, g1, y, F1, _, e1, r1.write hp (m' := .lst ys) ⟨_, rfl, ?_⟩, g2, q1⟩
  have := RepL.dropLast k2
  rwa [List.dropLast_concat] at this
theorem wE_extend (h : wE B X o Γ μ fun x μ1 => ∃ p ys0, x = .loc p ∧ μ1 p = some (.lst ys0) ∧ wE B X e Γ μ1 fun y μ2 => ∃ ys zs, μ2 p = some (.lst ys) ∧ IsL μ2 y zs ∧ ys.length + zs.length ≤ sizeLine ∧ Q .non (μ2.upd p (.lst (ys ++ zs))))
    (hbase : attributeBase o "extend" X.env (eval o X.env) = eval o X.env := by rfl)
    (hfew : ((backTo cpos (starEach [e] X.env)).all (fun x => !x.1) && (backToKw cpos (keywordEach [] X.env)).all (fun x => x.1.isSome) && decide (([e] : List Expr).length + ([] : List Keyword).length + (if ([] : List Keyword).isEmpty then 0 else 1) < 30)) = true := by rfl)
    (hline : (apos.endLine == cpos.line) = true := by rfl) (hs : starEach [e] X.env = (false, eval e X.env) :: starEach [] X.env := by rfl) (hplain : (backTo cpos (starEach [] X.env)).any (·.1) = false := by rfl) : wE B X (.Call (.Attribute o "extend" apos) [e] [] cpos) Γ μ Q :=
  wE_of (pe_bm PySem.F.plainAttrs_list PySem.F.slot_list_extend PySem.F.type_list_extend mt_extend pe_rd (pa_cons pe_rd pa_nil hs) hbase hfew hline hs hplain) fun σ M F H bo rs r => by
  refine (h σ M F H bo rs r).imp fun v H1 ⟨x, F1, μ1, e1, r1, p1, p, ys0, ex, hp, q1⟩ => ?_
  subst ex; rw [rep_loc] at p1
  obtain ⟨_, ob, k1, vs, rfl, k2⟩ := r1.own p _ hp
  refine ⟨by rw [p1]; exact .inl ⟨rfl, _, .inl (.inl k1)⟩, ?_⟩
  refine (q1 σ M F1 H1 (bo.mono e1) (rs.mono e1) r1).imp fun w H2 ⟨y, F2, μ2, e2, r2, p2, ys, zs, hq, hy, hz, q2⟩ => ?_
  obtain ⟨_, ob, k3, ws, rfl, k4⟩ := r2.own p _ hq
  obtain ⟨b, us, rfl, h1, h2⟩ := hy.rep r2 p2
  exact ⟨p, b, ws, us, p1, rfl, k3, h1, by rw [k4.len, h2.len]; exact hz, _, F2, _, e1.trans e2, r2.write hq (m' := .lst (ys ++ zs)) ⟨_, rfl, k4.append h2⟩, rep_non.mpr rfl, q2⟩
theorem wE_removeI (h : wE B X o Γ μ fun x μ1 => ∃ p ys0, x = .loc p ∧ μ1 p = some (.lst ys0) ∧ wE B X e Γ μ1 fun y μ2 => ∃ (ns : List Int) (k : Int), y = .int k ∧ μ2 p = some (.lst (ns.map A.int)) ∧ k ∈ ns ∧ Q .non (μ2.upd p (.lst ((ns.erase k).map A.int))))
    (hbase : attributeBase o "remove" X.env (eval o X.env) = eval o X.env := by rfl)
    (hfew : ((backTo cpos (starEach [e] X.env)).all (fun x => !x.1) && (backToKw cpos (keywordEach [] X.env)).all (fun x => x.1.isSome) && decide (([e] : List Expr).length + ([] : List Keyword).length + (if ([] : List Keyword).isEmpty then 0 else 1) < 30)) = true := by rfl)
    (hline : (apos.endLine == cpos.line) = true := by rfl) (hs : starEach [e] X.env = (false, eval e X.env) :: starEach [] X.env := by rfl) (hplain : (backTo cpos (starEach [] X.env)).any (·.1) = false := by rfl) : wE B X (.Call (.Attribute o "remove" apos) [e] [] cpos) Γ μ Q :=
  wE_of (pe_bm PySem.F.plainAttrs_list PySem.F.slot_list_remove PySem.F.type_list_remove mt_remove pe_rd (pa_cons pe_rd pa_nil hs) hbase hfew hline hs hplain) fun σ M F H bo rs r => by
  refine (h σ M F H bo rs r).imp fun v H1 ⟨x, F1, μ1, e1, r1, p1, p, ys0, ex, hp, q1⟩ => ?_
  subst ex; rw [rep_loc] at p1
  obtain ⟨_, ob, k1, vs, rfl, k2⟩ := r1.own p _ hp
  refine ⟨by rw [p1]; exact .inl ⟨rfl, _, .inl (.inl k1)⟩, ?_⟩
  refine (q1 σ M F1 H1 (bo.mono e1) (rs.mono e1) r1).imp fun w H2 ⟨y, F2, μ2, e2, r2, p2, ns, k, ey, hq, hk, q2⟩ => ?_
  subst ey; rw [rep_int] at p2; subst p2
  obtain ⟨_, ob, k3, ws, rfl, k4⟩ := r2.own p _ hq
  have e9 := repL_ints k4
  subst e9
  obtain ⟨j, _, j1, j2, j3⟩ := first_at hk
  refine ⟨p, ns, k, j, p1, rfl, k3, j1, j2, ?_⟩
  rw [j3]
  exact ⟨_, F2, _, e1.trans e2, r2.write hq (m' := .lst ((ns.erase k).map A.int)) ⟨_, rfl, .map (fun i => rep_int.mpr rfl) _⟩, rep_non.mpr rfl, q2⟩
theorem wT_chain2 {op op' : CmpOp} (h : wE B X a Γ μ fun x μ1 => wE B X b Γ μ1 fun y μ2 => wO X (compareOp op) x y μ2 fun z μ3 => ∃ k, z = .bl k ∧ (k = true → wE B X c Γ μ3 fun w μ4 => wO X (compareOp op') y w μ4 fun z μ5 => ∃ k, z = .bl k ∧ QB k μ5) ∧ (k = false → QB false μ3))
    (hm : lastMarks [op, op'] [b, c] = false := by with_unfolding_all rfl) : wT B X (.Compare a [op, op'] [b, c] pos) Γ μ QB := wT_of (pt_chain opr_rd opr_rd pe_rd pe_rd pe_rd hm) fun σ M F H bo rs r => by
  refine (h σ M F H bo rs r).imp fun v H1 ⟨x, F1, μ1, e1, r1, p1, q1⟩ => ?_
  refine (q1 σ M F1 H1 (bo.mono e1) (rs.mono e1) r1).imp fun w H2 ⟨y, F2, μ2, e2, r2, p2, q2⟩ => ?_
  refine ⟨fun pins s σ' v' u' I hv hw => ?_⟩
  refine thn ((q2 M F2 H2 v w r2 (p1.mono e2) p2).o pins s σ' v' u' I hv hw) fun _ _ ⟨z, H3, I3, r3, x3, F3, μ3, e3, rl3, p3, k, ek, q3, q4⟩ => ?_
  subst ek; rw [rep_bl] at p3
  refine ⟨z, H3, I3, r3, k, p3, ?_⟩
  have e12 := (e1.trans e2).trans e3
  cases k with
  | false => exact iteF ⟨false, rfl, F3, μ3, e12, rl3, q4 rfl⟩
  | true =>
    refine iteT ((q3 rfl σ M F3 H3 (bo.mono e12) (rs.mono e12) rl3).imp fun w' H4 ⟨y', F4, μ4, e4, r4, p4, q5⟩ => ?_)
    refine ⟨fun pins s σ' v' u' I hv hw => ?_⟩
    exact thn ((q5 M F4 H4 w w' r4 (p2.mono (e3.trans e4)) p4).o pins s σ' v' u' I hv hw) fun _ _ ⟨z', H5, I5, r5, x5, F5, μ5, e5, rl5, p5, k', ek', q6⟩ => by
      subst ek'; rw [rep_bl] at p5
      exact ⟨z', H5, I5, r5, k', p5, F5, μ5, (e12.trans e4).trans e5, rl5, q6⟩
end
end D

set_option exponentiation.threshold 256
set_option pp.maxSteps 5000
set_option Elab.async false
set_option linter.all false
set_option maxRecDepth 100000
set_option maxHeartbeats 4000000
/-! DH: methods of texts; int(text). -/
namespace D
open PySem PySem.Spec PyProof.Rows L2
section
variable {B : Bs} {X : Cx} {Γ : G} {μ : Mu} {Q : A → Mu → Prop} {o e : Expr} {apos pos : Pos}
def rdM (X : Cx) (id : String) : V → List V → Hp → VK → Prop := fun x xs H Q => Bx (∀ (pins : List (Addr × Obj)) (s : Shared) (σ : L2.St) (v : Value) (us : List Value), Inv X pins σ H s → RelV x v → Vals xs us → wpAny (model X.prog X.w) X.A (call (.builtin id) (v :: us)) (EP X pins σ Q) X.xe s)
theorem mtr_rd {id : String} : MtR X id (rdM X id) := fun pins s σ H x xs v us Q I rx rs h => h.o pins s σ v us I rx rs
def wM (X : Cx) (id : String) (x : A) (xs : List A) (μ : Mu) (Q : A → Mu → Prop) : Prop := ∀ M F H v vs, Rel X.K μ M F H → Rep X.K F x v → RepL X.K F xs vs → rdM X id v vs H (QE X.K M F Q)
theorem wM_of {id : String} {r : V → List V → Hp → VK → Prop} {x : A} {xs : List A} (h : MtR X id r) (q : ∀ M F H v vs, Rel X.K μ M F H → Rep X.K F x v → RepL X.K F xs vs → r v vs H (QE X.K M F Q)) : wM X id x xs μ Q :=
  fun M F H v vs rl r1 r2 => ⟨fun pins s σ v' us I rx rs => h pins s σ H v vs v' us _ I rx rs (q M F H v vs rl r1 r2)⟩
theorem wE_m0 {id : String} {name : Str} (slot : Slot "str" name id) (ty : typeOf (.builtin id) = pure (.type "method_descriptor")) (h : wE B X o Γ μ fun x μ1 => ∃ a, x = .str a ∧ wM X id (.str a) [] μ1 Q)
    (hbase : attributeBase o name X.env (eval o X.env) = eval o X.env := by rfl) (hline : (apos.endLine == pos.line) = true := by rfl) : wE B X (.Call (.Attribute o name apos) [] [] pos) Γ μ Q := wE_of (pe_m0 slot ty mtr_rd pe_rd hbase hline) fun σ M F H bo rs r => by
  refine (h σ M F H bo rs r).imp fun v H1 ⟨x, F1, μ1, e1, r1, p1, a, ex, q1⟩ => ?_
  subst ex
  refine ⟨⟨a, rep_str.mp p1⟩, ?_⟩
  refine ⟨fun pins s σ' v' us I rx rs' => ?_⟩
  exact thn ((q1 M F1 H1 v [] r1 p1 .nil).o pins s σ' v' us I rx rs') fun _ _ ⟨z, H2, I2, r2, q2⟩ => ⟨z, H2, I2, r2, q2.mono e1⟩
theorem wE_m1 {id : String} {name : Str} (slot : Slot "str" name id) (ty : typeOf (.builtin id) = pure (.type "method_descriptor")) (h : wE B X o Γ μ fun x μ1 => ∃ a, x = .str a ∧ wE B X e Γ μ1 fun y μ2 => wM X id (.str a) [y] μ2 Q)
    (hs : starEach [e] X.env = [(false, eval e X.env)] := by rfl) (hbase : attributeBase o name X.env (eval o X.env) = eval o X.env := by rfl) (hline : (apos.endLine == pos.line) = true := by rfl) : wE B X (.Call (.Attribute o name apos) [e] [] pos) Γ μ Q :=
  wE_of (pe_m1 slot ty mtr_rd pe_rd pe_rd hs hbase hline) fun σ M F H bo rs r => by
  refine (h σ M F H bo rs r).imp fun v H1 ⟨x, F1, μ1, e1, r1, p1, a, ex, q1⟩ => ?_
  subst ex
  refine ⟨⟨a, rep_str.mp p1⟩, ?_⟩
  refine (q1 σ M F1 H1 (bo.mono e1) (rs.mono e1) r1).imp fun w H2 ⟨y, F2, μ2, e2, r2, p2, q2⟩ => ?_
  refine ⟨fun pins s σ' v' us I rx rs' => ?_⟩
  exact thn ((q2 M F2 H2 v [w] r2 (p1.mono e2) (.cons p2 .nil)).o pins s σ' v' us I rx rs') fun _ _ ⟨z, H3, I3, r3, q3⟩ => ⟨z, H3, I3, r3, q3.mono (e1.trans e2)⟩
theorem wM_tt {id : String} {g : Str → Str → V} {f : Str → Str → A} {a b : Str} (h : MtR X id (fun x xs H Q => ∃ a b, x = .str a ∧ xs = [.str b] ∧ Q (g a b) H)) (hf : ∀ F, Rep X.K F (f a b) (g a b)) (q : Q (f a b) μ) : wM X id (.str a) [.str b] μ Q := wM_of h fun M F H v vs rl r1 r2 => by
  obtain ⟨w, rfl, r3⟩ := r2.one
  exact ⟨a, b, rep_str.mp r1, by rw [rep_str.mp r3], .pure rl (hf F) q⟩
theorem wM_startswith {a b : Str} (q : Q (.bl (Txt.startswith a b)) μ) : wM X "str.startswith" (.str a) [.str b] μ Q := wM_tt (f := fun a b => .bl (Txt.startswith a b)) mt_startswith (fun F => rep_bl.mpr rfl) q
theorem wM_endswith {a b : Str} (q : Q (.bl (Txt.endswith a b)) μ) : wM X "str.endswith" (.str a) [.str b] μ Q := wM_tt (f := fun a b => .bl (Txt.endswith a b)) mt_endswith (fun F => rep_bl.mpr rfl) q
theorem wM_partition {a b : Str} (hb : (b.length == 0) = false) (hz : a.length ≤ sizeLine) (q : Q (.tup [.str (Txt.partition a b).1, .str (Txt.partition a b).2.1, .str (Txt.partition a b).2.2]) μ) : wM X "str.partition" (.str a) [.str b] μ Q := wM_of mt_partition fun M F H v vs rl r1 r2 => by
  obtain ⟨w, rfl, r3⟩ := r2.one
  refine ⟨a, b, rep_str.mp r1, by rw [rep_str.mp r3], hb, hz, fun p np => ?_⟩
  obtain ⟨ex, rl'⟩ := rl.newF (o := .tup [.str (Txt.partition a b).1, .str (Txt.partition a b).2.1, .str (Txt.partition a b).2.2]) np
  exact ⟨_, _, _, ex, rl', rep_tup.mpr ⟨p, _, rfl, .inl (.inl upd_same), .cons (rep_str.mpr rfl) (.cons (rep_str.mpr rfl) (.cons (rep_str.mpr rfl) .nil))⟩, q⟩
theorem repL_mkS {K : PySem.W.Frag} {F : Hp} (ys : List Str) : RepL K F (ys.map A.str) (ys.map V.str) := by
  induction ys with
  | nil => exact .nil
  | cons y ys ih => exact .cons (rep_str.mpr rfl) ih
theorem wM_split {a b : Str} (hb : (b.length == 0) = false) (hz : a.length + 2 ≤ sizeLine) (q : Q (.lst ((Txt.split a b).map A.str)) μ) : wM X "str.split" (.str a) [.str b] μ Q := wM_of mt_split fun M F H v vs rl r1 r2 => by
  obtain ⟨w, rfl, r3⟩ := r2.one
  refine ⟨a, b, rep_str.mp r1, by rw [rep_str.mp r3], hb, hz, fun p np => ?_⟩
  obtain ⟨ex, rl'⟩ := rl.newF (o := .lst ((Txt.split a b).map V.str)) np
  exact ⟨_, _, _, ex, rl', rep_lst.mpr ⟨p, _, rfl, upd_same, repL_mkS _⟩, q⟩
theorem wM_words {a : Str} (hz : a.length + 2 ≤ sizeLine) (q : Q (.lst ((Txt.words a).map A.str)) μ) : wM X "str.split" (.str a) [] μ Q := wM_of mt_words fun M F H v vs rl r1 r2 => by
  refine ⟨a, rep_str.mp r1, by simpa [RepL] using r2, hz, fun p np => ?_⟩
  obtain ⟨ex, rl'⟩ := rl.newF (o := .lst ((Txt.words a).map V.str)) np
  exact ⟨_, _, _, ex, rl', rep_lst.mpr ⟨p, _, rfl, upd_same, repL_mkS _⟩, q⟩
theorem wM_join {a : Str} {x : A} {ys : List Str} (hx : IsL μ x (ys.map A.str) ∨ x = .tup (ys.map A.str)) (hz : (ys.map (·.length)).sum + ys.length * a.length ≤ 16777216) (q : Q (.str (Txt.join a ys)) μ) : wM X "str.join" (.str a) [x] μ Q := wM_of mt_join fun M F H v vs rl r1 r2 => by
  obtain ⟨w, rfl, r3⟩ := r2.one
  rcases hx with hx | rfl
  · obtain ⟨p, ws, rfl, h1, h2⟩ := hx.rep rl r3
    rw [repL_strs h2] at h1
    exact ⟨a, p, ys, rep_str.mp r1, rfl, .inl (.inl (.inl h1)), hz, .pure rl (rep_str.mpr rfl) q⟩
  · rw [rep_tup] at r3
    obtain ⟨p, ws, rfl, h1, h2⟩ := r3
    rw [repL_strs h2] at h1
    exact ⟨a, p, ys, rep_str.mp r1, rfl, .inr (rl.sub.t h1), hz, .pure rl (rep_str.mpr rfl) q⟩
theorem wM_strip {a : Str} (hz : a.length ≤ sizeLine) (q : Q (.str (Txt.strip a)) μ) : wM X "str.strip" (.str a) [] μ Q := wM_of mt_strip fun M F H v vs rl r1 r2 => ⟨a, rep_str.mp r1, by simpa [RepL] using r2, hz, .pure rl (rep_str.mpr rfl) q⟩
theorem wC_intS {a : Str} {n : Int} (hn : PySem.intText? a = some n) (hl : a.length ≤ 640) (q : Q (.int n) μ) : wC X (.type "int") [.str a] μ Q := wC_of call_int_str fun M F H vs rl r => by
  obtain ⟨v, rfl, h⟩ := r.one; rw [rep_str] at h; subst h
  exact ⟨a, n, rfl, hn, hl, .pure rl (rep_int.mpr rfl) q⟩
end
end D

set_option exponentiation.threshold 256
set_option pp.maxSteps 5000
set_option Elab.async false
set_option linter.all false
set_option maxRecDepth 100000
set_option maxHeartbeats 4000000
/-! DI: great numbers, and fractions in lowest terms. -/
namespace D
open PySem PySem.Spec PyProof.Rows L2
theorem log2_100 {i : Int} (h0 : 0 < i) (h1 : i < 2 ^ 100) : i.natAbs.log2 < 9000 := by
  have : i.natAbs < 2 ^ 100 := by omega
  exact Nat.lt_of_lt_of_le ((Nat.log2_lt (by omega)).mpr this) (by decide)
/-- a number of at most n bits -/
def Bd (n : Nat) (i : Int) : Prop := i.natAbs < 2 ^ n
theorem Bd.mono {n m : Nat} {i : Int} (h : Bd n i) (hm : n ≤ m) : Bd m i := Nat.lt_of_lt_of_le h (Nat.pow_le_pow_right (by decide) hm)
theorem Bd.mul {n m : Nat} {i j : Int} (hi : Bd n i) (hj : Bd m j) : Bd (n + m) (i * j) := by
  unfold Bd; rw [Int.natAbs_mul, Nat.pow_add]; exact Nat.mul_lt_mul'' hi hj
theorem Bd.add {n : Nat} {i j : Int} (hi : Bd n i) (hj : Bd n j) : Bd (n + 1) (i + j) := by
  unfold Bd at *; rw [Nat.pow_succ]; omega
theorem Bd.sub {n : Nat} {i j : Int} (hi : Bd n i) (hj : Bd n j) : Bd (n + 1) (i - j) := by
  unfold Bd at *; rw [Nat.pow_succ]; omega
theorem Bd.log {n : Nat} {i : Int} (h : Bd n i) (hn : 0 < n) : i.natAbs.log2 < n := by
  rcases Nat.eq_zero_or_pos i.natAbs with h0 | h0
  · rw [h0]; simpa using hn
  · exact (Nat.log2_lt (by omega)).mpr h
theorem Bd.of {n : Nat} {i : Int} (h1 : -(2 ^ n : Nat) < i) (h2 : i < (2 ^ n : Nat)) : Bd n i := by unfold Bd; omega
theorem Bd.mulOk {n : Nat} {i j : Int} (hi : Bd n i) (hj : Bd n j) (hn : n ≤ 2 ^ 20) : IntMulOk i j := by
  have key : ∀ {x : Int}, Bd n x → Builtin.Int.intBits x ≤ 2 ^ 20 := fun {x} hx => by
    unfold Builtin.Int.intBits
    split
    · decide
    · rename_i h
      have h0 : x.natAbs ≠ 0 := by simpa using h
      have := (Nat.log2_lt h0).mpr hx
      omega
  exact IntMulOk.of_bits (key hi) (key hj)
theorem Bd.noPy {n : Nat} {i j : Int} (hj : Bd n j) (hn : n ≤ 9000) (h0 : 0 < n) : Builtin.divisionGoesByPylong i j = false := PyProof.noPylong_of_log2 (Nat.lt_of_lt_of_le (hj.log h0) hn)
/-- the sign of d on the greatest part of both -/
def part (n d : Int) : Int := if 0 < d then (Int.gcd n d : Int) else 0 - (Int.gcd n d : Int)
def lowN (n d : Int) : Int := n.fdiv (part n d)
def lowD (n d : Int) : Int := d.fdiv (part n d)
def low (n d : Int) : A := .tup [.int (lowN n d), .int (lowD n d)]
theorem part_ne {n d : Int} (h : d ≠ 0) : part n d ≠ 0 := by
  have : 0 < Int.gcd n d := Int.gcd_pos_of_ne_zero_right _ h
  unfold part; split <;> omega
theorem part_bd {n d : Int} {k : Nat} (h : d ≠ 0) (hd : Bd k d) : Bd k (part n d) := by
  have h1 : Int.gcd n d ≤ d.natAbs := Nat.le_of_dvd (by omega) (Int.gcd_dvd_natAbs_right n d)
  unfold Bd at *
  have : (part n d).natAbs = Int.gcd n d := by unfold part; split <;> omega
  omega
theorem part_n {n d : Int} : part n d ∣ n := by
  have := Int.gcd_dvd_left n d
  unfold part; split
  · exact this
  · rw [show (0 : Int) - (Int.gcd n d : Int) = -(Int.gcd n d : Int) by omega]; exact (Int.neg_dvd).mpr this
theorem part_d {n d : Int} : part n d ∣ d := by
  have := Int.gcd_dvd_right n d
  unfold part; split
  · exact this
  · rw [show (0 : Int) - (Int.gcd n d : Int) = -(Int.gcd n d : Int) by omega]; exact (Int.neg_dvd).mpr this
theorem lowN_eq {n d : Int} (h : d ≠ 0) : lowN n d * part n d = n := by unfold lowN; rw [Int.fdiv_eq_ediv_of_dvd part_n, Int.ediv_mul_cancel part_n]
theorem lowD_eq {n d : Int} (h : d ≠ 0) : lowD n d * part n d = d := by unfold lowD; rw [Int.fdiv_eq_ediv_of_dvd part_d, Int.ediv_mul_cancel part_d]
end D
namespace D
open PySem PySem.Spec PyProof.Rows L2
/-- a fraction in lowest terms -/
structure Fr (n d : Int) : Prop where
  pos : 0 < d
  low : Int.gcd n d = 1
theorem part_pos {n d : Int} (h : 0 < d) : part n d = (Int.gcd n d : Int) := by unfold part; rw [if_pos h]
theorem low_fr {n d : Int} (h : 0 < d) : Fr (lowN n d) (lowD n d) := by
  have hg : 0 < Int.gcd n d := Int.gcd_pos_of_ne_zero_right _ (by omega)
  have e1 : lowN n d = n / (Int.gcd n d : Int) := by unfold lowN; rw [Int.fdiv_eq_ediv_of_dvd part_n, part_pos h]
  have e2 : lowD n d = d / (Int.gcd n d : Int) := by unfold lowD; rw [Int.fdiv_eq_ediv_of_dvd part_d, part_pos h]
  refine ⟨?_, by rw [e1, e2]; exact Int.gcd_ediv_gcd_ediv_gcd hg⟩
  have h2 := lowD_eq (n := n) (d := d) (by omega)
  rw [part_pos h] at h2
  refine Int.pos_of_mul_pos_left (b := (Int.gcd n d : Int)) ?_ (by omega)
  omega
theorem lowN_le {n d : Int} (h : d ≠ 0) : (lowN n d).natAbs ≤ n.natAbs := by
  have h1 := lowN_eq (n := n) h
  have h2 : 0 < (part n d).natAbs := by have := part_ne (n := n) h; omega
  have e : n.natAbs = (lowN n d).natAbs * (part n d).natAbs := by rw [← Int.natAbs_mul, h1]
  rw [e]; exact Nat.le_mul_of_pos_right _ h2
theorem lowD_le {n d : Int} (h : d ≠ 0) : (lowD n d).natAbs ≤ d.natAbs := by
  have h1 := lowD_eq (n := n) h
  have h2 : 0 < (part n d).natAbs := by have := part_ne (n := n) h; omega
  have e : d.natAbs = (lowD n d).natAbs * (part n d).natAbs := by rw [← Int.natAbs_mul, h1]
  rw [e]; exact Nat.le_mul_of_pos_right _ h2
/-- what is in lowest terms stays so, told in others -/
theorem low_of {n d k : Int} (h : Fr n d) (hk : 0 < k) : low (n * k) (d * k) = .tup [.int n, .int d] := by
  have hd : 0 < d * k := Int.mul_pos h.pos hk
  have g : (Int.gcd (n * k) (d * k) : Int) = k := by rw [Int.gcd_mul_right, h.low]; omega
  have p : part (n * k) (d * k) = k := by rw [part_pos hd, g]
  unfold low lowN lowD
  rw [p, Int.fdiv_eq_ediv_of_dvd ⟨n, Int.mul_comm _ _⟩, Int.fdiv_eq_ediv_of_dvd ⟨d, Int.mul_comm _ _⟩, Int.mul_ediv_cancel _ (by omega), Int.mul_ediv_cancel _ (by omega)]
end D

set_option exponentiation.threshold 256
set_option pp.maxSteps 5000
set_option Elab.async false
set_option linter.all false
set_option maxRecDepth 100000
set_option maxHeartbeats 4000000
/-! P60: lists of fractions, multiplied and divided row by row; how great they may be. -/
namespace D
open PySem PySem.Spec PyProof.Rows L2
/-- a fraction as the program holds it -/
def ra (q : Rat) : A := .tup [.int q.num, .int q.den]
theorem ra_inj {x y : Rat} (h : ra x = ra y) : x = y := by
  simp only [ra, A.tup.injEq, List.cons.injEq, A.int.injEq, and_true] at h
  exact Rat.ext h.1 (by omega)
theorem low_ra {n d : Int} (h : d ≠ 0) : low n d = ra (Rat.divInt n d) ∧ (Rat.divInt n d).num = lowN n d ∧ ((Rat.divInt n d).den : Int) = lowD n d := by
  have key : ∀ a b : Int, Fr a b → (Rat.divInt a b).num = a ∧ ((Rat.divInt a b).den : Int) = b := by
    intro a b f
    have hb : ((b.toNat : Nat) : Int) = b := Int.toNat_of_nonneg (by have := f.pos; omega)
    have nz : b.toNat ≠ 0 := by have := f.pos; omega
    have c : a.natAbs.Coprime b.toNat := by
      have := f.low
      unfold Int.gcd at this
      have e : b.natAbs = b.toNat := by have := f.pos; omega
      rw [e] at this; exact this
    have := @Rat.mk_eq_divInt a b.toNat nz c
    rw [hb] at this
    rw [← this]
    exact ⟨rfl, hb⟩
  have hp : part n d ≠ 0 := part_ne h
  have e1 := lowN_eq (n := n) h
  have e2 := lowD_eq (n := n) h
  have e3 : Rat.divInt n d = Rat.divInt (lowN n d) (lowD n d) := by
    have := @Rat.divInt_mul_right (lowN n d) (lowD n d) _ hp
    rw [e1, e2] at this
    exact this
  have f : Fr (lowN n d) (lowD n d) := by
    rcases Int.lt_or_gt_of_ne h with hd | hd
    · have g : 0 < Int.gcd n d := Int.gcd_pos_of_ne_zero_right _ h
      have pd : part n d = -(Int.gcd n d : Int) := by unfold part; rw [if_neg (by omega)]; omega
      have hneg : lowN n d = lowN (-n) (-d) ∧ lowD n d = lowD (-n) (-d) := by
        have pp : part (-n) (-d) = (Int.gcd n d : Int) := by unfold part; rw [if_pos (by omega), Int.neg_gcd, Int.gcd_neg]
        unfold lowN lowD
        have h1 : part n d ∣ n := part_n
        have h2 : part n d ∣ d := part_d
        rw [pd] at h1 h2
        rw [pd, pp]
        have g1 : (Int.gcd n d : Int) ∣ n := Int.gcd_dvd_left ..
        have g2 : (Int.gcd n d : Int) ∣ d := Int.gcd_dvd_right ..
        rw [Int.fdiv_eq_ediv_of_dvd h1, Int.fdiv_eq_ediv_of_dvd h2, Int.fdiv_eq_ediv_of_dvd (Int.dvd_neg.mpr g1), Int.fdiv_eq_ediv_of_dvd (Int.dvd_neg.mpr g2), Int.ediv_neg, Int.ediv_neg, Int.neg_ediv_of_dvd g1, Int.neg_ediv_of_dvd g2]
        exact ⟨rfl, rfl⟩
      rw [hneg.1, hneg.2]
      exact low_fr (by omega)
    · exact low_fr hd
  obtain ⟨k1, k2⟩ := key _ _ f
  rw [← e3] at k1 k2
  exact ⟨by unfold low ra; rw [k1, k2], k1, k2⟩
theorem fr_ra {n d : Int} (f : Fr n d) : A.tup [.int n, .int d] = ra (Rat.divInt n d) ∧ (Rat.divInt n d).num = n ∧ ((Rat.divInt n d).den : Int) = d := by
  have h := low_of f (k := 1) (by decide)
  rw [Int.mul_one, Int.mul_one] at h
  obtain ⟨h1, h2, h3⟩ := low_ra (n := n) (d := d) (by have := f.pos; omega)
  rw [h] at h1
  simp only [low, A.tup.injEq, List.cons.injEq, A.int.injEq, and_true] at h
  exact ⟨h1, h2.trans h.1, h3.trans h.2⟩
theorem den_ne {x : Rat} : (x.den : Int) ≠ 0 := by have := x.den_nz; omega
theorem ra_add (x y : Rat) : low (x.num * y.den + y.num * x.den) (x.den * y.den) = ra (x + y) := by
  rw [(low_ra (Int.mul_ne_zero den_ne den_ne)).1, ← Rat.divInt_add_divInt _ _ den_ne den_ne, Rat.num_divInt_den, Rat.num_divInt_den]
theorem ra_sub (x y : Rat) : low (x.num * y.den - y.num * x.den) (x.den * y.den) = ra (x - y) := by
  rw [(low_ra (Int.mul_ne_zero den_ne den_ne)).1, ← Rat.divInt_sub_divInt _ _ den_ne den_ne, Rat.num_divInt_den, Rat.num_divInt_den]
theorem ra_mul (x y : Rat) : low (x.num * y.num) (x.den * y.den) = ra (x * y) := by
  rw [(low_ra (Int.mul_ne_zero den_ne den_ne)).1, ← Rat.divInt_mul_divInt, Rat.num_divInt_den, Rat.num_divInt_den]
theorem ra_div (x y : Rat) (h : y.num ≠ 0) : low (x.num * y.den) (x.den * y.num) = ra (x / y) := by
  rw [(low_ra (Int.mul_ne_zero den_ne h)).1, Rat.div_def, ← Rat.num_divInt_den y, Rat.inv_divInt, ← Rat.divInt_mul_divInt, Rat.num_divInt_den, Rat.num_divInt_den]
theorem ra_neg (x : Rat) : A.tup [.int (0 - x.num), .int x.den] = ra (-x) := by
  unfold ra
  rw [Rat.neg_num, Rat.neg_den, Int.zero_sub]
theorem num_zero {x : Rat} : x.num = 0 ↔ x = 0 := Rat.num_eq_zero
/-- bounds: below, above the stroke -/
structure QB (x : Rat) : Prop where
  d : x.den < 2 ^ 4490
  n : x.num.natAbs < 2 ^ 13000
/-- x is X by E -/
structure IsF (x : Rat) (X E : Int) : Prop where
  ne : E ≠ 0
  eq : x * (E : Rat) = (X : Rat)
theorem cast_ne {E : Int} (h : E ≠ 0) : (E : Rat) ≠ 0 := fun z => h (Rat.intCast_inj.mp (by simpa using z))
theorem IsF.val {x : Rat} {X E : Int} (h : IsF x X E) : x = Rat.divInt X E := by
  have := cast_ne h.ne
  rw [Rat.divInt_eq_div]
  have := h.eq
  grind
theorem IsF.num_le {x : Rat} {X E : Int} (h : IsF x X E) : x.num.natAbs ≤ X.natAbs := by
  rw [h.val, (low_ra h.ne).2.1]; exact lowN_le h.ne
theorem IsF.den_le {x : Rat} {X E : Int} (h : IsF x X E) : x.den ≤ E.natAbs := by
  have e := (low_ra (n := X) h.ne).2.2
  have l := lowD_le (n := X) h.ne
  rw [h.val]; omega
theorem IsF.qb {x : Rat} {X E : Int} (h : IsF x X E) (h1 : X.natAbs < 2 ^ 13000) (h2 : E.natAbs < 2 ^ 4490) : QB x := ⟨Nat.lt_of_le_of_lt h.den_le h2, Nat.lt_of_le_of_lt h.num_le h1⟩
theorem IsF.add {x y : Rat} {X Y E : Int} (h : IsF x X E) (g : IsF y Y E) : IsF (x + y) (X + Y) E := ⟨h.ne, by rw [Rat.intCast_add, ← h.eq, ← g.eq]; grind⟩
theorem IsF.sub {x y : Rat} {X Y E : Int} (h : IsF x X E) (g : IsF y Y E) : IsF (x - y) (X - Y) E := ⟨h.ne, by rw [Rat.intCast_sub, ← h.eq, ← g.eq]; grind⟩
theorem IsF.mul {x y : Rat} {X Y E G : Int} (h : IsF x X E) (g : IsF y Y G) : IsF (x * y) (X * Y) (E * G) := ⟨Int.mul_ne_zero h.ne g.ne, by rw [Rat.intCast_mul, Rat.intCast_mul, ← h.eq, ← g.eq]; grind⟩
theorem IsF.wide {x : Rat} {X E : Int} (h : IsF x X E) {k : Int} (hk : k ≠ 0) : IsF x (X * k) (E * k) := ⟨Int.mul_ne_zero h.ne hk, by rw [Rat.intCast_mul, Rat.intCast_mul, ← h.eq]; grind⟩
theorem IsF.zero {E : Int} (h : E ≠ 0) : IsF 0 0 E := ⟨h, by grind⟩
/-! ### sums, products, quotients of lists -/
def ap (xs : List Rat) (i : Nat) : Rat := xs.getD i 0
def sumTo (f : Nat → Rat) : Nat → Rat
  | 0 => 0
  | k + 1 => sumTo f k + f k
theorem sumTo_congr {f g : Nat → Rat} : ∀ {k : Nat}, (∀ i, i < k → f i = g i) → sumTo f k = sumTo g k
  | 0, _ => rfl
  | k + 1, h => by rw [sumTo, sumTo, sumTo_congr fun i hi => h i (by omega), h k (by omega)]
def mulC (xs ys : List Rat) : List Rat := (List.range xs.length).map fun n => sumTo (fun k => ap xs k * ap ys (n - k)) (n + 1)
def divGo (xs ys : List Rat) : Nat → List Rat
  | 0 => []
  | n + 1 => divGo xs ys n ++ [(ap xs n - sumTo (fun k => ap (divGo xs ys n) k * ap ys (n - k)) n) / ap ys 0]
def divC (xs ys : List Rat) : List Rat := divGo xs ys xs.length
def oneL (n : Nat) : List Rat := 1 :: List.replicate (n - 1) 0
def powL (xs : List Rat) : Nat → List Rat
  | 0 => oneL xs.length
  | p + 1 => mulC (powL xs p) xs
def powZ (xs : List Rat) (k : Int) : List Rat := if k < 0 then divC (oneL xs.length) (powL xs k.natAbs) else powL xs k.natAbs
theorem mulC_len {xs ys : List Rat} : (mulC xs ys).length = xs.length := by simp [mulC]
theorem divGo_len {xs ys : List Rat} : ∀ {n : Nat}, (divGo xs ys n).length = n
  | 0 => rfl
  | n + 1 => by simp [divGo, divGo_len]
theorem divC_len {xs ys : List Rat} : (divC xs ys).length = xs.length := divGo_len
theorem oneL_len {n : Nat} (h : 0 < n) : (oneL n).length = n := by simp [oneL]; omega
theorem powL_len {xs : List Rat} (h : xs ≠ []) : ∀ {p : Nat}, (powL xs p).length = xs.length
  | 0 => oneL_len (List.length_pos_iff.mpr h)
  | p + 1 => by rw [powL, mulC_len, powL_len h]
theorem ap_append {xs ys : List Rat} {i : Nat} (h : i < xs.length) : ap (xs ++ ys) i = ap xs i := by
  unfold ap; rw [List.getD_eq_getElem?_getD, List.getD_eq_getElem?_getD, List.getElem?_append_left h]
theorem ap_last {xs : List Rat} {y : Rat} : ap (xs ++ [y]) xs.length = y := by
  unfold ap; rw [List.getD_eq_getElem?_getD]; simp
theorem ap_of {xs : List Rat} {i : Nat} {x : Rat} (h : xs[i]? = some x) : ap xs i = x := by
  unfold ap; rw [List.getD_eq_getElem?_getD, h]; rfl
theorem ap_some {xs : List Rat} {i : Nat} (h : i < xs.length) : xs[i]? = some (ap xs i) := by
  rw [List.getElem?_eq_getElem h, ap_of (List.getElem?_eq_getElem h)]
theorem ap_out {xs : List Rat} {i : Nat} (h : xs.length ≤ i) : ap xs i = 0 := by
  unfold ap; rw [List.getD_eq_getElem?_getD, List.getElem?_eq_none h]; rfl
theorem divGo_ap {xs ys : List Rat} : ∀ {m n i : Nat}, i < n → n ≤ m → ap (divGo xs ys m) i = ap (divGo xs ys n) i
  | 0, n, i, h1, h2 => by omega
  | m + 1, n, i, h1, h2 => by
    by_cases e : n = m + 1
    · rw [e]
    · rw [divGo, ap_append (by rw [divGo_len]; omega), divGo_ap h1 (by omega)]
/-- the quotient's entry -/
def qc (xs ys : List Rat) (n : Nat) : Rat := ap (divGo xs ys (n + 1)) n
theorem qc_at {xs ys : List Rat} {m i : Nat} (h : i < m) : ap (divGo xs ys m) i = qc xs ys i := divGo_ap (Nat.lt_succ_self i) h
theorem qc_eq {xs ys : List Rat} {n : Nat} : qc xs ys n = (ap xs n - sumTo (fun k => qc xs ys k * ap ys (n - k)) n) / ap ys 0 := by
  have h := ap_last (xs := divGo xs ys n) (y := (ap xs n - sumTo (fun k => ap (divGo xs ys n) k * ap ys (n - k)) n) / ap ys 0)
  rw [divGo_len] at h
  have e : qc xs ys n = (ap xs n - sumTo (fun k => ap (divGo xs ys n) k * ap ys (n - k)) n) / ap ys 0 := h
  rw [e, sumTo_congr (g := fun k => qc xs ys k * ap ys (n - k)) fun i hi => by rw [qc_at hi]]
theorem divGo_snoc {xs ys : List Rat} {n : Nat} : divGo xs ys (n + 1) = divGo xs ys n ++ [qc xs ys n] := by
  rw [qc_eq, divGo, sumTo_congr fun i hi => by rw [qc_at hi]]
theorem ap_mulC {xs ys : List Rat} {n : Nat} (h : n < xs.length) : ap (mulC xs ys) n = sumTo (fun k => ap xs k * ap ys (n - k)) (n + 1) := by
  refine ap_of ?_
  unfold mulC
  rw [List.getElem?_map, List.getElem?_range h]; rfl
theorem list_ext {xs ys : List Rat} (hl : xs.length = ys.length) (h : ∀ i, i < xs.length → ap xs i = ap ys i) : xs = ys := by
  refine List.ext_getElem? fun i => ?_
  by_cases hi : i < xs.length
  · rw [ap_some hi, ap_some (by omega), h i hi]
  · rw [List.getElem?_eq_none (by omega), List.getElem?_eq_none (by omega)]
/-- the quotient times the second is the first -/
theorem mul_div {xs ys : List Rat} (h : ap ys 0 ≠ 0) : mulC (divC xs ys) ys = xs := by
  refine list_ext (by rw [mulC_len, divC_len]) fun i hi => ?_
  rw [mulC_len, divC_len] at hi
  rw [ap_mulC (by rw [divC_len]; exact hi), sumTo, sumTo_congr (g := fun k => qc xs ys k * ap ys (i - k)) fun j hj => by unfold divC; rw [qc_at (by omega)]]
  unfold divC
  rw [qc_at hi, Nat.sub_self, qc_eq (n := i)]
  grind
theorem ap_take {xs : List Rat} {m i : Nat} (h : i < m) : ap (xs.take m) i = ap xs i := by
  unfold ap; rw [List.getD_eq_getElem?_getD, List.getD_eq_getElem?_getD, List.getElem?_take_of_lt h]
theorem mulC_take {xs ys : List Rat} {m : Nat} : mulC (xs.take m) (ys.take m) = (mulC xs ys).take m := by
  refine list_ext (by simp [mulC]) fun i hi => ?_
  rw [mulC_len, List.length_take] at hi
  rw [ap_take (by omega), ap_mulC (by rw [List.length_take]; omega), ap_mulC (by omega)]
  exact sumTo_congr fun j hj => by rw [ap_take (by omega), ap_take (by omega)]
theorem qc_take {xs ys : List Rat} {m : Nat} : ∀ n, n < m → qc (xs.take m) (ys.take m) n = qc xs ys n := by
  intro n
  induction n using Nat.strongRecOn with
  | ind n ih =>
    intro h
    rw [qc_eq, qc_eq, ap_take h, ap_take (by omega), sumTo_congr fun j hj => by rw [ih j hj (by omega), ap_take (by omega)]]
theorem divC_take {xs ys : List Rat} {m : Nat} : divC (xs.take m) (ys.take m) = (divC xs ys).take m := by
  refine list_ext (by rw [divC_len, List.length_take, List.length_take, divC_len]) fun i hi => ?_
  rw [divC_len, List.length_take] at hi
  rw [ap_take (by omega)]
  unfold divC
  rw [qc_at (by rw [List.length_take]; omega), qc_at (by omega), qc_take i (by omega)]
theorem oneL_take {n m : Nat} (h : 0 < n) (hm : 0 < m) : oneL (min m n) = (oneL n).take m := by
  obtain ⟨k, rfl⟩ : ∃ k, m = k + 1 := ⟨m - 1, by omega⟩
  unfold oneL
  rw [List.take_succ_cons, List.take_replicate]
  congr 2; omega
theorem powL_take {xs : List Rat} {m : Nat} (h : xs ≠ []) (hm : 0 < m) : ∀ p, powL (xs.take m) p = (powL xs p).take m
  | 0 => by rw [powL, powL, List.length_take, oneL_take (List.length_pos_iff.mpr h) hm]
  | p + 1 => by rw [powL, powL, powL_take h hm p, mulC_take]
theorem powZ_take {xs : List Rat} {m : Nat} (h : xs ≠ []) (hm : 0 < m) (k : Int) : powZ (xs.take m) k = (powZ xs k).take m := by
  unfold powZ
  split
  · rw [List.length_take, oneL_take (List.length_pos_iff.mpr h) hm, powL_take h hm, divC_take]
  · exact powL_take h hm _
end D

set_option exponentiation.threshold 256
set_option pp.maxSteps 5000
set_option Elab.async false
set_option linter.all false
set_option maxRecDepth 100000
set_option maxHeartbeats 4000000
set_option exponentiation.threshold 20000
/-! P61: bounds of products and quotients of lists. -/
namespace D
open PySem PySem.Spec PyProof.Rows L2
theorem IsF.cancel {x : Rat} {X E D : Int} (hD : D ≠ 0) (h : IsF x (D * X) (D * E)) : IsF x X E := by
  refine ⟨fun z => h.ne (by rw [z, Int.mul_zero]), ?_⟩
  have e := h.eq
  rw [Rat.intCast_mul, Rat.intCast_mul] at e
  have := cast_ne hD
  grind
theorem IsF.div {x y : Rat} {X E Y D : Int} (h : IsF x X E) (g : IsF y Y D) (hy : y ≠ 0) : IsF (x / y) (D * X) (E * Y) := by
  have hd := cast_ne g.ne
  have e1 := g.eq
  have hY : Y ≠ 0 := fun z => by
    subst z
    have : y * (D : Rat) = 0 := by rw [e1]; rfl
    rcases Rat.mul_eq_zero.mp this with h | h
    · exact hy h
    · exact hd h
  refine ⟨Int.mul_ne_zero h.ne hY, ?_⟩
  have e2 := h.eq
  rw [Rat.intCast_mul, Rat.intCast_mul, ← e1, ← e2]
  grind
theorem IsF.cast {x : Rat} {X X' E E' : Int} (h : IsF x X E) (h1 : X = X') (h2 : E = E') : IsF x X' E' := by subst h1; subst h2; exact h
/-- all entries by one number, the first one's bound apart -/
structure Sc (D : Int) (A0 A1 : Nat) (xs : List Rat) : Prop where
  ne : D ≠ 0
  at_ : ∀ i, ∃ X : Int, IsF (ap xs i) X D ∧ X.natAbs ≤ A1 ∧ (i = 0 → X.natAbs ≤ A0)
theorem Sc.mk' {D : Int} {A0 A1 : Nat} {xs : List Rat} (h0 : D ≠ 0) (h : ∀ i, i < xs.length → ∃ X : Int, IsF (ap xs i) X D ∧ X.natAbs ≤ A1 ∧ (i = 0 → X.natAbs ≤ A0)) : Sc D A0 A1 xs := ⟨h0, fun i => by
  by_cases hi : i < xs.length
  · exact h i hi
  · rw [ap_out (by omega)]; exact ⟨0, .zero h0, by simp, fun _ => by simp⟩⟩
theorem Sc.sums {D E : Int} {A0 A1 B0 B1 : Nat} {xs ys : List Rat} (h : Sc D A0 A1 xs) (g : Sc E B0 B1 ys) (n : Nat) : ∀ m, ∃ X : Int, IsF (sumTo (fun k => ap xs k * ap ys (n - k)) m) X (D * E) ∧ X.natAbs ≤ m * (A1 * B1)
  | 0 => ⟨0, .zero (Int.mul_ne_zero h.ne g.ne), by simp⟩
  | m + 1 => by
    obtain ⟨X, h1, h2⟩ := Sc.sums h g n m
    obtain ⟨Y, k1, k2, _⟩ := h.at_ m
    obtain ⟨Z, l1, l2, _⟩ := g.at_ (n - m)
    refine ⟨X + Y * Z, h1.add (k1.mul l1), Nat.le_trans (Int.natAbs_add_le _ _) ?_⟩
    rw [Int.natAbs_mul, Nat.add_mul, Nat.one_mul]
    exact Nat.add_le_add h2 (Nat.mul_le_mul k2 l2)
structure MulB (xs ys : List Rat) : Prop where
  len : xs.length = ys.length
  l13 : xs.length ≤ 13
  a : ∀ i, QB (ap xs i)
  b : ∀ i, QB (ap ys i)
  p : ∀ i j, i < xs.length → QB (ap xs i * ap ys j)
  s : ∀ n m, n < xs.length → m ≤ n + 1 → QB (sumTo (fun k => ap xs k * ap ys (n - k)) m)
theorem Sc.mulB {D E : Int} {A0 A1 B0 B1 : Nat} {xs ys : List Rat} (h : Sc D A0 A1 xs) (g : Sc E B0 B1 ys) (len : xs.length = ys.length) (l13 : xs.length ≤ 13) (hd : D.natAbs * E.natAbs < 2 ^ 4490) (hn : 13 * (A1 * B1) < 2 ^ 13000) (hA : 0 < A1) (hB : 0 < B1) : MulB xs ys := by
  have d0 : 0 < D.natAbs := by have := h.ne; omega
  have e0 : 0 < E.natAbs := by have := g.ne; omega
  have a1 : A1 ≤ A1 * B1 := Nat.le_mul_of_pos_right _ hB
  have b1 : B1 ≤ A1 * B1 := Nat.le_mul_of_pos_left _ hA
  have d1 : D.natAbs ≤ D.natAbs * E.natAbs := Nat.le_mul_of_pos_right _ e0
  have e1 : E.natAbs ≤ D.natAbs * E.natAbs := Nat.le_mul_of_pos_left _ d0
  refine ⟨len, l13, fun i => ?_, fun i => ?_, fun i j hi => ?_, fun n m hl hm => ?_⟩
  · obtain ⟨X, h1, h2, _⟩ := h.at_ i
    exact h1.qb (Nat.lt_of_le_of_lt (Nat.le_trans h2 (Nat.le_trans a1 (Nat.le_mul_of_pos_left _ (by decide)))) hn) (Nat.lt_of_le_of_lt d1 hd)
  · obtain ⟨X, h1, h2, _⟩ := g.at_ i
    exact h1.qb (Nat.lt_of_le_of_lt (Nat.le_trans h2 (Nat.le_trans b1 (Nat.le_mul_of_pos_left _ (by decide)))) hn) (Nat.lt_of_le_of_lt e1 hd)
  · obtain ⟨X, h1, h2, _⟩ := h.at_ i
    obtain ⟨Y, g1, g2, _⟩ := g.at_ j
    refine (h1.mul g1).qb (Nat.lt_of_le_of_lt ?_ hn) (by rw [Int.natAbs_mul]; exact hd)
    rw [Int.natAbs_mul]
    exact Nat.le_trans (Nat.mul_le_mul h2 g2) (Nat.le_mul_of_pos_left _ (by decide))
  · obtain ⟨X, h1, h2⟩ := h.sums g n m
    exact h1.qb (Nat.lt_of_le_of_lt (Nat.le_trans h2 (Nat.mul_le_mul_right _ (show m ≤ 13 by omega))) hn) (by rw [Int.natAbs_mul]; exact hd)
theorem Sc.mulC {D E : Int} {A0 A1 B0 B1 : Nat} {xs ys : List Rat} (h : Sc D A0 A1 xs) (g : Sc E B0 B1 ys) (l13 : xs.length ≤ 13) : Sc (D * E) (A0 * B0) (13 * (A1 * B1)) (mulC xs ys) := .mk' (Int.mul_ne_zero h.ne g.ne) fun i hi => by
  rw [mulC_len] at hi
  rw [ap_mulC hi]
  obtain ⟨X, h1, h2⟩ := h.sums g i (i + 1)
  by_cases h0 : i = 0
  · subst h0
    obtain ⟨Y, k1, k2, k3⟩ := h.at_ 0
    obtain ⟨Z, l1, l2, l3⟩ := g.at_ 0
    refine ⟨Y * Z, ?_, ?_, fun _ => by rw [Int.natAbs_mul]; exact Nat.mul_le_mul (k3 rfl) (l3 rfl)⟩
    · have e : sumTo (fun k => ap xs k * ap ys (0 - k)) (0 + 1) = ap xs 0 * ap ys 0 := by show (0 : Rat) + ap xs 0 * ap ys 0 = _; grind
      rw [e]; exact k1.mul l1
    · rw [Int.natAbs_mul]; exact Nat.le_trans (Nat.mul_le_mul k2 l2) (Nat.le_mul_of_pos_left _ (by decide))
  · exact ⟨X, h1, Nat.le_trans h2 (Nat.mul_le_mul_right _ (by omega)), fun z => absurd z h0⟩
/-- what a quotient's bounds rest on -/
structure Dv (D' D F0 : Int) (R M0 M : Nat) (xs ys : List Rat) : Prop where
  x : ∀ i, ∃ X : Int, IsF (ap xs i) X D' ∧ X.natAbs ≤ R
  y : ∀ i, ∃ Y : Int, IsF (ap ys i) Y D ∧ Y.natAbs ≤ M
  f : IsF (ap ys 0) F0 D
  f0 : F0.natAbs ≤ M0
  f1 : F0.natAbs ≤ M
  nz : ap ys 0 ≠ 0
theorem Dv.fne {D' D F0 : Int} {R M0 M : Nat} {xs ys : List Rat} (v : Dv D' D F0 R M0 M xs ys) : F0 ≠ 0 := fun z => by
  have := v.f.eq
  subst z
  have hd := cast_ne v.f.ne
  rcases Rat.mul_eq_zero.mp (this.trans (show ((0 : Int) : Rat) = 0 from rfl)) with h | h
  · exact v.nz h
  · exact hd h
theorem pow_ne {a : Int} (h : a ≠ 0) (n : Nat) : a ^ n ≠ 0 := Int.pow_ne_zero h
section
variable {D' D F0 : Int} {R M0 M : Nat} {xs ys : List Rat}
theorem Dv.part (v : Dv D' D F0 R M0 M xs ys) {j : Nat} (ih : ∀ i, i < j → ∃ N : Int, IsF (qc xs ys i) (D * N) (D' * F0 ^ (i + 1)) ∧ N.natAbs ≤ 2 ^ i * (R * M ^ i)) : ∀ k, k ≤ j →
    ∃ P : Int, IsF (ap xs j - sumTo (fun k => qc xs ys k * ap ys (j - k)) k) P (D' * F0 ^ j) ∧ P.natAbs ≤ 2 ^ k * (R * M ^ j)
  | 0, _ => by
    obtain ⟨X, h1, h2⟩ := v.x j
    refine ⟨X * F0 ^ j, ?_, ?_⟩
    · have e : ap xs j - sumTo (fun k => qc xs ys k * ap ys (j - k)) 0 = ap xs j := by show ap xs j - 0 = _; grind
      rw [e]; exact h1.wide (pow_ne v.fne j)
    · rw [Int.natAbs_mul, Int.natAbs_pow, Nat.pow_zero, Nat.one_mul]
      exact Nat.mul_le_mul h2 (Nat.pow_le_pow_left v.f1 j)
  | k + 1, hk => by
    obtain ⟨P, h1, h2⟩ := v.part ih k (by omega)
    obtain ⟨N, n1, n2⟩ := ih k (by omega)
    obtain ⟨Y, y1, y2⟩ := v.y (j - k)
    have c1 : IsF (qc xs ys k * ap ys (j - k)) (N * Y) (D' * F0 ^ (k + 1)) := ((n1.mul y1).cast (X' := D * (N * Y)) (E' := D * (D' * F0 ^ (k + 1))) (by rw [Int.mul_assoc]) (by rw [Int.mul_comm])).cancel v.f.ne
    have c2 := c1.wide (pow_ne v.fne (j - 1 - k))
    have c3 : IsF (qc xs ys k * ap ys (j - k)) (N * Y * F0 ^ (j - 1 - k)) (D' * F0 ^ j) := c2.cast rfl (by rw [Int.mul_assoc, ← Int.pow_add]; congr 2; omega)
    refine ⟨P - N * Y * F0 ^ (j - 1 - k), ?_, ?_⟩
    · have e : ap xs j - sumTo (fun k => qc xs ys k * ap ys (j - k)) (k + 1) = ap xs j - sumTo (fun k => qc xs ys k * ap ys (j - k)) k - qc xs ys k * ap ys (j - k) := by
        show ap xs j - (sumTo (fun k => qc xs ys k * ap ys (j - k)) k + qc xs ys k * ap ys (j - k)) = _; grind
      rw [e]; exact h1.sub c3
    · refine Nat.le_trans (Int.natAbs_sub_le _ _) ?_
      rw [Nat.pow_succ, Nat.mul_two, Nat.add_mul]
      refine Nat.add_le_add h2 ?_
      rw [Int.natAbs_mul, Int.natAbs_mul, Int.natAbs_pow]
      have e : M ^ j = M ^ k * M * M ^ (j - 1 - k) := by rw [← Nat.pow_succ, ← Nat.pow_add]; congr 1; omega
      rw [e]
      calc N.natAbs * Y.natAbs * F0.natAbs ^ (j - 1 - k) ≤ (2 ^ k * (R * M ^ k)) * M * M ^ (j - 1 - k) := Nat.mul_le_mul (Nat.mul_le_mul n2 y2) (Nat.pow_le_pow_left v.f1 _)
        _ = 2 ^ k * (R * (M ^ k * M * M ^ (j - 1 - k))) := by simp only [Nat.mul_assoc]
theorem Dv.all (v : Dv D' D F0 R M0 M xs ys) (j : Nat) : ∃ N : Int, IsF (qc xs ys j) (D * N) (D' * F0 ^ (j + 1)) ∧ N.natAbs ≤ 2 ^ j * (R * M ^ j) := by
  induction j using Nat.strongRecOn with
  | ind j ih =>
    obtain ⟨P, h1, h2⟩ := v.part ih j (Nat.le_refl _)
    refine ⟨P, ?_, h2⟩
    rw [qc_eq]
    exact (h1.div v.f v.nz).cast rfl (by rw [Int.mul_assoc, Int.pow_succ])
structure DivB (xs ys : List Rat) : Prop where
  len : xs.length = ys.length
  l13 : xs.length ≤ 13
  nz : ap ys 0 ≠ 0
  yb : (ap ys 0).num.natAbs < 2 ^ 4490
  a : ∀ i, QB (ap xs i)
  b : ∀ i, QB (ap ys i)
  q : ∀ i, i < xs.length → QB (qc xs ys i)
  p : ∀ i j, i < xs.length → QB (qc xs ys i * ap ys j)
  l : ∀ n m, n < xs.length → m ≤ n → QB (ap xs n - sumTo (fun k => qc xs ys k * ap ys (n - k)) m)
  s : ∀ n m, n < xs.length → m ≤ n → QB (sumTo (fun k => qc xs ys k * ap ys (n - k)) m)
theorem Dv.divB (v : Dv D' D F0 R M0 M xs ys) {L : Nat} (hL : xs.length ≤ L) (len : xs.length = ys.length) (l13 : xs.length ≤ 13) (h1 : D'.natAbs * M0 ^ L < 2 ^ 4490) (h2 : D.natAbs * (2 ^ L * (R * M ^ L)) < 2 ^ 13000) (hy : D.natAbs < 2 ^ 4490) (hm : M0 < 2 ^ 4490) (hR : 0 < R) : DivB xs ys := by
  have F1 : 0 < F0.natAbs := by have := v.fne; omega
  have M01 : 0 < M0 := Nat.lt_of_lt_of_le F1 v.f0
  have M1 : 0 < M := Nat.lt_of_lt_of_le F1 v.f1
  have D1 : 0 < D.natAbs := by have := v.f.ne; omega
  have D1' : D'.natAbs ≤ D'.natAbs * M0 ^ L := Nat.le_mul_of_pos_right _ (Nat.pow_pos M01)
  have big : ∀ {n : Nat}, n ≤ 2 ^ L * (R * M ^ L) → n < 2 ^ 13000 := fun hn => Nat.lt_of_le_of_lt (Nat.le_trans hn (Nat.le_mul_of_pos_left _ D1)) h2
  have den : ∀ {k : Nat}, k ≤ L → (D' * F0 ^ k).natAbs < 2 ^ 4490 := fun hk => by
    rw [Int.natAbs_mul, Int.natAbs_pow]
    exact Nat.lt_of_le_of_lt (Nat.mul_le_mul_left _ (Nat.le_trans (Nat.pow_le_pow_left v.f0 _) (Nat.pow_le_pow_right M01 hk))) h1
  have up : ∀ {a b : Nat}, a ≤ L → b ≤ L → 2 ^ a * (R * M ^ b) ≤ 2 ^ L * (R * M ^ L) := fun ha hb => Nat.mul_le_mul (Nat.pow_le_pow_right (by decide) ha) (Nat.mul_le_mul_left _ (Nat.pow_le_pow_right M1 hb))
  refine ⟨len, l13, v.nz, ?_, fun i => ?_, fun i => ?_, fun i hi => ?_, fun i j hi => ?_, fun n m hn hm => ?_, fun n m hn hm => ?_⟩
  · exact Nat.lt_of_le_of_lt (Nat.le_trans v.f.num_le v.f0) hm
  · obtain ⟨X, k1, k2⟩ := v.x i
    refine k1.qb (big (Nat.le_trans k2 ?_)) (Nat.lt_of_le_of_lt D1' h1)
    exact Nat.le_trans (Nat.le_mul_of_pos_right _ (Nat.pow_pos M1)) (Nat.le_mul_of_pos_left _ (Nat.pow_pos (by decide)))
  · obtain ⟨Y, k1, k2⟩ := v.y i
    by_cases h0 : L = 0
    · have : ap ys 0 = 0 := ap_out (by omega)
      exact absurd this v.nz
    · refine k1.qb (big (Nat.le_trans k2 ?_)) hy
      refine Nat.le_trans ?_ (Nat.le_mul_of_pos_left _ (Nat.pow_pos (by decide)))
      refine Nat.le_trans ?_ (Nat.le_mul_of_pos_left _ hR)
      exact Nat.le_trans (Nat.le_of_eq (Nat.pow_one M).symm) (Nat.pow_le_pow_right M1 (by omega))
  · obtain ⟨N, k1, k2⟩ := v.all i
    refine k1.qb ?_ (den (by omega))
    rw [Int.natAbs_mul]
    exact Nat.lt_of_le_of_lt (Nat.mul_le_mul_left _ (Nat.le_trans k2 (up (by omega) (by omega)))) h2
  · obtain ⟨N, k1, k2⟩ := v.all i
    obtain ⟨Y, y1, y2⟩ := v.y j
    have c1 : IsF (qc xs ys i * ap ys j) (N * Y) (D' * F0 ^ (i + 1)) := ((k1.mul y1).cast (X' := D * (N * Y)) (E' := D * (D' * F0 ^ (i + 1))) (by rw [Int.mul_assoc]) (by rw [Int.mul_comm])).cancel v.f.ne
    refine c1.qb (big ?_) (den (by omega))
    rw [Int.natAbs_mul]
    refine Nat.le_trans (Nat.mul_le_mul k2 y2) ?_
    have e : 2 ^ i * (R * M ^ i) * M = 2 ^ i * (R * M ^ (i + 1)) := by rw [Nat.pow_succ]; simp only [Nat.mul_assoc]
    rw [e]; exact up (by omega) (by omega)
  · obtain ⟨P, k1, k2⟩ := v.part (fun i _ => v.all i) m hm
    exact k1.qb (big (Nat.le_trans k2 (up (by omega) (by omega)))) (den (by omega))
  · obtain ⟨P, k1, k2⟩ := v.part (fun i _ => v.all i) m hm
    obtain ⟨X, x1, x2⟩ := v.x n
    have c := (x1.wide (pow_ne v.fne n)).sub k1
    have e : ap xs n - (ap xs n - sumTo (fun k => qc xs ys k * ap ys (n - k)) m) = sumTo (fun k => qc xs ys k * ap ys (n - k)) m := by grind
    rw [e] at c
    refine c.qb (big (Nat.le_trans (Int.natAbs_sub_le _ _) ?_)) (den (by omega))
    rw [Int.natAbs_mul, Int.natAbs_pow]
    have a1 : X.natAbs * F0.natAbs ^ n ≤ R * M ^ n := Nat.mul_le_mul x2 (Nat.pow_le_pow_left v.f1 n)
    have a2 : R * M ^ n ≤ 2 ^ m * (R * M ^ n) := Nat.le_mul_of_pos_left _ (Nat.pow_pos (by decide))
    have a3 : 2 ^ m * (R * M ^ n) + 2 ^ m * (R * M ^ n) = 2 ^ (m + 1) * (R * M ^ n) := by rw [Nat.pow_succ, Nat.mul_two, Nat.add_mul]
    refine Nat.le_trans (Nat.add_le_add (Nat.le_trans a1 a2) k2) ?_
    rw [a3]; exact up (by omega) (by omega)
end
theorem Sc.one {n : Nat} : Sc 1 1 1 (oneL n) := ⟨by decide, fun i => by
  have e1 : IsF 1 1 1 := ⟨by decide, Rat.one_mul _⟩
  cases i with
  | zero => exact ⟨1, by show IsF 1 1 1; exact e1, by decide, fun _ => by decide⟩
  | succ i =>
    have e : ap (oneL n) (i + 1) = 0 := by
      unfold ap oneL
      rw [List.getD_eq_getElem?_getD, List.getElem?_cons_succ, List.getElem?_replicate]
      split <;> rfl
    rw [e]; exact ⟨0, .zero (by decide), by decide, fun _ => by decide⟩⟩
theorem Sc.pow {B0 B1 : Nat} {xs : List Rat} (h : Sc 2520 B0 B1 xs) (hx : xs ≠ []) (l13 : xs.length ≤ 13) : ∀ p : Nat, Sc (2520 ^ p) (B0 ^ p) ((13 * B1) ^ p) (powL xs p)
  | 0 => by rw [powL]; exact Sc.one
  | p + 1 => by
    have k := (Sc.pow h hx l13 p).mulC h (by rw [powL_len hx]; exact l13)
    rw [powL, Int.pow_succ, Nat.pow_succ, Nat.pow_succ]
    have e : (13 * B1) ^ p * (13 * B1) = 13 * ((13 * B1) ^ p * B1) := by rw [Nat.mul_left_comm]
    rw [e]; exact k
end D

set_option exponentiation.threshold 256
set_option pp.maxSteps 5000
set_option Elab.async false
set_option linter.all false
set_option maxRecDepth 100000
set_option maxHeartbeats 4000000
set_option exponentiation.threshold 20000
/-! P62: the law's lists: all its sums, products, quotients, powers are in bounds. -/
namespace D
open PySem PySem.Spec PyProof.Rows L2
theorem qb_zero : QB 0 := ⟨Nat.lt_of_le_of_lt (show (0 : Rat).den ≤ 1 by decide) (Nat.one_lt_two_pow (by decide)), Nat.pow_pos (by decide)⟩
theorem qc_div {xs ys : List Rat} {i : Nat} (h : i < xs.length) : ap (divC xs ys) i = qc xs ys i := qc_at h
theorem DivB.mulB {xs ys : List Rat} (h : DivB xs ys) : MulB (divC xs ys) ys := by
  refine ⟨by rw [divC_len]; exact h.len, by rw [divC_len]; exact h.l13, fun i => ?_, h.b, fun i j hi => ?_, fun n m hn hm => ?_⟩
  · by_cases hi : i < xs.length
    · rw [qc_div hi]; exact h.q i hi
    · rw [ap_out (by rw [divC_len]; omega)]; exact qb_zero
  · rw [divC_len] at hi; rw [qc_div hi]; exact h.p i j hi
  · rw [divC_len] at hn
    have e : ∀ m, m ≤ n + 1 → sumTo (fun k => ap (divC xs ys) k * ap ys (n - k)) m = sumTo (fun k => qc xs ys k * ap ys (n - k)) m := fun m hm => sumTo_congr fun j hj => by rw [qc_div (by omega)]
    by_cases hm2 : m ≤ n
    · rw [e m hm]; exact h.s n m hn hm2
    · obtain rfl : m = n + 1 := by omega
      have k := congrArg (fun zs => ap zs n) (mul_div (xs := xs) h.nz)
      rw [ap_mulC (by rw [divC_len]; exact hn)] at k
      rw [k]; exact h.a n
theorem pow_zero_at {xs : List Rat} (hx : xs ≠ []) (h : ap xs 0 ≠ 0) : ∀ p, ap (powL xs p) 0 ≠ 0
  | 0 => by show (1 : Rat) ≠ 0; decide
  | p + 1 => by
    rw [powL, ap_mulC (by rw [powL_len hx]; exact List.length_pos_iff.mpr hx)]
    have e : sumTo (fun k => ap (powL xs p) k * ap xs (0 - k)) (0 + 1) = ap (powL xs p) 0 * ap xs 0 := by show (0 : Rat) + ap (powL xs p) 0 * ap xs 0 = _; grind
    rw [e]
    intro z
    rcases Rat.mul_eq_zero.mp z with z | z
    · exact pow_zero_at hx h p z
    · exact h z
structure PowB (xs : List Rat) (k : Int) : Prop where
  hx : xs ≠ []
  l13 : xs.length ≤ 13
  m : ∀ t, t < k.natAbs → MulB (powL xs t) xs
  d : k < 0 → DivB (oneL xs.length) (powL xs k.natAbs)
/-- the law's lists: to thirteen fractions by 2520 -/
structure In2 (xs : List Rat) : Prop where
  hx : xs ≠ []
  l13 : xs.length ≤ 13
  sc : Sc 2520 (2 ^ 78) (2 ^ 78) xs
theorem In2.mul {xs ys : List Rat} (h : In2 xs) (g : In2 ys) (len : xs.length = ys.length) : MulB xs ys := h.sc.mulB g.sc len h.l13 (by decide +kernel) (by decide +kernel) (by decide) (by decide)
theorem In2.div {xs ys : List Rat} (h : In2 xs) (g : In2 ys) (len : xs.length = ys.length) (nz : ap ys 0 ≠ 0) : DivB xs ys := by
  obtain ⟨F0, f1, f2, _⟩ := g.sc.at_ 0
  exact (Dv.mk (fun i => let ⟨X, a, b, _⟩ := h.sc.at_ i; ⟨X, a, b⟩) (fun i => let ⟨X, a, b, _⟩ := g.sc.at_ i; ⟨X, a, b⟩) f1 f2 f2 nz : Dv 2520 2520 F0 (2 ^ 78) (2 ^ 78) (2 ^ 78) xs ys).divB (L := 13) h.l13 len h.l13 (by decide +kernel) (by decide +kernel) (by decide +kernel) (by decide +kernel) (by decide)
theorem In2.pow {xs : List Rat} (h : In2 xs) {B0 : Nat} {k : Int} (h0 : Sc 2520 B0 (2 ^ 78) xs) (hk : k.natAbs ≤ 8) (b1 : 0 < B0)
    (hd : k < 0 → ap xs 0 ≠ 0 ∧ (B0 ^ k.natAbs) ^ xs.length < 2 ^ 4400 ∧ B0 ≤ 2 ^ 78) : PowB xs k := by
  have pb : ∀ t : Nat, 0 < (13 * 2 ^ 78) ^ t := fun t => Nat.pow_pos (by decide)
  refine ⟨h.hx, h.l13, fun t ht => ?_, fun hn => ?_⟩
  · refine (h0.pow h.hx h.l13 t).mulB h.sc (powL_len h.hx) (by rw [powL_len h.hx]; exact h.l13) ?_ ?_ (pb t) (by decide)
    · rw [Int.natAbs_pow]
      exact Nat.lt_of_le_of_lt (Nat.mul_le_mul_right _ (Nat.pow_le_pow_right (by decide) (show t ≤ 8 by omega))) (by decide +kernel)
    · exact Nat.lt_of_le_of_lt (Nat.mul_le_mul_left _ (Nat.mul_le_mul_right _ (Nat.pow_le_pow_right (by decide) (show t ≤ 8 by omega)))) (by decide +kernel)
  · obtain ⟨nz, hb, hb2⟩ := hd hn
    have sc := h0.pow h.hx h.l13 k.natAbs
    obtain ⟨F0, f1, f2, f3⟩ := sc.at_ 0
    have lp : 0 < xs.length := List.length_pos_iff.mpr h.hx
    have v : Dv 1 (2520 ^ k.natAbs) F0 1 (B0 ^ k.natAbs) ((13 * 2 ^ 78) ^ k.natAbs) (oneL xs.length) (powL xs k.natAbs) :=
      ⟨fun i => let ⟨X, a, b, _⟩ := Sc.one.at_ i; ⟨X, a, b⟩, fun i => let ⟨X, a, b, _⟩ := sc.at_ i; ⟨X, a, b⟩, f1, f3 rfl, f2, pow_zero_at h.hx nz _⟩
    have l1 : (oneL xs.length).length = xs.length := oneL_len lp
    have lx := h.l13
    refine v.divB (L := xs.length) (by omega) (by rw [l1, powL_len h.hx]) (by omega) ?_ ?_ ?_ ?_ (by decide)
    · show 1 * (B0 ^ k.natAbs) ^ xs.length < _
      rw [Nat.one_mul]; exact Nat.lt_of_lt_of_le hb (Nat.pow_le_pow_right (by decide) (by decide))
    · rw [Int.natAbs_pow, Nat.one_mul]
      refine Nat.lt_of_le_of_lt (Nat.mul_le_mul (Nat.pow_le_pow_right (by decide) hk) (Nat.mul_le_mul (Nat.pow_le_pow_right (by decide) lx) (Nat.le_trans (Nat.pow_le_pow_left (Nat.pow_le_pow_right (by decide) hk) _) (Nat.pow_le_pow_right (by decide) lx)))) (by decide +kernel)
    · rw [Int.natAbs_pow]
      exact Nat.lt_of_le_of_lt (Nat.pow_le_pow_right (by decide) hk) (by decide +kernel)
    · refine Nat.lt_of_le_of_lt (Nat.le_trans (Nat.pow_le_pow_left hb2 _) (Nat.pow_le_pow_right (by decide) hk)) (by decide +kernel)
/-- the first entry's number -/
theorem Sc.first {xs : List Rat} {B : Nat} (h : Sc 2520 (2 ^ 78) (2 ^ 78) xs) (hb : ∃ X : Int, IsF (ap xs 0) X 2520 ∧ X.natAbs ≤ B) : Sc 2520 B (2 ^ 78) xs := ⟨h.ne, fun i => by
  by_cases h0 : i = 0
  · subst h0
    obtain ⟨X, x1, x2, _⟩ := h.at_ 0
    obtain ⟨Y, y1, y2⟩ := hb
    have e : X = Y := by
      have e1 := x1.eq
      have e2 := y1.eq
      exact Rat.intCast_inj.mp (e1.symm.trans e2)
    subst e
    exact ⟨X, x1, x2, fun _ => y2⟩
  · obtain ⟨X, x1, x2, _⟩ := h.at_ i
    exact ⟨X, x1, x2, fun z => absurd z h0⟩⟩
theorem by2520 {x : Rat} {n : Nat} {d : Nat} (hd : x.den = d) (h1 : d ∣ 2520) (hn : x.num.natAbs ≤ n) : ∃ X : Int, IsF x X 2520 ∧ X.natAbs ≤ n * 2520 := by
  obtain ⟨k, hk⟩ := h1
  have k0 : k ≠ 0 := fun z => by rw [z] at hk; cases hk
  have base : IsF x x.num (x.den : Int) := ⟨den_ne, by
    have := Rat.num_divInt_den x
    rw [Rat.divInt_eq_div] at this
    have h := cast_ne (@den_ne x)
    grind⟩
  have w := base.wide (k := (k : Int)) (by omega)
  refine ⟨x.num * k, w.cast rfl (by rw [hd, ← Int.natCast_mul, ← hk]; rfl), ?_⟩
  rw [Int.natAbs_mul, Int.natAbs_natCast]
  have : k ≤ 2520 := by rw [hk]; exact Nat.le_mul_of_pos_left _ (by rcases Nat.eq_zero_or_pos d with z | z; (rw [z, Nat.zero_mul] at hk; cases hk); exact z)
  exact Nat.mul_le_mul hn this
/-- the powers of a law's list -/
theorem In2.powL8 {xs : List Rat} (h : In2 xs) {k : Int} (hk : 0 ≤ k) (h8 : k ≤ 8) : PowB xs k := h.pow h.sc (by omega) (by decide) fun z => by omega
theorem In2.powS {xs : List Rat} (h : In2 xs) {k : Int} (h4 : xs.length ≤ 4) (h8 : k.natAbs ≤ 8) (nz : ap xs 0 ≠ 0) : PowB xs k := h.pow h.sc h8 (by decide) fun _ => ⟨nz, by
  rw [← Nat.pow_mul, ← Nat.pow_mul]
  refine Nat.pow_lt_pow_right (by decide) ?_
  have : k.natAbs * xs.length ≤ 8 * 4 := Nat.mul_le_mul h8 h4
  omega, Nat.le_refl _⟩
theorem In2.pow3 {xs : List Rat} (h : In2 xs) {k : Int} (h3 : k.natAbs ≤ 3) (nz : ap xs 0 ≠ 0) : PowB xs k := h.pow h.sc (by omega) (by decide) fun _ => ⟨nz, by
  rw [← Nat.pow_mul, ← Nat.pow_mul]
  refine Nat.pow_lt_pow_right (by decide) ?_
  have : k.natAbs * xs.length ≤ 3 * 13 := Nat.mul_le_mul h3 h.l13
  omega, Nat.le_refl _⟩
theorem In2.powG {xs : List Rat} (h : In2 xs) {k : Int} (h8 : k.natAbs ≤ 8) (nz : ap xs 0 ≠ 0) (hb : ∃ X : Int, IsF (ap xs 0) X 2520 ∧ X.natAbs ≤ 2 ^ 32) : PowB xs k := h.pow (h.sc.first hb) h8 (by decide) fun _ => ⟨nz, by
  rw [← Nat.pow_mul, ← Nat.pow_mul]
  refine Nat.pow_lt_pow_right (by decide) ?_
  have : k.natAbs * xs.length ≤ 8 * 13 := Nat.mul_le_mul h8 h.l13
  omega, by decide⟩
theorem In2.take {xs : List Rat} (h : In2 xs) {m : Nat} (hm : 0 < m) : In2 (xs.take m) := by
  refine ⟨fun z => ?_, by have := h.l13; rw [List.length_take]; omega, .mk' h.sc.ne fun i hi => ?_⟩
  · have e := congrArg List.length z
    rw [List.length_take, List.length_nil] at e
    have := List.length_pos_iff.mpr h.hx
    omega
  · rw [List.length_take] at hi
    rw [ap_take (by omega)]; exact h.sc.at_ i
end D

set_option exponentiation.threshold 256
set_option pp.maxSteps 5000
set_option Elab.async false
set_option linter.all false
set_option maxRecDepth 100000
set_option maxHeartbeats 4000000
/-! DJ: constants of the module, defs with defaults. -/
namespace D
open PySem PySem.Spec PyProof.Rows L2
section
variable {P : Program} {w : World} {mg : Str → Option Value} {base : Heap} {K : PySem.W.Frag}
/-- THE RULE for a def with defaults -/
theorem fnDD {x qual : Str} {st : Stmt} {f : Addr} {fd : FuncData} {N ps : List Str} {k : Nat} {c : AC} {dvs : List V} {kws : List (Str × V)} (F : FunD K x qual (defArgs st) (defBody st) (defScope st) dvs kws f fd) (S : FnScope N ps (defScope st)) (len : ∀ xs μ Q E, c xs μ Q E → xs.length = ps.length)
    (go : ∀ {B : Bs} (cdv : Value) (A : Around) (outer : List Env) (s : Shared) (H : Hp) (E : XK) (xs : List D.A) (μ : Mu) (Q : D.A → Mu → Prop) (E0 : Value → Option Addr → Mu → Prop), Ar (cx0 P w K mg base N qual (defScope st) f cdv A outer s H E) k → c xs μ Q E0 →
      wSs B (cx0 P w K mg base N qual (defScope st) f cdv A outer s H E) (defBody st) (startA N xs) μ { nx := fun _ μ' => Q .non μ', rt := Q }) : FnD P w K mg base CX0 (k + 1) f fd ps c := by
  obtain ⟨oc, od, dV, kV, doc, pm, an, cdv, ct, osl, rfl, lk, hcd, _, _⟩ := F.ex
  refine FnD.body lk hcd S len fun A outer s H vs Q E room sh sp => rdSs_nox ?_
  obtain ⟨xs, F0, M, μ, Q0, E0, rp, rl, hc, hq, he⟩ := sp
  refine (go cdv A outer s H E xs μ Q0 E0 ⟨room, sh⟩ hc (L2.start N vs) M F0 H (Bs.ok.own M F0) (relS_start N rp) rl).imp (fun σ2 H2 q => ?_) (fun v H2 q => ?_) (fun σ2 H2 q => ?_) (fun σ2 H2 q => ?_)
  · obtain ⟨Γ', F', μ', ex, _, rl', q⟩ := q
    exact hq .non μ' F' H2 .non q ex rl' (rep_non.mpr rfl)
  · obtain ⟨y, F', μ', ex, rl', rp', q⟩ := q
    exact hq y μ' F' H2 v q ex rl' rp'
  · obtain ⟨_, _, _, _, _, _, q⟩ := q; exact q
  · obtain ⟨_, _, _, _, _, _, q⟩ := q; exact q
/-- what stands as defaults -/
theorem fund_mk {x qual : Str} {st : Stmt} {f T : Addr} {oc tc : Value} {od an td : Option Addr} {osl tsl : Array (Option Value)} {kV doc pm cdv ct : Value} {its : Array Value} {n : Nat} {dvs : List V}
    (l : K.lookup f = some ⟨oc, od, .func (PySem.W.fnOf x qual (defArgs st) (defBody st) (defScope st) (.ref T) kV doc pm an cdv ct), osl⟩)
    (c : PySem.W.codeIn K cdv qual = true) (k : PySem.W.keepIn K (.ref f) = true) (lT : K.lookup T = some ⟨tc, td, .seq its n, tsl⟩) (hv : Vals dvs its.toList) (hd : dvs ≠ []) :
    FunD K x qual (defArgs st) (defBody st) (defScope st) dvs [] f (PySem.W.fnOf x qual (defArgs st) (defBody st) (defScope st) (.ref T) kV doc pm an cdv ct) :=
  ⟨⟨oc, od, .ref T, kV, doc, pm, an, cdv, ct, osl, rfl, l, c, .inr ⟨hd, T, _, its.toList, n, rfl, lT, rfl, hv⟩, .inl rfl⟩, k⟩
def strOf : Value → Option Str
  | .str x _ => some x
  | _ => none
def intOf : Value → Option Int
  | .int i _ => some i
  | _ => none
theorem vals_by {α : Type} {f : Value → Option α} {g : α → V} (hf : ∀ u x, f u = some x → RelV (g x) u) : ∀ (us : List Value) (ws : List α), us.map f = ws.map some → Vals (ws.map g) us := by
  intro us
  induction us with
  | nil => intro ws e; cases ws <;> first | exact .nil | simp at e
  | cons u us ih =>
    intro ws e
    cases ws with
    | nil => simp at e
    | cons x ws =>
      have e2 : f u = some x ∧ us.map f = ws.map some := by simpa using e
      exact .cons (hf u x e2.1) (ih ws e2.2)
theorem vals_strs {us : List Value} {ws : List Str} (e : us.map strOf = ws.map some) : Vals (ws.map V.str) us :=
  vals_by (f := strOf) (g := V.str) (fun u x q => by cases u <;> simp [strOf] at q <;> exact q ▸ ⟨_, rfl⟩) us ws e
theorem vals_nums {us : List Value} {ws : List Int} (e : us.map intOf = ws.map some) : Vals (ws.map V.int) us :=
  vals_by (f := intOf) (g := V.int) (fun u x q => by cases u <;> simp [intOf] at q <;> exact q ▸ ⟨_, rfl⟩) us ws e
theorem kn_int {h : Heap} {x : Str} {i : Int} {t : Tok} (X : K.In h) (G : h.Ns mainGlobals mg) (q : PySem.W.nsIn K mainGlobals x = some (some (.int i t))) : Kn K mg x (.int i) := ⟨.int i, _, PySem.W.mg_of X G q, ⟨_, rfl⟩, fun F => rep_int.mpr rfl⟩
theorem kn_str {h : Heap} {x y z : Str} {t : Tok} (X : K.In h) (G : h.Ns mainGlobals mg) (q : PySem.W.nsIn K mainGlobals x = some (some (.str y t))) (e : y = z) : Kn K mg x (.str z) := by
  subst e
  exact ⟨.str y, _, PySem.W.mg_of X G q, ⟨_, rfl⟩, fun F => rep_str.mpr rfl⟩
theorem repL_strs' {F : Hp} (ws : List Str) : RepL K F (ws.map A.str) (ws.map V.str) := .map (fun w => rep_str.mpr rfl) ws
theorem kn_strs {h : Heap} {x : Str} {p : Addr} {its : Array Value} {n : Nat} {sl : Array (Option Value)} {od : Option Addr} {ws : List Str} (X : K.In h) (G : h.Ns mainGlobals mg) (q : PySem.W.nsIn K mainGlobals x = some (some (.ref p)))
    (l : K.lookup p = some ⟨.type "tuple", od, .seq its n, sl⟩) (e : its.toList.map strOf = ws.map some) (hz : ws.length ≤ 1000) : Kn K mg x (.tup (ws.map A.str)) := by
  have hv := vals_strs e
  have hl : its.size = ws.length := by have := congrArg List.length e; simpa using this
  exact ⟨.ref p, _, PySem.W.mg_of X G q, rfl, fun F => rep_tup.mpr ⟨p, ws.map V.str, rfl, .inr ⟨_, its, n, l, rfl, rfl, by rw [hl]; exact Nat.le_trans hz (by decide), hv⟩, repL_strs' ws⟩⟩
end
end D

set_option exponentiation.threshold 256
set_option pp.maxSteps 5000
set_option Elab.async false
set_option linter.all false
set_option maxRecDepth 100000
set_option maxHeartbeats 4000000
/-! DK: instances of own classes, their fields and methods; more of dicts. -/
namespace D
open PySem PySem.Spec PyProof.Rows L2
section
variable {K : PySem.W.Frag} {F : Hp} {f : Str}
theorem lookup_some : ∀ {fs : List (Str × A)} {ws : List (Str × V)} {y : A}, RepK K F fs ws → fs.lookup f = some y → ∃ v, ws.lookup f = some v ∧ Rep K F y v
  | [], _, _, _, e => by simp at e
  | (g, x) :: r, _, y, ⟨v, t, h1, h2, h3⟩, e => by
    subst h1
    rw [List.lookup_cons] at e ⊢
    cases hg : f == g with
    | true => rw [hg] at e; cases e; exact ⟨v, rfl, h2⟩
    | false => rw [hg] at e; exact lookup_some h3 e
theorem lookup_none : ∀ {fs : List (Str × A)} {ws : List (Str × V)}, RepK K F fs ws → fs.lookup f = none → ws.lookup f = none
  | [], _, h, _ => by rw [show _ = [] from h]; rfl
  | (g, x) :: r, _, ⟨v, t, h1, h2, h3⟩, e => by
    subst h1
    rw [List.lookup_cons] at e ⊢
    cases hg : f == g with
    | true => rw [hg] at e; cases e
    | false => rw [hg] at e; exact lookup_none h3 e
/-- the fields, one of them stored -/
def putL (f : Str) (y : A) : List (Str × A) → List (Str × A)
  | [] => [(f, y)]
  | (g, x) :: r => if g = f then (g, y) :: r else (g, x) :: putL f y r
theorem putL_rep {y : A} {v : V} (hy : Rep K F y v) : ∀ {fs : List (Str × A)} {ws : List (Str × V)}, RepK K F fs ws → RepK K F (putL f y fs) (putF f v ws)
  | [], _, h => by rw [show _ = [] from h]; exact ⟨v, [], rfl, hy, rfl⟩
  | (g, x) :: r, _, ⟨u, t, h1, h2, h3⟩ => by
    subst h1
    by_cases hg : g = f
    · simp only [putL, putF, if_pos hg]; exact ⟨v, t, rfl, hy, h3⟩
    · simp only [putL, putF, if_neg hg]; exact ⟨u, _, rfl, h2, putL_rep hy h3⟩
end
section
variable {B : Bs} {X : Cx} {Γ : G} {μ : Mu} {Q : A → Mu → Prop} {Z : AD} {a b c e o value : Expr} {es : List Expr} {pos apos tpos p0 : Pos} {f m : Str} {C : Addr} {j k : Nat} {cc : AC}
/-- o.f -/
theorem wE_fld (cl : Cls X.K C) (n : NoAttr X.K C f) (h : wE B X e Γ μ fun x μ1 => ∃ p dx fs y, x = .loc p ∧ μ1 p = some (.ins C dx fs) ∧ fs.lookup f = some y ∧ Q y μ1) (hb : attributeBase e f X.env (eval e X.env) = eval e X.env := by rfl) : wE B X (.Attribute e f pos) Γ μ Q := wE_of (pe_fld pe_rd hb) fun σ M F H bo rs r => by
  refine (h σ M F H bo rs r).imp fun v H1 ⟨x, F1, μ1, e1, r1, p1, p, dx, fs, y, ex, hp, hl, q1⟩ => ?_
  subst ex; rw [rep_loc] at p1
  obtain ⟨_, ob, g1, ws, rfl, g2⟩ := r1.own p _ hp
  obtain ⟨v1, k1, k2⟩ := lookup_some g2 hl
  exact ⟨p, C, dx, ws, v1, p1, g1, cl, n, k1, y, F1, μ1, e1, r1, k2, q1⟩
/-- o.f = value -/
theorem wS_fld (cl : Cls X.K C) (n : NoAttr X.K C f) (h : wE B X value Γ μ fun y μ1 => wE B X o Γ μ1 fun x μ2 => ∃ p dx fs, x = .loc p ∧ μ2 p = some (.ins C dx fs) ∧ fs.length < 1000 ∧ Z.nx Γ (μ2.upd p (.ins C dx (putL f y fs))))
    (hs : swapsWith value (some (.Attribute o f apos)) pos.line X.env = pure false := by rfl) : wS B X (.Assign [.Attribute o f apos] value pos) Γ μ Z := wS_of (ps_fld pe_rd pe_rd hs) fun σ M F H bo rs r => by
  refine (h σ M F H bo rs r).imp fun v H1 ⟨y, F1, μ1, e1, r1, p1, q1⟩ => ?_
  refine (q1 σ M F1 H1 (bo.mono e1) (rs.mono e1) r1).imp fun w H2 ⟨x, F2, μ2, e2, r2, p2, p, dx, fs, ex, hp, hl, q2⟩ => ?_
  subst ex; rw [rep_loc] at p2
  obtain ⟨_, ob, g1, ws, rfl, g2⟩ := r2.own p _ hp
  exact ⟨p, C, dx, ws, p2, g1, cl, n, by rw [g2.len]; exact hl, Γ, F2, _, e1.trans e2, rs.mono (e1.trans e2), r2.write hp (m' := .ins C dx (putL f y fs)) ⟨_, rfl, putL_rep (p1.mono e2) g2⟩, q2⟩
/-- o.f += value, whole numbers -/
theorem wS_fldadd (cl : Cls X.K C) (n : NoAttr X.K C f) (h : wE B X o Γ μ fun x μ1 => ∃ p dx fs i, x = .loc p ∧ μ1 p = some (.ins C dx fs) ∧ fs.lookup f = some (.int i) ∧
      wE B X value Γ μ1 fun y μ2 => ∃ j dx' fs', y = .int j ∧ μ2 p = some (.ins C dx' fs') ∧ fs'.length < 1000 ∧ Z.nx Γ (μ2.upd p (.ins C dx' (putL f (.int (i + j)) fs')))) : wS B X (.AugAssign (.Attribute o f tpos) .Add value pos) Γ μ Z := wS_of (ps_fldaug pe_rd pe_rd in_add) fun σ M F H bo rs r => by
  refine (h σ M F H bo rs r).imp fun v H1 ⟨x, F1, μ1, e1, r1, p1, p, dx, fs, i, ex, hp, hl, q1⟩ => ?_
  subst ex; rw [rep_loc] at p1
  obtain ⟨_, ob, g1, ws, rfl, g2⟩ := r1.own p _ hp
  obtain ⟨v1, k1, k2⟩ := lookup_some g2 hl
  rw [rep_int] at k2; subst k2
  refine ⟨p, C, dx, ws, _, p1, g1, cl, n, k1, ?_⟩
  refine (q1 σ M F1 H1 (bo.mono e1) (rs.mono e1) r1).imp fun w H2 ⟨y, F2, μ2, e2, r2, p2, j, dx', fs', ey, hp', hl', q2⟩ => ?_
  subst ey; rw [rep_int] at p2
  obtain ⟨_, ob', g1', ws', rfl, g2'⟩ := r2.own p _ hp'
  exact ⟨i, j, rfl, p2, dx', ws', g1', by rw [g2'.len]; exact hl', Γ, F2, _, e1.trans e2, rs.mono (e1.trans e2), r2.write hp' (m' := .ins C dx' (putL f (.int (i + j)) fs')) ⟨_, rfl, putL_rep (rep_int.mpr rfl) g2'⟩, q2⟩
/-- what a caller knows of a method -/
structure CalM (P : Program) (w : World) (K : PySem.W.Frag) (mg : Str → Option Value) (base : Heap) (k : Nat) (C : Addr) (m : Str) (c : AC) : Prop where
  ex : ∃ (f : Addr) (fd : FuncData) (ps : List Str), FnD P w K mg base CX0 k f fd ps c ∧ Meth K C m f ∧ Binds K fd ps []
/-- .. of the making of an instance: the promise is __init__'s -/
structure CalK (P : Program) (w : World) (K : PySem.W.Frag) (mg : Str → Option Value) (base : Heap) (k : Nat) (x : Str) (C : Addr) (c : AC) : Prop where
  ex : ∃ (f : Addr) (fd : FuncData) (ps : List Str), FnD P w K mg base CX0 k f fd ps c ∧ Mk K C f ∧ mg x = some (.ref C) ∧ Binds K fd ps []
theorem CalM.imp {P : Program} {w : World} {K : PySem.W.Frag} {mg : Str → Option Value} {base : Heap} {c c' : AC} (Dm : CalM P w K mg base k C m c) (h : ∀ xs μ Q E, c' xs μ Q E → c xs μ Q E) : CalM P w K mg base k C m c' := by
  obtain ⟨f, fd, ps, F, r⟩ := Dm.ex
  exact ⟨f, fd, ps, F.imp h, r⟩
/-- o.m(e, ..) -/
theorem wE_meth (cl : Cls X.K C) (Dm : CalM X.prog X.w X.K X.mg X.base k C m cc) (ar : Ar X j) (hk : k ≤ j) (h : wE B X o Γ μ fun x μ1 => ∃ p dx fs, x = .loc p ∧ μ1 p = some (.ins C dx fs) ∧ fs.lookup m = none ∧ wA B X (e :: es) Γ μ1 fun xs μ2 => cc (.loc p :: xs) μ2 Q fun _ _ _ => False)
    {pl : Sem Bool} (hst : starEach (e :: es) X.env = (false, eval e X.env) :: starEach es X.env := by rfl) (hpl : (backTo pos (starEach es X.env)).any (·.1) = false := by rfl)
    (ht : eval (.Call (.Attribute o m apos) (e :: es) [] pos) X.env = (eval o X.env >>= fun a => standAt apos.atName >>= fun _ => (holding [a] (getMethod a m pl) >>= fun g => callWith pos g.1 g.2 (backTo pos (starEach (e :: es) X.env)) (backToKw pos (keywordEach [] X.env)))) := by rfl) : wE B X (.Call (.Attribute o m apos) (e :: es) [] pos) Γ μ Q := by
  obtain ⟨fa, fd, ps, Fn, hm, bi⟩ := Dm.ex
  intro σ M F0 H bo rs rl
  refine ⟨fun pins s I => ?_⟩
  refine PySem.W.methodCall_KW (pl := pl) (thn ((h σ M F0 H bo rs rl).o pins s I) fun u s1 got => ?_) ht
  obtain ⟨v, H1, I1, rv, x, F1, μ1, ex1, r1, p1, p, dx, fs, ex, hp, hl, q1⟩ := got
  subst ex; rw [rep_loc] at p1; subst p1
  obtain rfl : u = Value.ref p := rv
  obtain ⟨_, ob, g1, ws, rfl, g2⟩ := r1.own p _ hp
  refine getmeth_ok I1 g1 cl hm (lookup_none g2 hl) ?_
  refine PySem.W.callWith_K (first := [.ref p]) (h₀ := X.base) I.ok.mod.kin hm.kp (thn ((q1 σ M F1 H1 (bo.mono ex1) (rs.mono ex1) r1).o pos pins s1 I1) fun us s2 got2 => ?_) hst hpl
  obtain ⟨vs, H2, I2, rvs, xs, F2, μ2, ex2, r2, rp, hc⟩ := got2
  refine ⟨I2.kIn, runD (us := .ref p :: us) (vs := .ref p :: vs) (dvs := []) (E := fun _ _ _ => False) Fn (ar.mono hk) bi .nil (fun _ _ _ _ _ _ _ z => z.elim) I2 (.cons rfl rvs) ⟨.loc p :: xs, F2, M, μ2, Q, fun _ _ _ => False, ?_, r2, hc, fun y μ' F' H' v q e1 r1 p1 => ?_, fun _ _ _ _ _ z _ _ => z⟩⟩
  · rw [List.append_nil]; exact .cons (rep_loc.mpr rfl) rp
  · exact ⟨y, F', μ', (ex1.trans ex2).trans e1, r1, p1, q⟩
/-- o.m() -/
theorem wE_meth0 (cl : Cls X.K C) (Dm : CalM X.prog X.w X.K X.mg X.base k C m cc) (ar : Ar X j) (hk : k ≤ j) (h : wE B X o Γ μ fun x μ1 => ∃ p dx fs, x = .loc p ∧ μ1 p = some (.ins C dx fs) ∧ fs.lookup m = none ∧ cc [.loc p] μ1 Q fun _ _ _ => False)
    {pl : Sem Bool} (ht : eval (.Call (.Attribute o m apos) [] [] pos) X.env = (eval o X.env >>= fun a => standAt apos.atName >>= fun _ => (holding [a] (getMethod a m pl) >>= fun g => callWith pos g.1 g.2 (backTo pos (starEach [] X.env)) (backToKw pos (keywordEach [] X.env)))) := by rfl) : wE B X (.Call (.Attribute o m apos) [] [] pos) Γ μ Q := by
  obtain ⟨fa, fd, ps, Fn, hm, bi⟩ := Dm.ex
  intro σ M F0 H bo rs rl
  refine ⟨fun pins s I => ?_⟩
  refine PySem.W.methodCall_KW (pl := pl) (thn ((h σ M F0 H bo rs rl).o pins s I) fun u s1 got => ?_) ht
  obtain ⟨v, H1, I1, rv, x, F1, μ1, ex1, r1, p1, p, dx, fs, ex, hp, hl, q1⟩ := got
  subst ex; rw [rep_loc] at p1; subst p1
  obtain rfl : u = Value.ref p := rv
  obtain ⟨_, ob, g1, ws, rfl, g2⟩ := r1.own p _ hp
  refine getmeth_ok I1 g1 cl hm (lookup_none g2 hl) ?_
  refine PySem.W.callWith_K0 (first := [.ref p]) I1.kIn hm.kp (runD (us := [.ref p]) (vs := [.ref p]) (dvs := []) (E := fun _ _ _ => False) Fn (ar.mono hk) bi .nil (fun _ _ _ _ _ _ _ z => z.elim) I1 (.cons rfl .nil) ⟨[.loc p], F1, M, μ1, Q, fun _ _ _ => False, .cons (rep_loc.mpr rfl) .nil, r1, q1, fun y μ' F' H' v q e1 r1 p1 => ?_, fun _ _ _ _ _ z _ _ => z⟩)
  exact ⟨y, F', μ', ex1.trans e1, r1, p1, q⟩
/-- anything laid in an empty place -/
theorem Rel.grow {K : PySem.W.Frag} {M F H : Hp} {p : Addr} {ob : HO} (h : Rel K μ M F H) (n : H p = none) : Rel K μ M F (upd H p ob) := by
  refine ⟨h.sub.trans (.new n), fun q m e => ?_, fun q o e => ?_⟩
  · obtain ⟨g1, o', g2, g3⟩ := h.own q m e
    have hq : q ≠ p := fun z => by rw [z, n] at g2; cases g2
    exact ⟨g1, o', by rw [upd_ne hq]; exact g2, g3⟩
  · obtain ⟨g1, g2, g3⟩ := h.frm q o e
    have hq : q ≠ p := fun z => by rw [z, n] at g3; cases g3
    exact ⟨g1, g2, by rw [upd_ne hq]; exact g3⟩
theorem under_guards {A : Around} (C : Addr) (us : List Value) (kw : List (Str × Value)) : (A.under (.builtin "type.__call__" ⟨.ref C :: us, kw⟩)).guards = A.guards := by
  unfold Around.under; rfl
theorem make_run {pins : List (Addr × Obj)} {σ : L2.St} {H M F0 : Hp} {s : Shared} {us : List Value} {vs : List V} {x : Str} (Dm : CalK X.prog X.w X.K X.mg X.base k x C cc) (ar : Ar X j) (hk : k + 1 ≤ j) (I : Inv X pins σ H s) (rv : Vals vs us) {xs : List D.A} (rp : RepL X.K F0 xs vs) (rl : Rel X.K μ M F0 H)
    (h : ∀ p dx, μ p = none → cc (.loc p :: xs) (μ.upd p (.ins C dx [])) (fun v μ' => v = .non ∧ Q (.loc p) μ') fun _ _ _ => False) :
    wpAny (model X.prog X.w) X.A (call (.ref C) us) (EP X pins σ (QE X.K M F0 Q)) X.xe s := by
  obtain ⟨fa, fd, ps, Fn, hm, hmg, bi⟩ := Dm.ex
  have ar2 := ar.mono hk
  have I2 := Inv.made (C := C) I
  have n1 : H (s.heap.objs.size + 1) = none := I.hok.fresh (Nat.le_succ _)
  have n0 : H s.heap.objs.size = none := I.hok.fresh (Nat.le_refl _)
  have ne : s.heap.objs.size + 1 ≠ s.heap.objs.size := by omega
  have rl1 : Rel X.K μ M F0 (upd H s.heap.objs.size (.own (s.heap.objs.size + 1))) := rl.grow n0
  obtain ⟨nμ, rl2⟩ := rl1.new (p := s.heap.objs.size + 1) (m := .ins C s.heap.objs.size []) (o := .ins C s.heap.objs.size []) (by rw [upd_ne ne]; exact n1) ⟨[], rfl, rfl⟩
  have all : Vals (V.ref (s.heap.objs.size + 1) :: vs) (Value.ref (s.heap.objs.size + 1) :: us) := .cons rfl rv
  have sp : spOf X.K cc (.ref (s.heap.objs.size + 1) :: vs) _ (fun v H2 => v = .non ∧ QE X.K M F0 Q (.ref (s.heap.objs.size + 1)) H2) (fun _ _ _ => False) :=
    ⟨.loc (s.heap.objs.size + 1) :: xs, F0, M, _, _, _, .cons (rep_loc.mpr rfl) rp, rl2, h _ _ nμ, fun y μ' F' H' v q e1 r1 p1 => by
      obtain ⟨rfl, q⟩ := q
      rw [rep_non] at p1
      exact ⟨p1, _, F', μ', e1, r1, rep_loc.mpr rfl, q⟩, fun _ _ _ _ _ z _ _ => z⟩
  have hl : (Value.ref (s.heap.objs.size + 1) :: us).length = ps.length := by rw [← all.length]; exact spOf.len Fn.len sp
  have hb := bi _ (Value.ref (s.heap.objs.size + 1) :: us) I2.kIn (by rw [List.append_nil]; exact hl)
  rw [List.append_nil] at hb
  refine wpAny_call (make_map (f := fa) I.kIn hm.makes hm.init (beq_iff_eq.mp hm.fn) (codeAny_mono (Fn.run _ X.stack _ _ ⟨Value.ref (s.heap.objs.size + 1) :: us, []⟩ _ _ _ _ (ar2.room.make C us []) ((under_guards C us []).trans ar.show0) (I2.env0.make C us []) hb all sp) fun r s' hq' => ?_))
  match r, hq' with
  | .error e, hq' => exact hq'.elim
  | .ok (.ret u), hq' =>
    obtain ⟨v, H', I3, rv', ev, q3⟩ := I2.after hq'
    subst ev
    exact ⟨rv', ⟨V.ref (s.heap.objs.size + 1), H', I3, rfl, q3⟩⟩
  | .ok .next, hq' => exact hq'.elim
  | .ok .brk, hq' => exact hq'.elim
  | .ok .cont, hq' => exact hq'.elim
/-- C(e, ..) -/
theorem wE_make {x : Str} (Dm : CalK X.prog X.w X.K X.mg X.base k x C cc) (ar : Ar X j) (hk : k + 1 ≤ j) (h : wA B X (e :: es) Γ μ fun xs μ1 => ∀ p dx, μ1 p = none → cc (.loc p :: xs) (μ1.upd p (.ins C dx [])) (fun v μ' => v = .non ∧ Q (.loc p) μ') fun _ _ _ => False) (hg : Gl X x := by rfl) (hdb : (x == ("__debug__" : Str)) = false := by decide)
    (he : starEach (e :: es) X.env = (false, eval e X.env) :: starEach es X.env := by rfl) (hpl : (backTo pos (starEach es X.env)).any (·.1) = false := by rfl) : wE B X (.Call (.Name x p0) (e :: es) [] pos) Γ μ Q := by
  obtain ⟨fa, fd, ps, Fn, hm, hmg, bi⟩ := Dm.ex
  intro σ M F0 H bo rs rl
  refine ⟨fun pins s I => ?_⟩
  refine wpAny_Call_Name_kw (ld_glob I hg hmg ?_ hdb)
  refine PySem.W.callWith_K (h₀ := X.base) I.ok.mod.kin hm.kp (thn ((h σ M F0 H bo rs rl).o pos pins s I) fun us s1 got => ?_) he hpl
  obtain ⟨vs, H1, I1, rv, xs, F1, μ1, ex, rl1, rp, hc⟩ := got
  exact ⟨I1.kIn, thn (make_run Dm ar hk I1 rv rp rl1 hc) fun _ _ ⟨z, H3, I3, r3, q3⟩ => ⟨z, H3, I3, r3, q3.mono ex⟩⟩
/-- C() -/
theorem wE_make0 {x : Str} (Dm : CalK X.prog X.w X.K X.mg X.base k x C cc) (ar : Ar X j) (hk : k + 1 ≤ j) (h : ∀ p dx, μ p = none → cc [.loc p] (μ.upd p (.ins C dx [])) (fun v μ' => v = .non ∧ Q (.loc p) μ') fun _ _ _ => False) (hg : Gl X x := by rfl) (hdb : (x == ("__debug__" : Str)) = false := by decide) : wE B X (.Call (.Name x p0) [] [] pos) Γ μ Q := by
  obtain ⟨fa, fd, ps, Fn, hm, hmg, bi⟩ := Dm.ex
  intro σ M F0 H bo rs rl
  refine ⟨fun pins s I => ?_⟩
  refine wpAny_Call_Name_kw (ld_glob I hg hmg ?_ hdb)
  exact PySem.W.callWith_K0 I.kIn hm.kp (make_run (us := []) (vs := []) Dm ar hk I .nil .nil rl h)
/-- a < b < c, as a value -/
theorem wE_chain2 {op op' : CmpOp} (h : wE B X a Γ μ fun x μ1 => wE B X b Γ μ1 fun y μ2 => wO X (compareOp op) x y μ2 fun z μ3 => ∃ k, z = .bl k ∧ (k = true → wE B X c Γ μ3 fun w μ4 => wO X (compareOp op') y w μ4 Q) ∧ (k = false → Q (.bl false) μ3))
    (hm : lastMarks [op, op'] [b, c] = false := by with_unfolding_all rfl) : wE B X (.Compare a [op, op'] [b, c] pos) Γ μ Q := wE_of (pe_chain opr_rd opr_rd pe_rd pe_rd pe_rd hm) fun σ M F H bo rs r => by
  refine (h σ M F H bo rs r).imp fun v H1 ⟨x, F1, μ1, e1, r1, p1, q1⟩ => ?_
  refine (q1 σ M F1 H1 (bo.mono e1) (rs.mono e1) r1).imp fun w H2 ⟨y, F2, μ2, e2, r2, p2, q2⟩ => ?_
  refine ⟨fun pins s σ' v' u' I hv hw => ?_⟩
  refine thn ((q2 M F2 H2 v w r2 (p1.mono e2) p2).o pins s σ' v' u' I hv hw) fun _ _ ⟨z, H3, I3, r3, x3, F3, μ3, e3, rl3, p3, k, ek, q3, q4⟩ => ?_
  subst ek; rw [rep_bl] at p3
  refine ⟨z, H3, I3, r3, k, p3, ?_⟩
  have e12 := (e1.trans e2).trans e3
  cases k with
  | false => exact iteF ⟨_, F3, μ3, e12, rl3, rep_bl.mpr rfl, q4 rfl⟩
  | true =>
    refine iteT ((q3 rfl σ M F3 H3 (bo.mono e12) (rs.mono e12) rl3).imp fun w' H4 ⟨y', F4, μ4, e4, r4, p4, q5⟩ => ?_)
    refine ⟨fun pins s σ' v' u' I hv hw => ?_⟩
    exact thn ((q5 M F4 H4 w w' r4 (p2.mono (e3.trans e4)) p4).o pins s σ' v' u' I hv hw) fun _ _ ⟨z', H5, I5, r5, q6⟩ => ⟨z', H5, I5, r5, q6.mono (e12.trans e4)⟩
/-- d.get(k, x) -/
theorem wE_dget2 {f : Expr} {cpos : Pos} (ar : Ar X j) (h : wE B X o Γ μ fun x μ1 => ∃ p kvs0, x = .loc p ∧ μ1 p = some (.dic kvs0) ∧ wE B X e Γ μ1 fun y μ2 => wE B X f Γ μ2 fun z μ3 => ∃ kvs k, μ3 p = some (.dic kvs) ∧ y = kA k ∧ Q ((valA kvs k).getD z) μ3)
    (hb : attributeBase o "get" X.env (eval o X.env) = eval o X.env := by rfl)
    (hf : ((backTo cpos (starEach [e, f] X.env)).all (fun x => !x.1) && (backToKw cpos (keywordEach [] X.env)).all (fun x => x.1.isSome) && decide (([e, f] : List Expr).length + ([] : List Keyword).length + (if ([] : List Keyword).isEmpty then 0 else 1) < 30)) = true := by rfl)
    (hl : (apos.endLine == cpos.line) = true := by rfl) (ht : backTo cpos (starEach [e, f] X.env) = [(false, eval e X.env), (false, eval f X.env)] := by rfl) : wE B X (.Call (.Attribute o "get" apos) [e, f] [] cpos) Γ μ Q := wE_of (pe_dget2 ar.u1 pe_rd pe_rd pe_rd ⟨hb, hf, hl, ht⟩) fun σ M F H bo rs r => by
  refine (h σ M F H bo rs r).imp fun v H1 ⟨x, F1, μ1, e1, r1, p1, p, kvs0, ex, hp, q1⟩ => ?_
  subst ex; rw [rep_loc] at p1
  obtain ⟨_, ob, g1, ws0, rfl, g2⟩ := r1.own p _ hp
  refine ⟨p, p1, .inl ⟨_, .inl g1⟩, ?_⟩
  refine (q1 σ M F1 H1 (bo.mono e1) (rs.mono e1) r1).imp fun w H2 ⟨y, F2, μ2, e2, r2, p2, q2⟩ => ?_
  refine (q2 σ M F2 H2 (bo.mono (e1.trans e2)) (rs.mono (e1.trans e2)) r2).imp fun u H3 ⟨z, F3, μ3, e3, r3, p3, kvs, k, hq, ey, q3⟩ => ?_
  subst ey
  have hw := kA_rep p2
  obtain ⟨_, ob, k1, ws, rfl, k2⟩ := r3.own p _ hq
  refine ⟨valV ws k, by rw [hw]; exact DGet.k k1, ?_⟩
  rcases valA_rep k k2 with ⟨h1, h2⟩ | ⟨z', v', h1, h2, h3⟩
  · rw [h1] at q3; rw [h2]
    exact ⟨z, F3, μ3, (e1.trans e2).trans e3, r3, p3, q3⟩
  · rw [h1] at q3; rw [h2]
    exact ⟨z', F3, μ3, (e1.trans e2).trans e3, r3, h3, q3⟩
end
end D

set_option exponentiation.threshold 256
set_option pp.maxSteps 5000
set_option Elab.async false
set_option linter.all false
set_option maxRecDepth 100000
set_option maxHeartbeats 4000000
/-! DL: in of dicts, dict of pairs, a dict of the module. -/
namespace D
open PySem PySem.Spec PyProof.Rows L2
section
variable {B : Bs} {X : Cx} {Γ : G} {μ : Mu} {Q : A → Mu → Prop} {QB : Bool → Mu → Prop} {e o f : Expr} {pos apos cpos : Pos} {j : Nat}
theorem valO_rep {K : PySem.W.Frag} {F : Hp} {kvs : List (Key × A)} {ws : List (Key × V)} (k : Key) (h : RepK K F kvs ws) : (valV ws k).isSome = (valA kvs k).isSome := by
  rcases valA_rep k h with ⟨h1, h2⟩ | ⟨z, v, h1, h2, _⟩
  · rw [h1, h2]; rfl
  · rw [h1, h2]; rfl
/-- k in d -/
theorem wE_inD (ar : Ar X j) (h : wE B X e Γ μ fun y μ1 => wE B X o Γ μ1 fun x μ2 => ∃ p kvs k, x = .loc p ∧ μ2 p = some (.dic kvs) ∧ y = kA k ∧ Q (.bl (valA kvs k).isSome) μ2) (hm : behindInMarks .In o = false := by rfl) : wE B X (.Compare e [.In] [o] pos) Γ μ Q := wE_of (pe_cmp (pc_din ar.u1 pe_rd pe_rd) hm) fun σ M F H bo rs r => by
  refine (h σ M F H bo rs r).imp fun w H2 ⟨y, F2, μ2, e2, r2, p2, q2⟩ => ?_
  refine (q2 σ M F2 H2 (bo.mono e2) (rs.mono e2) r2).imp fun v H1 ⟨x, F1, μ1, e1, r1, p1, p, kvs, k, ex, hp, ey, q1⟩ => ?_
  subst ex; subst ey; rw [rep_loc] at p1
  have hw := kA_rep p2
  obtain ⟨_, ob, g1, ws, rfl, g2⟩ := r1.own p _ hp
  exact ⟨p, _, p1, by rw [hw]; exact DGet.k g1, _, F1, μ1, e2.trans e1, r1, rep_bl.mpr (by rw [valO_rep k g2]), q1⟩
theorem wE_notInD (ar : Ar X j) (h : wE B X e Γ μ fun y μ1 => wE B X o Γ μ1 fun x μ2 => ∃ p kvs k, x = .loc p ∧ μ2 p = some (.dic kvs) ∧ y = kA k ∧ Q (.bl (!(valA kvs k).isSome)) μ2) (hm : behindInMarks .NotIn o = false := by rfl) : wE B X (.Compare e [.NotIn] [o] pos) Γ μ Q := wE_of (pe_cmp (pc_dnotin ar.u1 pe_rd pe_rd) hm) fun σ M F H bo rs r => by
  refine (h σ M F H bo rs r).imp fun w H2 ⟨y, F2, μ2, e2, r2, p2, q2⟩ => ?_
  refine (q2 σ M F2 H2 (bo.mono e2) (rs.mono e2) r2).imp fun v H1 ⟨x, F1, μ1, e1, r1, p1, p, kvs, k, ex, hp, ey, q1⟩ => ?_
  subst ex; subst ey; rw [rep_loc] at p1
  have hw := kA_rep p2
  obtain ⟨_, ob, g1, ws, rfl, g2⟩ := r1.own p _ hp
  exact ⟨p, _, p1, by rw [hw]; exact DGet.k g1, _, F1, μ1, e2.trans e1, r1, rep_bl.mpr (by rw [valO_rep k g2]), q1⟩
theorem wT_inD (ar : Ar X j) (h : wE B X e Γ μ fun y μ1 => wE B X o Γ μ1 fun x μ2 => ∃ p kvs k, x = .loc p ∧ μ2 p = some (.dic kvs) ∧ y = kA k ∧ QB (valA kvs k).isSome μ2) (hm : behindInMarks .In o = false := by rfl) : wT B X (.Compare e [.In] [o] pos) Γ μ QB := wT_of (pt_cmp (pc_din ar.u1 pe_rd pe_rd) hm) fun σ M F H bo rs r => by
  refine (h σ M F H bo rs r).imp fun w H2 ⟨y, F2, μ2, e2, r2, p2, q2⟩ => ?_
  refine (q2 σ M F2 H2 (bo.mono e2) (rs.mono e2) r2).imp fun v H1 ⟨x, F1, μ1, e1, r1, p1, p, kvs, k, ex, hp, ey, q1⟩ => ?_
  subst ex; subst ey; rw [rep_loc] at p1
  have hw := kA_rep p2
  obtain ⟨_, ob, g1, ws, rfl, g2⟩ := r1.own p _ hp
  exact ⟨p, _, p1, by rw [hw]; exact DGet.k g1, _, by rw [valO_rep k g2], F1, μ1, e2.trans e1, r1, q1⟩
theorem wT_notInD (ar : Ar X j) (h : wE B X e Γ μ fun y μ1 => wE B X o Γ μ1 fun x μ2 => ∃ p kvs k, x = .loc p ∧ μ2 p = some (.dic kvs) ∧ y = kA k ∧ QB (!(valA kvs k).isSome) μ2) (hm : behindInMarks .NotIn o = false := by rfl) : wT B X (.Compare e [.NotIn] [o] pos) Γ μ QB := wT_of (pt_cmp (pc_dnotin ar.u1 pe_rd pe_rd) hm) fun σ M F H bo rs r => by
  refine (h σ M F H bo rs r).imp fun w H2 ⟨y, F2, μ2, e2, r2, p2, q2⟩ => ?_
  refine (q2 σ M F2 H2 (bo.mono e2) (rs.mono e2) r2).imp fun v H1 ⟨x, F1, μ1, e1, r1, p1, p, kvs, k, ex, hp, ey, q1⟩ => ?_
  subst ex; subst ey; rw [rep_loc] at p1
  have hw := kA_rep p2
  obtain ⟨_, ob, g1, ws, rfl, g2⟩ := r1.own p _ hp
  exact ⟨p, _, p1, by rw [hw]; exact DGet.k g1, _, by rw [valO_rep k g2], F1, μ1, e2.trans e1, r1, q1⟩
theorem pairs_in {K : PySem.W.Frag} {F : Hp} : ∀ {kvs : List (Key × A)} {vs : List V}, RepL K F (kvs.map fun kv => A.tup [kA kv.1, kv.2]) vs → ∃ (ps : List Addr) (ws : List (Key × V)), vs = ps.map V.ref ∧ Paired (fun p kv => SqT K F p [kV kv.1, kv.2]) ps ws ∧ RepK K F kvs ws
  | [], _, h => by simp only [List.map_nil, RepL] at h; subst h; exact ⟨[], [], rfl, .nil, rfl⟩
  | (k, y) :: r, _, h => by
    simp only [List.map_cons, RepL] at h
    obtain ⟨v, t, rfl, h1, h2⟩ := h
    obtain ⟨ps, ws, rfl, h3, h4⟩ := pairs_in h2
    rw [rep_tup] at h1
    obtain ⟨a, us, rfl, g1, g2⟩ := h1
    obtain ⟨v1, v2, rfl, k1, k2⟩ := g2.two
    rw [kA_rep k1] at g1
    exact ⟨a :: ps, (k, v2) :: ws, rfl, .cons g1 h3, ⟨v2, ws, rfl, k2, h4⟩⟩
theorem paired_imp {α β : Type} {R S : α → β → Prop} (h : ∀ a b, R a b → S a b) : ∀ {l : List α} {m : List β}, Paired R l m → Paired S l m
  | _, _, .nil => .nil
  | _, _, .cons a t => .cons (h _ _ a) (paired_imp h t)
/-- dict(pairs) -/
theorem wC_dictP {x : A} {kvs : List (Key × A)} (hc : X.calm = true) (hx : IsL μ x (kvs.map fun kv => A.tup [kA kv.1, kv.2])) (q : ∀ p, μ p = none → Q (.loc p) (μ.upd p (.dic (mergeA [] kvs)))) : wC X (.type "dict") [x] μ Q := wC_of (call_dictP hc) fun M F H vs rl r => by
  obtain ⟨v, rfl, h⟩ := r.one
  obtain ⟨a, us, e, h1, h2⟩ := hx.rep rl h
  obtain ⟨ps, ws, rfl, h3, h4⟩ := pairs_in h2
  refine ⟨a, ps, ws, by rw [e], .inl (.inl h1), paired_imp (fun p kv => rl.sub.t) h3, fun p np => ?_⟩
  obtain ⟨nμ, rl'⟩ := rl.new (m := .dic (mergeA [] kvs)) np ⟨_, rfl, merge_rep h4 rfl⟩
  exact ⟨_, _, _, .refl _, rl', rep_loc.mpr rfl, q p nμ⟩
/-- what an entry of a written dict says, numbers by texts -/
def entI (d : DictEntry) : Option (Str × Int) := match d.key, d.val with
  | .str x _, .int i _ => some (x, i)
  | _, _ => none
/-- a written dict of numbers by texts -/
structure KDi (K : PySem.W.Frag) (w : World) (p : Addr) (kvs : List (Str × Int)) : Prop where
  ex : ∃ (es : Array DictEntry) (n : Nat), K.lookup p = some ⟨.type "dict", none, .dict es n, #[]⟩ ∧ PySem.W.KeysLit w.params es.toList ∧ (p == sysModules) = false ∧ es.toList.map entI = kvs.map some
def valI (kvs : List (Str × Int)) (z : Str) : Option Int := (kvs.find? fun kv => decide (kv.1 = z)).map (·.2)
theorem ent_is {dh : Int} {dk dv : Value} {x : Str} {i : Int} (h : entI ⟨dh, dk, dv⟩ = some (x, i)) : ∃ tx ti, dk = .str x tx ∧ dv = .int i ti := by
  unfold entI at h
  simp only at h
  split at h
  · cases h; exact ⟨_, _, rfl, rfl⟩
  · cases h
theorem ent_find (z : Str) : ∀ {es : List DictEntry} {kvs : List (Str × Int)}, es.map entI = kvs.map some → (valI kvs z = none ∧ es.find? (fun d => Value.isStrOf z d.key) = none) ∨ ∃ d i t, valI kvs z = some i ∧ es.find? (fun d => Value.isStrOf z d.key) = some d ∧ d.val = .int i t
  | [], [], _ => .inl ⟨rfl, rfl⟩
  | [], _ :: _, e0 => by cases e0
  | _ :: _, [], e0 => by cases e0
  | d :: es, (x, i) :: kvs, e0 => by
    obtain ⟨h1, h2⟩ : entI d = some (x, i) ∧ es.map entI = kvs.map some := by simpa using e0
    have ih := ent_find z h2
    obtain ⟨dh, dk, dv⟩ := d
    obtain ⟨tx, ti, rfl, rfl⟩ := ent_is h1
    by_cases e : x = z
    · subst e
      refine .inr ⟨⟨dh, .str x tx, .int i ti⟩, i, ti, by simp [valI], ?_, rfl⟩
      rw [List.find?_cons]
      simp [Value.isStrOf]
    · have e2 : Value.isStrOf z (.str x tx) = false := by simp [Value.isStrOf]; exact fun h => e h
      simp only [valI, List.find?_cons, e, decide_false, e2] at ih ⊢
      exact ih
/-- D.get(k, x) of a dict of the module -/
theorem wE_kget {p : Addr} {kvs : List (Str × Int)} (Dk : KDi X.K X.w p kvs) (h : wE B X o Γ μ fun x μ1 => x = .loc p ∧ wE B X e Γ μ1 fun y μ2 => wE B X f Γ μ2 fun z μ3 => ∃ (k : Str) (i : Int), y = .str k ∧ z = .int i ∧ Q (.int ((valI kvs k).getD i)) μ3)
    (hb : attributeBase o "get" X.env (eval o X.env) = eval o X.env := by rfl)
    (hf : ((backTo cpos (starEach [e, f] X.env)).all (fun x => !x.1) && (backToKw cpos (keywordEach [] X.env)).all (fun x => x.1.isSome) && decide (([e, f] : List Expr).length + ([] : List Keyword).length + (if ([] : List Keyword).isEmpty then 0 else 1) < 30)) = true := by rfl)
    (hl : (apos.endLine == cpos.line) = true := by rfl) (ht : backTo cpos (starEach [e, f] X.env) = [(false, eval e X.env), (false, eval f X.env)] := by rfl) : wE B X (.Call (.Attribute o "get" apos) [e, f] [] cpos) Γ μ Q := by
  obtain ⟨es, n, k1, k2, k3, k4⟩ := Dk.ex
  intro σ M F H bo rs rl
  refine ⟨fun pins s I => ?_⟩
  refine wpAny_Call_method hb hf hl PySem.F.plainAttrs_dict PySem.F.slot_dict_get PySem.F.type_dict_get (thn ((h σ M F H bo rs rl).o pins s I) fun u s1 got => ?_)
  obtain ⟨v, H1, I1, rv, x, F1, μ1, ex1, r1, p1, rfl, q1⟩ := got
  rw [rep_loc] at p1; subst p1
  obtain rfl : u = Value.ref p := rv
  have mo := fun {s : Shared} {pins : List (Addr × Obj)} {σ : L2.St} {H : Hp} (I : Inv X pins σ H s) => PySem.W.mapOf_K (prog := X.prog) (w := X.w) I.kIn k1 k2
  refine ⟨(mo I1).typeIs, fun b q => ?_, ?_⟩
  · cases q; exact ⟨_, I1.kIn _ _ k1, rfl⟩
  rw [ht]
  refine Calls.callWith_builtin rfl (Calls.evalArgs_plain (Calls.spliced_cons (thn ((q1 σ M F1 H1 (bo.mono ex1) (rs.mono ex1) r1).o pins s1 I1) fun iv s2 got2 => Calls.spliced_cons ?_)))
  obtain ⟨v2, H2, I2, rv2, y, F2, μ2, ex2, r2, p2, q2⟩ := got2
  refine thn ((q2 σ M F2 H2 (bo.mono (ex1.trans ex2)) (rs.mono (ex1.trans ex2)) r2).o pins s2 I2) fun fv s3 got3 => Calls.spliced_nil ?_
  obtain ⟨v3, H3, I3, rv3, z, F3, μ3, ex3, r3, p3, k, i, rfl, rfl, q3⟩ := got3
  rw [rep_str] at p2; subst p2
  rw [rep_int] at p3; subst p3
  obtain ⟨t2, rfl⟩ := rv2
  obtain ⟨t3, rfl⟩ := rv3
  refine call_meetsIn PySem.F.slot_dict_get (mo I3).typeIs PySem.F.entry_dict_get (PySem.F.args_dict_get_3 _ _ _) (meets_dict_get_default (strKind X.prog X.w) p (strKind_is X.prog X.w k t2) k3 (.int i t3)) ⟨_, mo I3, ?_⟩
  have fin : ∀ (m : Int) (tm : Tok) (tk : Nat), m = (valI kvs k).getD i → EP X pins σ (QE X.K M F Q) (.int m tm) { s3 with toks := tk } := fun m tm tk e => ⟨.int m, H3, I3.tok _, ⟨_, rfl⟩, .int m, F3, μ3, (ex1.trans ex2).trans ex3, r3, rep_int.mpr rfl, by rw [e]; exact q3⟩
  rcases ent_find k k4 with ⟨h1, h2⟩ | ⟨d, m, t, h1, h2, h3⟩
  · have e0 : findBy Value.isStrOf es k = none := by unfold findBy; rw [← Array.find?_toList, h2]; rfl
    simp only [e0, Option.getD_none]
    exact fin i t3 _ (by rw [h1]; rfl)
  · have e0 : findBy Value.isStrOf es k = some (.int m t) := by unfold findBy; rw [← Array.find?_toList, h2, ← h3]; rfl
    simp only [e0, Option.getD_some]
    exact fin m t _ (by rw [h1]; rfl)
end
end D

set_option exponentiation.threshold 256
set_option pp.maxSteps 5000
set_option Elab.async false
set_option linter.all false
set_option maxRecDepth 100000
set_option maxHeartbeats 4000000
/-! DM: how many unlike texts a tuple holds. -/
namespace D
open PySem PySem.Spec PyProof.Rows L2
/-- the unlike ones, in the order in which they are met -/
def unl (l : List Str) : List Str := l.foldl (fun a x => if x ∈ a then a else a ++ [x]) []
theorem unl_snoc (l : List Str) (x : Str) : unl (l ++ [x]) = if x ∈ unl l then unl l else unl l ++ [x] := by unfold unl; rw [List.foldl_append]; rfl
theorem mem_unl : ∀ (n : Nat) (l : List Str) (y : Str), l.length = n → (y ∈ unl l ↔ y ∈ l)
  | 0, l, y, h => by rw [List.length_eq_zero_iff.mp h]; simp [unl]
  | n + 1, l, y, h => by
    obtain ⟨m, x, rfl⟩ : ∃ m x, l = m ++ [x] := ⟨l.dropLast, l.getLast (fun z => by rw [z] at h; simp at h), (List.dropLast_concat_getLast _).symm⟩
    have ih := fun y => mem_unl n m y (by simpa using h)
    rw [unl_snoc]
    split
    · rename_i hx
      rw [ih]
      simp only [List.mem_append, List.mem_singleton]
      exact ⟨.inl, fun z => z.elim id fun e => by rw [e]; exact (ih x).mp hx⟩
    · simp only [List.mem_append, List.mem_singleton, ih]
theorem mem_un {l : List Str} {y : Str} : y ∈ unl l ↔ y ∈ l := mem_unl _ l y rfl
theorem unl_le : ∀ (n : Nat) (l : List Str), l.length = n → (unl l).length ≤ l.length
  | 0, l, h => by rw [List.length_eq_zero_iff.mp h]; simp [unl]
  | n + 1, l, h => by
    obtain ⟨m, x, rfl⟩ : ∃ m x, l = m ++ [x] := ⟨l.dropLast, l.getLast (fun z => by rw [z] at h; simp at h), (List.dropLast_concat_getLast _).symm⟩
    have ih := unl_le n m (by simpa using h)
    rw [unl_snoc]
    split
    · simp; omega
    · simp; omega
theorem unl_nodup : ∀ (n : Nat) (l : List Str), l.length = n → l.Nodup → unl l = l
  | 0, l, h, _ => by rw [List.length_eq_zero_iff.mp h]; rfl
  | n + 1, l, h, hd => by
    obtain ⟨m, x, rfl⟩ : ∃ m x, l = m ++ [x] := ⟨l.dropLast, l.getLast (fun z => by rw [z] at h; simp at h), (List.dropLast_concat_getLast _).symm⟩
    rw [List.nodup_append] at hd
    rw [unl_snoc, unl_nodup n m (by simpa using h) hd.1, if_neg fun hx => hd.2.2 x hx x (by simp) rfl]
section
variable {P : Program} {w : World} {B : Around} {T : Result → Shared → Prop} {it : Addr} {fp wr : List Addr} {G0 : Array GenState → Array GenState → Prop} {n : Nat} {Pv : Nat → Value → Prop} {St0 : Nat → Shared → Prop}
/-- what the set holds behind i turns -/
abbrev HasT (P : Program) (w : World) (h : Heap) (a : Addr) (l : List Str) : Prop := h.SetOf (PySem.strKind P w) a (fun z => decide (z ∈ l)) (unl l).length
theorem set_turns (W : WalksS P w B.in1 it fp wr G0 n Pv St0) (a : Addr) (ha : a ∉ fp) (xs : List Str) (hn : xs.length = n) (hb : n + 1 < scanBound) (hv : ∀ i u, Pv i u → ∃ t, u = .str (xs.getD i Str.empty) t) :
    ∀ (m i : Nat) (s : Shared), i + m = n → St0 i s → HasT P w s.heap a (xs.take i) → (∀ s', Moved (a :: wr) G0 s s' → HasT P w s'.heap a xs → T (.ok (.ret .none)) s') →
      codeAny (model P w) B (.builtin "set.update.loop" ⟨[.ref a, .ref it], []⟩) T s
  | 0, i, s, hi, st, hS, hT => by
    refine codeAny_builtin PyProof.Rows.F.entry_set_update_loop ?_; rw [Around.under_plainId PyProof.Rows.F.plain_set_update_loop _]
    have e : i = n := by omega
    subst e; rw [← hn, List.take_length] at hS
    refine (show wpAny _ B.in1 (pyNext (.ref it) >>= _) _ _ s from wpAny_bind (W.done s _ _ st fun s1 mv => ?_))
    refine (show wpAny _ B.in1 (ret Value.none) _ _ s1 from wpAny_pure (hT s1 (mv.mono fun b hb => List.mem_cons_of_mem _ hb) ?_))
    obtain ⟨ob, es, ep, tb, h0, more⟩ := hS; exact ⟨ob, es, ep, tb, mv.heap a _ (fun z => ha (W.sub _ z)) h0, more⟩
  | m + 1, i, s, hi, st, hS, hT => by
    refine codeAny_builtin PyProof.Rows.F.entry_set_update_loop ?_; rw [Around.under_plainId PyProof.Rows.F.plain_set_update_loop _]
    refine (show wpAny _ B.in1 (pyNext (.ref it) >>= _) _ _ s from wpAny_bind (W.item i s _ _ (by omega) st fun v s1 hp st1 mv => ?_))
    obtain ⟨t, rfl⟩ := hv i v hp
    have hS1 : HasT P w s1.heap a (xs.take i) := by obtain ⟨ob, es, ep, tb, h0, more⟩ := hS; exact ⟨ob, es, ep, tb, mv.heap a _ (fun z => ha (W.sub _ z)) h0, more⟩
    have hx : xs.take (i + 1) = xs.take i ++ [xs.getD i Str.empty] := by
      rw [List.take_add_one, List.getD_eq_getElem?_getD, List.getElem?_eq_getElem (by omega)]; rfl
    have hl := unl_le _ (xs.take i) rfl
    rw [List.length_take] at hl
    refine (show wpAny _ B.in1 (holding [Value.str (xs.getD i Str.empty) t] (setAdd a (.str (xs.getD i Str.empty) t)) >>= _) _ _ s1 from wpAny_bind (wpAny_holding ?_))
    unfold setAdd; refine wpAny_holding (wpAny_bind ((PySem.strKind P w).pyHash (k := xs.getD i Str.empty) (strKind_is _ _ _ _) ?_))
    refine wpAny_setAddHashed_of (knd := PySem.strKind P w) (s := { s1 with toks := s1.toks + 1 }) (strKind_is _ _ _ _) rfl hS1 (by omega) fun h2 sb hS2 => ?_
    have hS3 : HasT P w h2 a (xs.take (i + 1)) := by
      refine PyProof.Rows.SetOf_congr hS2 (fun z => ?_) ?_
      · rw [hx]; simp only [List.mem_append, List.mem_singleton, Bool.decide_or]
      · rw [hx, unl_snoc]
        by_cases hm : xs.getD i Str.empty ∈ xs.take i
        · rw [if_pos (mem_un.mpr hm), decide_eq_true hm]; rfl
        · rw [if_neg fun z => hm (mem_un.mp z), decide_eq_false hm, List.length_append]; rfl
    have mono : ∀ b ∈ wr, b ∈ a :: wr := fun b hb => List.mem_cons_of_mem _ hb
    refine wpAny_pure ⟨plainId_quiet PyProof.Rows.F.plain_set_update_loop _, set_turns W a ha xs hn hb hv m (i + 1) _ (by omega) (W.frame _ s1 _ _ st1 (Nat.le_succ _) fun b hb o e => by rw [sb.2 b (fun z : b = a => ha (z ▸ hb))]; exact e) hS3 fun s3 mv3 hS4 => ?_⟩
    exact hT s3 (Moved.trans W.gtrans ((mv.mono mono).then_heap (Nat.le_succ _) fun b o hb e => by rw [sb.2 b (fun z : b = a => hb (z ▸ List.mem_cons_self))]; exact e) mv3) hS4
end
section
variable {P : Program} {w : World} {B : Around} {E : Value → Shared → Prop} {s : Shared}
/-- an empty set -/
abbrev fresh0 (led : Bool) : Obj := { cls := .type "set", dict := none, data := .set #[] 0 (.fresh 0 0 led) }
set_option maxHeartbeats 8000000 in
theorem set_of_tuple {l : Addr} {its : Array Value} {xs : List Str} {Q : Value → Shared → Prop} (hh : B.handled = none) (hl : s.heap.IsTuple l its) (hx : PyProof.Rows.StrsAre its.toList xs) (hb : xs.length + 1 < scanBound)
    (q : ∀ (h' : Heap) (tk : Nat), HasT P w h' s.heap.objs.size xs → (∀ b o, b < s.heap.objs.size → s.heap.get? b = some o → h'.get? b = some o) → Q (.ref s.heap.objs.size) { s with heap := h', toks := tk }) : wpAny (model P w) B (call (.type "set") [.ref l]) Q E s := by
  obtain ⟨mc, mt, hmro⟩ := PySem.F.called_set.mro
  have g1 := PySem.F.called_set.made; have g2 := PySem.F.called_set.sub; have g3 := PySem.F.called_set.notType; have g4 := PySem.F.called_set.canCreate; have g5 := PySem.F.typeCall_set_1 (.ref l)
  refine (wpAny_call (codeAny_of_tree (show wpAny _ _ (callAny (.type "set") _) _ _ _ from wpAny_pure ⟨Code.quiet_builtin _ (by decide +kernel), codeAny_builtin PySem.F.entry_type_call ?_⟩)))
  rw [Around.under_plain (weight_type_call_type "set" [.ref l] []) rfl]
  repeat (any_goals (first | wp_step | assumption))
  refine codeAny_mono (code_set_new_1 (.ref l) (E := E) (Q₁ := fun ob s1 => ∃ led : Bool, ob = .ref s.heap.objs.size ∧ s1 = { s with heap := s.heap.push (fresh0 led) }) fun led => ⟨led, rfl, rfl⟩) fun r s1 hr => ?_
  match r, hr with
  | .error e, hr => exact hr
  | .ok .next, hr => exact hr.elim
  | .ok .brk, hr => exact hr.elim
  | .ok .cont, hr => exact hr.elim
  | .ok (.ret ob), hr =>
    obtain ⟨led, rfl, rfl⟩ := hr
    have hS : (s.heap.push (fresh0 led)).get? s.heap.objs.size = some (fresh0 led) := Heap.get?_push_size _ rfl
    have hT : Shared.TypeIs { s with heap := s.heap.push (fresh0 led) } (.ref s.heap.objs.size) "set" := ⟨_, hS, rfl⟩
    have k1 := PySem.F.called_set.init.lookup; have k2 := PySem.F.called_set.init.bind (.ref s.heap.objs.size)
    repeat (any_goals (first | wp_step | assumption))
    refine codeAny_mono (codeAny_call_builtin (R := wants (fun r s2 => r = .none ∧ ∃ h' tk, s2 = { s with heap := h', toks := tk } ∧ HasT P w h' s.heap.objs.size xs ∧ (∀ b o, b < s.heap.objs.size → s.heap.get? b = some o → h'.get? b = some o)) E) PySem.F.called_set.init.plain PySem.F.entry_set_init (check_set_init_1 hT ?_)) fun r2 s2 hr2 => ?_
    · obtain ⟨⟨_, od, _, osl⟩, hol, rfl, nl, rfl⟩ := hl
      have hol2 : (s.heap.push (fresh0 led)).get? l = some { cls := .type "tuple", dict := od, data := .seq its nl, slots := osl } := Heap.get?_push_of_some _ hol
      have n1 := PySem.F.sub_tuple_set; have n2 := PySem.F.sub_tuple_frozenset; have n3 : (Value.type "tuple" == Value.type "dict") = false := by decide
      have isT : (s.heap.push (fresh0 led)).IsTuple l its := ⟨_, hol2, rfl, nl, rfl⟩
      unfold Builtin.«set.__init__» noKeywords Builtin.Frozenset.updateFrom
      generalize hpi : pyIter = PI
      wp_walk
      subst hpi
      refine wpAny_pyIter_tuple isT (wpAny_bind (wpAny_runValue ?_))
      have lS : l < s.heap.objs.size := Heap.lt_size hol
      have hsz : its.size = xs.length := by rw [← StrsAre.len_eq hx, Array.length_toList]
      have neI : l ≠ (s.heap.push (fresh0 led)).objs.size := by rw [Heap.size_push]; exact Nat.ne_of_lt (Nat.lt_succ_of_lt lS)
      have off : s.heap.objs.size ∉ [(s.heap.push (fresh0 led)).objs.size, l] := by rw [Heap.size_push]; simp only [List.mem_cons, List.not_mem_nil, or_false, not_or]; exact ⟨Nat.ne_of_lt (Nat.lt_succ_self _), Nat.ne_of_gt lS⟩
      refine set_turns ((Walks.tuple (by simp [hh]) _ l neI its).toS) s.heap.objs.size off xs hsz.symm (by omega) (fun i v hv => SS.strs_at hx i v (by rw [Array.getElem?_toList]; exact hv)) its.size 0 _ (by omega) ⟨⟨_, Heap.get?_push_size _ rfl, rfl, rfl⟩, isT.push _⟩ ?_ fun s3 mv hS3 => ?_
      · have hg : ((s.heap.push (fresh0 led)).push { cls := .type "tuple_iterator", data := .fields #[.ref l, .int 0 0] }).get? s.heap.objs.size = some (fresh0 led) := Heap.get?_push_of_some _ hS
        exact PyProof.Rows.SetOf_congr ((PyProof.Rows.setObjOf_fresh (knd := PySem.strKind P w) led).setOf hg (by unfold scanBound; omega)) (fun _ => by simp) rfl
      · obtain ⟨h3, gn3, dr3, tk3, os3⟩ := s3
        obtain rfl : gn3 = s.gens := mv.gens
        obtain rfl : dr3 = s.drawn := mv.drawn
        obtain rfl : os3 = s.os := mv.os
        refine (show wpAny _ _ _ _ _ _ from wpAny_pure (show wpAny _ _ (ret Value.none) _ _ _ from wpAny_pure ⟨rfl, h3, tk3, rfl, hS3, fun b o lb e => ?_⟩))
        refine mv.heap b o ?_ (Heap.get?_push_of_some _ (Heap.get?_push_of_some _ e))
        rw [Heap.size_push]; simp only [List.mem_cons, List.not_mem_nil, or_false, not_or]; exact ⟨Nat.ne_of_lt lb, Nat.ne_of_lt (Nat.lt_succ_of_lt lb)⟩
    · match r2, hr2 with
      | .error e, hr2 => exact hr2
      | .ok .next, hr2 => exact hr2.elim
      | .ok .brk, hr2 => exact hr2.elim
      | .ok .cont, hr2 => exact hr2.elim
      | .ok (.ret _), hr2 =>
        obtain ⟨rfl, h', tk, rfl, hS', hk⟩ := hr2
        repeat (any_goals (first | wp_step | assumption))
        exact q _ _ hS' hk
end
section
variable {B : Bs} {X : Cx} {Γ : G} {μ : Mu} {Q : A → Mu → Prop} {e : Expr} {p p2 q0 pos : Pos}
/-- len(set(names)), a tuple of texts -/
theorem wE_lenSet (hm : X.mg "len" = none) (hm2 : X.mg "set" = none) (h : wE B X e Γ μ fun x μ1 => ∃ xs : List Str, x = .tup (xs.map A.str) ∧ xs.length ≤ 1000 ∧ Q (.int (unl xs).length) μ1) (hg : Gl X "len" := by rfl) (hg2 : Gl X "set" := by rfl) (hc : X.calm = true := by rfl)
    (na : starEach [e] X.env = (false, eval e X.env) :: starEach [] X.env := by rfl) : wE B X (.Call (.Name "len" p) [.Call (.Name "set" p2) [e] [] q0] [] pos) Γ μ Q := by
  intro σ M F H bo rs rl
  refine ⟨fun pins s I => ?_⟩
  refine Call_ (ld_blt I hg hm boot_len (PyProof.Rows.callWith_builtin1 (PyProof.Rows.args_cons ?_ rfl) rfl rfl))
  refine Call_ (ld_blt I hg2 hm2 boot_set (PyProof.Rows.callWith_type1 (PyProof.Rows.args_cons (thn ((h σ M F H bo rs rl).o pins s I) fun v s1 got => PyProof.Rows.args_nil ?_) na) na rfl))
  obtain ⟨u, H1, I1, ru, x, F1, μ1, ex, r1, p1, xs, rfl, hx, q1⟩ := got
  rw [rep_tup] at p1
  obtain ⟨a, vs, rfl, h1, h2⟩ := p1
  rw [repL_strs h2] at h1
  cases ru
  obtain ⟨its, rv, pl, hz⟩ := I1.tuple (r1.sub.t h1)
  refine set_of_tuple (I1.ok.hd hc) pl (by simpa using L2.strsAre_of rv) (by unfold scanBound; omega) fun h' tk hS hk => PyProof.Rows.args_nil ?_
  obtain ⟨o, es, ep, t, ho, hex, hd, _, _, _, hf, hn⟩ := hS
  have I2 : Inv X pins σ H1 { s1 with heap := h', toks := tk } := I1.kept fun b o e => hk b o (Heap.lt_size e) e
  have hu := unl_le _ xs rfl
  exact call_len_set ho hex hd hf (by rw [hn]; omega) ⟨.int (unl xs).length, H1, I2.tok _, ⟨_, by rw [hn]⟩, _, F1, μ1, ex, r1, rep_int.mpr rfl, q1⟩
end
end D

set_option exponentiation.threshold 256
set_option pp.maxSteps 5000
set_option Elab.async false
set_option linter.all false
set_option maxRecDepth 100000
set_option maxHeartbeats 4000000
/-! DN: None in a list of data. -/
namespace D
open PySem PySem.Spec PyProof.Rows L2
def isNoneV : Value → Bool
  | .none => true
  | _ => false
/-- None, a number, a text, a truth or a tuple -/
def okN (K : PySem.W.Frag) (H : Hp) : V → Prop
  | .non => True
  | .int _ => True
  | .str _ => True
  | .bl _ => True
  | .ref a => ∃ items, SqT K H a items
  | _ => False
def isNonV : V → Bool
  | .non => true
  | _ => false
theorem any_none : ∀ {xs : List V} {us : List Value} {K : PySem.W.Frag} {H : Hp}, Vals xs us → (∀ v ∈ xs, okN K H v) → us.any isNoneV = xs.any isNonV
  | _, _, _, _, .nil, _ => rfl
  | x :: xs, u :: us, K, H, .cons r t, h => by
    rw [List.any_cons, List.any_cons, any_none t fun v hv => h v (List.mem_cons_of_mem _ hv)]
    have h0 := h x (List.mem_cons_self ..)
    congr 1
    cases x with
    | non => cases r; rfl
    | int i => obtain ⟨t, rfl⟩ := r; rfl
    | str i => obtain ⟨t, rfl⟩ := r; rfl
    | bl b => cases r; rfl
    | ref a => cases r; rfl
    | _ => exact h0.elim
theorem mem_none {X : Cx} {pins : List (Addr × Obj)} {σ : L2.St} {H : Hp} {s : Shared} (I : Inv X pins σ H s) {A : Around} (hu : A.units < cLine) : ∀ {xs : List V} {us : List Value}, Vals xs us → (∀ v ∈ xs, okN X.K H v) → ∀ u ∈ us, SeqAt.EqAt A s u .none (isNoneV u)
  | _, _, .nil, _ => fun u hu => by cases hu
  | x :: xs, u :: us, .cons r t, h => fun u' hu' => by
    rcases List.mem_cons.mp hu' with rfl | hu'
    · have h0 := h x (List.mem_cons_self ..)
      cases x with
      | non => cases r; exact SeqAt.EqAt.same _
      | int i => obtain ⟨t, rfl⟩ := r; exact SeqAt.EqAt.int_none _ _
      | str i => obtain ⟨t, rfl⟩ := r; exact SeqAt.EqAt.str_none _ _
      | bl b => cases r; exact SeqAt.EqAt.bool_none _
      | ref a =>
        cases r
        obtain ⟨items, hq⟩ := h0
        obtain ⟨its, _, pl, _⟩ := I.tuple hq
        exact SeqAt.EqAt.tuple_none pl hu
      | _ => exact h0.elim
    · exact mem_none I hu t (fun v hv => h v (List.mem_cons_of_mem _ hv)) u' hu'
theorem op_noneIn {X : Cx} (hu : X.A.in1.units < cLine) : OpR X (compareOp .In) (fun x y H Q => ∃ p xs, x = .non ∧ y = .ref p ∧ SqL X.K H p xs ∧ (∀ v ∈ xs, okN X.K H v) ∧ Q (.bl (xs.any isNonV)) H) := by
  intro pins s σ H x y v u Q I rx ry h
  obtain ⟨p, xs, rfl, rfl, hq, fs, q⟩ := h
  cases rx
  cases ry
  obtain ⟨its, r, pl, hz⟩ := I.list hq
  refine SeqAt.in_listAt isNoneV pl.isList (fun w hw => mem_none I hu r fs w (by simpa using hw)) ⟨.bl _, H, I, rfl, ?_⟩
  rw [show its.toArray.any isNoneV = its.any isNoneV by simp, any_none r fs]
  exact q
/-- plain data that a reader gives: None, a number, a text, a tuple -/
def okA : A → Bool
  | .non => true
  | .int _ => true
  | .str _ => true
  | .bl _ => true
  | .tup _ => true
  | _ => false
theorem okA_rep {K : PySem.W.Frag} {M F H : Hp} {μ : Mu} (rl : Rel K μ M F H) : ∀ {xs : List A} {vs : List V}, RepL K F xs vs → xs.all okA = true → (∀ v ∈ vs, okN K H v) ∧ vs.any isNonV = xs.any isNon
  | [], _, h, _ => by simp only [RepL] at h; subst h; exact ⟨(fun _ z => nomatch z), rfl⟩
  | x :: xs, _, h, f => by
    simp only [RepL] at h
    obtain ⟨v, r, rfl, h1, h2⟩ := h
    rw [List.all_cons, Bool.and_eq_true] at f
    obtain ⟨g1, g2⟩ := okA_rep rl h2 f.2
    have key : okN K H v ∧ isNonV v = isNon x := by
      cases x with
      | non => rw [rep_non] at h1; subst h1; exact ⟨trivial, rfl⟩
      | int i => rw [rep_int] at h1; subst h1; exact ⟨trivial, rfl⟩
      | str i => rw [rep_str] at h1; subst h1; exact ⟨trivial, rfl⟩
      | bl i => rw [rep_bl] at h1; subst h1; exact ⟨trivial, rfl⟩
      | tup ys => rw [rep_tup] at h1; obtain ⟨a, ws, rfl, k1, k2⟩ := h1; exact ⟨⟨ws, rl.sub.t k1⟩, rfl⟩
      | ty _ => simp [okA] at f
      | loc _ => simp [okA] at f
      | lst _ => simp [okA] at f
      | fls _ => simp [okA] at f
    refine ⟨fun w hw => ?_, by rw [List.any_cons, List.any_cons, key.2, g2]⟩
    rcases List.mem_cons.mp hw with rfl | hw
    · exact key.1
    · exact g1 w hw
theorem wO_noneIn {X : Cx} {μ : Mu} {Q : A → Mu → Prop} {y : A} {xs : List A} (hu : X.A.in1.units < cLine) (hy : IsL μ y xs) (hs : xs.all okA = true) (q : Q (.bl (xs.any isNon)) μ) : wO X (compareOp .In) .non y μ Q :=
  wO_of (op_noneIn hu) fun M F H v w rl r1 r2 => by
    obtain ⟨p, vs, e, h1, h2⟩ := hy.rep rl r2
    obtain ⟨g1, g2⟩ := okA_rep rl h2 hs
    exact ⟨p, vs, rep_non.mp r1, e, .inl (.inl h1), g1, .pure rl (rep_bl.mpr (by rw [g2])) q⟩
theorem in1_lt {X : Cx} {k : Nat} (ar : Ar X k) : X.A.in1.units < cLine := by
  have h := ar.u64
  have e : X.A.in1.units = X.A.units + 1 := rfl
  omega
/-- D[k] of a dict of the module -/
theorem wI_kd {X : Cx} {μ : Mu} {Q : A → Mu → Prop} {p : Addr} {kvs : List (Str × Int)} {z : Str} {i : Int} (Dk : KDi X.K X.w p kvs) (h : valI kvs z = some i) (q : Q (.int i) μ) : wI X (.loc p) (.str z) μ Q := fun M F H v w rl r1 r2 => rd_ixr ix_kdict (by
  rw [rep_loc] at r1; rw [rep_str] at r2
  subst r1 r2
  obtain ⟨es, n, k1, k2, k3, k4⟩ := Dk.ex
  rcases ent_find z k4 with ⟨h1, h2⟩ | ⟨d, j, t, h1, h2, h3⟩
  · rw [h1] at h; cases h
  · rw [h1] at h; cases h
    refine ⟨p, z, .int i, rfl, rfl, ⟨es, n, d.val, k1, k2, ?_, ?_⟩, .pure rl (rep_int.mpr rfl) q⟩
    · unfold PySem.W.nsIn
      rw [k1]
      simp only [PySem.W.isStr_of]
      rw [h2]
    · rw [h3]; exact ⟨_, rfl⟩)
end D

set_option exponentiation.threshold 256
set_option pp.maxSteps 5000
set_option Elab.async false
set_option linter.all false
set_option maxRecDepth 100000
set_option maxHeartbeats 4000000
/-! DW: repr of data with ints of up to 4300 figures, of lists of our own lists too. -/
namespace D
open PySem PySem.Spec PyProof.Rows L2
mutual
/-- what `repr` writes here: no dict anywhere, and every number has at most 4300 figures -/
def wsh : PyData → Bool
  | .dict _ => false
  | .tuple xs => wshs xs
  | .list xs => wshs xs
  | .int i => fig i
  | .str _ => true
  | .bool _ => true
  | .none => true
def wshs : List PyData → Bool
  | [] => true
  | x :: xs => wsh x && wshs xs
/-- few figures -/
def fig (i : Int) : Bool := decide (Int.natAbs i < 10 ^ 4300)
end
section
variable {prog : Program} {w : World} {g0 : Heap}
theorem int_out {A : Around} {E : Value → Shared → Prop} {s : Shared} {i : Int} {u : Tok} {Q : Value → Shared → Prop} (nd : s.heap.NoDigits) (few : fig i = true)
    (q : Q (.str (toString i) s.toks) { s with toks := s.toks + 1 }) : wpAny (model prog w) A (call (.builtin "int.__repr__") [.int i u]) Q E s := by
  have few : i.natAbs < 10 ^ 4300 := of_decide_eq_true few
  refine wpAny_call_entry PySem.F.slot_int_repr (typeIs_int s i u) PySem.F.entry_int_repr ?_ (PySem.F.args_int_repr_1 _)
  exact wpAny_bind (m := Builtin.overDigitLimit? i) (overDigitLimit_any nd (fun _ => wpAny_bind (wpAny_mkStr (wpAny_pure ⟨_, rfl, q⟩) (int_text_fits10 few))) fun many => (Nat.not_lt.mpr many few).elim)
/-- one value of data: it is written out as its text -/
def OneW (prog : Program) (w : World) (g0 : Heap) (v : Value) (d : PyData) : Prop := ∃ bs, ReadAtMost g0 d.depth bs ∧ ReprK prog w bs g0 d.depth v d.shown
/-- all of them -/
def AllW (prog : Program) (w : World) (g0 : Heap) (vs : List Value) (ds : List PyData) : Prop := ∃ bs, ReadAtMost g0 (PyData.depthAll ds) bs ∧ ReprAllK prog w bs g0 (PyData.depthAll ds) vs (PyData.shownAll ds)
theorem OneW.leaf {v : Value} {d : PyData} {as : List Addr} (r : Reads g0 v d as) (s : d.showable = true) (n : d.hasDict = false) (z : d.shown.length ≤ sizeLine) : OneW prog w g0 v d :=
  ReprK.of_reads r s (fun y => absurd (n.symm.trans y) (by decide)) z
theorem OneW.num {i : Int} {u : Tok} (nd : g0.NoDigits) (few : fig i = true) : OneW prog w g0 (.int i u) (.int i) := by
  refine ⟨[], fun _ z => (by cases z), fun at0 room A gs E s Q _ _ deep kept q => ?_⟩
  rw [pyReprUnder_leaf (Nat.le_trans (Nat.le_add_right _ _) room) (fun _ => by simp)]
  refine wpAny_bind (m := pyReprObj _) (wpAny_pyReprObj_slot (Nat.lt_of_le_of_lt (Nat.le_add_right _ _) deep) (typeIs_int s i u) PySem.F.slot_int_repr.toG ?_)
  exact int_out (nd.keeps kept) few ⟨_, _, rfl, wpAny_pure (q _ _ fun _ _ z => z)⟩
theorem AllW.nil : AllW prog w g0 [] [] := ⟨[], fun _ z => (by cases z), .nil⟩
theorem AllW.cons {v : Value} {d : PyData} {vs : List Value} {ds : List PyData} (o : OneW prog w g0 v d) (m : AllW prog w g0 vs ds) : AllW prog w g0 (v :: vs) (d :: ds) := by
  obtain ⟨as, low, one⟩ := o
  obtain ⟨bs, lows, many⟩ := m
  have l1 : d.depth ≤ PyData.depthAll (d :: ds) := by simp [PyData.depthAll, Nat.le_max_left]
  have l2 : PyData.depthAll ds ≤ PyData.depthAll (d :: ds) := by simp [PyData.depthAll, Nat.le_max_right]
  have one' : ReprK prog w (as ++ bs) g0 _ v d.shown := (one.more fun _ z => List.mem_append.mpr (.inl z)).level_le l1
  have many' : ReprAllK prog w (as ++ bs) g0 _ vs (PyData.shownAll ds) := many.more_le (fun _ z => List.mem_append.mpr (.inr z)) l2
  exact ⟨as ++ bs, (low.mono l1).append (lows.mono l2), by rw [PyData.shownAll]; exact .cons one' many'⟩
/-- a thing with items: its own place is none of its items' -/
theorem AllW.over {a : Addr} {d : PyData} {as : List Addr} {vs : List Value} {ds : List PyData} (m : AllW prog w g0 vs ds) (r : Reads g0 (.ref a) d as) (hd : d.depth = PyData.depthAll ds + 1)
    (up : ∀ bs, a ∉ bs → ReprAllK prog w bs g0 (PyData.depthAll ds) vs (PyData.shownAll ds) → ReprK prog w (a :: bs) g0 (PyData.depthAll ds + 1) (.ref a) d.shown) : OneW prog w g0 (.ref a) d := by
  obtain ⟨bs, low, many⟩ := m
  have lt : PyData.depthAll ds < d.depth := by omega
  exact ⟨a :: bs, low.cons r (Nat.le_of_lt lt), by rw [hd]; exact up bs (not_mem_of_deeper r lt low) many⟩
theorem AllW.list {a : Addr} {o : Obj} {vs : Array Value} {n : Nat} {ds : List PyData} {as : List Addr} (h1 : g0.get? a = some o) (h2 : o.cls = .type "list") (h3 : o.data = .seq vs n) (h4 : ReadsAll g0 vs.toList ds as) (m : AllW prog w g0 vs.toList ds) : OneW prog w g0 (.ref a) (.list ds) := by
  refine m.over (.list h1 h2 h3 h4) rfl fun bs off many => ?_
  rw [PyData.shown]
  rcases vs with ⟨_ | ⟨v, l⟩⟩
  · cases h4
    exact ReprK.listEmpty h1 h2 h3
  · refine ReprK.list h1 h2 h3 off many.length_eq fun i y q => many.item i y ?_
    rw [← q]; simp
theorem AllW.tuple {a : Addr} {o : Obj} {vs : Array Value} {n : Nat} {ds : List PyData} {as : List Addr} (h1 : g0.get? a = some o) (h2 : o.cls = .type "tuple") (h3 : o.data = .seq vs n) (h4 : ReadsAll g0 vs.toList ds as) (m : AllW prog w g0 vs.toList ds) : OneW prog w g0 (.ref a) (.tuple ds) :=
  m.over (.tuple h1 h2 h3 h4) rfl fun bs off many => by rw [PyData.shown]; exact ReprK.tuple h1 h2 h3 off many
mutual
theorem one_W (nd : g0.NoDigits) {v : Value} {d : PyData} {as : List Addr} (r : Reads g0 v d as) (s : wsh d = true) (z : d.shown.length ≤ sizeLine) : OneW prog w g0 v d :=
  match r with
  | .none => .leaf .none rfl rfl z
  | .bool b => .leaf (.bool b) rfl rfl z
  | .str x u => .leaf (.str x u) rfl rfl z
  | .int i u => .num nd (by simpa only [wsh] using s)
  | .list h1 h2 h3 h4 => AllW.list h1 h2 h3 h4 (all_W nd h4 (by simpa only [wsh] using s) fun t ht => Nat.le_trans (listText_mem_le ht) (by simpa only [PyData.shown] using z))
  | .tuple h1 h2 h3 h4 => AllW.tuple h1 h2 h3 h4 (all_W nd h4 (by simpa only [wsh] using s) fun t ht => Nat.le_trans (tupleText_mem_le ht) (by simpa only [PyData.shown] using z))
  | .dict .. => by simp [wsh] at s
theorem all_W (nd : g0.NoDigits) {vs : List Value} {ds : List PyData} {as : List Addr} (r : ReadsAll g0 vs ds as) (s : wshs ds = true) (z : ∀ t ∈ PyData.shownAll ds, t.length ≤ sizeLine) : AllW prog w g0 vs ds :=
  match r with
  | .nil => AllW.nil
  | .cons r1 rs => by
    obtain ⟨s1, s2⟩ := Bool.and_eq_true_iff.mp (by simpa only [wshs] using s)
    obtain ⟨z1, z2⟩ := List.forall_mem_cons.mp (by simpa only [PyData.shownAll] using z)
    exact AllW.cons (one_W nd r1 s1 z1) (all_W nd rs s2 z2)
end
theorem repr_W {A : Around} {E : Value → Shared → Prop} {s : Shared} {a : Addr} {xs : List PyData} {as : List Addr} {Q : Value → Shared → Prop} (hn : g0.NoDigits) (r : Reads g0 (.ref a) (.list xs) as) (hs : wsh (.list xs) = true) (hg : A.guards = some [])
    (hu : A.units + ((PyData.list xs).depth + 1) < cLine) (hk0 : ∀ b o, g0.get? b = some o → s.heap.get? b = some o)
    (hQ : ∀ h' u tk, (∀ b o, s.heap.get? b = some o → h'.get? b = some o) → Q (.str (PyData.list xs).shown u) { s with heap := h', toks := tk })
    (hz : (PyData.list xs).shown.length ≤ sizeLine) : wpAny (model prog w) A (call (.builtin "repr") [.ref a]) Q E s := by
  have whole := r
  have dep : (PyData.list xs).depth = PyData.depthAll xs + 1 := rfl
  rw [PyData.shown] at hz hQ
  obtain _ | _ | _ | _ | @⟨_, o, vs, n, _, _, h1, h2, h3, h4⟩ := r
  obtain ⟨bs, low, many⟩ := all_W (prog := prog) (w := w) hn h4 (by simpa only [wsh] using hs) fun t ht => Nat.le_trans (listText_mem_le ht) hz
  have off : a ∉ bs := not_mem_of_deeper whole (Nat.lt_of_lt_of_eq (Nat.lt_succ_self _) dep.symm) low
  have now : s.heap.get? a = some o := hk0 a o h1
  refine call_repr_slot (by omega) ⟨o, now, h2⟩ PySem.F.slot_list_repr.toG ?_
  rcases vs with ⟨_ | ⟨v, l⟩⟩
  · cases h4
    exact call_list_repr_empty ⟨o, now, h2⟩ now h3 ⟨_, _, rfl, hQ s.heap _ _ fun _ _ z => z⟩
  · refine call_list_reprK h1 h2 h3 off many.length_eq (fun i y q => many.item i y ?_) hg (fun b _ => Clear.nil b) ?_ hk0 (fun g u tk keep => ⟨_, _, rfl, hQ g u tk keep⟩) hz
    · rw [← q]; simp
    · show A.units + 1 + (PyData.depthAll xs + 1) < cLine
      omega
end
mutual
/-- lists of our own, read -/
inductive Rs (μ : Mu) : A → A → Prop
  | dat {x : A} : isD x = true → Rs μ x x
  | own {p : Addr} {xs ys : List A} : μ p = some (.lst xs) → RsL μ xs ys → Rs μ (.loc p) (.lst ys)
  | lst {xs ys : List A} : RsL μ xs ys → Rs μ (.lst xs) (.lst ys)
  | tup {xs ys : List A} : RsL μ xs ys → Rs μ (.tup xs) (.tup ys)
inductive RsL (μ : Mu) : List A → List A → Prop
  | nil : RsL μ [] []
  | cons {x y : A} {xs ys : List A} : Rs μ x y → RsL μ xs ys → RsL μ (x :: xs) (y :: ys)
end
section
variable {K : PySem.W.Frag} {μ : Mu} {M F H : Hp}
mutual
theorem Rs.dp (rl : Rel K μ M F H) : ∀ {x y : A} {v : V}, Rs μ x y → Rep K H x v → Dp K H v (toD y)
  | _, _, _, .dat h, r => dp_of h r
  | _, _, _, .own (ys := ys) h1 h2, r => by
    rw [rep_loc] at r; subst r
    obtain ⟨_, o, e1, vs, rfl, e2⟩ := rl.own _ _ h1
    simp only [toD]
    exact .lst (.inl (.inl e1)) (RsL.dp rl h2 (e2.mono rl.sub))
  | _, _, _, .lst h, r => by
    rw [rep_lst] at r; obtain ⟨a, vs, rfl, h1, h2⟩ := r
    simp only [toD]
    exact .lst (.inl (.inl h1)) (RsL.dp rl h h2)
  | _, _, _, .tup h, r => by
    rw [rep_tup] at r; obtain ⟨a, vs, rfl, h1, h2⟩ := r
    simp only [toD]
    exact .tup h1 (RsL.dp rl h h2)
theorem RsL.dp (rl : Rel K μ M F H) : ∀ {xs ys : List A} {vs : List V}, RsL μ xs ys → RepL K H xs vs → DpAll K H vs (toDs ys)
  | _, _, _, .nil, r => by simp only [RepL] at r; subst r; simp only [toDs]; exact .nil
  | _, _, _, .cons h t, r => by
    simp only [RepL] at r
    obtain ⟨v, w, rfl, h1, h2⟩ := r
    simp only [toDs]
    exact .cons (Rs.dp rl h h1) (RsL.dp rl t h2)
end
end
/-- repr of a list, wide -/
theorem wC_reprW {X : Cx} {μ : Mu} {Q : A → Mu → Prop} {k : Nat} {x : A} {ys : List A} (ar : Ar X k) (nd : X.base.NoDigits) (hx : Rs μ x (.lst ys)) (hw : wsh (toD (.lst ys)) = true) (hd : deep (.lst ys) ≤ 60) (hz : (toD (.lst ys)).shown.length ≤ sizeLine)
    (q : Q (.str (toD (.lst ys)).shown) μ) : wC X (.builtin "repr") [x] μ Q := by
  intro M F H vs rl rp
  refine ⟨fun pins s σ us I rv => ?_⟩
  obtain ⟨v, rfl, h⟩ := rp.one
  obtain ⟨u, rfl, ru⟩ := rv.one
  obtain ⟨a, rfl⟩ : ∃ a, v = .ref a := by
    cases hx with
    | dat _ => rw [rep_lst] at h; obtain ⟨a, _, e, _⟩ := h; exact ⟨a, e⟩
    | own _ _ => rw [rep_loc] at h; exact ⟨_, h⟩
    | lst _ => rw [rep_lst] at h; obtain ⟨a, _, e, _⟩ := h; exact ⟨a, e⟩
  cases ru
  obtain ⟨as, rd⟩ := Dp.reads I (toD (.lst ys)) _ _ (Rs.dp rl hx (h.mono rl.sub)) rfl
  have hd2 := depth_of (.lst ys)
  have hu := ar.u64
  have nd2 : s.heap.NoDigits := nd.keeps I.bk
  have rd2 : Reads s.heap (.ref a) (.list (toDs ys)) as := by simpa only [toD] using rd
  refine repr_W nd2 rd2 (by simpa only [toD] using hw) ar.show0 (by simp only [toD] at hd2; omega) (fun _ _ z => z) (fun h' t tk kp => ?_) (by simpa only [toD] using hz)
  exact ⟨.str (toD (.lst ys)).shown, H, I.kept kp, ⟨t, by simp only [toD]⟩, .pure rl (rep_str.mpr rfl) q⟩
end D

set_option exponentiation.threshold 256
set_option pp.maxSteps 5000
/-! WK: whether a law's draw dict keeps work (here: not; prog/wkw: it does). -/
namespace D
open PySem PySem.Spec PyProof.Rows L2
abbrev Wk : Type := Unit
def wk0 : Wk := ()
def wkL : Wk → List (Key × A)
  | _ => []
end D

set_option exponentiation.threshold 256
set_option pp.maxSteps 5000
set_option Elab.async false
set_option linter.all false
set_option maxRecDepth 100000
set_option maxHeartbeats 4000000
/-! P01: words that write numbers, in plain terms. -/
namespace D
open PySem PySem.Spec PyProof.Rows L2 NumText
def digA (w : Str) : Bool := w.cps.toList.all fun ch => decide (ch ∈ ("0123456789" : Str).cps.toList)
def figIn (w : Str) : Option Int := if (decide ((1 : Int) ≤ w.length) && decide ((w.length : Int) ≤ 4000) && digA w) = true then (if (Txt.startswith w "0" && !decide (w = "0")) = true then none else PySem.intText? w) else none
def optA : Option Int → A
  | none => .non
  | some i => .int i
def wholeOf (w : Str) : Option Int → Option Int
  | none => none
  | some v => if w = "-0" then none else some (if Txt.startswith w "-" = true then 0 - v else v)
def wholeIn (w : Str) : Option Int := wholeOf w (figIn (if Txt.startswith w "-" = true then cutS w (some 1) none else w))
def belowIn (w : Str) : Option Int := if (Txt.partition w "/").2.1 ≠ "" then figIn (Txt.partition w "/").2.2 else some 1
def numOf : Option Int → Option Int → A
  | some n, some d => if d = 0 then .non else low n d
  | _, _ => .non
def numIn (w : Str) : A := numOf (wholeIn (Txt.partition w "/").1) (belowIn w)
theorem fig_mem (c : Nat) : c ∈ ("0123456789" : Str).cps.toList ↔ 48 ≤ c ∧ c ≤ 57 := by
  have e : ("0123456789" : Str).cps.toList = [48, 49, 50, 51, 52, 53, 54, 55, 56, 57] := by decide
  rw [e]
  simp only [List.mem_cons, List.not_mem_nil, or_false]
  omega
theorem digA_all {w : Str} (h : digA w = true) : AllDigits w.cps.toList := fun c hc => by
  have := List.all_eq_true.mp h c hc
  exact (fig_mem c).mp (of_decide_eq_true this)
theorem digitsVal_bound (cs : List Nat) : ∀ acc : Nat, AllDigits cs → cs.foldl (fun acc c => acc * 10 + (c - 48)) acc < (acc + 1) * 10 ^ cs.length := by
  induction cs with
  | nil => intro acc _; simp
  | cons c cs ih =>
    intro acc h
    have hc := h.head
    have := ih (acc * 10 + (c - 48)) h.tail
    rw [List.foldl_cons, List.length_cons, Nat.pow_succ]
    refine Nat.lt_of_lt_of_le this ?_
    have h2 : acc * 10 + (c - 48) + 1 ≤ (acc + 1) * 10 := by omega
    calc _ ≤ (acc + 1) * 10 * 10 ^ cs.length := Nat.mul_le_mul_right _ h2
      _ = _ := by rw [Nat.mul_assoc, Nat.mul_comm 10]
theorem dig_int {w : Str} (h : digA w = true) (h1 : 1 ≤ w.length) (h2 : w.length ≤ 640) : ∃ n : Int, PySem.intText? w = some n ∧ 0 ≤ n ∧ Bd 2200 n := by
  have ha := digA_all h
  have hl : w.cps.toList.length = w.length := Array.length_toList
  refine ⟨_, intText_digits ha (fun z => by rw [z] at hl; simp at hl; omega) (by omega), by omega, ?_⟩
  have hb := digitsVal_bound w.cps.toList 0 ha
  unfold Bd
  rw [Int.natAbs_natCast]
  refine Nat.lt_of_lt_of_le (show digitsVal w.cps.toList < (0 + 1) * 10 ^ w.cps.toList.length from hb) ?_
  rw [Nat.zero_add, Nat.one_mul]
  exact Nat.le_trans (Nat.pow_le_pow_right (by decide) (show w.cps.toList.length ≤ 640 by omega)) (by decide +kernel)
end D

set_option exponentiation.threshold 256
set_option pp.maxSteps 5000
set_option Elab.async false
set_option linter.all false
set_option maxRecDepth 100000
set_option maxHeartbeats 4000000
/-! P02: numbers written and read again; names. -/
namespace D
open PySem PySem.Spec PyProof.Rows L2 TL NumText
theorem starts1 (w : Str) (c : Nat) : Txt.startswith w ⟨#[c]⟩ = decide ((tl w)[0]? = some c) := by
  have h := PySem.StrLaws.subAt_one w c 0
  unfold Txt.startswith
  by_cases e : (tl w)[0]? = some c
  · have h2 := h.mpr e
    rw [decide_eq_true e, h2.2, decide_eq_true h2.1]; rfl
  · rw [decide_eq_false e]
    refine Bool.eq_false_iff.mpr fun z => e (h.mp ?_)
    simpa using z
theorem nought : ("0" : Str) = ⟨#[48]⟩ := by decide
theorem dash : ("-" : Str) = ⟨#[45]⟩ := by decide
/-- what is written of a number, from the number itself -/
def txtN (n : Nat) : Str := Str.ofString (toString ((n : Nat) : Int))
theorem tl_txtN (n : Nat) : tl (txtN n) = numL n := tl_num n
theorem tl_neg (n : Nat) : tl (Str.ofString (toString (Int.negSucc n))) = 45 :: numL (n + 1) := by
  show (Str.ofString ("-" ++ Nat.repr (n + 1))).cps.toList = _
  rw [signs_ofString, String.toList_append, List.map_append, Nat.toList_repr]
  rfl
theorem head48 : ∀ n : Nat, (numL n)[0]? = some 48 → n = 0 := by
  intro n
  induction n using Nat.strongRecOn with
  | _ n ih =>
    intro h
    by_cases hn : n < 10
    · rw [numL_lt hn] at h
      simp at h; omega
    · rw [numL_step (by omega)] at h
      have h0 := numL_ne (n / 10)
      have h1 : (numL (n / 10))[0]? = some 48 := by
        cases e : numL (n / 10) with
        | nil => exact absurd e h0
        | cons x l => rw [e] at h; simpa using h
      have := ih (n / 10) (by omega) h1
      omega
theorem numL_bd {n : Nat} (h : n < 2 ^ 1900) : (numL n).length ≤ 620 := numL_len (by decide) (Nat.lt_of_lt_of_le h (by decide +kernel))
theorem len_txtN {n : Nat} (h : n < 2 ^ 1900) : 1 ≤ (txtN n).length ∧ (txtN n).length ≤ 620 := by
  rw [len_tl, tl_txtN]
  exact ⟨List.length_pos_iff.mpr (numL_ne n), numL_bd h⟩
theorem digA_txtN (n : Nat) : digA (txtN n) = true := by
  unfold digA
  refine List.all_eq_true.mpr fun c hc => decide_eq_true ((fig_mem c).mpr ?_)
  exact numL_digits n c (by rw [← tl_txtN]; exact hc)
theorem figIn_txtN {n : Nat} (h : n < 2 ^ 1900) : figIn (txtN n) = some (n : Int) := by
  obtain ⟨h1, h2⟩ := len_txtN h
  have e1 : PySem.intText? (txtN n) = some (n : Int) := int_num (Nat.le_trans (numL_bd h) (by decide))
  unfold figIn
  rw [digA_txtN, decide_eq_true (show (1 : Int) ≤ (txtN n).length by omega), decide_eq_true (show ((txtN n).length : Int) ≤ 4000 by omega), if_pos (by rfl), e1]
  refine if_neg ?_
  rw [nought, starts1, tl_txtN]
  intro z
  simp only [Bool.and_eq_true, decide_eq_true_eq, Bool.not_eq_true', decide_eq_false_iff_not] at z
  have e2 := head48 n z.1
  subst e2
  exact z.2 (ext_tl (by rw [tl_txtN, numL_lt (by decide)]))
theorem notDash {n : Nat} : (numL n)[0]? ≠ some 45 := fun h => by
  have h1 := List.mem_of_getElem? h
  exact numL_free (Or.inl (by decide)) h1
theorem wholeIn_txt {i : Int} (h : i.natAbs < 2 ^ 1900) : wholeIn (Str.ofString (toString i)) = some i := by
  cases i with
  | ofNat n =>
    have e0 : Str.ofString (toString (Int.ofNat n)) = txtN n := rfl
    have e : Txt.startswith (txtN n) "-" = false := by rw [dash, starts1, tl_txtN]; exact decide_eq_false notDash
    have e3 : txtN n ≠ "-0" := fun z => by
      have z2 := congrArg (fun w => (tl w)[0]?) z
      simp only [tl_txtN] at z2
      exact notDash (n := n) (by rw [z2]; rfl)
    rw [e0]
    unfold wholeIn
    rw [e, if_neg (by simp), figIn_txtN (by simpa using h)]
    unfold wholeOf
    simp only [e, Bool.false_eq_true, if_false, if_neg e3]
    rfl
  | negSucc n =>
    have et := tl_neg n
    generalize hw : Str.ofString (toString (Int.negSucc n)) = w at et
    have e : Txt.startswith w "-" = true := by rw [dash, starts1, et]; rfl
    have e2 : cutS w (some 1) none = txtN (n + 1) := by
      refine ext_tl ?_
      rw [tl_txtN]
      have l1 : w.length = (numL (n + 1)).length + 1 := by rw [len_tl, et]; rfl
      have l2 := List.length_pos_iff.mpr (numL_ne (n + 1))
      unfold cutS HT.sIx
      simp only [show ¬ ((1 : Int) < 0) by omega, if_false]
      have e1 : min (1 : Int).toNat w.length = 1 := by rw [l1]; simp
      rw [e1, tl_mk, show w.cps.toList = 45 :: numL (n + 1) from et, List.drop_one, List.tail_cons, l1]
      exact List.take_of_length_le (by omega)
    have e3 : w ≠ "-0" := fun z => by
      have z2 := congrArg tl z
      rw [et] at z2
      have z3 : numL (n + 1) = [48] := by
        have : tl ("-0" : Str) = [45, 48] := by decide
        rw [this] at z2
        exact (List.cons.inj z2).2
      have := head48 (n + 1) (by rw [z3]; rfl)
      omega
    unfold wholeIn
    rw [e, if_pos rfl, e2, figIn_txtN (by simpa using h)]
    unfold wholeOf
    simp only [e, if_true, if_neg e3]
    congr 1
theorem noStroke (i : Int) : 47 ∉ tl (Str.ofString (toString i)) := by
  cases i with
  | ofNat n => rw [show tl (Str.ofString (toString (Int.ofNat n))) = numL n from tl_num n]; exact numL_free (Or.inl (by decide))
  | negSucc n =>
    rw [tl_neg]
    intro h
    rcases List.mem_cons.mp h with h | h
    · cases h
    · exact numL_free (Or.inl (by decide)) h
theorem strokeL : tl ("/" : Str) = 47 :: [] := by decide
theorem numIn_one {i : Int} (h : i.natAbs < 2 ^ 1900) : numIn (Str.ofString (toString i)) = low i 1 := by
  have e := partition_none strokeL (noStroke i)
  unfold numIn belowIn
  rw [e]
  simp only
  rw [if_neg (by decide), wholeIn_txt h]
  rfl
theorem numIn_two {i : Int} {d : Nat} (h : i.natAbs < 2 ^ 1900) (hd : d < 2 ^ 1900) (d0 : d ≠ 0) : numIn (Str.ofString (toString i) ++ "/" ++ txtN d) = low i d := by
  have e := partition_app strokeL (b := txtN d) (noStroke i)
  unfold numIn belowIn
  rw [e]
  simp only
  rw [if_pos (by decide), wholeIn_txt h, figIn_txtN hd]
  unfold numOf
  simp only
  rw [if_neg (by omega)]
end D

set_option exponentiation.threshold 256
set_option pp.maxSteps 5000
set_option Elab.async false
set_option linter.all false
set_option maxRecDepth 100000
set_option maxHeartbeats 4000000
/-! P03: names. -/
namespace D
open PySem PySem.Spec PyProof.Rows L2 TL NumText
abbrev LETS : Str := "abcdefghijklmnopqrstuvwxyz"
def BARS : List Str := ["in", "out", "part", "give", "call", "repeat", "end", "plus", "less", "times", "over", "power", "most", "least", "size", "pick", "copy"]
def letA (w : Str) : Bool := w.cps.toList.all fun ch => decide (ch ∈ LETS.cps.toList)
def isNm : A → Bool
  | .str w => decide ((1 : Int) ≤ w.length) && decide ((w.length : Int) ≤ 8) && !inA (.str w) (BARS.map A.str) && letA w
  | _ => false
structure NmOk (w : Str) : Prop where
  lt : letA w = true
  lo : 1 ≤ w.length
  hi : w.length ≤ 8
def ltr (i : Int) : Str := ⟨#[LETS.cps.toList.getD i.toNat 97]⟩
theorem ltr_at {i : Int} (h0 : 0 ≤ i) (h1 : i < 26) : atI LETS.cps.toList i = some (LETS.cps.toList.getD i.toNat 97) := by
  have hl : LETS.cps.toList.length = 26 := by decide
  refine atI_pos ?_ h0
  rw [List.getElem?_eq_getElem (by omega), List.getD_eq_getElem?_getD, List.getElem?_eq_getElem (by omega)]; rfl
theorem letA_ltr (i : Int) : letA (ltr i) = true := by
  unfold letA ltr
  simp only [List.all_cons, List.all_nil, Bool.and_true, decide_eq_true_eq]
  by_cases h : i.toNat < LETS.cps.toList.length
  · rw [List.getD_eq_getElem?_getD, List.getElem?_eq_getElem h]; exact List.getElem_mem h
  · rw [List.getD_eq_getElem?_getD, List.getElem?_eq_none (by omega)]; decide
theorem letA_app (a b : Str) : letA (a ++ b) = (letA a && letA b) := by
  unfold letA
  rw [show (a ++ b).cps.toList = a.cps.toList ++ b.cps.toList from tl_append a b, List.all_append]
theorem letA_cut {w : Str} (h : letA w = true) {lo hi : Option Int} : letA (cutS w lo hi) = true := by
  unfold letA at *
  refine List.all_eq_true.mpr fun c hc => List.all_eq_true.mp h c ?_
  unfold cutS at hc
  exact List.mem_of_mem_drop (List.mem_of_mem_take (by simpa using hc))
theorem letA_tl (w : Str) : letA w = (tl w).all fun ch => decide (ch ∈ LETS.cps.toList) := rfl
theorem mem_joinL {S : List Nat} {c : Nat} : ∀ {l : List (List Nat)}, c ∈ joinL S l → c ∈ S ∨ ∃ p ∈ l, c ∈ p
  | [], h => by simp [joinL] at h
  | [p], h => .inr ⟨p, by simp, by simpa [joinL] using h⟩
  | p :: q :: r, h => by
    simp only [joinL, List.mem_append] at h
    rcases h with h | h | h
    · exact .inr ⟨p, by simp, h⟩
    · exact .inl h
    · rcases mem_joinL h with h | ⟨x, hx, h⟩
      · exact .inl h
      · exact .inr ⟨x, List.mem_cons_of_mem _ hx, h⟩
theorem letA_join {ys : List Str} (h : ∀ w ∈ ys, letA w = true) : letA (Txt.join "" ys) = true := by
  rw [letA_tl, join_eq, tl_join]
  refine List.all_eq_true.mpr fun c hc => ?_
  rcases mem_joinL hc with h1 | ⟨p, hp, h1⟩
  · rw [show tl ("" : Str) = [] by decide] at h1; cases h1
  · obtain ⟨w, hw, rfl⟩ := List.mem_map.mp hp
    exact List.all_eq_true.mp (h w hw) c h1
theorem joinL_len : ∀ {l : List (List Nat)}, (∀ p ∈ l, p.length ≤ 1) → (joinL [] l).length ≤ l.length
  | [], _ => by simp [joinL]
  | [p], h => by have := h p (by simp); simpa [joinL] using this
  | p :: q :: r, h => by
    have h1 := h p (by simp)
    have h2 := joinL_len (l := q :: r) fun x hx => h x (List.mem_cons_of_mem _ hx)
    simp only [joinL, List.length_append, List.length_nil, List.length_cons] at *
    omega
theorem len_ltrs (f : Nat → Int) (n : Nat) : (Txt.join "" ((List.range n).map fun j => ltr (f j))).length ≤ n := by
  rw [len_tl, join_eq, tl_join, show tl ("" : Str) = [] by decide]
  refine Nat.le_trans (joinL_len fun p hp => ?_) (by simp)
  obtain ⟨w, hw, rfl⟩ := List.mem_map.mp hp
  obtain ⟨j, _, rfl⟩ := List.mem_map.mp hw
  exact Nat.le_refl 1
theorem sum_ltrs (f : Nat → Int) (l : List Nat) : ((l.map fun j => ltr (f j)).map (·.length)).sum = l.length := by
  induction l with
  | nil => rfl
  | cons x l ih => rw [List.map_cons, List.map_cons, List.sum_cons, ih, List.length_cons]; show 1 + _ = _; omega
theorem cutS_hi (w : Str) (i : Int) (h : 0 ≤ i) : (cutS w none (some i)).length ≤ i.toNat := by
  unfold cutS HT.sIx
  simp only [show ¬ (i < 0) by omega, if_false]
  rw [len_tl, tl_mk, List.length_take]
  omega
theorem cutS_mid (w : Str) (i j : Int) (h : 0 ≤ i ∧ i ≤ j) : (cutS w (some i) (some j)).length ≤ (j - i).toNat := by
  unfold cutS HT.sIx
  simp only [show ¬ (i < 0) by omega, show ¬ (j < 0) by omega, if_false]
  rw [len_tl, tl_mk, List.length_take, List.length_drop]
  omega
def fixN (w : Str) : Str := if inA (.str w) (BARS.map A.str) = true then "zz" ++ cutS w none (some 1) ++ "z" else w
theorem noBar {w : Str} (h : (tl w).take 2 = [122, 122]) : inA (.str w) (BARS.map A.str) = false := by
  refine Bool.eq_false_iff.mpr fun z => ?_
  unfold inA at z
  rw [List.any_map] at z
  obtain ⟨y, hy, e⟩ := List.any_eq_true.mp z
  have e2 : y = w := by simpa [eqA] using e
  subst e2
  have k : BARS.all (fun y => (tl y).take 2 != [122, 122]) = true := by decide
  have k2 := List.all_eq_true.mp k y hy
  rw [h] at k2
  simp at k2
theorem fixN_ok {w : Str} (h : NmOk w) : isNm (.str (fixN w)) = true := by
  have h1 := h.lo
  have h2 := h.hi
  unfold fixN
  split
  · have n2 := cutS_hi w 1 (by omega)
    have e2 : ("zz" : Str).length = 2 := by decide
    have e3 : ("z" : Str).length = 1 := by decide
    have hl : ("zz" ++ cutS w none (some 1) ++ "z" : Str).length = 2 + (cutS w none (some 1)).length + 1 := by rw [Str.length_append, Str.length_append, e2, e3]
    simp only [isNm]
    rw [decide_eq_true (by omega), decide_eq_true (by omega), letA_app, letA_app, letA_cut h.lt, noBar]
    · decide
    · rw [tl_append, tl_append, show tl ("zz" : Str) = [122, 122] by decide]; rfl
  · rename_i hb
    simp only [isNm]
    rw [decide_eq_true (by omega), decide_eq_true (by omega), h.lt, Bool.eq_false_iff.mpr hb]; rfl
theorem isNm_wd {w : Str} (h : isNm (.str w) = true) : w.length ≤ 8 := by
  simp only [isNm, Bool.and_eq_true, decide_eq_true_eq] at h
  omega
end D

set_option exponentiation.threshold 256
set_option pp.maxSteps 5000
set_option Elab.async false
set_option linter.all false
set_option maxRecDepth 100000
set_option maxHeartbeats 4000000
/-! PG: programs as plain data. -/
namespace D
open PySem PySem.Spec PyProof.Rows L2
/-- the rows of a class -/
def bodyC : Stmt → List Stmt
  | .ClassDef (body := these) .. => these
  | _ => []
def TAKENL : List (Str × Int) := [("plus", 2), ("less", 2), ("times", 2), ("over", 2), ("power", 2), ("most", 2), ("least", 2), ("size", 1), ("pick", 3), ("copy", 1)]
/-- a name told: last, if it wasn't there -/
def insT (T : List Str) (w : Str) : List Str := if w ∈ T then T else T ++ [w]
theorem mem_insT {T : List Str} {w x : Str} : x ∈ insT T w ↔ x ∈ T ∨ x = w := by
  unfold insT
  split
  · rename_i h
    exact ⟨.inl, fun z => z.elim id fun e => e ▸ h⟩
  · simp
abbrev Tk (T : List Str) : List (Key × A) := T.map fun w => ((.inr w : Key), A.bl true)
abbrev Pk (Pn : List (Str × Int)) : List (Key × A) := Pn.map fun p => ((.inr p.1 : Key), A.int p.2)
theorem valA_Tk (w : Str) : ∀ T : List Str, valA (Tk T) (.inr w) = if w ∈ T then some (.bl true) else none
  | [] => by simp [valA]
  | x :: T => by
    have ih := valA_Tk w T
    simp only [valA, Tk, List.map_cons, List.find?_cons] at ih ⊢
    by_cases e : x = w
    · subst e; simp
    · have e2 : ¬ w = x := fun z => e z.symm
      simp only [Sum.inr.injEq, e, decide_false, List.mem_cons, e2, false_or]
      exact ih
theorem any_Tk (w : Str) (T : List Str) : ((Tk T).any fun kv => decide (kv.1 = (.inr w : Key))) = decide (w ∈ T) := by
  rw [List.any_map]
  by_cases h : w ∈ T
  · rw [decide_eq_true h]
    exact List.any_eq_true.mpr ⟨w, h, by simp⟩
  · rw [decide_eq_false h]
    refine Bool.eq_false_iff.mpr fun z => h ?_
    obtain ⟨x, hx, e⟩ := List.any_eq_true.mp z
    have e2 : x = w := by simpa using e
    exact e2 ▸ hx
theorem putA_Tk (T : List Str) (w : Str) : putA (Tk T) (.inr w) (.bl true) = Tk (insT T w) := by
  unfold putA insT
  rw [any_Tk]
  by_cases h : w ∈ T
  · rw [decide_eq_true h, if_pos rfl, if_pos h]
    unfold Tk
    rw [List.map_map]
    refine List.map_congr_left fun x _ => ?_
    simp only [Function.comp]
    split <;> rfl
  · rw [decide_eq_false h, if_neg (by simp), if_neg h]
    simp [Tk]
theorem valA_Pk (w : Str) : ∀ Pn : List (Str × Int), valA (Pk Pn) (.inr w) = (valI Pn w).map A.int
  | [] => by simp [valA, valI]
  | (x, i) :: Pn => by
    have ih := valA_Pk w Pn
    simp only [valA, valI, Pk, List.map_cons, List.find?_cons] at ih ⊢
    by_cases e : x = w
    · subst e; simp
    · simp only [Sum.inr.injEq, e, decide_false]
      exact ih
theorem putA_Pk {w : Str} {n : Int} : ∀ {Pn : List (Str × Int)}, valI Pn w = none → putA (Pk Pn) (.inr w) (.int n) = Pk (Pn ++ [(w, n)]) := by
  intro Pn h
  unfold putA
  have e : ((Pk Pn).any fun kv => decide (kv.1 = (.inr w : Key))) = false := by
    refine Bool.eq_false_iff.mpr fun z => ?_
    rw [List.any_map] at z
    obtain ⟨p, hp, e⟩ := List.any_eq_true.mp z
    have e2 : p.1 = w := by simpa using e
    unfold valI at h
    rw [Option.map_eq_none_iff, List.find?_eq_none] at h
    exact h p hp (by simp [e2])
  rw [e, if_neg (by simp)]
  simp [Pk]
/-- a told name or a fraction -/
def ThOk (T : List Str) (x : A) : Prop := (∃ w, x = .str w ∧ w ∈ T ∧ letA w = true ∧ w.length ≤ 8) ∨ ∃ n d, x = .tup [.int n, .int d] ∧ Fr n d
theorem ThOk.up {T T' : List Str} {x : A} (h : ThOk T x) (w : ∀ y ∈ T, y ∈ T') : ThOk T' x := by
  rcases h with ⟨a, h1, h2, h3⟩ | h
  · exact .inl ⟨a, h1, w a h2, h3⟩
  · exact .inr h
/-- a word and what it takes -/
def RowOk (Pn : List (Str × Int)) (T : List Str) (w : Str) (ts : List A) : Prop :=
  (w = "call" ∧ ∃ c r, ts = .str c :: r ∧ valI Pn c = some (r.length : Int) ∧ letA c = true ∧ c.length ≤ 8 ∧ ∀ a ∈ r, ThOk T a) ∨
  (w = "power" ∧ ∃ a k, ts = [a, .int k] ∧ ThOk T a ∧ -8 ≤ k ∧ k ≤ 8) ∨
  (w ≠ "call" ∧ w ≠ "power" ∧ valI TAKENL w = some (ts.length : Int) ∧ ∀ a ∈ ts, ThOk T a)
theorem RowOk.up {Pn : List (Str × Int)} {T T' : List Str} {w : Str} {ts : List A} (h : RowOk Pn T w ts) (u : ∀ y ∈ T, y ∈ T') : RowOk Pn T' w ts := by
  rcases h with ⟨h1, c, r, h2, h3, h4, h5, h6⟩ | ⟨h1, a, k, h2, h3, h4⟩ | ⟨h1, h2, h3, h4⟩
  · exact .inl ⟨h1, c, r, h2, h3, h4, h5, fun a ha => (h6 a ha).up u⟩
  · exact .inr (.inl ⟨h1, a, k, h2, h3.up u, h4⟩)
  · exact .inr (.inr ⟨h1, h2, h3, fun a ha => (h4 a ha).up u⟩)
inductive It where
  | row (x w : Str) (ts : List A)
  | rep (n : Int) (b : List It)
mutual
def It.a : It → A
  | .row x w ts => .tup [.str "row", .str x, .str w, .tup ts]
  | .rep n b => .tup [.str "repeat", .int n, .tup (aIts b)]
def aIts : List It → List A
  | [] => []
  | i :: r => i.a :: aIts r
end
mutual
/-- the names told behind it -/
def It.told : It → List Str → List Str
  | .row x _ _, T => insT T x
  | .rep _ b, T => toldIts b T
def toldIts : List It → List Str → List Str
  | [], T => T
  | i :: r, T => toldIts r (i.told T)
end
mutual
def It.ok (Pn : List (Str × Int)) : Nat → List Str → It → Prop
  | d, T, .row x w ts => d ≤ 3 ∧ isNm (.str x) = true ∧ RowOk Pn T w ts
  | d, T, .rep n b => d < 3 ∧ 1 ≤ n ∧ n ≤ 200 ∧ okIts Pn (d + 1) T b
def okIts (Pn : List (Str × Int)) : Nat → List Str → List It → Prop
  | _, _, [] => True
  | d, T, i :: r => i.ok Pn d T ∧ okIts Pn d (i.told T) r
end
mutual
def It.size : It → Nat
  | .row _ _ _ => 1
  | .rep _ b => 1 + sizeIts b
def sizeIts : List It → Nat
  | [] => 0
  | i :: r => i.size + sizeIts r
end
mutual
/-- no row takes too many things -/
def It.tsOk : It → Prop
  | .row _ _ ts => ts.length ≤ 1000
  | .rep _ b => tsIts b
def tsIts : List It → Prop
  | [] => True
  | i :: r => i.tsOk ∧ tsIts r
end
mutual
theorem told_len : ∀ (i : It) (T : List Str), (i.told T).length ≤ T.length + i.size
  | .row x _ _, T => by
    simp only [It.told, It.size, insT]
    split
    · omega
    · simp
  | .rep _ b, T => by
    simp only [It.told, It.size]
    have := tolds_len b T
    omega
theorem tolds_len : ∀ (l : List It) (T : List Str), (toldIts l T).length ≤ T.length + sizeIts l
  | [], _ => by simp [toldIts, sizeIts]
  | i :: r, T => by
    simp only [toldIts, sizeIts]
    have h1 := told_len i T
    have h2 := tolds_len r (i.told T)
    omega
end
theorem aIts_len : ∀ l : List It, (aIts l).length = l.length
  | [] => rfl
  | i :: r => by simp [aIts, aIts_len r]
theorem len_size : ∀ l : List It, l.length ≤ sizeIts l
  | [] => Nat.le_refl _
  | i :: r => by
    have := len_size r
    have : 1 ≤ i.size := by cases i <;> simp [It.size]
    simp only [sizeIts, List.length_cons]; omega
/-- texts of letters are plain data -/
theorem strOk_let {w : Str} (h : letA w = true) : PyData.strOk w = true := by
  unfold PyData.strOk
  rw [← Array.all_toList]
  refine List.all_eq_true.mpr fun c hc => ?_
  have h1 := of_decide_eq_true (List.all_eq_true.mp h c hc)
  have h2 : LETS.cps.toList.all (fun c => decide (c < 1114112)) = true := by decide
  exact List.all_eq_true.mp h2 c h1
theorem ThOk.dat {T : List Str} {x : A} (h : ThOk T x) : isD x = true ∧ deep x ≤ 1 := by
  rcases h with ⟨w, rfl, _, h2, _⟩ | ⟨n, d, rfl, _⟩
  · exact ⟨by simp only [isD]; exact strOk_let h2, by simp [deep]⟩
  · exact ⟨rfl, by simp [deep, deeps]⟩
theorem RowOk.dat {Pn : List (Str × Int)} {T : List Str} {w : Str} {ts : List A} (h : RowOk Pn T w ts) : isDs ts = true ∧ deeps ts ≤ 1 ∧ PyData.strOk w = true ∧ ts ≠ [] := by
  have key : ∀ {l : List A}, (∀ a ∈ l, ThOk T a) → isDs l = true ∧ deeps l ≤ 1 := fun h => ⟨isDs_all fun a ha => (h a ha).dat.1, deeps_le fun a ha => (h a ha).dat.2⟩
  rcases h with ⟨rfl, c, r, rfl, _, h4, _, h6⟩ | ⟨rfl, a, k, rfl, h3, _⟩ | ⟨h1, h2, h3, h4⟩
  · obtain ⟨k1, k2⟩ := key h6
    refine ⟨by simp only [isDs, isD, k1, strOk_let h4, Bool.and_self], ?_, by decide +kernel, by simp⟩
    simp only [deeps, deep]; omega
  · obtain ⟨k1, k2⟩ := h3.dat
    refine ⟨by simp only [isDs, isD, k1, Bool.and_self], ?_, by decide +kernel, by simp⟩
    simp only [deeps, deep]; omega
  · obtain ⟨k1, k2⟩ := key h4
    have hm : ∃ i, (w, i) ∈ TAKENL ∧ 0 < i := by
      unfold valI at h3
      cases e : TAKENL.find? (fun kv => decide (kv.1 = w)) with
      | none => rw [e] at h3; cases h3
      | some p =>
        have h5 := List.mem_of_find?_eq_some e
        have h6 := List.find?_some e
        have h7 : p.1 = w := by simpa using h6
        have h8 : TAKENL.all (fun p => decide (0 < p.2)) = true := by decide
        exact ⟨p.2, h7 ▸ h5, by simpa using List.all_eq_true.mp h8 p h5⟩
    obtain ⟨i, hi, _⟩ := hm
    have h8 : TAKENL.all (fun p => PyData.strOk p.1) = true := by decide +kernel
    refine ⟨k1, k2, List.all_eq_true.mp h8 _ hi, fun z => ?_⟩
    subst z
    unfold valI at h3
    cases e : TAKENL.find? (fun kv => decide (kv.1 = w)) with
    | none => rw [e] at h3; cases h3
    | some p =>
      rw [e] at h3
      have h5 := List.mem_of_find?_eq_some e
      have h8 : TAKENL.all (fun p => decide (0 < p.2)) = true := by decide
      have h9 := List.all_eq_true.mp h8 p h5
      simp at h3 h9
      omega
theorem isNm_let {w : Str} (h : isNm (.str w) = true) : letA w = true ∧ w.length ≤ 8 ∧ 1 ≤ w.length := by
  simp only [isNm, Bool.and_eq_true, decide_eq_true_eq] at h
  exact ⟨h.2, by omega, by omega⟩
mutual
theorem It.dat {Pn : List (Str × Int)} : ∀ {i : It} {d : Nat} {T : List Str}, i.ok Pn d T → isD i.a = true ∧ deep i.a ≤ 11 - 2 * d
  | .row x w ts, d, T, h => by
    simp only [It.ok] at h
    obtain ⟨h0, h1, h2⟩ := h
    obtain ⟨k1, k2, k3, _⟩ := h2.dat
    refine ⟨?_, ?_⟩
    · simp only [It.a, isD, isDs, k1, k3, strOk_let (isNm_let h1).1, Bool.and_true, Bool.true_and]; decide +kernel
    · simp only [It.a, deep, deeps]; omega
  | .rep n b, d, T, h => by
    simp only [It.ok] at h
    obtain ⟨h1, _, _, h4⟩ := h
    obtain ⟨k1, k2⟩ := datIts h4
    refine ⟨?_, ?_⟩
    · simp only [It.a, isD, isDs, k1, Bool.and_true, Bool.true_and]; decide +kernel
    · simp only [It.a, deep, deeps]; omega
theorem datIts {Pn : List (Str × Int)} : ∀ {l : List It} {d : Nat} {T : List Str}, okIts Pn d T l → isDs (aIts l) = true ∧ deeps (aIts l) ≤ 11 - 2 * d
  | [], _, _, _ => ⟨rfl, Nat.zero_le _⟩
  | i :: r, d, T, h => by
    simp only [okIts] at h
    obtain ⟨k1, k2⟩ := It.dat h.1
    obtain ⟨k3, k4⟩ := datIts h.2
    exact ⟨by simp only [aIts, isDs, k1, k3, Bool.and_self], by simp only [aIts, deeps]; omega⟩
end
/-! ### parts, programs -/
structure Pt where
  nm : Str
  ins : List Str
  body : List It
  give : Str
def Pt.a (q : Pt) : A := .tup [.str q.nm, .tup (q.ins.map A.str), .tup (aIts q.body), .str q.give]
def Pt.size (q : Pt) : Nat := 2 + q.ins.length + sizeIts q.body
structure Pt.ok (q : Pt) (Pn : List (Str × Int)) : Prop where
  nm : isNm (.str q.nm) = true
  new : valI Pn q.nm = none
  i1 : 1 ≤ q.ins.length
  i4 : q.ins.length ≤ 4
  ins : ∀ w ∈ q.ins, isNm (.str w) = true
  unl : q.ins.Nodup
  ts : tsIts q.body
  body : okIts Pn 0 q.ins q.body
  give : q.give ∈ toldIts q.body q.ins
def okPts : List (Str × Int) → List Pt → Prop
  | _, [] => True
  | Pn, q :: r => q.ok Pn ∧ okPts (Pn ++ [(q.nm, (q.ins.length : Int))]) r
def sizePts (l : List Pt) : Nat := (l.map Pt.size).sum
abbrev pnPts (l : List Pt) : List (Str × Int) := l.map fun q => (q.nm, (q.ins.length : Int))
structure Pg where
  parts : List Pt
  ins : List Str
  body : List It
  outs : List Str
def Pg.a (g : Pg) : A := .tup [.tup (g.parts.map Pt.a), .tup (g.ins.map A.str), .tup (aIts g.body), .tup (g.outs.map A.str)]
def Pg.size (g : Pg) : Nat := sizePts g.parts + g.ins.length + sizeIts g.body + g.outs.length
structure Pg.ok (g : Pg) : Prop where
  p6 : g.parts.length ≤ 6
  parts : okPts [] g.parts
  i1 : 1 ≤ g.ins.length
  i6 : g.ins.length ≤ 6
  ins : ∀ w ∈ g.ins, isNm (.str w) = true
  unl : g.ins.Nodup
  ts : tsIts g.body
  body : okIts (pnPts g.parts) 0 g.ins g.body
  o1 : 1 ≤ g.outs.length
  o4 : g.outs.length ≤ 4
  outs : ∀ w ∈ g.outs, isNm (.str w) = true ∧ w ∈ toldIts g.body g.ins
  size : g.size ≤ 80
theorem valI_none {Pn : List (Str × Int)} {w : Str} (h : valI Pn w = none) : ∀ p ∈ Pn, p.1 ≠ w := fun p hp e => by
  unfold valI at h
  rw [Option.map_eq_none_iff, List.find?_eq_none] at h
  exact h p hp (by simp [e])
theorem okPts_nodup : ∀ {l : List Pt} {Pn : List (Str × Int)}, okPts Pn l → (l.map (·.nm)).Nodup ∧ ∀ q ∈ l, ∀ p ∈ Pn, p.1 ≠ q.nm
  | [], _, _ => ⟨.nil, fun _ h => nomatch h⟩
  | q :: r, Pn, h => by
    simp only [okPts] at h
    obtain ⟨h1, h2⟩ := okPts_nodup h.2
    refine ⟨?_, fun x hx p hp => ?_⟩
    · rw [List.map_cons, List.nodup_cons]
      refine ⟨fun hm => ?_, h1⟩
      obtain ⟨x, hx, e⟩ := List.mem_map.mp hm
      exact h2 x hx (q.nm, q.ins.length) (by simp) e.symm
    · rcases List.mem_cons.mp hx with rfl | hx
      · exact valI_none h.1.new p hp
      · exact h2 x hx p (List.mem_append_left _ hp)
theorem merge_acc : ∀ (l acc : List (Key × A)), ((acc ++ l).map (·.1)).Nodup → mergeA acc l = acc ++ l
  | [], acc, _ => by simp [mergeA]
  | kv :: l, acc, h => by
    have hn : (acc.any fun x => decide (x.1 = kv.1)) = false := by
      refine Bool.eq_false_iff.mpr fun z => ?_
      obtain ⟨x, hx, e⟩ := List.any_eq_true.mp z
      rw [List.map_append, List.nodup_append] at h
      exact h.2.2 x.1 (List.mem_map.mpr ⟨x, hx, rfl⟩) kv.1 (by simp) (of_decide_eq_true e)
    have e : putA acc kv.1 kv.2 = acc ++ [kv] := by unfold putA; rw [hn, if_neg (by simp)]
    have ih := merge_acc l (acc ++ [kv]) (by simpa using h)
    unfold mergeA at ih ⊢
    rw [List.foldl_cons, e, ih]
    simp
theorem merge_nodup {l : List (Key × A)} (h : (l.map (·.1)).Nodup) : mergeA [] l = l := by simpa using merge_acc l [] (by simpa using h)
theorem merge_Tk {T : List Str} (h : T.Nodup) : mergeA [] (Tk T) = Tk T := by
  refine merge_nodup ?_
  rw [List.map_map]
  exact List.Pairwise.map _ (fun a b hab e => hab (Sum.inr.inj e)) h
/-! ### what a law draws by, with room and names -/
def moreL : Option (List Str) → List (Key × A)
  | none => []
  | some ns => [(.inr "names", .lst (ns.map A.str))]
/-- the numbers that are drawn by, the work that is left -/
structure Fs where
  l : List Int
  w : Wk
abbrev dicL (fs : Fs) (l : Addr) (at_ rm : Int) (mo : Option (List Str)) : List (Key × A) := [(.inr "cells", .lst (fs.l.map A.int)), (.inr "left", .loc l), (.inr "at", .int at_), (.inr "room", .int rm)] ++ wkL fs.w ++ moreL mo
theorem dicL_at {fs : Fs} {l : Addr} {at_ rm n : Int} {mo : Option (List Str)} : putA (dicL fs l at_ rm mo) (.inr "at") (.int n) = dicL fs l n rm mo := by cases mo <;> rfl
theorem dicL_room {fs : Fs} {l : Addr} {at_ rm n : Int} {mo : Option (List Str)} : putA (dicL fs l at_ rm mo) (.inr "room") (.int n) = dicL fs l at_ n mo := by cases mo <;> rfl
theorem dicL_names {fs : Fs} {l : Addr} {at_ rm : Int} {mo : Option (List Str)} {ns : List Str} : putA (dicL fs l at_ rm mo) (.inr "names") (.lst (ns.map A.str)) = dicL fs l at_ rm (some ns) := by cases mo <;> rfl
theorem dicL_len {fs : Fs} {l : Addr} {at_ rm : Int} {mo : Option (List Str)} : (dicL fs l at_ rm mo).length ≤ 6 := by cases mo <;> simp [dicL, moreL, wkL]
/-- the dict at m, its list at l; at most c draws so far; room, names -/
structure Lx (m l : Addr) (c : Nat) (rm : Int) (mo : Option (List Str)) (μ : Mu) : Prop where
  ex : ∃ (fs : Fs) (left : List Int) (at_ : Int), μ m = some (.dic (dicL fs l at_ rm mo)) ∧ μ l = some (.lst (left.map A.int)) ∧ G64 fs.l ∧ left.length ≤ 63 ∧ 0 ≤ at_ ∧ at_ ≤ c
  ne : l ≠ m
theorem Lx.up {m l : Addr} {c d : Nat} {rm : Int} {mo : Option (List Str)} {μ : Mu} (h : Lx m l c rm mo μ) (hd : c ≤ d) : Lx m l d rm mo μ := by
  obtain ⟨⟨fs, left, a, h1, h2, h3, h4, h5, h6⟩, h7⟩ := h
  exact ⟨⟨fs, left, a, h1, h2, h3, h4, h5, by omega⟩, h7⟩
theorem Lx.sub {m l : Addr} {c : Nat} {rm : Int} {mo : Option (List Str)} {μ μ' : Mu} (h : Lx m l c rm mo μ) (s : Sub μ μ') : Lx m l c rm mo μ' := by
  obtain ⟨⟨fs, left, a, h1, h2, h3⟩, h7⟩ := h
  exact ⟨⟨fs, left, a, s _ _ h1, s _ _ h2, h3⟩, h7⟩
theorem Lx.off {m l : Addr} {c : Nat} {rm : Int} {mo : Option (List Str)} {μ : Mu} (h : Lx m l c rm mo μ) {p : Addr} (n : μ p = none) : p ≠ m ∧ p ≠ l := by
  obtain ⟨⟨fs, left, a, h1, h2, h3⟩, h7⟩ := h
  exact ⟨fun z => by (rw [z, h1] at n; cases n), fun z => by (rw [z, h2] at n; cases n)⟩
theorem Lx.set {m l : Addr} {c : Nat} {rm rm' : Int} {mo mo' : Option (List Str)} {μ : Mu} {kvs : List (Key × A)} (h : Lx m l c rm mo μ) (e : ∀ fs at_, μ m = some (.dic (dicL fs l at_ rm mo)) → kvs = dicL fs l at_ rm' mo') : Lx m l c rm' mo' (μ.upd m (.dic kvs)) := by
  obtain ⟨⟨fs, left, a, h1, h2, h3⟩, h7⟩ := h
  exact ⟨⟨fs, left, a, by rw [Mu.upd_same, e fs a h1], by rw [Mu.upd_ne h7]; exact h2, h3⟩, h7⟩
end D

set_option exponentiation.threshold 256
set_option pp.maxSteps 5000
set_option Elab.async false
set_option linter.all false
set_option maxRecDepth 100000
set_option maxHeartbeats 4000000
/-! PN: the names that a law makes are unlike. -/
namespace D
open PySem PySem.Spec PyProof.Rows L2 TL
def lt (i : Int) : Nat := LETS.cps.toList.getD i.toNat 97
theorem lt_tab : ((List.range 26).all fun a => (List.range 26).all fun b => (lt a != lt b) || a == b) = true := by decide +kernel
theorem lt_inj {a b : Int} (ha : 0 ≤ a ∧ a < 26) (hb : 0 ≤ b ∧ b < 26) (h : lt a = lt b) : a = b := by
  have h1 := List.all_eq_true.mp (List.all_eq_true.mp lt_tab a.toNat (List.mem_range.mpr (by omega))) b.toNat (List.mem_range.mpr (by omega))
  rw [Int.toNat_of_nonneg ha.1, Int.toNat_of_nonneg hb.1, h] at h1
  simp at h1
  omega
theorem tl_ltr (i : Int) : tl (ltr i) = [lt i] := rfl
def baseW (start : Int) : Str := Txt.join "" ((List.range 8).map fun (j : Nat) => ltr ((start + 5 * (0 + (j : Int))) % 26))
def baseL (start : Int) : List Nat := (List.range 8).map fun (j : Nat) => lt ((start + 5 * (0 + (j : Int))) % 26)
theorem joinL_nil : ∀ l : List (List Nat), joinL [] l = l.flatten
  | [] => rfl
  | [p] => by simp [joinL]
  | p :: q :: r => by simp only [joinL, List.nil_append, joinL_nil (q :: r), List.flatten_cons]
theorem tl_base (start : Int) : tl (baseW start) = baseL start := by
  unfold baseW baseL
  rw [join_eq, tl_join, show tl ("" : Str) = [] by decide, joinL_nil, List.map_map]
  rw [show (tl ∘ fun (j : Nat) => ltr ((start + 5 * (0 + (j : Int))) % 26)) = fun (j : Nat) => [lt ((start + 5 * (0 + (j : Int))) % 26)] from rfl]
  generalize List.range 8 = l
  induction l with
  | nil => rfl
  | cons x l ih => simp only [List.map_cons, List.flatten_cons, ih]; rfl
theorem base_len (start : Int) : (baseL start).length = 8 := by simp [baseL]
theorem base_at {start : Int} {q v : Nat} (h : (baseL start)[q]? = some v) : q < 8 ∧ v = lt ((start + 5 * (q : Int)) % 26) := by
  have hq : q < 8 := by have := (List.getElem?_eq_some_iff.mp h).1; rwa [base_len] at this
  unfold baseL at h
  rw [List.getElem?_map, List.getElem?_range hq] at h
  refine ⟨hq, ?_⟩
  have := Option.some.inj h
  rw [← this]; simp only [Int.zero_add]
theorem base_two {start : Int} {q r v : Nat} (h1 : (baseL start)[q]? = some v) (h2 : (baseL start)[r]? = some v) : q = r := by
  obtain ⟨a1, a2⟩ := base_at h1
  obtain ⟨b1, b2⟩ := base_at h2
  have := lt_inj (by omega) (by omega) (a2.symm.trans b2)
  omega
theorem tl_cut0 (w : Str) {i : Int} (h : 0 ≤ i) : tl (cutS w none (some i)) = (tl w).take i.toNat := by
  unfold cutS HT.sIx
  simp only [show ¬ (i < 0) by omega, if_false]
  rw [tl_mk, show w.cps.toList = tl w from rfl, len_tl, List.drop_zero, Nat.sub_zero]
  by_cases hh : i.toNat ≤ (tl w).length
  · rw [Nat.min_eq_left hh]
  · rw [Nat.min_eq_right (by omega), List.take_length, List.take_of_length_le (by omega)]
theorem tl_cut2 (w : Str) {i j : Int} (h : 0 ≤ i) (hj : i ≤ j) (hl : j.toNat ≤ (tl w).length) : tl (cutS w (some i) (some j)) = ((tl w).drop i.toNat).take (j.toNat - i.toNat) := by
  unfold cutS HT.sIx
  simp only [show ¬ (i < 0) by omega, show ¬ (j < 0) by omega, if_false]
  rw [tl_mk, show w.cps.toList = tl w from rfl, len_tl, Nat.min_eq_left (by omega), Nat.min_eq_left (by omega)]
def nmW (start way size at_ stride : Int) (base : Str) (k : Nat) : Str :=
  if way = 3 then ltr ((start + stride * (0 + (k : Int))) % 26) ++ cutS base none (some ((0 + (k : Int)) * stride % 8))
  else cutS base none (some at_) ++ ltr ((start + stride * (0 + (k : Int))) % 26) ++ cutS base (some (at_ + 1)) (some size)
structure NmP (start size at_ stride : Int) : Prop where
  s0 : 0 ≤ start
  a0 : 0 ≤ at_
  a1 : at_ < size
  z : size ≤ 7
  st : stride = 1 ∨ stride = 3 ∨ stride = 7 ∨ stride = 11 ∨ stride = 17 ∨ stride = 25
section
variable {start way size at_ stride : Int} {i j : Nat}
theorem mark_inj (h : NmP start size at_ stride) (hi : i < 12) (hj : j < 12) (e : lt ((start + stride * (0 + (i : Int))) % 26) = lt ((start + stride * (0 + (j : Int))) % 26)) : i = j := by
  have e2 := lt_inj ⟨Int.emod_nonneg _ (by decide), Int.emod_lt_of_pos _ (by decide)⟩ ⟨Int.emod_nonneg _ (by decide), Int.emod_lt_of_pos _ (by decide)⟩ e
  rcases h.st with rfl | rfl | rfl | rfl | rfl | rfl <;> omega
theorem tl_way3 (h : NmP start size at_ stride) : tl (nmW start 3 size at_ stride (baseW start) i) = lt ((start + stride * (0 + (i : Int))) % 26) :: (baseL start).take ((0 + (i : Int)) * stride % 8).toNat := by
  unfold nmW
  rw [if_pos rfl, tl_append, tl_ltr, tl_cut0 _ (Int.emod_nonneg _ (by decide)), tl_base]
  rfl
theorem tl_else (h : NmP start size at_ stride) (hw : way ≠ 3) : tl (nmW start way size at_ stride (baseW start) i) = (baseL start).take at_.toNat ++ lt ((start + stride * (0 + (i : Int))) % 26) :: ((baseL start).drop (at_.toNat + 1)).take (size.toNat - (at_.toNat + 1)) := by
  have h1 := h.a0
  have h2 := h.a1
  have h3 := h.z
  unfold nmW
  rw [if_neg hw, tl_append, tl_append, tl_ltr, tl_cut0 _ h1, tl_cut2 _ (by omega) (by omega) (by rw [tl_base, base_len]; omega), tl_base, List.append_assoc, show (at_ + 1).toNat = at_.toNat + 1 by omega]
  rfl
theorem else_at (h : NmP start size at_ stride) (hw : way ≠ 3) : (tl (nmW start way size at_ stride (baseW start) i))[at_.toNat]? = some (lt ((start + stride * (0 + (i : Int))) % 26)) := by
  have h1 := h.a0
  have h2 := h.a1
  have h3 := h.z
  rw [tl_else h hw]
  have e : ((baseL start).take at_.toNat).length = at_.toNat := by rw [List.length_take, base_len]; omega
  rw [List.getElem?_append_right (by omega), e, Nat.sub_self]; rfl
theorem else_off (h : NmP start size at_ stride) (hw : way ≠ 3) {q v : Nat} (hq : q ≠ at_.toNat) (e : (tl (nmW start way size at_ stride (baseW start) i))[q]? = some v) : (baseL start)[q]? = some v := by
  have h1 := h.a0
  have h2 := h.a1
  have h3 := h.z
  rw [tl_else h hw] at e
  have el : ((baseL start).take at_.toNat).length = at_.toNat := by rw [List.length_take, base_len]; omega
  by_cases hlt : q < at_.toNat
  · rw [List.getElem?_append_left (by omega), List.getElem?_take, if_pos hlt] at e
    exact e
  · rw [List.getElem?_append_right (by omega), el, show q - at_.toNat = (q - at_.toNat - 1) + 1 by omega, List.getElem?_cons_succ, List.getElem?_take] at e
    split at e
    · rw [List.getElem?_drop, show at_.toNat + 1 + (q - at_.toNat - 1) = q by omega] at e
      exact e
    · cases e
theorem else_same (h : NmP start size at_ stride) (hw : way ≠ 3) {q : Nat} (hq : q ≠ at_.toNat) : (tl (nmW start way size at_ stride (baseW start) i))[q]? = (tl (nmW start way size at_ stride (baseW start) j))[q]? := by
  have h1 := h.a0
  have h2 := h.a1
  have h3 := h.z
  rw [tl_else h hw, tl_else h hw]
  have el : ((baseL start).take at_.toNat).length = at_.toNat := by rw [List.length_take, base_len]; omega
  by_cases hlt : q < at_.toNat
  · rw [List.getElem?_append_left (by omega), List.getElem?_append_left (by omega)]
  · rw [List.getElem?_append_right (by omega), List.getElem?_append_right (by omega), el, show q - at_.toNat = (q - at_.toNat - 1) + 1 by omega, List.getElem?_cons_succ, List.getElem?_cons_succ]
theorem else_len (h : NmP start size at_ stride) (hw : way ≠ 3) : (tl (nmW start way size at_ stride (baseW start) i)).length = (tl (nmW start way size at_ stride (baseW start) j)).length := by
  rw [tl_else h hw, tl_else h hw]; simp
theorem nm_inj (h : NmP start size at_ stride) (hi : i < 12) (hj : j < 12) (e : nmW start way size at_ stride (baseW start) i = nmW start way size at_ stride (baseW start) j) : i = j := by
  by_cases hw : way = 3
  · subst hw
    have e2 := congrArg tl e
    rw [tl_way3 h, tl_way3 h] at e2
    exact mark_inj h hi hj (List.cons.inj e2).1
  · have e2 := congrArg (fun w => (tl w)[at_.toNat]?) e
    rw [else_at h hw, else_at h hw] at e2
    exact mark_inj h hi hj (Option.some.inj e2)
theorem barsFar : (BARS.all fun a => BARS.all fun b => decide (a = b) || (List.range 7).all fun p => !((tl a).length == (tl b).length && ((List.range 8).all fun q => q == p + 1 || (tl a)[q]? == (tl b)[q]?))) = true := by decide +kernel
theorem in_bars {w : Str} (h : inA (.str w) (BARS.map A.str) = true) : w ∈ BARS := by
  unfold inA at h
  rw [List.any_map] at h
  obtain ⟨y, hy, e⟩ := List.any_eq_true.mp h
  have e2 : y = w := by simpa [eqA] using e
  exact e2 ▸ hy
theorem tl_fix {w : Str} : tl ("zz" ++ cutS w none (some 1) ++ "z") = [122, 122] ++ (tl w).take 1 ++ [122] := by
  rw [tl_append, tl_append, tl_cut0 _ (by decide)]
  rw [show tl ("zz" : Str) = [122, 122] by decide, show tl ("z" : Str) = [122] by decide]
  rfl
/-- no name of the law's begins by zz, one letter, z -/
theorem noZ (h : NmP start size at_ stride) {x : Nat} : tl (nmW start way size at_ stride (baseW start) i) ≠ [122, 122, x, 122] := by
  intro e
  by_cases hw : way = 3
  · subst hw
    rw [tl_way3 h] at e
    have e2 := (List.cons.inj e).2
    have f1 : (baseL start)[0]? = some 122 := by
      have := congrArg (fun l => l[0]?) e2
      simp only [List.getElem?_take] at this
      split at this
      · exact this
      · cases this
    have f2 : (baseL start)[2]? = some 122 := by
      have := congrArg (fun l => l[2]?) e2
      simp only [List.getElem?_take] at this
      split at this
      · exact this
      · cases this
    exact absurd (base_two f1 f2) (by decide)
  · have g : ∀ q : Nat, q ≠ at_.toNat → ([122, 122, x, 122] : List Nat)[q]? = some 122 → (baseL start)[q]? = some 122 := fun q hq e2 => else_off (i := i) h hw hq (by rw [e]; exact e2)
    by_cases h0 : at_.toNat = 0
    · exact absurd (base_two (g 1 (by omega) rfl) (g 3 (by omega) rfl)) (by decide)
    · by_cases h1 : at_.toNat = 1
      · exact absurd (base_two (g 0 (by omega) rfl) (g 3 (by omega) rfl)) (by decide)
      · exact absurd (base_two (g 0 (by omega) rfl) (g 1 (by omega) rfl)) (by decide)
theorem take1 {l : List Nat} (h : l ≠ []) : ∃ x, l.take 1 = [x] ∧ l[0]? = some x := by
  cases l with
  | nil => exact absurd rfl h
  | cons x l => exact ⟨x, rfl, rfl⟩
theorem nm_ne (h : NmP start size at_ stride) : tl (nmW start way size at_ stride (baseW start) i) ≠ [] := by
  by_cases hw : way = 3
  · subst hw; rw [tl_way3 h]; simp
  · rw [tl_else h hw]; simp
theorem fix_inj (h : NmP start size at_ stride) (hi : i < 12) (hj : j < 12) (e : fixN (nmW start way size at_ stride (baseW start) i) = fixN (nmW start way size at_ stride (baseW start) j)) : i = j := by
  obtain ⟨x, x1, x2⟩ := take1 (nm_ne (way := way) (i := i) h)
  obtain ⟨y, y1, y2⟩ := take1 (nm_ne (way := way) (i := j) h)
  unfold fixN at e
  split at e
  · rename_i bi
    have e1 := congrArg tl e
    rw [tl_fix, x1] at e1
    split at e
    · rename_i bj
      rw [if_pos bj, tl_fix, y1] at e1
      have exy : x = y := by simpa using e1
      subst exy
      by_cases hw : way = 3
      · subst hw
        rw [tl_way3 h] at x2 y2
        simp only [List.getElem?_cons_zero, Option.some.injEq] at x2 y2
        exact mark_inj h hi hj (x2.trans y2.symm)
      · by_cases h0 : at_.toNat = 0
        · have a1 := else_at (i := i) h hw
          have a2 := else_at (i := j) h hw
          rw [h0] at a1 a2
          exact mark_inj h hi hj (Option.some.inj (a1.symm.trans (x2.trans (y2.symm.trans a2))))
        · have hz := h.z
          have ha1 := h.a1
          have ha0 := h.a0
          have far := List.all_eq_true.mp (List.all_eq_true.mp barsFar _ (in_bars bi)) _ (in_bars bj)
          simp only [Bool.or_eq_true, decide_eq_true_eq] at far
          rcases far with far | far
          · exact nm_inj h hi hj far
          · have f2 := List.all_eq_true.mp far (at_.toNat - 1) (List.mem_range.mpr (by omega))
            rw [else_len (i := i) (j := j) h hw] at f2
            simp only [beq_self_eq_true, Bool.true_and, Bool.not_eq_true'] at f2
            have f3 : ((List.range 8).all fun q => q == at_.toNat - 1 + 1 || (tl (nmW start way size at_ stride (baseW start) i))[q]? == (tl (nmW start way size at_ stride (baseW start) j))[q]?) = true := by
              refine List.all_eq_true.mpr fun q _ => ?_
              by_cases hq : q = at_.toNat
              · have : (q == at_.toNat - 1 + 1) = true := by rw [beq_iff_eq]; omega
                rw [this]; rfl
              · rw [else_same (i := i) (j := j) h hw hq]; simp
            rw [f3] at f2; cases f2
    · rename_i bj
      rw [if_neg bj] at e1
      exact absurd e1.symm (noZ h)
  · rename_i bi
    split at e
    · have e1 := congrArg tl e
      rename_i bj
      rw [tl_fix, y1] at e1
      exact absurd e1 (noZ h)
    · exact nm_inj h hi hj e
theorem names_unlike (h : NmP start size at_ stride) {many : Nat} (hm : many ≤ 12) : (((List.range many).map (nmW start way size at_ stride (baseW start))).map fixN).Nodup := by
  rw [List.map_map]
  exact List.Pairwise.map (R := fun a b => a < many ∧ b < many ∧ a < b) _ (fun a b ⟨ha, hb, hab⟩ e => by
    have := fix_inj (way := way) h (i := a) (j := b) (by omega) (by omega) e
    omega) (List.Pairwise.imp_of_mem (fun ha hb hab => ⟨List.mem_range.mp ha, List.mem_range.mp hb, hab⟩) List.pairwise_lt_range)
end
end D

set_option exponentiation.threshold 256
set_option pp.maxSteps 5000
set_option Elab.async false
set_option linter.all false
set_option maxRecDepth 100000
set_option maxHeartbeats 4000000
set_option exponentiation.threshold 20000
/-! P63: lists of fractions as data. -/
namespace D
open PySem PySem.Spec PyProof.Rows L2
def rl (xs : List Rat) : List A := xs.map ra
theorem rl_len {xs : List Rat} : (rl xs).length = xs.length := List.length_map ..
theorem rl_ix {xs : List Rat} {z : Int} {k : Nat} (hz : z = k) (hk : k < xs.length) : atI (rl xs) z = some (ra (ap xs k)) := by
  refine atI_pos ?_ (by omega)
  have e : z.toNat = k := by omega
  rw [e]
  unfold rl
  rw [List.getElem?_map, ap_some hk]; rfl
theorem rl_get {xs : List Rat} {i : Nat} {y : A} (h : (rl xs)[i]? = some y) : i < xs.length ∧ y = ra (ap xs i) := by
  obtain ⟨x, hx, rfl⟩ := map_at h
  exact ⟨(List.getElem?_eq_some_iff.mp hx).1, by rw [ap_of hx]⟩
theorem QB.bn {x : Rat} (h : QB x) : Bd 13000 x.num := h.n
theorem QB.bd {x : Rat} (h : QB x) : Bd 4490 (x.den : Int) := by unfold Bd; rw [Int.natAbs_natCast]; exact h.d
theorem mulOkB {n m : Nat} {i j : Int} (hi : Bd n i) (hj : Bd m j) (hn : n ≤ 13000) (hm : m ≤ 13000) : IntMulOk i j := (hi.mono hn).mulOk (hj.mono hm) (by decide)
theorem QB.neg {x : Rat} (h : QB x) : QB (-x) := ⟨by rw [Rat.neg_den]; exact h.d, by rw [Rat.neg_num, Int.natAbs_neg]; exact h.n⟩
theorem den_bd {x y : Rat} (h : QB x) (g : QB y) : Bd 8990 ((x.den : Int) * y.den) := (h.bd.mul g.bd).mono (by decide)
theorem sub_sum0 {a : Rat} {f : Nat → Rat} : a - sumTo f 0 = a := by show a - 0 = a; grind
theorem sub_sum {a : Rat} {f : Nat → Rat} {j : Nat} : a - sumTo f (j + 1) = a - sumTo f j - f j := by show a - (sumTo f j + f j) = _; grind
def plusL (xs ys : List Rat) : List Rat := (xs.zip ys).map fun p => p.1 + p.2
def lessL (xs ys : List Rat) : List Rat := (xs.zip ys).map fun p => p.1 - p.2
theorem zip_rl {xs ys : List Rat} : zipA (rl xs) (rl ys) = (xs.zip ys).map (fun p => A.tup [ra p.1, ra p.2]) := zipA_map ra ra xs ys
theorem zip_at {xs ys : List Rat} {i : Nat} {p : Rat × Rat} (h : (xs.zip ys)[i]? = some p) : p.1 = ap xs i ∧ p.2 = ap ys i := by
  obtain ⟨a, b⟩ := p
  have := List.getElem?_zip_eq_some.mp h
  exact ⟨(ap_of this.1).symm, (ap_of this.2).symm⟩
theorem take_mul {xs ys : List Rat} {i : Nat} (h : i < xs.length) : rl ((mulC xs ys).take i) ++ [ra (sumTo (fun k => ap xs k * ap ys (i - k)) (i + 1))] = rl ((mulC xs ys).take (i + 1)) := by
  rw [List.take_add_one, ap_some (xs := mulC xs ys) (by rw [mulC_len]; exact h), ap_mulC h]
  unfold rl
  rw [List.map_append]; rfl
theorem take_all {xs ys : List Rat} : (mulC xs ys).take xs.length = mulC xs ys := List.take_of_length_le (by rw [mulC_len]; exact Nat.le_refl _)
theorem rl_go {xs ys : List Rat} {z : Int} {j i : Nat} (hz : z = j) (hj : j < i) : atI (rl (divGo xs ys i)) z = some (ra (qc xs ys j)) := by
  rw [rl_ix hz (by rw [divGo_len]; exact hj), qc_at hj]
theorem go_snoc {xs ys : List Rat} {i : Nat} : rl (divGo xs ys i) ++ [ra ((ap xs i - sumTo (fun k => qc xs ys k * ap ys (i - k)) i) / ap ys 0)] = rl (divGo xs ys (i + 1)) := by
  rw [divGo_snoc, ← qc_eq]
  unfold rl
  rw [List.map_append]; rfl
theorem one_rep {n : Nat} : ([A.tup [.int 1, .int 1]] ++ (List.replicate ((n : Int) - 1).toNat [A.tup [.int 0, .int 1]]).flatten) = rl (oneL n) := by
  have e : ((n : Int) - 1).toNat = n - 1 := by omega
  rw [e]
  unfold rl oneL
  rw [List.map_cons, List.map_replicate]
  have f : ∀ k : Nat, (List.replicate k [A.tup [.int 0, .int 1]]).flatten = List.replicate k (ra 0) := by
    intro k
    induction k with
    | zero => rfl
    | succ k ih => rw [List.replicate_succ, List.flatten_cons, ih, List.replicate_succ]; rfl
  rw [f]; rfl
def prods (f : Nat → Rat) (n : Nat) : List Rat := (List.range n).map f
theorem prods_len {f : Nat → Rat} {n : Nat} : (prods f n).length = n := by simp [prods]
theorem ap_prods {f : Nat → Rat} {n k : Nat} (h : k < n) : ap (prods f n) k = f k := ap_of (by unfold prods; rw [List.getElem?_map, List.getElem?_range h]; rfl)
theorem sum_prods {f : Nat → Rat} {n m : Nat} (h : m ≤ n) : sumTo (ap (prods f n)) m = sumTo f m := sumTo_congr fun i hi => ap_prods (by omega)
theorem qb_prods {f : Nat → Rat} {n : Nat} (h : ∀ k, k < n → QB (f k)) (i : Nat) : QB (ap (prods f n) i) := by
  by_cases hi : i < n
  · rw [ap_prods hi]; exact h i hi
  · rw [ap_out (by rw [prods_len]; omega)]; exact qb_zero
theorem powZ_neg {xs : List Rat} {k : Int} (h : k < 0) : powZ xs k = divC (oneL xs.length) (powL xs k.natAbs) := if_pos h
theorem powZ_pos {xs : List Rat} {k : Int} (h : ¬ k < 0) : powZ xs k = powL xs k.natAbs := if_neg h
theorem fr_in {n d : Int} (f : Fr n d) (h1 : n.natAbs ≤ 10 ^ 20) (h2 : d ≤ 9) : ∃ x : Rat, A.tup [.int n, .int d] = ra x ∧ ∃ X : Int, IsF x X 2520 ∧ X.natAbs ≤ 2 ^ 78 := by
  obtain ⟨e, e1, e2⟩ := fr_ra f
  have hp := f.pos
  have dv : ∀ k, k < 10 → 1 ≤ k → k ∣ 2520 := by decide
  obtain ⟨X, x1, x2⟩ := by2520 (x := Rat.divInt n d) (n := 10 ^ 20) (d := d.toNat) (by omega) (dv _ (by omega) (by omega)) (by rw [e1]; exact h1)
  exact ⟨_, e, X, x1, Nat.le_trans x2 (by decide +kernel)⟩
theorem in2_of {zs : List Rat} (h0 : zs ≠ []) (h13 : zs.length ≤ 13) (h : ∀ x ∈ zs, ∃ X : Int, IsF x X 2520 ∧ X.natAbs ≤ 2 ^ 78) : In2 zs := ⟨h0, h13, .mk' (by decide) fun i hi => by
  obtain ⟨X, x1, x2⟩ := h (ap zs i) (List.mem_of_getElem? (ap_some hi))
  exact ⟨X, x1, x2, fun _ => x2⟩⟩
theorem lsN {m l p : Addr} {μ μ' : Mu} {o : MO} (a : Ls m l μ μ') (np : μ' p = none) : Ls m l μ (μ'.upd p o) := fun q o2 h1 h2 h => by
  have h3 := a q o2 h1 h2 h
  rw [Mu.upd_ne (fun z => by rw [z, np] at h3; cases h3)]
  exact h3
theorem lxN {m l p : Addr} {c : Nat} {rm : Int} {mo : Option (List Str)} {μ : Mu} {o : MO} (h : Lx m l c rm mo μ) (np : μ p = none) : Lx m l c rm mo (μ.upd p o) := by
  have ho := h.off np
  obtain ⟨⟨fs, left, a, h1, h2, h3⟩, h7⟩ := h
  exact ⟨⟨fs, left, a, by rw [Mu.upd_ne (Ne.symm ho.1)]; exact h1, by rw [Mu.upd_ne (Ne.symm ho.2)]; exact h2, h3⟩, h7⟩
theorem lsNone {m l p : Addr} {μ μ' : Mu} (a : Ls m l μ μ') (np : μ' p = none) (h1 : p ≠ m) (h2 : p ≠ l) : μ p = none := by
  cases e : μ p with
  | none => rfl
  | some o => rw [a p o h1 h2 e] at np; cases np
theorem rl_snoc {xs : List Rat} {x : Rat} : rl xs ++ [ra x] = rl (xs ++ [x]) := by unfold rl; rw [List.map_append]; rfl
theorem atI_ex {xs : List D.A} {i : Int} (h0 : 0 ≤ i) (h1 : i < xs.length) : ∃ y ∈ xs, atI xs i = some y := by
  have h : i.toNat < xs.length := by omega
  exact ⟨xs[i.toNat], List.getElem_mem h, atI_pos (List.getElem?_eq_getElem h) h0⟩
end D

set_option exponentiation.threshold 256
set_option pp.maxSteps 5000
set_option Elab.async false
set_option linter.all false
set_option maxRecDepth 100000
set_option maxHeartbeats 4000000
set_option exponentiation.threshold 20000
/-! P64: what is due; shown; compared. -/
namespace D
open PySem PySem.Spec PyProof.Rows L2
/-- why a list's powers stay in bounds -/
def PowR (ys : List Rat) (k : Int) : Prop := ys.length ≤ 4 ∨ k.natAbs ≤ 3 ∨ ∃ X : Int, IsF (ap ys 0) X 2520 ∧ X.natAbs ≤ 2 ^ 32
structure Rt (xs ys : List Rat) (k : Int) : Prop where
  a : In2 xs
  b : In2 ys
  len : xs.length = ys.length
  nz : ap ys 0 ≠ 0
  k8 : k.natAbs ≤ 8
  r : PowR ys k
theorem Rt.pow {xs ys : List Rat} {k : Int} (h : Rt xs ys k) : PowB ys k := by
  rcases h.r with r | r | r
  · exact h.b.powS r h.k8 h.nz
  · exact h.b.pow3 r h.nz
  · exact h.b.powG h.k8 h.nz r
theorem Rt.self {xs ys : List Rat} {k : Int} (h : Rt xs ys k) : Rt ys ys k := ⟨h.b, h.b, rfl, h.nz, h.k8, h.r⟩
theorem Rt.take {xs ys : List Rat} {k : Int} (h : Rt xs ys k) {m : Nat} (hm : 0 < m) : Rt (xs.take m) (ys.take m) k := ⟨h.a.take hm, h.b.take hm, by rw [List.length_take, List.length_take, h.len], by rw [ap_take hm]; exact h.nz, h.k8, by
  rcases h.r with r | r | r
  · exact .inl (by rw [List.length_take]; omega)
  · exact .inr (.inl r)
  · exact .inr (.inr (by rw [ap_take hm]; exact r))⟩
def dueL (xs ys : List Rat) (k : Int) : List (List Rat) := [plusL xs ys, lessL xs ys, mulC xs ys, divC xs ys, powZ ys k]
theorem zip_take {xs ys : List Rat} {m : Nat} : (xs.take m).zip (ys.take m) = (xs.zip ys).take m := by
  rw [List.zip_eq_zipWith, List.zip_eq_zipWith, List.take_zipWith]
theorem dueL_take {xs ys : List Rat} {k : Int} {m : Nat} (h : ys ≠ []) (hm : 0 < m) : dueL (xs.take m) (ys.take m) k = (dueL xs ys k).map (fun zs => zs.take m) := by
  unfold dueL
  simp only [List.map_cons, List.map_nil]
  rw [mulC_take, divC_take, powZ_take h hm]
  unfold plusL lessL
  rw [zip_take, List.map_take, List.map_take]
/-- at most thirteen entries in bounds -/
def Sm (zs : List Rat) : Prop := zs.length ≤ 13 ∧ ∀ i, QB (ap zs i)
theorem sm_of {zs : List Rat} (h : zs.length ≤ 13) (q : ∀ i, i < zs.length → QB (ap zs i)) : Sm zs := ⟨h, fun i => by
  by_cases hi : i < zs.length
  · exact q i hi
  · rw [ap_out (by omega)]; exact qb_zero⟩
theorem qb_one : QB 1 := ⟨Nat.lt_of_le_of_lt (show (1 : Rat).den ≤ 1 by decide) (Nat.one_lt_two_pow (by decide)), Nat.lt_of_le_of_lt (show (1 : Rat).num.natAbs ≤ 1 by decide) (Nat.one_lt_two_pow (by decide))⟩
theorem sm_one {n : Nat} (h : n ≤ 13) (h0 : 0 < n) : Sm (oneL n) := sm_of (by rw [oneL_len h0]; exact h) fun i hi => by
  cases i with
  | zero => exact qb_one
  | succ i =>
    have e : ap (oneL n) (i + 1) = 0 := by
      unfold ap oneL
      rw [List.getD_eq_getElem?_getD, List.getElem?_cons_succ, List.getElem?_replicate]
      split <;> rfl
    rw [e]; exact qb_zero
theorem MulB.sm {xs ys : List Rat} (h : MulB xs ys) : Sm (mulC xs ys) := sm_of (by rw [mulC_len]; exact h.l13) fun i hi => by
  rw [mulC_len] at hi
  rw [ap_mulC hi]; exact h.s i (i + 1) hi (Nat.le_refl _)
theorem DivB.sm {xs ys : List Rat} (h : DivB xs ys) : Sm (divC xs ys) := sm_of (by rw [divC_len]; exact h.l13) fun i hi => by
  rw [divC_len] at hi
  rw [qc_div hi]; exact h.q i hi
theorem PowB.sm {xs : List Rat} {k : Int} (h : PowB xs k) : Sm (powZ xs k) := by
  by_cases hk : k < 0
  · rw [powZ_neg hk]; exact (h.d hk).sm
  · rw [powZ_pos hk]
    cases e : k.natAbs with
    | zero => exact sm_one h.l13 (List.length_pos_iff.mpr h.hx)
    | succ p => exact (h.m p (by omega)).sm
theorem In2.qb {xs : List Rat} (h : In2 xs) (i : Nat) : QB (ap xs i) := by
  obtain ⟨X, x1, x2, _⟩ := h.sc.at_ i
  exact x1.qb (Nat.lt_of_le_of_lt x2 (by decide +kernel)) (by decide +kernel)
theorem In2.sm {xs : List Rat} (h : In2 xs) : Sm xs := ⟨h.l13, h.qb⟩
theorem zipL_at {xs ys : List Rat} {f : Rat × Rat → Rat} {i : Nat} (hi : i < ((xs.zip ys).map f).length) : ap ((xs.zip ys).map f) i = f (ap xs i, ap ys i) := by
  rw [List.length_map] at hi
  refine ap_of ?_
  rw [List.getElem?_map, List.getElem?_eq_getElem hi]
  have := zip_at (List.getElem?_eq_getElem hi)
  rw [← this.1, ← this.2]; rfl
theorem Rt.due {xs ys : List Rat} {k : Int} (h : Rt xs ys k) : ∀ zs ∈ dueL xs ys k, Sm zs := by
  intro zs hz
  have h13 := h.a.l13
  simp only [dueL, List.mem_cons, List.not_mem_nil, or_false] at hz
  rcases hz with rfl | rfl | rfl | rfl | rfl
  · refine sm_of (by unfold plusL; rw [List.length_map, List.length_zip]; omega) fun i hi => ?_
    unfold plusL at hi ⊢
    rw [zipL_at hi]
    obtain ⟨X, x1, x2, _⟩ := h.a.sc.at_ i
    obtain ⟨Y, y1, y2, _⟩ := h.b.sc.at_ i
    exact (x1.add y1).qb (Nat.lt_of_le_of_lt (Nat.le_trans (Int.natAbs_add_le _ _) (Nat.add_le_add x2 y2)) (by decide +kernel)) (by decide +kernel)
  · refine sm_of (by unfold lessL; rw [List.length_map, List.length_zip]; omega) fun i hi => ?_
    unfold lessL at hi ⊢
    rw [zipL_at hi]
    obtain ⟨X, x1, x2, _⟩ := h.a.sc.at_ i
    obtain ⟨Y, y1, y2, _⟩ := h.b.sc.at_ i
    exact (x1.sub y1).qb (Nat.lt_of_le_of_lt (Nat.le_trans (Int.natAbs_sub_le _ _) (Nat.add_le_add x2 y2)) (by decide +kernel)) (by decide +kernel)
  · exact (h.a.mul h.b h.len).sm
  · exact (h.a.div h.b h.len h.nz).sm
  · exact h.pow.sm
def rls (zss : List (List Rat)) : List A := zss.map fun zs => A.lst (rl zs)
theorem eqvRl : ∀ zs : List Rat, PyData.eqvAll (toDs (rl zs)) (toDs (rl zs)) = true
  | [] => by simp [rl, toDs, PyData.eqvAll]
  | x :: l => by
    have ih := eqvRl l
    unfold rl at ih ⊢
    simp only [List.map_cons, ra, toDs, toD, PyData.eqvAll, PyData.eqv, ih]; simp
theorem eqvRls : ∀ zss : List (List Rat), PyData.eqvAll (toDs (rls zss)) (toDs (rls zss)) = true
  | [] => by simp [rls, toDs, PyData.eqvAll]
  | x :: l => by
    have ih := eqvRls l
    unfold rls at ih ⊢
    simp only [List.map_cons, toDs, toD, PyData.eqvAll, PyData.eqv, ih, eqvRl]; simp
theorem isRa (x : Rat) : isD (ra x) = true := by simp only [ra, isD, isDs, Bool.and_self]
theorem deepRa (x : Rat) : deep (ra x) ≤ 1 := by simp [ra, deep, deeps]
theorem datRl (zs : List Rat) : DatOk (.lst (rl zs)) := by
  refine ⟨by simp only [isD]; exact isDs_map isRa zs, ?_⟩
  have : deeps (rl zs) ≤ 1 := deeps_le fun a ha => by
    obtain ⟨n, _, rfl⟩ := List.mem_map.mp ha
    exact deepRa n
  simp only [deep]; omega
theorem datRls (zss : List (List Rat)) : DatOk (.lst (rls zss)) := by
  refine ⟨by simp only [isD]; exact isDs_map (fun zs => (datRl zs).1) zss, ?_⟩
  have : deeps (rls zss) ≤ 2 := deeps_le fun a ha => by
    obtain ⟨n, _, rfl⟩ := List.mem_map.mp ha
    have h1 : deeps (rl n) ≤ 1 := deeps_le fun a ha => by
      obtain ⟨n, _, rfl⟩ := List.mem_map.mp ha
      exact deepRa n
    simp only [deep]; omega
  simp only [deep]; omega
/-! ### shown -/
theorem showns_eq : ∀ xs : List A, PyData.shownAll (toDs xs) = xs.map fun x => (toD x).shown
  | [] => by simp [toDs, PyData.shownAll]
  | x :: xs => by simp only [toDs, PyData.shownAll, List.map_cons, showns_eq xs]
theorem sumLe {n : Nat} : ∀ ts : List Str, (∀ t ∈ ts, t.length ≤ n) → (ts.map (·.length)).sum + 2 * ts.length ≤ (n + 2) * ts.length
  | [], _ => by simp
  | t :: ts, h => by
    have h1 := h t List.mem_cons_self
    have h2 := sumLe ts fun t ht => h t (List.mem_cons_of_mem _ ht)
    simp only [List.map_cons, List.sum_cons, List.length_cons, Nat.mul_add, Nat.mul_one]
    omega
theorem intText_le {i : Int} (h : i.natAbs < 10 ^ 4300) : (Str.ofString (toString i)).length ≤ 4301 := by
  rw [PySem.ofString_length]
  exact int_text_length_le10 (k := 4300) (by decide) h
theorem QB.ni {x : Rat} (h : QB x) : x.num.natAbs < 10 ^ 4300 := Nat.lt_trans h.n (by decide +kernel)
theorem QB.di {x : Rat} (h : QB x) : ((x.den : Nat) : Int).natAbs < 10 ^ 4300 := by rw [Int.natAbs_natCast]; exact Nat.lt_trans h.d (by decide +kernel)
theorem shown_ra {x : Rat} (h : QB x) : (toD (ra x)).shown.length ≤ 8700 := by
  simp only [ra, toD, toDs, PyData.shown, PyData.shownAll]
  have h1 := tupleText_len_le [Str.ofString (toString x.num), Str.ofString (toString ((x.den : Nat) : Int))]
  have h2 := intText_le h.ni
  have h3 := intText_le h.di
  simp only [List.map_cons, List.map_nil, List.sum_cons, List.sum_nil, List.length_cons, List.length_nil] at h1
  omega
theorem wsh_ra {x : Rat} (h : QB x) : wsh (toD (ra x)) = true := by
  simp only [ra, toD, toDs, wsh, wshs, fig, decide_eq_true h.ni, decide_eq_true h.di, Bool.and_self]
theorem Sm.mem {zs : List Rat} (h : Sm zs) {x : Rat} (hx : x ∈ zs) : QB x := by
  obtain ⟨i, hi, rfl⟩ := List.getElem_of_mem hx
  have := h.2 i
  rwa [ap_of (List.getElem?_eq_getElem hi)] at this
theorem shown_rl {zs : List Rat} (h : Sm zs) : (toD (.lst (rl zs))).shown.length ≤ 114000 := by
  simp only [toD, PyData.shown]
  have h1 := listText_len_le (PyData.shownAll (toDs (rl zs)))
  have h2 := sumLe (n := 8700) (PyData.shownAll (toDs (rl zs))) (by
    rw [showns_eq]
    intro t ht
    obtain ⟨a, ha, rfl⟩ := List.mem_map.mp ht
    obtain ⟨x, hx, rfl⟩ := List.mem_map.mp ha
    exact shown_ra (h.mem hx))
  have h3 : (PyData.shownAll (toDs (rl zs))).length ≤ 13 := by rw [showns_eq, List.length_map, rl_len]; exact h.1
  have h4 : (8700 + 2) * (PyData.shownAll (toDs (rl zs))).length ≤ (8700 + 2) * 13 := Nat.mul_le_mul_left _ h3
  omega
theorem wshs_all : ∀ xs : List A, (∀ x ∈ xs, wsh (toD x) = true) → wshs (toDs xs) = true
  | [], _ => by simp [toDs, wshs]
  | x :: xs, h => by simp only [toDs, wshs, h x List.mem_cons_self, wshs_all xs fun y hy => h y (List.mem_cons_of_mem _ hy), Bool.and_self]
theorem wsh_rls {zss : List (List Rat)} (h : ∀ zs ∈ zss, Sm zs) : wsh (toD (.lst (rls zss))) = true := by
  simp only [toD, wsh]
  refine wshs_all _ fun a ha => ?_
  obtain ⟨zs, hz, rfl⟩ := List.mem_map.mp ha
  simp only [toD, wsh]
  refine wshs_all _ fun a ha => ?_
  obtain ⟨x, hx, rfl⟩ := List.mem_map.mp ha
  exact wsh_ra ((h zs hz).mem hx)
theorem shown_rls {zss : List (List Rat)} (h : ∀ zs ∈ zss, Sm zs) (h5 : zss.length ≤ 5) : (toD (.lst (rls zss))).shown.length ≤ sizeLine := by
  simp only [toD, PyData.shown]
  have h1 := listText_len_le (PyData.shownAll (toDs (rls zss)))
  have h2 := sumLe (n := 114000) (PyData.shownAll (toDs (rls zss))) (by
    rw [showns_eq]
    intro t ht
    obtain ⟨a, ha, rfl⟩ := List.mem_map.mp ht
    obtain ⟨x, hx, rfl⟩ := List.mem_map.mp ha
    exact shown_rl (h x hx))
  have h3 : (PyData.shownAll (toDs (rls zss))).length ≤ 5 := by rw [showns_eq, List.length_map]; unfold rls; rw [List.length_map]; exact h5
  have h4 : (114000 + 2) * (PyData.shownAll (toDs (rls zss))).length ≤ (114000 + 2) * 5 := Nat.mul_le_mul_left _ h3
  exact szOk (by omega)
/-! ### lists of our own lists -/
def TellP (μ : Mu) : List Addr → List (List Rat) → Prop
  | [], [] => True
  | p :: ps, z :: zs => μ p = some (.lst (rl z)) ∧ TellP μ ps zs
  | _, _ => False
theorem rsRl {μ : Mu} : ∀ zs : List Rat, RsL μ (rl zs) (rl zs)
  | [] => .nil
  | x :: l => .cons (.dat (isRa x)) (rsRl l)
theorem TellP.rs {μ : Mu} : ∀ {ps : List Addr} {zss : List (List Rat)}, TellP μ ps zss → RsL μ (ps.map A.loc) (rls zss)
  | [], [], _ => .nil
  | p :: ps, z :: zs, h => .cons (.own h.1 (rsRl z)) (TellP.rs h.2)
  | [], _ :: _, h => h.elim
  | _ :: _, [], h => h.elim
theorem TellP.some {μ : Mu} : ∀ {ps : List Addr} {zss : List (List Rat)}, TellP μ ps zss → (∀ zs ∈ zss, Sm zs) → ∀ p ∈ ps, ∃ l : List A, μ p = some (.lst l) ∧ l.length ≤ 13
  | [], [], _, _ => fun _ h => nomatch h
  | p :: ps, z :: zs, h, s => fun q hq => by
    rcases List.mem_cons.mp hq with rfl | hq
    · exact ⟨_, h.1, by rw [rl_len]; exact (s z List.mem_cons_self).1⟩
    · exact TellP.some h.2 (fun y hy => s y (List.mem_cons_of_mem _ hy)) q hq
  | [], _ :: _, h, _ => h.elim
  | _ :: _, [], h, _ => h.elim
theorem fresh_of {μ μ' : Mu} {p : Addr} (s : Sub μ μ') (n : μ' p = none) : μ p = none := by
  cases e : μ p with
  | none => rfl
  | some o => rw [s p o e] at n; cases n
theorem wO_neR {X : Cx} {μ : Mu} {Q : A → Mu → Prop} {x y : A} {xs ys : List A} (hu : X.A.units + 64 < cLine) (hx : Rs μ x (.lst xs)) (hy : IsL μ y ys) (dx : DatOk (.lst xs)) (dy : DatOk (.lst ys)) (q : Q (.bl (!PyData.eqv (toD (.lst xs)) (toD (.lst ys)))) μ) : wO X (compareOp .NotEq) x y μ Q :=
  wO_of (op_neD hu) fun M F H v w rl r1 r2 => by
    obtain ⟨b, ws, e2, g1, g2⟩ := hy.rep rl r2
    have d1 : Dp X.K H v (toD (.lst xs)) := Rs.dp rl hx (r1.mono rl.sub)
    have d2 : Dp X.K H w (toD (.lst ys)) := dp_of dy.1 (rep_lst.mpr ⟨b, ws, e2, g1, g2.mono rl.sub⟩)
    exact ⟨_, _, d1, d2, dx.shaped, dy.shaped, .pure rl (rep_bl.mpr rfl) q⟩
theorem cut_rl {xs : List Rat} {z : Int} (h : 0 ≤ z) : cutA (rl xs) none (some z) = rl (xs.take z.toNat) := by
  have e1 : HT.sIx (rl xs).length 0 none = 0 := rfl
  have e2 : HT.sIx (rl xs).length (rl xs).length (some z) = min z.toNat (rl xs).length := by
    obtain ⟨n, rfl⟩ : ∃ n : Nat, z = n := ⟨z.toNat, by omega⟩
    rw [Int.toNat_natCast]; exact HT.sIx_nat _ _ _
  unfold cutA
  rw [e1, e2, List.drop_zero, Nat.sub_zero, ← List.take_take, List.take_length]
  unfold rl
  rw [List.map_take]
theorem lxDel {m l p : Addr} {c : Nat} {rm : Int} {mo : Option (List Str)} {μ : Mu} (h : Lx m l c rm mo μ) (h1 : p ≠ m) (h2 : p ≠ l) : Lx m l c rm mo (μ.del p) := by
  obtain ⟨⟨fs, left, a, g1, g2, h3⟩, h7⟩ := h
  exact ⟨⟨fs, left, a, by rw [Mu.del_ne (Ne.symm h1)]; exact g1, by rw [Mu.del_ne (Ne.symm h2)]; exact g2, h3⟩, h7⟩
theorem lxUpd {m l p : Addr} {c : Nat} {rm : Int} {mo : Option (List Str)} {μ : Mu} {o : MO} (h : Lx m l c rm mo μ) (h1 : p ≠ m) (h2 : p ≠ l) : Lx m l c rm mo (μ.upd p o) := by
  obtain ⟨⟨fs, left, a, g1, g2, h3⟩, h7⟩ := h
  exact ⟨⟨fs, left, a, by rw [Mu.upd_ne (Ne.symm h1)]; exact g1, by rw [Mu.upd_ne (Ne.symm h2)]; exact g2, h3⟩, h7⟩
theorem ap_set0 {xs : List Rat} {x : Rat} {i : Nat} (h : xs ≠ []) : ap (xs.set 0 x) i = if i = 0 then x else ap xs i := by
  cases xs with
  | nil => exact absurd rfl h
  | cons a l => cases i with
    | zero => rfl
    | succ i => rfl
theorem In2.set0 {xs : List Rat} (h : In2 xs) {x : Rat} {X : Int} (x1 : IsF x X 2520) (x2 : X.natAbs ≤ 2 ^ 78) : In2 (xs.set 0 x) := by
  refine ⟨fun z => ?_, by rw [List.length_set]; exact h.l13, ⟨h.sc.ne, fun i => ?_⟩⟩
  · have e := congrArg List.length z
    rw [List.length_set, List.length_nil] at e
    have := List.length_pos_iff.mpr h.hx
    omega
  · rw [ap_set0 h.hx]
    by_cases hi : i = 0
    · rw [if_pos hi]; exact ⟨X, x1, x2, fun _ => x2⟩
    · rw [if_neg hi]; exact h.sc.at_ i
theorem rl_set0 {xs : List Rat} {n : Int} : (rl xs).set 0 (.tup [.int n, .int 1]) = rl (xs.set 0 (n : Rat)) := by
  unfold rl
  rw [List.map_set]; rfl
theorem whole_in {n : Int} (h0 : 0 < n) (h : n ≤ 9) : ∃ X : Int, IsF ((n : Int) : Rat) X 2520 ∧ X.natAbs ≤ 2 ^ 32 := ⟨n * 2520, ⟨by decide, by rw [Rat.intCast_mul]⟩, by
  rw [Int.natAbs_mul]
  have : n.natAbs * (2520 : Int).natAbs ≤ 9 * 2520 := Nat.mul_le_mul (by omega) (by decide)
  exact Nat.le_trans this (by decide)⟩
/-- the first one, of few figures -/
theorem In2.few {xs : List Rat} (h : In2 xs) (hn : (ap xs 0).num.natAbs ≤ 10 ^ 6) : ∃ X : Int, IsF (ap xs 0) X 2520 ∧ X.natAbs ≤ 2 ^ 32 := by
  obtain ⟨X, x1, x2, _⟩ := h.sc.at_ 0
  have dv : (ap xs 0).den ∣ 2520 := by
    have e := x1.val
    have hd : ((ap xs 0).den : Int) = lowD X 2520 := by rw [e]; exact (low_ra (by decide)).2.2
    have h2 := lowD_eq (n := X) (d := 2520) (by decide)
    exact Int.natCast_dvd_natCast.mp (by rw [hd]; exact ⟨_, h2.symm⟩)
  obtain ⟨Y, y1, y2⟩ := by2520 (x := ap xs 0) rfl dv hn
  exact ⟨Y, y1, Nat.le_trans y2 (by decide)⟩
end D

set_option exponentiation.threshold 256
set_option pp.maxSteps 5000
set_option Elab.async false
set_option linter.all false
set_option maxRecDepth 100000
set_option maxHeartbeats 4000000
/-! DY: the law's end, where the limit of an int's figures is known to be the usual one. -/
namespace D
open PySem PySem.Spec PyProof.Rows L2
theorem law_endN {P : Program} {w : World} {K : PySem.W.Frag} {mg mb : Str → Option Value} {CX : CXT} {k : Nat} {fa a : Addr} {fd : FuncData} {x : Str} {c : AC} {s1 : Shared} {vs : List Value} {ns : List Int}
    (inK : K.In s1.heap) (gl : s1.heap.Ns mainGlobals mg) (bl : s1.heap.Ns builtinsNs mb) (bl2 : ∀ x : Str, x ≠ "__name__" → mb x = bootBuiltins x) (lim : s1.heap.NoLimit) (dig : s1.heap.NoDigits) (gens : s1.gens = #[])
    (obj : s1.heap.get? a = some { cls := .type "list", data := .seq vs.toArray }) (hints : IntsAre vs ns) (len : ns.length ≤ sizeLine) (room : Room k callerA)
    (F : ∀ base : Heap, K.In base → base.Ns mainGlobals mg → base.NoDigits → FnD P w K mg base CX k fa fd [x] c) (bind : ∀ (s : Shared) (u : Value), BindsTo s fd ⟨[u], []⟩ [(x, u)])
    (hc : c [.fls (ns.map A.int)] (fun _ => none) (fun y _ => y = .bl true) fun _ _ _ => False) (hCX : ∀ H e s', CX [] H s1 (fun _ _ _ => False) e s' → False) :
    codeAny (model P w) callerA (.call (.ref fa) ⟨[.ref a], []⟩) (fun r s' => r = .ok (.ret (.bool true)) ∧ OldK s1.heap s'.heap ∧ s'.os = s1.os ∧ AllBare s'.gens) s1 := by
  have rv := vals_ints hints
  have many := hints.length
  have main : ∀ H : Hp, Only H → SqL K H a (ns.map V.int) → HOk P w H s1.heap → (∀ b, H b ≠ none → b = a) → (H a ≠ none → K.lookup a = none) →
      codeAny (model P w) callerA (.call (.ref fa) ⟨[.ref a], []⟩) (fun r s' => r = .ok (.ret (.bool true)) ∧ OldK s1.heap s'.heap ∧ s'.os = s1.os ∧ AllBare s'.gens) s1 := by
    intro H only sq hok isA notK
    have off : ∀ {b : Addr} {o : Obj} {es : Array DictEntry} {ep : Nat}, s1.heap.get? b = some o → o.data = .dict es ep → H b = none := by
      intro b o es ep e d
      match q : H b with
      | none => rfl
      | some u =>
        obtain rfl : b = a := isA b (by rw [q]; exact fun z => nomatch z)
        rw [obj] at e
        cases e
        exact nomatch d
    have ns' : ∀ {b : Addr} {m : Str → Option Value}, s1.heap.Ns b m → (hidT s1.heap H).Ns b m := by
      intro b m h
      obtain ⟨o, es, ep, e, d, r⟩ := h
      exact ⟨o, es, ep, hidT_get e (off e d), d, r⟩
    have inKb : K.In (hidT s1.heap H) := by
      intro b o e
      refine hidT_get (inK b o e) ?_
      match q : H b with
      | none => rfl
      | some u =>
        obtain rfl : b = a := isA b (by rw [q]; exact fun z => nomatch z)
        rw [notK (by rw [q]; exact fun z => nomatch z)] at e
        cases e
    obtain ⟨mc, l1, l2⟩ := lim
    obtain ⟨md, g1, g2⟩ := dig
    have e0 : Env0 P w K mg (hidT s1.heap H) callerA [] s1 H :=
      { frames := rfl, mod := ⟨inKb, ns' gl, ⟨mb, ns' bl, bl2⟩, ⟨mc, ns' l1, l2⟩⟩, bs := fun b o e => of_hidT e, bsz := Nat.le_of_eq (hidT_size _ _), funs := trivial, frf := fun b hb => (List.not_mem_nil hb).elim, hok := hok, bare := .of_eq gens }
    have rl : Rel K (fun _ => none) (fun _ => none) H H := ⟨.refl _, fun _ _ z => (nomatch z), fun _ _ z => (nomatch z)⟩
    have sp : spOf K c [.ref a] H (fun v _ => v = .bl true) (fun _ _ _ => False) :=
      ⟨[.fls (ns.map A.int)], H, fun _ => none, fun _ => none, _, _, .cons (rep_fls.mpr ⟨a, _, rfl, sq, .map (fun i => rep_int.mpr rfl) ns⟩) .nil, rl, hc, fun y μ' F' H' v q _ _ r => by rw [q, rep_bl] at r; exact r, fun _ _ _ _ _ z _ _ => z⟩
    refine codeAny_mono ((F _ inKb (ns' gl) ⟨md, ns' g1, g2⟩).run callerA [] s1 H ⟨[.ref a], []⟩ [.ref a] [.ref a] _ _ room rfl e0 (bind s1 (.ref a)) (.cons rfl .nil) sp) fun r s2 h => ?_
    match r, h with
    | .error e, h => exact (hCX H e s2 h).elim
    | .ok .next, h => exact h.elim
    | .ok .brk, h => exact h.elim
    | .ok .cont, h => exact h.elim
    | .ok (.ret u), ⟨v, H2, os, bare, un, hok2, rv2, q⟩ =>
      have q2 : v = .bl true := q
      subst q2
      obtain rfl : u = Value.bool true := rv2
      suffices keep : ∀ b o, s1.heap.get? b = some o → s2.heap.get? b = some o from ⟨rfl, OldK.of_keep keep, os, bare⟩
      intro b o e
      match q3 : H b with
      | none => exact un.keep b o e q3 List.not_mem_nil List.not_mem_nil
      | some u3 =>
        rcases only b with z | ⟨ob, xs, z⟩
        · rw [z] at q3; cases q3
        · obtain ⟨g1, _⟩ := hok b _ z
          obtain ⟨g2, _⟩ := hok2 b _ (un.frzs b ob _ z)
          rw [g1] at e; cases e
          exact g2
  match hk : K.lookup a with
  | some o =>
    have e := inK a o hk
    rw [obj] at e
    cases e
    exact main (fun _ => none) (fun _ => .inl rfl) (.inr ⟨_, vs.toArray, _, hk, rfl, rfl, rfl, by rw [List.size_toArray, many]; exact len, by simpa using rv⟩) (fun _ _ z => nomatch z) (fun _ z => absurd rfl z) fun z => absurd rfl z
  | none =>
    refine main (upd (fun _ => none) a (.frz { cls := .type "list", data := .seq vs.toArray } (.lst (ns.map V.int)))) (fun b => ?_) (.inl (.inr ⟨_, upd_same⟩)) (fun b u z => ?_) (fun b z => ?_) fun _ => hk
    · by_cases hb : b = a
      · subst hb; exact .inr ⟨_, _, upd_same⟩
      · exact .inl (upd_ne hb)
    · by_cases hb : b = a
      · subst hb
        rw [upd_same] at z; cases z
        exact ⟨obj, by rw [List.length_map]; exact len, vs, _, rv, obj⟩
      · rw [upd_ne hb] at z; cases z
    · exact Classical.byContradiction fun hb => z (upd_ne hb)
/-- the goal that k_head leaves, by the law's promise over data -/
theorem walk_endN {l : PySem.W.OpenLaw} {k : Nat} {q : Program} {loose : List Str} {XP : (Str → Option Value) → Heap → Prop} {YP : World → Heap → Prop} {d : DefRec} {K : Params → PySem.W.Frag} {c : World → AC} {x : Str}
    (hn : l.most = some 63) (hdf : d.params.defaults = []) (room : Room k callerA) (hY : ∀ (w : World) (h : Heap), YP w h → (K w.params).In h)
    (F : ∀ (w : World) (mg : Str → Option Value) (fa : Addr) (g : Heap), (K w.params).In g → g.Ns mainGlobals mg →
      mg d.name = some (.ref fa) → ∃ fd : FuncData, (∀ (s : Shared) (u : Value), BindsTo s fd ⟨[u], []⟩ [(x, u)]) ∧ ∀ base : Heap, (K w.params).In base → base.Ns mainGlobals mg → base.NoDigits → FnD l.prog w (K w.params) mg base CX0 k fa fd [x] (c w))
    (hc : ∀ (w : World) (ns : List Int), ns.length ≤ 63 → c w [.fls (ns.map A.int)] (fun _ => none) (fun y _ => y = .bl true) fun _ _ _ => False) : PySem.W.WalkO q loose XP YP l.row.toRowW d [] (fun f vs => PySem.call f vs) := by
  refine Att.attach_call hn hdf ?_
  intro w s0 s1 mg mb fa o pm cd doc a vs ns gr Y ho hd hcd hmg hobj hints hlen hg
  have inK := hY w _ Y
  obtain ⟨fd, hb, hF⟩ := F w mg fa _ inK gr.T.g hmg
  exact law_endN inK gr.T.g gr.T.b gr.T.builtins gr.T.nolimit gr.T.nodigits hg hobj hints (Nat.le_trans hlen (by decide)) room hF hb (hc w ns hlen) fun _ _ _ z => z
section
variable {K : PySem.W.Frag} {mg : Str → Option Value}
theorem repL_ints' {F : Hp} (ws : List Int) : RepL K F (ws.map A.int) (ws.map V.int) := .map (fun w => rep_int.mpr rfl) ws
theorem kn_ints {h : Heap} {x : Str} {p : Addr} {its : Array Value} {n : Nat} {sl : Array (Option Value)} {od : Option Addr} {ws : List Int} (X : K.In h) (G : h.Ns mainGlobals mg) (q : PySem.W.nsIn K mainGlobals x = some (some (.ref p)))
    (l : K.lookup p = some ⟨.type "tuple", od, .seq its n, sl⟩) (e : its.toList.map intOf = ws.map some) (hz : ws.length ≤ 1000) : Kn K mg x (.tup (ws.map A.int)) := by
  have hv := vals_nums e
  have hl : its.size = ws.length := by have := congrArg List.length e; simpa using this
  exact ⟨.ref p, _, PySem.W.mg_of X G q, rfl, fun F => rep_tup.mpr ⟨p, ws.map V.int, rfl, .inr ⟨_, its, n, l, rfl, rfl, by rw [hl]; exact Nat.le_trans hz (by decide), hv⟩, repL_ints' ws⟩⟩
end
end D

set_option exponentiation.threshold 256
set_option pp.maxSteps 5000
set_option Elab.async false
set_option linter.all false
set_option maxRecDepth 100000
set_option maxHeartbeats 4000000
/-! DO: how many unlike texts a list holds. -/
namespace D
open PySem PySem.Spec PyProof.Rows L2
section
variable {P : Program} {w : World} {B : Around} {E : Value → Shared → Prop} {s : Shared}
set_option maxHeartbeats 8000000 in
theorem set_of_list {l : Addr} {its : Array Value} {xs : List Str} {Q : Value → Shared → Prop} (hh : B.handled = none) (hl : s.heap.IsList l its) (hx : PyProof.Rows.StrsAre its.toList xs) (hb : xs.length + 1 < scanBound)
    (q : ∀ (h' : Heap) (tk : Nat), HasT P w h' s.heap.objs.size xs → (∀ b o, b < s.heap.objs.size → s.heap.get? b = some o → h'.get? b = some o) → Q (.ref s.heap.objs.size) { s with heap := h', toks := tk }) : wpAny (model P w) B (call (.type "set") [.ref l]) Q E s := by
  obtain ⟨mc, mt, hmro⟩ := PySem.F.called_set.mro
  have g1 := PySem.F.called_set.made; have g2 := PySem.F.called_set.sub; have g3 := PySem.F.called_set.notType; have g4 := PySem.F.called_set.canCreate; have g5 := PySem.F.typeCall_set_1 (.ref l)
  refine (wpAny_call (codeAny_of_tree (show wpAny _ _ (callAny (.type "set") _) _ _ _ from wpAny_pure ⟨Code.quiet_builtin _ (by decide +kernel), codeAny_builtin PySem.F.entry_type_call ?_⟩)))
  rw [Around.under_plain (weight_type_call_type "set" [.ref l] []) rfl]
  repeat (any_goals (first | wp_step | assumption))
  refine codeAny_mono (code_set_new_1 (.ref l) (E := E) (Q₁ := fun ob s1 => ∃ led : Bool, ob = .ref s.heap.objs.size ∧ s1 = { s with heap := s.heap.push (fresh0 led) }) fun led => ⟨led, rfl, rfl⟩) fun r s1 hr => ?_
  match r, hr with
  | .error e, hr => exact hr
  | .ok .next, hr => exact hr.elim
  | .ok .brk, hr => exact hr.elim
  | .ok .cont, hr => exact hr.elim
  | .ok (.ret ob), hr =>
    obtain ⟨led, rfl, rfl⟩ := hr
    have hS : (s.heap.push (fresh0 led)).get? s.heap.objs.size = some (fresh0 led) := Heap.get?_push_size _ rfl
    have hT : Shared.TypeIs { s with heap := s.heap.push (fresh0 led) } (.ref s.heap.objs.size) "set" := ⟨_, hS, rfl⟩
    have k1 := PySem.F.called_set.init.lookup; have k2 := PySem.F.called_set.init.bind (.ref s.heap.objs.size)
    repeat (any_goals (first | wp_step | assumption))
    refine codeAny_mono (codeAny_call_builtin (R := wants (fun r s2 => r = .none ∧ ∃ h' tk, s2 = { s with heap := h', toks := tk } ∧ HasT P w h' s.heap.objs.size xs ∧ (∀ b o, b < s.heap.objs.size → s.heap.get? b = some o → h'.get? b = some o)) E) PySem.F.called_set.init.plain PySem.F.entry_set_init (check_set_init_1 hT ?_)) fun r2 s2 hr2 => ?_
    · obtain ⟨⟨_, od, _, osl⟩, hol, rfl, nl, rfl⟩ := hl
      have hol2 : (s.heap.push (fresh0 led)).get? l = some { cls := .type "list", dict := od, data := .seq its nl, slots := osl } := Heap.get?_push_of_some _ hol
      have n1 := PySem.F.sub_list_set; have n2 := PySem.F.sub_list_frozenset; have n3 : (Value.type "list" == Value.type "dict") = false := by decide
      have isT : (s.heap.push (fresh0 led)).IsList l its := ⟨_, hol2, rfl, nl, rfl⟩
      unfold Builtin.«set.__init__» noKeywords Builtin.Frozenset.updateFrom
      generalize hpi : pyIter = PI
      wp_walk
      subst hpi
      refine wpAny_pyIter_list isT (wpAny_bind (wpAny_runValue ?_))
      have lS : l < s.heap.objs.size := Heap.lt_size hol
      have hsz : its.size = xs.length := by rw [← StrsAre.len_eq hx, Array.length_toList]
      have neI : l ≠ (s.heap.push (fresh0 led)).objs.size := by rw [Heap.size_push]; exact Nat.ne_of_lt (Nat.lt_succ_of_lt lS)
      have off : s.heap.objs.size ∉ [(s.heap.push (fresh0 led)).objs.size, l] := by rw [Heap.size_push]; simp only [List.mem_cons, List.not_mem_nil, or_false, not_or]; exact ⟨Nat.ne_of_lt (Nat.lt_succ_self _), Nat.ne_of_gt lS⟩
      refine set_turns ((Walks.list (by simp [hh]) _ l neI its).toS) s.heap.objs.size off xs hsz.symm (by omega) (fun i v hv => SS.strs_at hx i v (by rw [Array.getElem?_toList]; exact hv)) its.size 0 _ (by omega) ⟨⟨_, Heap.get?_push_size _ rfl, rfl, rfl⟩, isT.push _⟩ ?_ fun s3 mv hS3 => ?_
      · have hg : ((s.heap.push (fresh0 led)).push { cls := .type "list_iterator", data := .fields #[.ref l, .int 0 0] }).get? s.heap.objs.size = some (fresh0 led) := Heap.get?_push_of_some _ hS
        exact PyProof.Rows.SetOf_congr ((PyProof.Rows.setObjOf_fresh (knd := PySem.strKind P w) led).setOf hg (by unfold scanBound; omega)) (fun _ => by simp) rfl
      · obtain ⟨h3, gn3, dr3, tk3, os3⟩ := s3
        obtain rfl : gn3 = s.gens := mv.gens
        obtain rfl : dr3 = s.drawn := mv.drawn
        obtain rfl : os3 = s.os := mv.os
        refine (show wpAny _ _ _ _ _ _ from wpAny_pure (show wpAny _ _ (ret Value.none) _ _ _ from wpAny_pure ⟨rfl, h3, tk3, rfl, hS3, fun b o lb e => ?_⟩))
        refine mv.heap b o ?_ (Heap.get?_push_of_some _ (Heap.get?_push_of_some _ e))
        rw [Heap.size_push]; simp only [List.mem_cons, List.not_mem_nil, or_false, not_or]; exact ⟨Nat.ne_of_lt lb, Nat.ne_of_lt (Nat.lt_succ_of_lt lb)⟩
    · match r2, hr2 with
      | .error e, hr2 => exact hr2
      | .ok .next, hr2 => exact hr2.elim
      | .ok .brk, hr2 => exact hr2.elim
      | .ok .cont, hr2 => exact hr2.elim
      | .ok (.ret _), hr2 =>
        obtain ⟨rfl, h', tk, rfl, hS', hk⟩ := hr2
        repeat (any_goals (first | wp_step | assumption))
        exact q _ _ hS' hk
end
section
variable {B : Bs} {X : Cx} {Γ : G} {μ : Mu} {Q : A → Mu → Prop} {e : Expr} {p p2 q0 pos : Pos}
/-- len(set(names)), a list of texts -/
theorem wE_lenSetL (hm : X.mg "len" = none) (hm2 : X.mg "set" = none) (h : wE B X e Γ μ fun x μ1 => ∃ xs : List Str, x = .lst (xs.map A.str) ∧ xs.length ≤ 1000 ∧ Q (.int (unl xs).length) μ1) (hg : Gl X "len" := by rfl) (hg2 : Gl X "set" := by rfl) (hc : X.calm = true := by rfl)
    (na : starEach [e] X.env = (false, eval e X.env) :: starEach [] X.env := by rfl) : wE B X (.Call (.Name "len" p) [.Call (.Name "set" p2) [e] [] q0] [] pos) Γ μ Q := by
  intro σ M F H bo rs rl
  refine ⟨fun pins s I => ?_⟩
  refine Call_ (ld_blt I hg hm boot_len (PyProof.Rows.callWith_builtin1 (PyProof.Rows.args_cons ?_ rfl) rfl rfl))
  refine Call_ (ld_blt I hg2 hm2 boot_set (PyProof.Rows.callWith_type1 (PyProof.Rows.args_cons (thn ((h σ M F H bo rs rl).o pins s I) fun v s1 got => PyProof.Rows.args_nil ?_) na) na rfl))
  obtain ⟨u, H1, I1, ru, x, F1, μ1, ex, r1, p1, xs, rfl, hx, q1⟩ := got
  rw [rep_lst] at p1
  obtain ⟨a, vs, rfl, h1, h2⟩ := p1
  rw [repL_strs h2] at h1
  cases ru
  obtain ⟨its, rv, pl, hz⟩ := I1.list (.inl (.inl (r1.sub _ _ h1)))
  refine set_of_list (I1.ok.hd hc) pl.isList (by simpa using L2.strsAre_of rv) (by unfold scanBound; omega) fun h' tk hS hk => PyProof.Rows.args_nil ?_
  obtain ⟨o, es, ep, t, ho, hex, hd, _, _, _, hf, hn⟩ := hS
  have I2 : Inv X pins σ H1 { s1 with heap := h', toks := tk } := I1.kept fun b o e => hk b o (Heap.lt_size e) e
  have hu := unl_le _ xs rfl
  exact call_len_set ho hex hd hf (by rw [hn]; omega) ⟨.int (unl xs).length, H1, I2.tok _, ⟨_, by rw [hn]⟩, _, F1, μ1, ex, r1, rep_int.mpr rfl, q1⟩
end
end D

set_option exponentiation.threshold 256
set_option pp.maxSteps 5000
set_option Elab.async false
set_option linter.all false
set_option maxRecDepth 100000
set_option maxHeartbeats 4000000
/-! DP: a text so many times. -/
namespace D
open PySem PySem.Spec PyProof.Rows L2
theorem op_mulS {X : Cx} : OpR X (binaryOp .Mult) (fun x y H Q => ∃ i n, x = .str i ∧ y = .int n ∧ PySem.MulOk i n ∧ Q (.str (Txt.mul i n)) H) := by
  intro pins s σ H x y v u Q I rx ry h
  obtain ⟨i, n, rfl, rfl, hz, q⟩ := h
  obtain ⟨t, rfl⟩ := rx
  obtain ⟨t', rfl⟩ := ry
  exact PySem.SB.mul hz (fun t' tk => ⟨.str (Txt.mul i n), H, I.tok _, ⟨_, rfl⟩, q⟩)
theorem wO_mulS {X : Cx} {μ : Mu} {Q : A → Mu → Prop} {x : Str} {n : Int} (hz : PySem.MulOk x n) (q : Q (.str (Txt.mul x n)) μ) : wO X (binaryOp .Mult) (.str x) (.int n) μ Q :=
  wO_of op_mulS fun M F H v w rl r1 r2 => ⟨x, n, rep_str.mp r1, rep_int.mp r2, hz, .pure rl (rep_str.mpr rfl) q⟩
end D

set_option exponentiation.threshold 256
set_option pp.maxSteps 5000
set_option Elab.async false
set_option linter.all false
set_option maxRecDepth 100000
set_option maxHeartbeats 4000000
/-! DX: exceptions: caught and kept. -/
namespace D
open PySem PySem.Spec PyProof.Rows L2
section
variable {X : Cx} {s : Shared} {pins : List (Addr × Obj)} {σ : L2.St} {H : Hp}
/-- an exception's object is tracked from now on -/
theorem inv_adopt {a : Addr} {oe : Obj} {vs : Array Value} {cls : Value} {d : Option Addr} (I : Inv X pins σ H s) (ha : s.heap.get? a = some oe) (hz : oe.cls = cls ∧ oe.dict = d) (hd : oe.data = .fields vs) (na : H a = none) (n0 : X.s_0.heap.get? a = none)
    (nL : a ≠ X.env.locals) (np : ∀ p ∈ X.pn ++ pins, p.1 ≠ a) : Inv X pins σ (upd H a (XO a cls d)) s := by
  have ne : ∀ {b : Addr} {o : HO}, H b = some o → b ≠ a := fun {b o} e z => by rw [z, na] at e; cases e
  refine ⟨I.ok, I.os, I.bare, ⟨I.base.keep, I.base.slot, fun b o e n hx => ?_, I.base.there, fun b xs e => ?_, fun b o u e => ?_, fun b ps e => ?_⟩, I.loc, I.cell, ?_, fun x c e => ?_, fun p hp => ?_, fun b o e => ?_, I.len⟩
  · have hb : b ≠ a := fun z => by rw [z, n0] at e; cases e
    rw [upd_ne hb]; exact I.base.free b o e n hx
  · have q := I.base.tups b xs e
    rw [upd_ne (ne q)]; exact q
  · have q := I.base.frzs b o u e
    rw [upd_ne (ne q)]; exact q
  · obtain ⟨more, q⟩ := I.base.tbls b ps e
    exact ⟨more, by rw [upd_ne (ne q)]; exact q⟩
  · rw [upd_ne (Ne.symm nL)]; exact I.free
  · have hc : c ≠ a := fun z => by
      obtain ⟨v, o, h1, h2⟩ := I.cell x c e
      rw [z, ha] at h1; cases h1
      rw [hd] at h2; cases h2
    rw [upd_ne hc]; exact I.freeC x c e
  · obtain ⟨h1, h2, h3⟩ := I.pin p hp
    exact ⟨h1, by rw [upd_ne (np p hp)]; exact h2, h3⟩
  · by_cases hb : b = a
    · subst hb
      rw [upd_same] at e; cases e
      exact ⟨⟨oe, vs, ha, hz, hd⟩, ⟨_, ha⟩, fun h1 h2 ⟨oe, vs, g1, g2, g3⟩ k => ⟨oe, vs, k _ g1, g2, g3⟩⟩
    · rw [upd_ne hb] at e
      exact (I.hok b o e).stay (fun _ _ _ q => q) (fun _ q => by rw [upd_ne (ne q)]; exact q) fun _ _ q => by rw [upd_ne (ne q)]; exact q
end
/-- what 'except x as n' wishes of an exception of the body, which is kept -/
def wKeep (K : PySem.W.Frag) (c : Value) (i : Nat) (ts : Addr → Value → Option Addr → TS) (Wout : WX) (D : Ends) : WX := fun cls d σ H =>
  ∃ b, PySem.W.exmOne K cls c = some b ∧ (b = true → ∀ a, H a = none → ts a cls d { nx := fun σ' H' => H' a = none → D.nx (σ'.set i none) (upd H' a (XO a cls d)), rt := fun v H' => H' a = none → D.rt v (upd H' a (XO a cls d)), bk := fun σ' H' => H' a = none → D.bk (σ'.set i none) (upd H' a (XO a cls d)), ct := fun σ' H' => H' a = none → D.ct (σ'.set i none) (upd H' a (XO a cls d)) } (σ.set i (some (.ref a))) H) ∧
    (b = false → Wout cls d σ H)
/-! ### who may catch it, and what is known of it then -/
theorem fields_off {B h : Heap} {l : List Env} {a : Addr} {o : Obj} {vs : Array Value} (ff : h.FunFrames B l) (e : h.get? a = some o) (dt : o.data = .fields vs) : a ∉ frs l := by
  intro m
  obtain ⟨_, u, eu, no⟩ := ff.mem m
  have same : o = u := Option.some.inj (e.symm.trans eu)
  exact no vs (same ▸ dt)
/-- the exception at a, made since X began, seen by nobody yet: sI is the state without it, B all of sI but the frames -/
structure Seen (X : Cx) (pins : List (Addr × Obj)) (σ : L2.St) (H : Hp) (sI : Shared) (B : Heap) (a : Addr) : Prop where
  inv : Inv X pins σ H sI
  low : ∀ b o, sI.heap.get? b = some o → b ∉ frs X.stack → B.get? b = some o
  new : B.get? a = none
  hid : H a = none
  off : a ∉ frs X.stack
namespace Seen
variable {X : Cx} {pins : List (Addr × Obj)} {σ : L2.St} {H : Hp} {sI : Shared} {B : Heap} {a : Addr}
theorem void (c : Seen X pins σ H sI B a) {o : Obj} : sI.heap.get? a ≠ some o := fun e => by
  have := c.low a o e c.off
  rw [c.new] at this; cases this
theorem pins_ne (c : Seen X pins σ H sI B a) : ∀ p ∈ X.pn ++ pins, p.1 ≠ a := fun p hp e => c.void (e ▸ (c.inv.pin p hp).1)
theorem before (c : Seen X pins σ H sI B a) (hex : X.ex = []) : X.s_0.heap.get? a = none := by
  refine Option.eq_none_iff_forall_ne_some.mpr fun o e => ?_
  obtain ⟨u, q⟩ := c.inv.base.there a o e (by rw [hex]; exact List.not_mem_nil)
  exact c.void q
theorem ne_locals (c : Seen X pins σ H sI B a) (hs : X.stack = X.env :: X.outer) (hf : X.env.frame = some X.env.locals) : a ≠ X.env.locals := fun e =>
  c.off (by rw [hs, e]; exact List.mem_filterMap.mpr ⟨_, .head _, hf⟩)
theorem not_fs (c : Seen X pins σ H sI B a) (hs : X.stack = X.env :: X.outer) : a ∉ X.fs := fun m =>
  c.off (by rw [hs]; exact (List.mem_filterMap.mp m).elim fun e q => List.mem_filterMap.mpr ⟨e, .tail _ q.1, q.2⟩)
/-- X's own state with the exception in it, and the exception's object -/
theorem now (c : Seen X pins σ H sI B a) {cls : Value} {d : Option Addr} {l : List Env} {s : Shared} (fl : HandSPX.FlyingZ B l a (Zc cls d) s.heap) (up : sI.heap.UpToSlots s.heap) (os : s.os = sI.os) (ag : AllBare s.gens) :
    Inv X pins σ H s ∧ ∃ oe vs, s.heap.get? a = some oe ∧ Zc cls d oe ∧ oe.data = .fields vs :=
  ⟨c.inv.landed c.low fl.1 up os ag, fl.there⟩
end Seen
section
variable {X : Cx} {pins : List (Addr × Obj)} {σ : L2.St} {H : Hp} {sI s : Shared} {B : Heap} {a : Addr} {cls : Value} {d : Option Addr} {D : Ends} {Wout : WX}
/-- no clause is left: it flies on out of X -/
theorem on_out (c : Seen X pins σ H sI B a) (hs : X.stack = X.env :: X.outer) (hf : X.env.frame = some X.env.locals) (tk : Takes X Wout) (fl : HandSPX.FlyingZ B (X.env :: X.outer) a (Zc cls d) s.heap) (up : sI.heap.UpToSlots s.heap) (os : s.os = sI.os)
    (ag : AllBare s.gens) (w : Wout cls d σ H) {Q : Flow → Shared → Prop} : wpAny (model X.prog X.w) X.A (handleBy (.ref a) X.env []) Q X.xe s := by
  have fly : wpAny (model X.prog X.w) X.A (setFlight (.ref a) X.env.frame) (fun _ s4 => wpAny (model X.prog X.w) X.A (throw (.ref a) : Sem Flow) Q X.xe s4) X.xe s := by
    rw [hf]
    refine HandSPX.setFlight_upZ fl fun h4 held up4 => wpAny_throw (tk _ _ ⟨a, B, sI, pins, σ, H, cls, d, rfl, c.inv, c.low, up.trans up4, ?_, c.hid, os, ag, w⟩)
    rw [hs]; exact Or.inr (Or.inr held)
  obtain ⟨_, _, _, oe, vs, T, _, _, e1, _, e3, e4, _⟩ := fl
  refine wpAny_handleBy_nil ?_
  unfold PySem.passOn
  refine wpAny_bind (wpAny_field e1 e3 e4 ?_)
  rw [if_neg (by simp)]
  first | exact wpAny_bind fly | exact wpAny_bind (wpAny_pure (wpAny_bind fly))
/-- does the clause's class take it? -/
theorem on_test {x : Str} {np pos : Pos} {cl : Value} {pn : List (Addr × Obj)} {b : Bool} {oe : Obj} {R : Result → Shared → Prop} (S : Inv (X.suite a pn) [] σ H s) (hc : Names X x cl) (e : s.heap.get? a = some oe) (z : oe.cls = cls) (hb : PySem.W.exmOne X.K cls cl = some b)
    (q : R (.ok (if b then .brk else .next)) s) : codeAny (model X.prog X.w) (X.A.mark (some (.ref a))) (.handlers (.ref a) [.ExceptHandler (some (.Name x np)) none [] pos] X.env) R s := by
  have looks : PySem.W.Looks (model X.prog X.w) s.heap (typeOf (.ref a)) cls := fun _ _ _ t keeps ok => wpAny_typeOf_ref (keeps _ _ e) (z ▸ ok)
  have match_ := (PySem.W.exm_one (M := model X.prog X.w) S.kIn looks hb).here (A := X.A.mark (some (.ref a))) (E := notedBy (model X.prog X.w) (X.A.mark (some (.ref a))) X.env fun x s₂ => R (.error x) s₂) (Q := fun b s₂ => R (.ok (if b then .brk else .next)) s₂) q
  refine codeAny_handlers_test ?_
  obtain ⟨g, nd, top⟩ := hc
  rcases top with top | ⟨none, boot, nn⟩
  · exact ld_glob (X := X.suite a pn) S g top match_ nd
  · exact ld_blt (X := X.suite a pn) S g none boot match_ nn nd
/-- the ends of a suite that keeps its exception: it is known from then on, and the clause's name is gone -/
abbrev keptEnds (D : Ends) (i : Nat) (a : Addr) (cls : Value) (d : Option Addr) : Ends :=
  { nx := fun σ' H' => H' a = none → D.nx (σ'.set i none) (upd H' a (XO a cls d)), rt := fun v H' => H' a = none → D.rt v (upd H' a (XO a cls d)), bk := fun σ' H' => H' a = none → D.bk (σ'.set i none) (upd H' a (XO a cls d)), ct := fun σ' H' => H' a = none → D.ct (σ'.set i none) (upd H' a (XO a cls d)) }
theorem on_end {i : Nat} {n : Str} {pos : Pos} {oe : Obj} {vs : Array Value} {f : Flow} {E : Value → Shared → Prop} (ok : X.Ok) (hN : X.N.Nodup) (hi : X.N[i]? = some n) (hln : X.env.kindOf n = some .local) (z : Zc cls d oe) (dt : oe.data = .fields vs) (n0 : X.s_0.heap.get? a = none)
    (nL : a ≠ X.env.locals) (np : ∀ p ∈ X.pn ++ pins, p.1 ≠ a) (r : SP (X.suite a ((a, oe) :: (X.pn ++ pins))) [] (keptEnds D i a cls d) f s) :
    wpAny (model X.prog X.w) X.A (do bindName X.env n .none; unbindBehindTheSuite X.env n pos) (fun _ s7 => SP X pins D f s7) E s := by
  have gone : ∀ {σ6 : L2.St} {H6 : Hp} {Q : Shared → Prop}, Inv (X.suite a ((a, oe) :: (X.pn ++ pins))) [] σ6 H6 s → (∀ s7, H6 a = none ∧ Inv X pins (σ6.set i none) (upd H6 a (XO a cls d)) s7 → Q s7) →
      wpAny (model X.prog X.w) X.A (do bindName X.env n .none; unbindBehindTheSuite X.env n pos) (fun _ s7 => Q s7) E s := by
    intro σ6 H6 Q J q
    refine gone_ok (X := X.suite a ((a, oe) :: (X.pn ++ pins))) J hN hi hln fun s7 J7 => q s7 ?_
    have known := J7.pin (a, oe) (by simp)
    exact ⟨known.2.1, inv_adopt (J7.unsuite ok) known.1 z dt known.2.1 n0 nL np⟩
  cases f
  case ret u => exact r.elim fun v r => r.elim fun σ6 r => r.elim fun H6 r => gone r.1 fun s7 w => ⟨v, _, _, w.2, r.2.1, r.2.2 w.1⟩
  all_goals exact r.elim fun σ6 r => r.elim fun H6 r => gone r.1 fun s7 w => ⟨_, _, w.2, r.2 w.1⟩
theorem sp_home {pn : List (Addr × Obj)} {xe : Value → Shared → Prop} {f : Flow} (ok : X.Ok) (r : SP (X.tr (X.pn ++ pins) xe) pn D f s) : SP X pins D f s := by
  cases f
  case ret u => exact r.imp fun _ r => r.imp fun _ r => r.imp fun _ r => ⟨r.1.ofTry ok, r.2⟩
  all_goals exact r.imp fun _ r => r.imp fun _ r => ⟨r.1.ofTry ok, r.2⟩
/-- what a try statement does with an exception of its body -/
def onCatch (X : Cx) (pins : List (Addr × Obj)) (D : Ends) (cs : List ExceptHandler) : Value → Shared → Prop := fun e s₁ =>
  wpAny (model X.prog X.w) X.A (noteFrame e X.env) (fun _ s₂ => wpAny (model X.prog X.w) X.A (setFlight e none) (fun _ s₃ => wpAny (model X.prog X.w) X.A (handleBy e X.env cs) (SP X pins D) X.xe s₃) X.xe s₂) X.xe s₁
end
/-- a try's body, read for any wish W that its catcher takes -/
def TryP (X : Cx) (ss : List Stmt) (tb : WX → TS) : Prop :=
  ∀ W pn xe, Takes (X.tr pn xe) W → PassesOwn (model X.prog X.w) X.A X.env xe →
    PSs (X.tr pn xe) ss (tb W)
/-- a clause's suite, read while the exception at a is pinned -/
def SuiteP (X : Cx) (ss : List Stmt) (ts : Addr → Value → Option Addr → TS) : Prop :=
  ∀ a oe cls d pn, Zc cls d oe → (∃ vs, oe.data = .fields vs) →
    PSs (X.suite a ((a, oe) :: pn)) ss (ts a cls d)
section
variable {X : Cx} {i : Nat} {x n : Str} {c : Value} {b₀ : Stmt} {body suite : List Stmt} {np pos pos' : Pos} {Wout : WX} {tb : WX → TS} {ts : Addr → Value → Option Addr → TS}
/-- the clause takes what its wish says -/
theorem keep_takes {pins : List (Addr × Obj)} {D : Ends} (ok : X.Ok) (hs : X.stack = X.env :: X.outer) (hf : X.env.frame = some X.env.locals) (hex : X.ex = []) (hN : X.N.Nodup) (hi : X.N[i]? = some n) (hln : X.env.kindOf n = some .local) (hc : Names X x c) (tk : Takes X Wout)
    (hsu : SuiteP X (b₀ :: suite) ts) :
    Takes (X.tr (X.pn ++ pins) (onCatch X pins D [.ExceptHandler (some (.Name x np)) (some n) (b₀ :: suite) pos'])) (wKeep X.K c i ts Wout D) := by
  rintro u s' ⟨a, B, sI, pins', σ, H, cls, d, rfl, J, low, up, sky, hid, os, ag, b, hb, yes, no⟩
  have frames : X.A.frames = some (X.env :: X.outer) := ok.frames.trans (congrArg some hs)
  have new : B.get? a = none := sky.elim (fun q => q.2.1) fun q => q.elim (fun q => q.2.1) fun q => q.2.1
  refine Sky.land Zc.steady frames hf (show Sky B (X.env :: X.outer) a (Zc cls d) X.env.locals s'.heap from hs ▸ sky) fun h fl up1 => ?_
  obtain ⟨oe, vs, e1, e2, e3⟩ := fl.there
  have C : Seen X pins σ H sI B a := ⟨J.ofTry ok, low, new, hid, by rw [hs]; exact fields_off fl.2.2.1 e1 e3⟩
  have nL := C.ne_locals hs hf
  have S := (C.now (s := { s' with heap := h }) fl (up.trans up1) os ag).1.suite e1 e3 hid nL (C.not_fs hs)
  refine wpAny_handleBy_cons (on_test S hc e1 e2.1 hb ?_) (fun z => nomatch z)
  match b, yes, no with
  | false, _, no => exact on_out (s := { s' with heap := h }) C hs hf tk fl (up.trans up1) os ag (no rfl)
  | true, yes, _ =>
    refine codeAny_handlers_suite_as (HandSPX.lands_againZ fl fun h4 fl4 up4 => ?_)
    obtain ⟨I4, oe4, vs4, g1, g2, g3⟩ := C.now (s := { s' with heap := h4 }) fl4 ((up.trans up1).trans up4) os ag
    refine store_ok (X := X.suite a ((a, oe4) :: (X.pn ++ pins))) (v := .ref a) (I4.suite g1 g3 hid nL (C.not_fs hs)) hN hi (.inl hln) rfl (fun s5 S5 => ?_) (.inr hln)
    exact wpAny_mono ((hsu a oe4 cls d (X.pn ++ pins) g2 ⟨vs4, g3⟩).run [] s5 _ H (keptEnds D i a cls d) S5 (yes rfl a hid)) (fun f s6 r => on_end ok hN hi hln g2 g3 (C.before hex) nL C.pins_ne r) (fun _ _ z => z.elim)
/-- try: body / except x as n: suite; the exception is known behind the statement -/
theorem ps_try_keep (hs : X.stack = X.env :: X.outer) (hf : X.env.frame = some X.env.locals) (hex : X.ex = []) (hN : X.N.Nodup) (hi : X.N[i]? = some n) (hln : X.env.kindOf n = some .local) (hc : Names X x c) (tk : Takes X Wout)
    (hb : TryP X body tb)
    (hsu : SuiteP X (b₀ :: suite) ts) :
    PS X (.Try body [.ExceptHandler (some (.Name x np)) (some n) (b₀ :: suite) pos'] [] [] pos) (fun D σ H => tb (wKeep X.K c i ts Wout D) D σ H) := by
  refine ⟨fun pins s σ H D I h => wpAny_Try_except ?_⟩
  have run := (hb _ (X.pn ++ pins) _ (keep_takes (pins := pins) (D := D) (np := np) (pos' := pos') I.ok hs hf hex hN hi hln hc tk hsu) PassesOwn.looking).run [] s σ H D (I.toTry _) h
  refine wpAny_mono run (fun f s1 r => ?_) (fun _ _ r => r)
  have r := sp_home I.ok r
  cases f <;> first | exact r | exact wpAny_execs_nil r
end
end D

set_option exponentiation.threshold 256
set_option pp.maxSteps 5000
set_option Elab.async false
set_option linter.all false
set_option maxRecDepth 100000
set_option maxHeartbeats 4000000
/-! DZ: exceptions over data: raised, let out of a def, taken by a caller, caught and kept. -/
namespace D
open PySem PySem.Spec PyProof.Rows L2
theorem Rel.less {K : PySem.W.Frag} {μ : Mu} {M M' F H : Hp} (h : Rel K μ M' F H) (e : Ex M M') : Rel K μ M F H := ⟨h.sub, h.own, fun p o q => h.frm p o (e p o q)⟩
/-- an exception's wish over data: its class, its dict, the names' data, the cells -/
abbrev XW := Value → Option Addr → G → Mu → Prop
def wxOf (B : Bs) (K : PySem.W.Frag) (E1 : XW) : WX := fun cls d σ H => ∃ Γ M F μ, B.ok M F ∧ RelS K Γ F σ ∧ Rel K μ M F H ∧ E1 cls d Γ μ
def Bs.le (B B' : Bs) : Prop := B.ok B'.M B'.F
theorem Bs.le.ok {B B' : Bs} {M F : Hp} (h : B.le B') (k : B'.ok M F) : B.ok M F := ⟨h.m.trans k.m, h.f.trans k.f⟩
theorem Bs.le.trans {B B1 B2 : Bs} (h : B.le B1) (k : B1.le B2) : B.le B2 := h.ok k
theorem Bs.le.refl (B : Bs) : B.le B := ⟨.refl _, .refl _⟩
/-- what leaves the code of X here keeps E1 -/
structure Fly (B : Bs) (X : Cx) (E1 : XW) : Prop where
  o : Takes X (wxOf B X.K E1)
theorem Fly.imp {B : Bs} {X : Cx} {E1 E2 : XW} (t : Fly B X E1) (h : ∀ c d Γ μ, E2 c d Γ μ → E1 c d Γ μ) : Fly B X E2 := ⟨t.o.imp fun c d σ H ⟨Γ, M, F, μ, a, b, e, q⟩ => ⟨Γ, M, F, μ, a, b, e, h _ _ _ _ q⟩⟩
theorem Fly.no {B : Bs} {X : Cx} {E1 : XW} (h : ∀ c d Γ μ, ¬ E1 c d Γ μ) : Fly B X E1 := ⟨fun u s' ⟨a, Bg, sI, pins, σ, H, cls, d, e, I, nb, up, sky, na, os, ag, Γ, M, F, μ, _, _, _, q⟩ => (h _ _ _ _ q).elim⟩
section
variable {B : Bs} {X : Cx} {k : Nat} {f : Addr} {fd : FuncData} {ps : List Str} {c : AC} {Γ : G} {μ : Mu} {Q : A → Mu → Prop} {e : Expr} {es : List Expr} {pos p : Pos} {x : Str} {E : XK} {E1 : XW} {Z : AD}
theorem runT {pins : List (Addr × Obj)} {σ : L2.St} {H : Hp} {s : Shared} {R : VK} {us ds : List Value} {vs dvs : List V} {W : WX} (F : FnD X.prog X.w X.K X.mg X.base (L2.CX X.prog X.w) k f fd ps c) (ar : Ar X k) (bi : Binds X.K fd ps ds) (dv : Vals dvs ds) (tk : Takes X W)
    (hW : ∀ cls d H', E cls d H' → W cls d σ H') (I : Inv X pins σ H s) (rv : Vals vs us) (sp : spOf X.K c (vs ++ dvs) H R E) : wpAny (model X.prog X.w) X.A (call (.ref f) us) (EP X pins σ R) X.xe s := by
  have all := rv.append dv
  have many : (us ++ ds).length = ps.length := all.length.symm.trans (spOf.len F.len sp)
  have go := F.run X.A X.stack s H ⟨us, []⟩ (us ++ ds) (vs ++ dvs) R E ar.room ar.show0 I.env0 (bi s us I.kIn many) all sp
  refine wpAny_call (codeAny_mono go fun res s2 end2 => ?_)
  match res, end2 with
  | .error e2, end2 => exact tk e2 s2 (XE.of_call I hW end2)
  | .ok (.ret u), end2 => exact I.after end2
  | .ok .next, end2 => exact end2.elim
  | .ok .brk, end2 => exact end2.elim
  | .ok .cont, end2 => exact end2.elim
theorem wE_callT {ds : List Value} {dvs : List V} {das : List A} (F : FnD X.prog X.w X.K X.mg X.base (L2.CX X.prog X.w) k f fd ps c) (at0 : At X x f fd ps ds) (ar : Ar X k) (dv : Vals dvs ds) (da : ∀ F, RepL X.K F das dvs)
    (tk : Fly B X E1) (h : wA B X (e :: es) Γ μ fun xs μ1 => c (xs ++ das) μ1 Q fun cls d μ' => E1 cls d Γ μ') (hg : Gl X x := by rfl) (hdb : (x == ("__debug__" : Str)) = false := by decide)
    (he : starEach (e :: es) X.env = (false, eval e X.env) :: starEach es X.env := by rfl) (hpl : (backTo pos (starEach es X.env)).any (·.1) = false := by rfl) : wE B X (.Call (.Name x p) (e :: es) [] pos) Γ μ Q := by
  intro σ M F0 H bo rs rl
  refine ⟨fun pins s I => ?_⟩
  refine wpAny_Call_Name_kw (ld_glob I hg at0.mg ?_ hdb)
  refine PySem.W.callWith_K (h₀ := X.base) I.ok.mod.kin at0.kp (thn ((h σ M F0 H bo rs rl).o pos pins s I) fun us s1 got => ?_) he hpl
  obtain ⟨vs, H1, I1, rv, xs, F1, μ1, ex, rl1, rp, hc⟩ := got
  refine ⟨I1.kIn, runT (E := fun cls d H' => ∃ F' μ', Ex F0 F' ∧ Rel X.K μ' M F' H' ∧ E1 cls d Γ μ') F ar at0.bi dv tk.o (fun cls d H' ⟨F', μ', e1, r1, q⟩ => ⟨Γ, M, F', μ', bo.mono e1, rs.mono e1, r1, q⟩) I1 rv ⟨xs ++ das, F1, M, μ1, Q, _, rp.append (da F1), rl1, hc, fun y μ' F' H' v q e1 r1 p1 => ?_, fun cls d μ' F' H' q e1 r1 => ?_⟩⟩
  · exact ⟨y, F', μ', ex.trans e1, r1, p1, q⟩
  · exact ⟨F', μ', ex.trans e1, r1, q⟩
/-- f() -/
theorem wE_callT0 (F : FnD X.prog X.w X.K X.mg X.base (L2.CX X.prog X.w) k f fd ps c) (at0 : At X x f fd ps []) (ar : Ar X k) (tk : Fly B X E1) (h : c [] μ Q fun cls d μ' => E1 cls d Γ μ') (hg : Gl X x := by rfl) (hdb : (x == ("__debug__" : Str)) = false := by decide) : wE B X (.Call (.Name x p) [] [] pos) Γ μ Q := by
  intro σ M F0 H bo rs rl
  refine ⟨fun pins s I => ?_⟩
  refine wpAny_Call_Name_kw (ld_glob I hg at0.mg ?_ hdb)
  refine PySem.W.callWith_K0 I.kIn at0.kp (runT (us := []) (vs := []) (dvs := []) (E := fun cls d H' => ∃ F' μ', Ex F0 F' ∧ Rel X.K μ' M F' H' ∧ E1 cls d Γ μ') F ar at0.bi .nil tk.o (fun cls d H' ⟨F', μ', e1, r1, q⟩ => ⟨Γ, M, F', μ', bo.mono e1, rs.mono e1, r1, q⟩) I .nil
    ⟨[], F0, M, μ, Q, _, .nil, rl, h, fun y μ' F' H' v q e1 r1 p1 => ⟨y, F', μ', e1, r1, p1, q⟩, fun cls d μ' F' H' q e1 r1 => ⟨F', μ', e1, r1, q⟩⟩)
/-! ### raise -/
/-- an own class of exceptions without own __init__ -/
structure ExcN (K : PySem.W.Frag) (mg : Str → Option Value) (x : Str) (C : Addr) : Prop where
  ex : ∃ bmB Bn newId initId, ExcBaseFacts Bn newId initId bmB ∧ PySem.W.excIn K C bmB newId = true
  mg : mg x = some (.ref C)
  kp : PySem.W.keepIn K (.ref C) = true
  sub : PySem.W.subIn K (.ref C) (.type "BaseException") = some true
  ty : PySem.W.typeIn K (.ref C) = some (.type "type")
theorem wS_raise {C : Addr} {m : Str} {j : Nat} {p2 pos2 : Pos} (N : ExcN X.K X.mg x C) (tk : Fly B X E1) (q : E1 (.ref C) none Γ μ) (hc : X.calm = true := by rfl) (hg : Gl X x := by rfl) (hdb : (x == ("__debug__" : Str)) = false := by decide) :
    wS B X (.Raise (some (.Call (.Name x p) [.Constant (.str m) j p2] [] pos)) none pos2) Γ μ Z := by
  obtain ⟨bmB, Bn, newId, initId, F, hx⟩ := N.ex
  intro σ M F0 H bo rs rl
  exact rd_ps (ps_raise hc tk.o (pmk_own F hx N.mg N.kp (raises_own N.sub N.ty) hg hdb)) ⟨Γ, M, F0, μ, bo, rs, rl, q⟩
end
/-! ### a def that lets exceptions out -/
section
variable {P : Program} {w : World} {mg : Str → Option Value} {base : Heap} {K : PySem.W.Frag}
abbrev cxX (P : Program) (w : World) (K : PySem.W.Frag) (mg : Str → Option Value) (base : Heap) (N : List Str) (qual : Str) (sc : Scope) (f : Addr) (cdv : Value) (A : Around) (outer : List Env) (s : Shared) (H : Hp) (E : XK) : Cx := cxOf (L2.CX P w) P w K mg base N qual sc f cdv A outer s H E
theorem fnDX {x qual : Str} {st : Stmt} {f : Addr} {fd : FuncData} {N ps : List Str} {k : Nat} {c : AC} (F : Fun K x qual st f fd) (S : FnScope N ps (defScope st)) (len : ∀ xs μ Q E, c xs μ Q E → xs.length = ps.length)
    (go : ∀ {B : Bs} (cdv : Value) (A : Around) (outer : List Env) (s : Shared) (H : Hp) (E : XK) (xs : List D.A) (μ : Mu) (Q : D.A → Mu → Prop) (E0 : Value → Option Addr → Mu → Prop), Ar (cxX P w K mg base N qual (defScope st) f cdv A outer s H E) k → c xs μ Q E0 →
      Fly B (cxX P w K mg base N qual (defScope st) f cdv A outer s H E) (fun cls d _ μ' => E0 cls d μ') → PassesOwn (model P w) (cxX P w K mg base N qual (defScope st) f cdv A outer s H E).A (cxX P w K mg base N qual (defScope st) f cdv A outer s H E).env (cxX P w K mg base N qual (defScope st) f cdv A outer s H E).xe →
      wSs B (cxX P w K mg base N qual (defScope st) f cdv A outer s H E) (defBody st) (startA N xs) μ { nx := fun _ μ' => Q .non μ', rt := Q }) : FnD P w K mg base (L2.CX P w) (k + 1) f fd ps c := by
  obtain ⟨oc, od, kV, doc, pm, an, cdv, ct, osl, rfl, lk, hcd⟩ := F.ex
  refine FnD.body lk hcd S len fun A outer s H vs Q E room sh sp => ?_
  obtain ⟨xs, F0, M, μ, Q0, E0, rp, rl, hc, hq, he⟩ := sp
  have tk : Fly ⟨M, F0⟩ (cxX P w K mg base N qual (defScope st) f cdv A outer s H E) (fun cls d _ μ' => E0 cls d μ') := ⟨(takes_of (E := E) rfl rfl rfl rfl).imp fun cls d σ H' ⟨Γ', M', F', μ', bo, rs, r, q⟩ => he cls d μ' F' H' q bo.f (r.less bo.m)⟩
  refine (go (B := ⟨M, F0⟩) cdv A outer s H E xs μ Q0 E0 ⟨room, sh⟩ hc tk (passes_of rfl) (L2.start N vs) M F0 H (Bs.ok.own M F0) (relS_start N rp) rl).imp (fun σ2 H2 q => ?_) (fun v H2 q => ?_) (fun σ2 H2 q => ?_) (fun σ2 H2 q => ?_)
  · obtain ⟨Γ', F', μ', ex, _, rl', q⟩ := q
    exact hq .non μ' F' H2 .non q ex rl' (rep_non.mpr rfl)
  · obtain ⟨y, F', μ', ex, rl', rp', q⟩ := q
    exact hq y μ' F' H2 v q ex rl' rp'
  · obtain ⟨_, _, _, _, _, _, q⟩ := q; exact q
  · obtain ⟨_, _, _, _, _, _, q⟩ := q; exact q
/-- what a caller knows of a def that may let exceptions out -/
structure CalX (P : Program) (w : World) (K : PySem.W.Frag) (mg : Str → Option Value) (base : Heap) (k : Nat) (x : Str) (c : AC) : Prop where
  ex : ∃ (f : Addr) (fd : FuncData) (ps : List Str), FnD P w K mg base (L2.CX P w) k f fd ps c ∧ mg x = some (.ref f) ∧ PySem.W.keepIn K (.ref f) = true ∧ Binds K fd ps []
end
section
variable {B : Bs} {X : Cx} {k j : Nat} {c : AC} {Γ : G} {μ : Mu} {Q : A → Mu → Prop} {e : Expr} {es : List Expr} {pos p : Pos} {x : Str} {E1 : XW} {Z : AD}
theorem wE_calX (C : CalX X.prog X.w X.K X.mg X.base k x c) (ar : Ar X j) (hk : k ≤ j) (tk : Fly B X E1) (h : wA B X (e :: es) Γ μ fun xs μ1 => c xs μ1 Q fun cls d μ' => E1 cls d Γ μ') (hg : Gl X x := by rfl) (hdb : (x == ("__debug__" : Str)) = false := by decide)
    (he : starEach (e :: es) X.env = (false, eval e X.env) :: starEach es X.env := by rfl) (hpl : (backTo pos (starEach es X.env)).any (·.1) = false := by rfl) : wE B X (.Call (.Name x p) (e :: es) [] pos) Γ μ Q := by
  obtain ⟨f, fd, ps, F, h1, h2, h3⟩ := C.ex
  exact wE_callT (das := []) (dvs := []) F ⟨h1, h2, h3⟩ (ar.mono hk) .nil (fun _ => .nil) tk (by simpa only [List.append_nil] using h) hg hdb he hpl
theorem wE_calX0 (C : CalX X.prog X.w X.K X.mg X.base k x c) (ar : Ar X j) (hk : k ≤ j) (tk : Fly B X E1) (h : c [] μ Q fun cls d μ' => E1 cls d Γ μ') (hg : Gl X x := by rfl) (hdb : (x == ("__debug__" : Str)) = false := by decide) : wE B X (.Call (.Name x p) [] [] pos) Γ μ Q := by
  obtain ⟨f, fd, ps, F, h1, h2, h3⟩ := C.ex
  exact wE_callT0 F ⟨h1, h2, h3⟩ (ar.mono hk) tk h hg hdb
/-! ### try: body, except S as n: y = n -/
/-- what is wished of an exception of the body -/
def keptW (K : PySem.W.Frag) (c : Value) (i j : Nat) (nx : G → Mu → Prop) : XW := fun cls d Γ μ => PySem.W.exmOne K cls c = some true ∧ ∀ a, μ a = none → nx ((Γ.set j (some (.loc a))).set i none) (μ.upd a (.exc a cls d))
theorem wS_try {n y z : Str} {cv : Value} {i j : Nat} {body : List Stmt} {np np2 np3 sp pos' : Pos} (hN : X.N.Nodup) (hi : X.N[i]? = some n) (hj : X.N[j]? = some y) (hc : Names X z cv)
    (hb : ∀ (B' : Bs) (pn : List (Addr × Obj)) (xe : Value → Shared → Prop), B.le B' → Fly B' (X.tr pn xe) (keptW X.K cv i j Z.nx) → PassesOwn (model X.prog X.w) X.A X.env xe → wSs B' (X.tr pn xe) body Γ μ Z)
    (hs : X.stack = X.env :: X.outer := by rfl) (hf : X.env.frame = some X.env.locals := by rfl) (hex : X.ex = [] := by rfl) (hln : X.env.kindOf n = some .local := by rfl) (hv : Vis X.env.scope n := by first | exact Or.inl rfl | exact Or.inr (Or.inl rfl) | exact Or.inr (Or.inr rfl))
    (hd : (n == ("__debug__" : Str)) = false := by decide) (hcd : (n == ("__classdict__" : Str)) = false := by decide) (hy : Loc X.env.scope y := by first | exact Or.inl rfl | exact Or.inr rfl)
    (hsw : swapsWith (.Name n np2) (some (.Name y np3)) sp.line X.env = pure false := by rfl) (hfy : X.fn y = true ∨ X.env.scope.names.lookup y = some .local := by first | exact .inl rfl | exact .inr rfl) (il : i < Γ.length := by exact Nat.le_of_ble_eq_true rfl) :
    wS B X (.Try body [.ExceptHandler (some (.Name z np)) (some n) [.Assign [.Name y np3] (.Name n np2) sp] pos'] [] [] pos) Γ μ Z := by
  intro σ M F H bo rs rl
  refine rd_ps (ps_try_keep (Wout := fun _ _ _ _ => False) (i := i) (tb := fun W D σ H => ∀ pn xe, Takes (X.tr pn xe) W → PassesOwn (model X.prog X.w) X.A X.env xe → rdSs (X.tr pn xe) body D σ H)
    (ts := fun a cls d D σ H => ∀ oe pn, Zc cls d oe → (∃ vs, oe.data = .fields vs) → rdSs (X.suite a ((a, oe) :: pn)) [.Assign [.Name y np3] (.Name n np2) sp] D σ H) hs hf hex hN hi hln hc
    (fun u s' ⟨_, _, _, _, _, _, _, _, _, _, _, _, _, _, _, _, q⟩ => q.elim) (fun W pn xe tk pa => ⟨fun pins s σ H D I h => (h pn xe tk pa).o pins s I⟩) (fun a oe cls d pn hz hv => ⟨fun pins s σ H D I h => (h oe pn hz hv).o pins s I⟩)) ?_
  intro pn xe tk pa
  have tk' : Fly ⟨M, F⟩ (X.tr pn xe) (keptW X.K cv i j Z.nx) := ⟨tk.imp fun cls d σ' H' ⟨Γ', M', F', μ', bo', rs', r', hm, hq⟩ => ?_⟩
  · exact (hb ⟨M, F⟩ pn xe bo tk' pa) σ M F H (Bs.ok.own M F) rs rl
  refine ⟨true, hm, fun _ a na => ?_, fun z => nomatch z⟩
  intro oe pn2 hz hvs
  refine ⟨fun pins s I => ?_⟩
  have hlen := I.len
  have hiN : i < X.N.length := (List.getElem?_eq_some_iff.mp hi).1
  have hi2 : i < Γ'.length := by
    rw [rs'.len]
    have h2 : (σ'.set i (some (V.ref a))).length = X.N.length := hlen
    rw [List.length_set] at h2; omega
  have rs2 : RelS (X.suite a ((a, oe) :: pn2)).K (Γ'.set i (some (.loc a))) F' (σ'.set i (some (V.ref a))) := rs'.set (rep_loc.mpr rfl)
  have st : wSs ⟨M', F'⟩ (X.suite a ((a, oe) :: pn2)) [.Assign [.Name y np3] (.Name n np2) sp] (Γ'.set i (some (.loc a))) μ' { nx := fun Γ3 μ3 => Γ3 = (Γ'.set i (some (.loc a))).set j (some (.loc a)) ∧ μ3 = μ', rt := fun _ _ => False } :=
    wSs_cons (wS_set j (wE_name i (by rw [List.getElem?_set_self hi2]) (wSs_nil ⟨rfl, rfl⟩) hi hv hd hcd) hN hj hy hsw hfy)
  refine ((st (σ'.set i (some (V.ref a))) M' F' H' (Bs.ok.own M' F') rs2 r').imp (fun σ3 H3 q n3 => ?_) (fun v H3 q => ?_) (fun σ3 H3 q => ?_) (fun σ3 H3 q => ?_)).o pins s I
  · obtain ⟨Γ3, F3, μ3, ex3, rs3, r3, rfl, rfl⟩ := q
    obtain ⟨nm, r4⟩ := r3.new (m := .exc a cls d) (o := XO a cls d) n3 rfl
    refine ⟨((Γ'.set j (some (.loc a))).set i none), F3, _, bo'.f.trans ex3, ?_, r4.less bo'.m, hq a nm⟩
    have e : ((Γ'.set j (some (A.loc a))).set i none) = (((Γ'.set i (some (A.loc a))).set j (some (A.loc a))).set i none) := by
      by_cases ij : i = j
      · subst ij; simp only [List.set_set]
      · rw [List.set_comm (some (A.loc a)) (some (A.loc a)) ij, List.set_set]
    rw [e]
    refine ⟨by have := rs3.len; simp only [List.length_set] at this ⊢; exact this, fun q x hx => ?_⟩
    rw [List.getElem?_set] at hx
    split at hx
    · split at hx <;> cases hx
    · rename_i hne
      obtain ⟨v, h1, h2⟩ := rs3.at_ q x hx
      exact ⟨v, by rw [List.getElem?_set_ne hne]; exact h1, h2⟩
  · obtain ⟨_, _, _, _, _, _, z⟩ := q; exact z.elim
  · obtain ⟨_, _, _, _, _, _, z⟩ := q; exact z.elim
  · obtain ⟨_, _, _, _, _, _, z⟩ := q; exact z.elim
end
end D

set_option exponentiation.threshold 256
set_option pp.maxSteps 5000
set_option Elab.async false
set_option linter.all false
set_option maxRecDepth 100000
set_option maxHeartbeats 4000000
/-! DT: a lambda handed to a def, over data. -/
namespace D
open PySem PySem.Spec PyProof.Rows L2
open LamX (CodeO TabB LamS lamCx lamEnv)
section
variable {X : Cx} {H : Hp} {s : Shared} {pins : List (Addr × Obj)} {σ : L2.St}
/-- the lambda's object -/
abbrev lamObj (X : Cx) (params : Arguments) (body : Expr) (scope : Scope) (pm ctv : Value) (c' : Addr) : Obj := PySem.W.kla_obj "<lambda>" (X.env.qual ++ "<lambda>") params body scope (cloFrom X.env.cells scope.names []) pm c' ctv
/-- what lies above the heap is nobody's yet -/
theorem Inv_new (I : L2.Inv X pins σ H s) {f : Addr} (up : s.heap.objs.size ≤ f) : H f = none ∧ f ∉ frs X.stack := by
  refine ⟨I.hok.fresh up, fun m => ?_⟩
  obtain ⟨_, o, e, _⟩ := I.stack.mem m
  exact Nat.lt_irrefl _ (Nat.lt_of_lt_of_le (Heap.lt_size e) up)
/-- the maker's table after it was asked for the lambda at pos: the code object c' was in it, or it is new -/
def Asked (H : Hp) (P : Addr) (ps : Array Value) (q : Str) (pos : Pos) (c' : Addr) (H1 : Hp) : Prop :=
  (H1 = H ∧ codeAmong pos ps.toList = some (.ref c')) ∨ (H c' = none ∧ ∃ ps' : Array Value, H1 = upd (upd H P (.tbl ps')) c' (CodeO c' q) ∧ TriplesOk ps'.toList ∧ ∀ (p' : Pos) (cv : Value), codeAmong p' ps'.toList = some cv → codeAmong p' ps.toList = some cv ∨ cv = .ref c')
/-- the table with one more entry -/
theorem asked_new {P c' : Addr} {ps : Array Value} {q : Str} {pos : Pos} (ok : TriplesOk ps.toList) (nc : H c' = none) : Asked H P ps q pos c' (upd (upd H P (.tbl (ps ++ #[rawInt pos.line, rawInt pos.col, .ref c']))) c' (CodeO c' q)) := by
  have flat : (ps ++ #[rawInt pos.line, rawInt pos.col, .ref c']).toList = ps.toList ++ [rawInt pos.line, rawInt pos.col, .ref c'] := Array.toList_append
  refine .inr ⟨nc, _, rfl, flat ▸ PySem.TriplesOk_snoc _ _ _ _ ok, fun p' cv => ?_⟩
  rw [flat]; exact LamX.among_app _ ok
/-- a lambda is made: its object at f, its code object in the maker's table -/
theorem lam_mk {c P : Addr} {ps : Array Value} {params : Arguments} {body : Expr} {scope : Scope} {pos : Pos} {E : Value → Shared → Prop} {Q : Value → Shared → Prop} (I : L2.Inv X pins σ H s) (TB : TabB X.base X.mg c P) (hcode : X.env.code = .ref c)
    (hP : H P = some (.tbl ps)) (ht : TriplesOk ps.toList) (ha : ∀ (pos : Pos) (cv : Value), codeAmong pos ps.toList = some cv → ∃ c, cv = .ref c ∧ H c = some (CodeO c (X.env.qual ++ "<lambda>"))) (hdef : defaultsOf params X.env = ([], [])) (hfree : ∀ y ∈ scope.names, y.2 = .free → ∃ c, X.env.cells.lookup y.1 = some c)
    (h : ∀ (f c' : Addr) (pm ctv : Value) (H1 : Hp) (s' : Shared), L2.Inv X pins σ H1 s' → Asked H P ps (X.env.qual ++ "<lambda>") pos c' H1 → s'.heap.get? f = some (lamObj X params body scope pm ctv c') → H1 f = none → f ∉ frs X.stack → Q (.ref f) s') :
    wpAny (model X.prog X.w) X.A (eval (.Lambda params body scope pos) X.env) Q E s := by
  have table : s.heap.get? P = some { cls := .none, data := .fields ps } := I.hok P _ hP
  have globals := I.mod.glob.keeps I.bk
  have builtins := TB.bm.keeps I.bk
  have clo := closure_ok hfree
  refine PySem.W.kla_eval hdef ?_
  rcases among : codeAmong pos ps.toList with _ | cv
  · refine PySem.W.kla_makeFunction (mg := X.mg) clo I.ok.glob globals hcode (TB.code.keeps I.bk) table ht among TB.gP builtins ?_
    rintro c' ctv g tk others above below ⟨_, oc, vs, t, ⟨⟩, e1, e2, e3⟩ table'
    have up : s.heap.objs.size ≤ g.objs.size := Nat.le_trans above (Nat.le_of_lt below)
    have nc := (Inv_new I above).1
    let lam := lamObj X params body scope ((X.mg "__name__").getD .none) ctv c'
    have put : ∀ {b : Addr} {o : Obj}, g.get? b = some o → (g.push lam).get? b = some o := fun e => Heap.get?_push_of_some lam e
    have J := LamX.inv_table (t' := tk) (q := X.env.qual ++ "<lambda>") (more := #[rawInt pos.line, rawInt pos.col, .ref c']) (h' := g.push lam) I hP (fun b o ne e => put (others b o ne e)) (put table') above ⟨oc, vs, t, put e1, e2, e3⟩
    have new := Inv_new I up
    refine h g.objs.size c' _ ctv _ _ J (asked_new ht nc) (Heap.get?_push_size _ rfl) ?_ new.2
    have ne1 : g.objs.size ≠ c' := fun z => Nat.lt_irrefl _ (z ▸ below)
    have ne2 : g.objs.size ≠ P := fun z => by have := Nat.lt_of_lt_of_le (Heap.lt_size table) up; rw [z] at this; exact Nat.lt_irrefl _ this
    exact (upd_ne ne1).trans ((upd_ne ne2).trans new.1)
  · obtain ⟨c', rfl, known⟩ := ha pos cv among
    refine PySem.W.kla_makeFunctionHit (mg := X.mg) clo I.ok.glob globals hcode (TB.code.keeps I.bk) table ht among builtins fun ctv g tk others above => ?_
    have new := Inv_new I above
    exact h g.objs.size c' _ ctv H { s with heap := g.push _, toks := tk } (I.kept fun b o e => Heap.get?_push_of_some _ (others b o e)) (.inl ⟨rfl, among⟩) (Heap.get?_push_size _ rfl) new.1 new.2
end
/-- the table's growth, over data -/
theorem Rel.table {K : PySem.W.Frag} {μ : Mu} {M F H H1 : Hp} {P c' : Addr} {q : Str} {ps : Array Value} (r : Rel K μ M F H) (hm : μ P = some (.tbl q)) (hP : H P = some (.tbl ps)) (hF : ∀ (p' : Pos) (cv : Value), codeAmong p' ps.toList = some cv → ∃ c, cv = .ref c ∧ F c = some (CodeO c q))
    {pos : Pos} (e : Asked H P ps q pos c' H1) :
    ∃ F1, Ex F F1 ∧ Rel K μ M F1 H1 ∧ F1 c' = some (CodeO c' q) := by
  rcases e with ⟨rfl, h⟩ | ⟨nc, ps', rfl, ht, hps⟩
  · obtain ⟨c, e1, e2⟩ := hF _ _ h
    cases e1
    exact ⟨F, .refl _, r, e2⟩
  · have nF : F c' = none := r.sub.none nc
    have nM : M c' = none := by
      cases z : M c' with
      | none => rfl
      | some o => have := (r.frm c' o z).2.2; rw [nc] at this; cases this
    have nμ : μ c' = none := by
      cases z : μ c' with
      | none => rfl
      | some m => obtain ⟨_, o, h1, _⟩ := r.own c' m z; rw [nc] at h1; cases h1
    have nP : P ≠ c' := fun z => by rw [z, nc] at hP; cases hP
    have fP : F P = none := (r.own P _ hm).1
    have ex : Ex F (upd F c' (CodeO c' q)) := .new nF
    refine ⟨_, ex, ⟨fun b o h => ?_, fun p m h => ?_, fun p o h => ?_⟩, upd_same⟩
    · by_cases hb : b = c'
      · subst hb; rw [upd_same] at h ⊢; exact h
      · rw [upd_ne hb] at h ⊢
        rw [upd_ne (fun z => by rw [z, fP] at h; cases h)]
        exact r.sub b o h
    · obtain ⟨h1, o, h2, h3⟩ := r.own p m h
      have np : p ≠ c' := fun z => by rw [z, nμ] at h; cases h
      refine ⟨by rw [upd_ne np]; exact h1, ?_⟩
      by_cases hb : p = P
      · subst hb
        rw [hm] at h; cases h
        refine ⟨.tbl ps', by rw [upd_ne np, upd_same], ps', rfl, ht, fun p' cv hcv => ?_⟩
        rcases hps p' cv hcv with z | z
        · obtain ⟨c, e1, e2⟩ := hF p' cv z
          exact ⟨c, e1, ex _ _ e2⟩
        · exact ⟨c', z, upd_same⟩
      · exact ⟨o, by rw [upd_ne np, upd_ne hb]; exact h2, h3.mono ex⟩
    · obtain ⟨h1, h2, h3⟩ := r.frm p o h
      have np : p ≠ c' := fun z => by rw [z, nM] at h; cases h
      have nP2 : p ≠ P := fun z => by rw [z, hm] at h2; cases h2
      exact ⟨by rw [upd_ne np]; exact h1, h2, by rw [upd_ne np, upd_ne nP2]; exact h3⟩
section
variable {X : Cx} {H : Hp} {s : Shared} {pins : List (Addr × Obj)} {σ : L2.St}
/-- what a call's end is for its caller Z: a value, or an exception that Z's own reading takes -/
theorem back_to {Z : Cx} {pins : List (Addr × Obj)} {σ : L2.St} {H : Hp} {s : Shared} {C : CXT} {Q : VK} {E : XK} (J : L2.Inv Z pins σ H s) (out : ∀ e s', C Z.stack H s E e s' → Z.xe e s') {r : Result} {s' : Shared} (q : CR C Z.stack Z.prog Z.w H s Q E r s') :
    wants (fun v s1 => EP Z pins σ Q v s1) Z.xe r s' := by
  rcases r with e | f
  · exact out e s' q
  · cases f
    case ret u => exact J.after q
    all_goals exact q.elim
/-- the lambda at f is called from the frames outer -/
theorem deed_code {A : Around} {outer : List Env} {s1 : Shared} {HZ : Hp} {E : XK} {f c' : Addr} {pm ctv : Value} {params : Arguments} {body : Expr} {scope : Scope} {k : Nat} {tb : TE} {Q : VK}
    (I : L2.Inv X pins σ H s) (L : LamS X.env.scope scope) (e0 : Env0 X.prog X.w X.K X.mg X.base A outer s1 HZ) (un : Un (frs X.stack) [] H HZ s.heap s1.heap) (free : s1.heap.NoLimit) (obj : s1.heap.get? f = some (lamObj X params body scope pm ctv c')) (code : ObjOk X.prog X.w HZ s1.heap c' (CodeO c' (X.env.qual ++ "<lambda>")))
    (bind : bindArgs (PySem.W.kla_fn "<lambda>" (X.env.qual ++ "<lambda>") params body scope (cloFrom X.env.cells scope.names []) pm (.ref c') ctv) ⟨[], []⟩ = pure []) (room : Room (k + 1) A)
    (read : Room k (A.deeper (lamEnv X scope s1.heap.objs.size f c')) → PE (lamCx X A outer s1 HZ E scope f c') body tb) (q : tb σ HZ Q) :
    codeAny (model X.prog X.w) A (.call (.ref f) ⟨[], []⟩) (CR (L2.CX X.prog X.w) outer X.prog X.w HZ s1 Q E) s1 := by
  obtain ⟨oc, vs, t, c1, c2, c3⟩ := code.1
  refine PySem.W.kla_callFunE room.depth obj rfl L.co L.gen rfl ⟨c', oc, vs, t, rfl, c1, c2, c3⟩ ?_
  rw [bind]
  refine wpAny_pure (wpAny_newFunctionEnv (fun y m => (L.own y m).2) (fun y m => by cases m) (fun g ns sb => ⟨free.fresh _ sb, PySem.W.kla_codeExpr ?_⟩) L.kind)
  have stays : ∀ b o, s1.heap.get? b = some o → g.get? b = some o := fun b o e => sb.extBut b o (fun z => Nat.lt_irrefl _ (z ▸ Heap.lt_size e)) (Heap.get?_push_of_some _ e)
  have J := LamX.lam_start2 (E := E) (f := f) (c' := c') (tk := s1.toks + 0) I L e0 room.hd un ns stays
  exact wpAny_mono ((read (room.deeper _)).run [] _ σ HZ Q J q) (fun v s' got => got.imp fun w got => got.imp fun H' got => ⟨got.1.os, got.1.bare, got.1.base, got.1.hok, got.2⟩) fun _ _ z => z
/-- a(), in the def Z that got the lambda as a -/
theorem pe_deed {CXg : CXT} {Eg : XK} {Ng : List Str} {qg : Str} {sg : Scope} {g f c' : Addr} {cdg pm ctv : Value} {params : Arguments} {body : Expr} {scope : Scope} {k i : Nat} {a : Str} {pn : List (Addr × Obj)} {xe : Value → Shared → Prop} {W : WX} {E : XK} {tb : TE} {p1 p2 : Pos}
    (I : L2.Inv X pins σ H s) (L : LamS X.env.scope scope) (hf : s.heap.get? f = some (lamObj X params body scope pm ctv c')) (hfn : H f = none) (hfr : f ∉ frs X.stack)
    (hbind : bindArgs (PySem.W.kla_fn "<lambda>" (X.env.qual ++ "<lambda>") params body scope (cloFrom X.env.cells scope.names []) pm (.ref c') ctv) ⟨[], []⟩ = pure [])
    (tk : Takes ((cxOf CXg X.prog X.w X.K X.mg X.base Ng qg sg g cdg X.A X.stack s H Eg).tr pn xe) W) (hr : Room (k + 1) (X.A.deeper (envOfC qg sg s.heap.objs.size g cdg))) (hg : X.A.guards = some [])
    (hbody : ∀ (A : Around) (outer : List Env) (s : Shared) (H : Hp), Room k (A.deeper (lamEnv X scope s.heap.objs.size f c')) → A.guards = some [] → PE (lamCx X A outer s H E scope f c') body tb)
    (hN : Ng[i]? = some a) (hv : Vis sg a) (hd : (a == ("__debug__" : Str)) = false) (hcd : (a == ("__classdict__" : Str)) = false) {pinsZ : List (Addr × Obj)} {sZ : Shared} {σZ : L2.St} {HZ : Hp} {Q : VK}
    (IZ : L2.Inv ((cxOf CXg X.prog X.w X.K X.mg X.base Ng qg sg g cdg X.A X.stack s H Eg).tr pn xe) pinsZ σZ HZ sZ) (hW : ∀ cls d H', E cls d H' → W cls d σZ H') (hs : σZ[i]? = some (some (.ref f))) (hc : HZ c' = some (CodeO c' (X.env.qual ++ "<lambda>"))) (ht : tb σ HZ Q) :
    wpAny (model X.prog X.w) ((cxOf CXg X.prog X.w X.K X.mg X.base Ng qg sg g cdg X.A X.stack s H Eg).tr pn xe).A (eval (.Call (.Name a p1) [] [] p2) ((cxOf CXg X.prog X.w X.K X.mg X.base Ng qg sg g cdg X.A X.stack s H Eg).tr pn xe).env) (EP ((cxOf CXg X.prog X.w X.K X.mg X.base Ng qg sg g cdg X.A X.stack s H Eg).tr pn xe) pinsZ σZ Q) ((cxOf CXg X.prog X.w X.K X.mg X.base Ng qg sg g cdg X.A X.stack s H Eg).tr pn xe).xe sZ := by
  have name := (pe_var (X := (cxOf CXg X.prog X.w X.K X.mg X.base Ng qg sg g cdg X.A X.stack s H Eg).tr pn xe) (pos := p1) (i := i) hN hv hd hcd).run pinsZ sZ σZ HZ (fun v H1 => v = .ref f ∧ H1 = HZ) IZ ⟨.ref f, hs, rfl, rfl⟩
  refine wpAny_Call_Name_kw (thn name fun u s1 got => ?_)
  obtain ⟨_, _, J, ru, rfl, same⟩ := got
  rw [same] at J
  obtain rfl : u = Value.ref f := ru
  have obj := J.base.keep f _ hf hfn hfr List.not_mem_nil
  refine PySem.W.callWith_F0 ⟨_, _, _, _, obj⟩ (wpAny_call (codeAny_mono ?_ fun r s' q => back_to J (fun e s2 x => tk e s2 (XE.of_call J hW x)) q))
  exact deed_code I L J.env0 J.base J.nolimit obj (J.hok c' _ hc) hbind hr (fun room => hbody _ _ _ _ room hg) ht
end
/-! ### over data -/
/-- what a deed promises: the cells when it is done, what is wanted of its answer, of its exception -/
abbrev DL := Mu → (A → Mu → Prop) → (Value → Option Addr → Mu → Prop) → Prop
/-- in the context Z the deed, held by name a (slot 0), keeps dl -/
structure Act (B : Bs) (Z : Cx) (a : Str) (f : Addr) (dl : DL) : Prop where
  o : ∀ (B' : Bs) (pn : List (Addr × Obj)) (xe : Value → Shared → Prop) (Γ : G) (μ : Mu) (Q : A → Mu → Prop) (E1 : XW) (p1 p2 : Pos), B.le B' → Fly B' (Z.tr pn xe) E1 → Γ[0]? = some (some (.loc f)) → dl μ Q (fun cls d μ' => E1 cls d Γ μ') → wE B' (Z.tr pn xe) (.Call (.Name a p1) [] [] p2) Γ μ Q
/-- what is known of a def that is handed a deed: what it makes of the deed's promise -/
structure LG (P : Program) (w : World) (K : PySem.W.Frag) (mg : Str → Option Value) (base : Heap) (k : Nat) (x : Str) (c : DL → Mu → (A → Mu → Prop) → Prop) : Prop where
  ex : ∃ (g : Addr) (pg : Arguments) (bg : List Stmt) (sg : Scope) (dV kV doc pm cdv ct oc : Value) (an od : Option Addr) (osl : Array (Option Value)) (Ng : List Str) (a : Str), mg x = some (.ref g) ∧ PySem.W.keepIn K (.ref g) = true ∧
    K.lookup g = some ⟨oc, od, .func (PySem.W.fnOf x x pg bg sg dV kV doc pm an cdv ct), osl⟩ ∧ PySem.W.codeIn K cdv x = true ∧ L2.Binds K (PySem.W.fnOf x x pg bg sg dV kV doc pm an cdv ct) [a] [] ∧ FnScope Ng [a] sg ∧ Ng[0]? = some a ∧ Vis sg a ∧ (a == ("__debug__" : Str)) = false ∧ (a == ("__classdict__" : Str)) = false ∧
    ∀ (B : Bs) (A : Around) (outer : List Env) (s : Shared) (H : Hp) (f : Addr) (dl : DL) (μ : Mu) (Q : D.A → Mu → Prop), Ar (cxOf C8.CX0 P w K mg base Ng x sg g cdv A outer s H C8.E0) k → c dl μ Q → Act B (cxOf C8.CX0 P w K mg base Ng x sg g cdv A outer s H C8.E0) a f dl →
      wSs B (cxOf C8.CX0 P w K mg base Ng x sg g cdv A outer s H C8.E0).nox bg (startA Ng [.loc f]) μ { nx := fun _ μ' => Q .non μ', rt := Q }
/-- a context of the lambda's body -/
def LamZ (X : Cx) (scope : Scope) (Z : Cx) : Prop := ∃ A outer s H E f c', Z = lamCx X A outer s H E scope f c'
theorem wE_lam {B : Bs} {X : Cx} {k j : Nat} {x q : Str} {cc P : Addr} {c : DL → Mu → (A → Mu → Prop) → Prop} {Γ : G} {μ : Mu} {Q : A → Mu → Prop} {params : Arguments} {body : Expr} {scope : Scope} {p lpos pos : Pos}
    (C : LG X.prog X.w X.K X.mg X.base k x c) (ar : Ar X j) (hk : k + 2 ≤ j) (TB : TabB X.base X.mg cc P) (hcode : X.env.code = .ref cc) (hq : X.env.qual ++ "<lambda>" = q) (hm : μ P = some (.tbl q)) (L : LamS X.env.scope scope) (hdef : defaultsOf params X.env = ([], []))
    (hbind : ∀ (q : Str) (cl : List (Str × Addr)) (pm cv ctv : Value), bindArgs (PySem.W.kla_fn "<lambda>" q params body scope cl pm cv ctv) ⟨[], []⟩ = pure [])
    (h : ∀ dl : DL, (∀ μZ Q' E', (∀ (B' : Bs) (Z : Cx), LamZ X scope Z → Ar Z k → Fly B' Z (fun cls d _ μ' => E' cls d μ') → PassesOwn (model Z.prog Z.w) Z.A Z.env Z.xe → wE B' Z body Γ μZ Q') → dl μZ Q' E') → c dl μ Q) (hg : Gl X x := by rfl)
    (hdb : (x == ("__debug__" : Str)) = false := by decide) : wE B X (.Call (.Name x p) [.Lambda params body scope lpos] [] pos) Γ μ Q := by
  subst hq
  obtain ⟨g, pg, bg, sg, dV, kV, doc, pm, cdv, ct, oc, an, od, osl, Ng, a, m1, m2, m3, m4, m5, m6, m7, m8, m9, m10, go⟩ := C.ex
  intro σ M F H bo rs rl
  refine ⟨fun pins s I => ?_⟩
  refine wpAny_Call_Name_kw (ld_glob I hg m1 ?_ hdb)
  refine PySem.W.callWith_K (h₀ := X.base) I.ok.mod.kin m2 ?_ (by rfl) (by rfl)
  show wpAny _ _ (spliced ((false, eval (.Lambda params body scope lpos) X.env) :: backTo pos (starEach [] X.env))) _ _ s
  obtain ⟨_, o, hP, ps, rfl, ht, ha⟩ := rl.own P _ hm
  refine Calls.spliced_cons (lam_mk I TB hcode hP ht (fun p' cv hcv => let ⟨c, e1, e2⟩ := ha p' cv hcv; ⟨c, e1, rl.sub _ _ e2⟩) hdef (L.has I.ok) fun f c' pm' ctv H1 s' I1 grown hf hfn hfr => ?_)
  obtain ⟨F1, ex1, rl1, hc1⟩ := rl.table hm hP ha grown
  refine Calls.spliced_nil ⟨I1.kIn, ?_⟩
  have rs1 := rs.mono ex1
  let dl : DL := fun μZ Q' E' => ∀ (B' : Bs) (Z : Cx), Bs.le ⟨M, F1⟩ B' → LamZ X scope Z → Ar Z k → Fly B' Z (fun cls d _ μ' => E' cls d μ') → PassesOwn (model Z.prog Z.w) Z.A Z.env Z.xe → wE B' Z body Γ μZ Q'
  have cdl : c dl μ Q := h dl fun μZ Q' E' k => fun B' Z _ a b t u => k B' Z a b t u
  have room2 : Room (k + 2) X.A := ar.room.mono hk
  have rc : codeAny (model X.prog X.w) X.A (.call (.ref g) ⟨[.ref f], []⟩) (CR C8.CX0 X.stack X.prog X.w H1 s' (QE X.K M F Q) C8.E0) s' := by
    refine LamX.run_ofS (N := Ng) (ps := [a]) (us := [.ref f]) (vs := [.ref f]) m3 m4 m6 room2 I1.env0 (m5 s' [.ref f] I1.kIn rfl) (.cons rfl .nil) rfl fun hr' => ?_
    have act : Act ⟨M, F1⟩ (cxOf C8.CX0 X.prog X.w X.K X.mg X.base Ng x sg g cdv X.A X.stack s' H1 C8.E0) a f dl := ⟨fun B' pn xe ΓZ μZ Q' E1 p1 p2 le tkZ h0 hd => by
      intro σZ MZ FZ HZ boZ rsZ rlZ
      refine ⟨fun pinsZ sZ IZ => ?_⟩
      have b1 := le.ok boZ
      obtain ⟨vf, hvf, rvf⟩ := rsZ.at_ 0 _ h0
      rw [rep_loc] at rvf; subst rvf
      refine pe_deed (E := fun cls d H' => ∃ F' μ', Ex FZ F' ∧ Rel X.K μ' MZ F' H' ∧ E1 cls d ΓZ μ') (tb := fun σ HZ Q => ∀ (A : Around) (outer : List Env) (s2 : Shared) (H2 : Hp), Room k (A.deeper (lamEnv X scope s2.heap.objs.size f c')) → A.guards = some [] → rdE (lamCx X A outer s2 H2 (fun cls d H' => ∃ F' μ', Ex FZ F' ∧ Rel X.K μ' MZ F' H' ∧ E1 cls d ΓZ μ') scope f c') body σ HZ Q)
        (i := 0) I1 L hf hfn hfr (hbind _ _ _ _ _) tkZ.o hr' ar.show0 (fun A outer s2 H2 hr2 hg2 => ⟨fun pins s σ H Q I h => (h A outer s2 H2 hr2 hg2).o pins s I⟩) m7 m8 m9 m10 IZ (fun cls d H' ⟨F', μ', e1, r1, q⟩ => ⟨ΓZ, MZ, F', μ', boZ.mono e1, rsZ.mono e1, r1, q⟩) hvf (rlZ.sub _ _ (b1.f _ _ hc1)) (fun A outer s2 H2 hr2 hg2 => ?_)
      have tkL : Fly ⟨MZ, FZ⟩ (lamCx X A outer s2 H2 (fun cls d H' => ∃ F' μ', Ex FZ F' ∧ Rel X.K μ' MZ F' H' ∧ E1 cls d ΓZ μ') scope f c') (fun cls d _ μ' => E1 cls d ΓZ μ') :=
        ⟨(takes_of (E := fun cls d H' => ∃ F' μ', Ex FZ F' ∧ Rel X.K μ' MZ F' H' ∧ E1 cls d ΓZ μ') rfl rfl rfl rfl).imp fun cls d σ' H' ⟨Γ', M', F', μ', bo', rs', r', q⟩ => ⟨F', μ', bo'.f, r'.less bo'.m, q⟩⟩
      exact (hd ⟨MZ, FZ⟩ _ b1 ⟨A, outer, s2, H2, _, f, c', rfl⟩ ⟨hr2, hg2⟩ tkL (passes_of rfl)) σ MZ FZ HZ (Bs.ok.own MZ FZ) (rs1.mono b1.f) rlZ⟩
    have go1 := go ⟨M, F1⟩ X.A X.stack s' H1 f dl μ Q ⟨hr'.mono (by omega), ar.show0⟩ cdl act (L2.start Ng [.ref f]) M F1 H1 (Bs.ok.own M F1) (relS_start Ng (.cons (rep_loc.mpr rfl) .nil)) rl1
    refine ⟨_, pss_rd.nox, go1.imp (fun σ2 H2 q => ?_) (fun v H2 q => ?_) (fun σ2 H2 q => ?_) (fun σ2 H2 q => ?_)⟩
    · obtain ⟨Γ', F', μ', e2, _, r2, q⟩ := q
      exact ⟨.non, F', μ', ex1.trans e2, r2, rep_non.mpr rfl, q⟩
    · obtain ⟨y, F', μ', e2, r2, p2, q⟩ := q
      exact ⟨y, F', μ', ex1.trans e2, r2, p2, q⟩
    · obtain ⟨_, _, _, _, _, _, q⟩ := q; exact q
    · obtain ⟨_, _, _, _, _, _, q⟩ := q; exact q
  exact wpAny_call (codeAny_mono rc fun r s2 q => back_to I1 (fun e s3 x => (show False from x).elim) q)
end D

set_option exponentiation.threshold 256
set_option pp.maxSteps 5000
set_option Elab.async false
set_option linter.all false
set_option maxRecDepth 100000
set_option maxHeartbeats 4000000
/-! DV: of what class a kept exception is; methods that raise. -/
namespace D
open PySem PySem.Spec PyProof.Rows L2
/-- a class as a value -/
def ClsA (c : A) (cv : Value) : Prop := (∃ C, c = .loc C ∧ cv = .ref C) ∨ ∃ n, c = .ty n ∧ cv = .type n
theorem ClsA.eq {K : PySem.W.Frag} {F : Hp} {c : A} {cv : Value} {v : V} {u : Value} (h : ClsA c cv) (r : Rep K F c v) (rv : RelV v u) : u = cv := by
  rcases h with ⟨C, rfl, rfl⟩ | ⟨n, rfl, rfl⟩
  · rw [rep_loc] at r; subst r; exact rv
  · rw [rep_ty] at r; subst r; exact rv
section
variable {B : Bs} {X : Cx} {Γ : G} {μ : Mu} {Q : A → Mu → Prop} {Z : AD} {o e : Expr} {es : List Expr} {pos apos : Pos} {m : Str} {C : Addr} {j k : Nat} {cc : AC} {E1 : XW}
theorem kept_at {pins : List (Addr × Obj)} {σ : L2.St} {H M F : Hp} {s : Shared} {a D : Addr} (I : Inv X pins σ H s) (rl : Rel X.K μ M F H) (ha : μ a = some (.exc a (.ref D) none)) : ∃ oe, PySem.W.InstAt s.heap a oe D none := by
  obtain ⟨_, ob, g1, g2⟩ := rl.own a _ ha
  have e : ob = XO a (.ref D) none := g2
  subst e
  obtain ⟨⟨oe, vs, h1, h2, h3⟩, _⟩ := I.hok a _ g1
  obtain ⟨oc, od, oda, osl⟩ := oe
  obtain ⟨z1, z2⟩ := h2
  dsimp only at z1 z2 h3
  subst z1 z2 h3
  exact ⟨_, h1, rfl, rfl, trivial⟩
/-- isinstance(e, c), e a kept exception without a dict -/
theorem wC_isX {a D : Addr} {c : A} {cv : Value} {b : Bool} (N : ExcC X.K D) (ha : μ a = some (.exc a (.ref D) none)) (hc : ClsA c cv) (e : PySem.W.kitOne X.K (.ref D) cv = some b) (q : Q (.bl b) μ) : wC X (.builtin "isinstance") [.loc a, c] μ Q := by
  intro M F H vs rl rp
  refine ⟨fun pins s σ us I rv => ?_⟩
  obtain ⟨v, w, rfl, h1, h2⟩ := rp.two
  obtain ⟨u, t, rfl, ru, rt⟩ : ∃ u t, us = [u, t] ∧ RelV v u ∧ RelV w t := by
    cases rv with
    | cons r1 r2 => cases r2 with
      | cons r3 r4 => cases r4; exact ⟨_, _, rfl, r1, r3⟩
  rw [rep_loc] at h1; subst h1
  cases ru
  obtain rfl := hc.eq h2 rt
  obtain ⟨oe, J⟩ := kept_at I rl ha
  exact PySem.W.kia_one (PySem.W.handS_kitx_exc N.hg N.hk N.hs N.hd N.ha N.hn N.ht N.hm) I.kIn J e (fun z => nomatch z) fun tk => ⟨.bl b, H, I.kept (t' := tk) fun _ _ z => z, rfl, .pure rl (rep_bl.mpr rfl) q⟩
inductive ClsAs : List A → List Value → Prop
  | nil : ClsAs [] []
  | cons {c : A} {cv : Value} {cs : List A} {cvs : List Value} : ClsA c cv → ClsAs cs cvs → ClsAs (c :: cs) (cv :: cvs)
theorem ClsAs.eq {K : PySem.W.Frag} {F : Hp} : ∀ {cs : List A} {cvs us : List Value} {vs : List V}, ClsAs cs cvs → RepL K F cs vs → Vals vs us → us = cvs
  | _, _, _, _, .nil, h, r => by simp only [RepL] at h; subst h; cases r; rfl
  | _, _, _, _, .cons c t, h, r => by
    simp only [RepL] at h
    obtain ⟨v, w, rfl, h1, h2⟩ := h
    cases r with
    | cons r1 r2 => rw [c.eq h1 r1, t.eq h2 r2]
/-- isinstance(e, (c, ..)) -/
theorem wC_isXT {a D : Addr} {cs : List A} {cvs : List Value} {b : Bool} (N : ExcC X.K D) (ha : μ a = some (.exc a (.ref D) none)) (hc : ClsAs cs cvs) (e : PySem.W.kitAny X.K (.ref D) cvs = some b) (q : Q (.bl b) μ) : wC X (.builtin "isinstance") [.loc a, .tup cs] μ Q := by
  intro M F H vs rl rp
  refine ⟨fun pins s σ us I rv => ?_⟩
  obtain ⟨v, w, rfl, h1, h2⟩ := rp.two
  obtain ⟨u, t, rfl, ru, rt⟩ : ∃ u t, us = [u, t] ∧ RelV v u ∧ RelV w t := by
    cases rv with
    | cons r1 r2 => cases r2 with
      | cons r3 r4 => cases r4; exact ⟨_, _, rfl, r1, r3⟩
  rw [rep_loc] at h1; subst h1
  cases ru
  rw [rep_tup] at h2
  obtain ⟨tp, xs, rfl, g1, g2⟩ := h2
  cases rt
  obtain ⟨its, hv, ht, _⟩ := I.tuple (rl.sub.t g1)
  have e3 := hc.eq g2 hv
  subst e3
  obtain ⟨⟨oc, od, dt, sl⟩, h1, rfl, n, rfl⟩ := ht
  obtain ⟨oe, J⟩ := kept_at I rl ha
  exact PySem.W.kia_tup (PySem.W.handS_kitx_exc N.hg N.hk N.hs N.hd N.ha N.hn N.ht N.hm) I.kIn J h1 e (fun z => nomatch z) fun tk => ⟨.bl b, H, I.kept (t' := tk) fun _ _ z => z, rfl, .pure rl (rep_bl.mpr rfl) q⟩
/-- what a caller knows of a method that may let exceptions out -/
structure CalMX (P : Program) (w : World) (K : PySem.W.Frag) (mg : Str → Option Value) (base : Heap) (k : Nat) (C : Addr) (m : Str) (c : AC) : Prop where
  ex : ∃ (f : Addr) (fd : FuncData) (ps : List Str), FnD P w K mg base (L2.CX P w) k f fd ps c ∧ Meth K C m f ∧ Binds K fd ps []
theorem wE_methX (cl : Cls X.K C) (Dm : CalMX X.prog X.w X.K X.mg X.base k C m cc) (ar : Ar X j) (hk : k ≤ j) (tk : Fly B X E1) (h : wE B X o Γ μ fun x μ1 => ∃ p dx fs, x = .loc p ∧ μ1 p = some (.ins C dx fs) ∧ fs.lookup m = none ∧ wA B X (e :: es) Γ μ1 fun xs μ2 => cc (.loc p :: xs) μ2 Q fun cls d μ' => E1 cls d Γ μ')
    {pl : Sem Bool} (hst : starEach (e :: es) X.env = (false, eval e X.env) :: starEach es X.env := by rfl) (hpl : (backTo pos (starEach es X.env)).any (·.1) = false := by rfl)
    (ht : eval (.Call (.Attribute o m apos) (e :: es) [] pos) X.env = (eval o X.env >>= fun a => standAt apos.atName >>= fun _ => (holding [a] (getMethod a m pl) >>= fun g => callWith pos g.1 g.2 (backTo pos (starEach (e :: es) X.env)) (backToKw pos (keywordEach [] X.env)))) := by rfl) : wE B X (.Call (.Attribute o m apos) (e :: es) [] pos) Γ μ Q := by
  obtain ⟨fa, fd, ps, Fn, hm, bi⟩ := Dm.ex
  intro σ M F0 H bo rs rl
  refine ⟨fun pins s I => ?_⟩
  refine PySem.W.methodCall_KW (pl := pl) (thn ((h σ M F0 H bo rs rl).o pins s I) fun u s1 got => ?_) ht
  obtain ⟨v, H1, I1, rv, x, F1, μ1, ex1, r1, p1, p, dx, fs, ex, hp, hl, q1⟩ := got
  subst ex; rw [rep_loc] at p1; subst p1
  obtain rfl : u = Value.ref p := rv
  obtain ⟨_, ob, g1, ws, rfl, g2⟩ := r1.own p _ hp
  refine getmeth_ok I1 g1 cl hm (lookup_none g2 hl) ?_
  refine PySem.W.callWith_K (first := [.ref p]) (h₀ := X.base) I.ok.mod.kin hm.kp (thn ((q1 σ M F1 H1 (bo.mono ex1) (rs.mono ex1) r1).o pos pins s1 I1) fun us s2 got2 => ?_) hst hpl
  obtain ⟨vs, H2, I2, rvs, xs, F2, μ2, ex2, r2, rp, hc⟩ := got2
  refine ⟨I2.kIn, runT (us := .ref p :: us) (vs := .ref p :: vs) (dvs := []) (E := fun cls d H' => ∃ F' μ', Ex F0 F' ∧ Rel X.K μ' M F' H' ∧ E1 cls d Γ μ') Fn (ar.mono hk) bi .nil tk.o (fun cls d H' ⟨F', μ', e1, r1, q⟩ => ⟨Γ, M, F', μ', bo.mono e1, rs.mono e1, r1, q⟩) I2 (.cons rfl rvs) ⟨.loc p :: xs, F2, M, μ2, Q, _, ?_, r2, hc, fun y μ' F' H' v q e1 r1 p1 => ?_, fun cls d μ' F' H' q e1 r1 => ⟨F', μ', (ex1.trans ex2).trans e1, r1, q⟩⟩⟩
  · rw [List.append_nil]; exact .cons (rep_loc.mpr rfl) rp
  · exact ⟨y, F', μ', (ex1.trans ex2).trans e1, r1, p1, q⟩
theorem Ar.tr {X : Cx} {k : Nat} (h : Ar X k) {pn : List (Addr × Obj)} {xe : Value → Shared → Prop} : Ar (X.tr pn xe) k := ⟨h.room, h.show0⟩
end
end D

set_option exponentiation.threshold 256
set_option pp.maxSteps 5000
set_option Elab.async false
set_option linter.all false
set_option maxRecDepth 100000
set_option maxHeartbeats 4000000
/-! DU: the law's end, with tables of the defs that make lambdas. -/
namespace D
open PySem PySem.Spec PyProof.Rows L2
open LamX (TabB)
/-- the cells at the law's entry: the tables alone -/
def muT (ts : List Addr) (qs : Addr → Str) : Mu := fun b => if b ∈ ts then some (.tbl (qs b)) else none
theorem law_endS {P : Program} {w : World} {K : PySem.W.Frag} {mg mb : Str → Option Value} {k : Nat} {fa a : Addr} {fd : FuncData} {x : Str} {c : AC} {s1 : Shared} {vs : List Value} {ns : List Int} {cs : List (Addr × Addr)} (qs : Addr → Str) {SP : Prop} (seer : SP → s1.heap.NoSeer)
    (inK : K.In s1.heap) (gl : s1.heap.Ns mainGlobals mg) (bl : s1.heap.Ns builtinsNs mb) (bl2 : ∀ x : Str, x ≠ "__name__" → mb x = bootBuiltins x) (lim : s1.heap.NoLimit) (dig : s1.heap.NoDigits) (gens : s1.gens = #[])
    (hT : ∀ p ∈ cs, s1.heap.get? p.2 = some { cls := .none, data := .fields #[] }) (nT : ∀ p ∈ cs, K.lookup p.2 = none) (C : ∀ p ∈ cs, PySem.W.CodeHd s1.heap p.1 p.2)
    (hbm : ∃ (bm : Addr) (ob : Obj), mg "__builtins__" = some (.ref bm) ∧ bm ≠ builtinsNs ∧ s1.heap.get? bm = some ob ∧ ob.cls = .type "module" ∧ ob.dict = some builtinsNs ∧ ob.data = .plain)
    (obj : s1.heap.get? a = some { cls := .type "list", data := .seq vs.toArray }) (hints : IntsAre vs ns) (len : ns.length ≤ sizeLine) (room : Room k callerA)
    (F : ∀ base : Heap, K.In base → base.Ns mainGlobals mg → base.NoDigits → (SP → base.NoSeer) → (∀ p ∈ cs, TabB base mg p.1 p.2) → FnD P w K mg base CX0 k fa fd [x] c) (bind : ∀ (s : Shared) (u : Value), BindsTo s fd ⟨[u], []⟩ [(x, u)])
    (hc : c [.fls (ns.map A.int)] (muT (cs.map (·.2)) qs) (fun y _ => y = .bl true) fun _ _ _ => False) :
    codeAny (model P w) callerA (.call (.ref fa) ⟨[.ref a], []⟩) (fun r s' => r = .ok (.ret (.bool true)) ∧ OldK s1.heap s'.heap ∧ s'.os = s1.os ∧ AllBare s'.gens) s1 := by
  have rv := vals_ints hints
  have many := hints.length
  generalize hts : cs.map (·.2) = ts at hc
  have memT : ∀ p ∈ cs, p.2 ∈ ts := fun p hp => by rw [← hts]; exact List.mem_map.mpr ⟨p, hp, rfl⟩
  have ofT : ∀ b ∈ ts, ∃ p ∈ cs, p.2 = b := fun b hb => by rw [← hts] at hb; exact List.mem_map.mp hb
  have isT : ∀ b ∈ ts, s1.heap.get? b = some { cls := .none, data := .fields #[] } := fun b hb => by obtain ⟨p, hp, rfl⟩ := ofT b hb; exact hT p hp
  have aT : a ∉ ts := fun z => by
    have q := isT a z
    rw [obj] at q
    have q2 := congrArg Obj.data (Option.some.inj q)
    cases q2
  have main : ∀ H0 : Hp, (∀ b, H0 b ≠ none → b = a) → (∀ b u, H0 b = some u → ∃ o xs, u = .frz o (.lst xs)) → (∀ H : Hp, Ex H0 H → SqL K H a (ns.map V.int)) → (∀ b u, H0 b = some u → ∀ H, ObjOk P w H s1.heap b u) → (H0 a ≠ none → K.lookup a = none) →
      codeAny (model P w) callerA (.call (.ref fa) ⟨[.ref a], []⟩) (fun r s' => r = .ok (.ret (.bool true)) ∧ OldK s1.heap s'.heap ∧ s'.os = s1.os ∧ AllBare s'.gens) s1 := by
    intro H0 isA only sq ok0 notK
    have n0 : ∀ b ∈ ts, H0 b = none := fun b hb => Classical.byContradiction fun z => aT (isA b z ▸ hb)
    let H : Hp := fun b => if b ∈ ts then some (.tbl #[]) else H0 b
    have hH1 : ∀ b, b ∈ ts → H b = some (.tbl #[]) := fun b hb => if_pos hb
    have hH2 : ∀ b, b ∉ ts → H b = H0 b := fun b hb => if_neg hb
    have ex0 : Ex H0 H := fun b o e => by rw [hH2 b (fun hb => by rw [n0 b hb] at e; cases e)]; exact e
    have hok : HOk P w H s1.heap := fun b u e => by
      by_cases hb : b ∈ ts
      · rw [hH1 b hb] at e; cases e; exact isT b hb
      · rw [hH2 b hb] at e; exact ok0 b u e H
    have off : ∀ {b : Addr} {o : Obj}, s1.heap.get? b = some o → (∀ vs n, o.data ≠ .seq vs n) → o.data ≠ .fields #[] → H b = none := by
      intro b o e d1 d2
      match q : H b with
      | none => rfl
      | some u =>
        by_cases hb : b ∈ ts
        · rw [isT b hb] at e; cases e; exact (d2 rfl).elim
        · rw [hH2 b hb] at q
          obtain rfl : b = a := isA b (by rw [q]; exact fun z => nomatch z)
          rw [obj] at e; cases e
          exact (d1 _ _ rfl).elim
    have ns' : ∀ {b : Addr} {m : Str → Option Value}, s1.heap.Ns b m → (hidT s1.heap H).Ns b m := by
      intro b m h
      obtain ⟨o, es, ep, e, d, r⟩ := h
      exact ⟨o, es, ep, hidT_get e (off e (fun vs n z => by rw [d] at z; cases z) (fun z => by rw [d] at z; cases z)), d, r⟩
    have inKb : K.In (hidT s1.heap H) := by
      intro b o e
      refine hidT_get (inK b o e) ?_
      match q : H b with
      | none => rfl
      | some u =>
        by_cases hb : b ∈ ts
        · obtain ⟨p, hp, rfl⟩ := ofT b hb
          rw [nT p hp] at e; cases e
        · rw [hH2 b hb] at q
          obtain rfl : b = a := isA b (by rw [q]; exact fun z => nomatch z)
          rw [notK (by rw [q]; exact fun z => nomatch z)] at e
          cases e
    obtain ⟨mc, l1, l2⟩ := lim
    obtain ⟨md, g1, g2⟩ := dig
    have TB : ∀ p ∈ cs, TabB (hidT s1.heap H) mg p.1 p.2 := by
      intro p hp
      have hTp := hT p hp
      refine ⟨?_, ?_, fun z => ?_⟩
      · obtain ⟨o, us, file, tf, flags, tg, inF, text, tt, e1, r1, r2, r3, rest⟩ := C p hp
        refine ⟨o, us, file, tf, flags, tg, inF, text, tt, hidT_get e1 (off e1 (fun vs n z => ?_) fun z => ?_), r1, r2, r3, rest⟩
        · rw [r2] at z; cases z
        · rw [r2] at z; cases z; simp at r3
      · obtain ⟨bm, ob, b1, b2, b3, b4, b5, b6⟩ := id hbm
        have nG : ¬ bm = mainGlobals := fun q => by
          obtain ⟨o, es, ep, e, hd, _⟩ := gl
          rw [q, e] at b3; cases b3
          rw [hd] at b6; cases b6
        have nP : bm ≠ p.2 := fun q => by rw [q, hTp] at b3; cases b3; cases b6
        exact ⟨bm, ob, b1, b2, nG, nP, hidT_get b3 (off b3 (fun vs n z => by rw [b6] at z; cases z) fun z => by rw [b6] at z; cases z), b4, b5, b6⟩
      · obtain ⟨o, es, ep, e, hd, _⟩ := gl
        rw [z, hTp] at e; cases e
        cases hd
    have SE : SP → (hidT s1.heap H).NoSeer := fun sp => by
      obtain ⟨⟨mc', c1, c2, c3⟩, ⟨mm, m1, m2⟩, ⟨mi, i1, i2⟩, _⟩ := seer sp
      obtain ⟨bm, ob, b1, b2, b3, b4, b5, b6⟩ := id hbm
      exact ⟨⟨mc', ns' c1, c2, c3⟩, ⟨mm, ns' m1, m2⟩, ⟨mi, ns' i1, i2⟩, mg, bm, ob, ns' gl, b1, hidT_get b3 (off b3 (fun vs n z => by rw [b6] at z; cases z) fun z => by rw [b6] at z; cases z), b4, b5⟩
    have e0 : Env0 P w K mg (hidT s1.heap H) callerA [] s1 H :=
      { frames := rfl, mod := ⟨inKb, ns' gl, ⟨mb, ns' bl, bl2⟩, ⟨mc, ns' l1, l2⟩⟩, bs := fun b o e => of_hidT e, bsz := Nat.le_of_eq (hidT_size _ _), funs := trivial, frf := fun b hb => (List.not_mem_nil hb).elim, hok := hok, bare := .of_eq gens }
    have rl : Rel K (muT ts qs) (fun _ => none) H0 H := by
      refine ⟨ex0, fun b m e => ?_, fun _ _ z => (nomatch z)⟩
      unfold muT at e
      split at e
      · rename_i hb
        cases e
        exact ⟨n0 b hb, _, hH1 b hb, #[], rfl, trivial, fun pos cv z => by simp [codeAmong] at z⟩
      · cases e
    have sp : spOf K c [.ref a] H (fun v _ => v = .bl true) (fun _ _ _ => False) :=
      ⟨[.fls (ns.map A.int)], H0, fun _ => none, muT ts qs, _, _, .cons (rep_fls.mpr ⟨a, _, rfl, sq H0 (.refl _), .map (fun i => rep_int.mpr rfl) ns⟩) .nil, rl, hc, fun y μ' F' H' v q _ _ r => by rw [q, rep_bl] at r; exact r, fun _ _ _ _ _ z _ _ => z⟩
    refine codeAny_mono ((F _ inKb (ns' gl) ⟨md, ns' g1, g2⟩ SE TB).run callerA [] s1 H ⟨[.ref a], []⟩ [.ref a] [.ref a] _ _ room rfl e0 (bind s1 (.ref a)) (.cons rfl .nil) sp) fun r s2 h => ?_
    match r, h with
    | .error e, h => exact h.elim
    | .ok .next, h => exact h.elim
    | .ok .brk, h => exact h.elim
    | .ok .cont, h => exact h.elim
    | .ok (.ret u), ⟨v, H2, os, bare, un, hok2, rv2, q⟩ =>
      have q2 : v = .bl true := q
      subst q2
      obtain rfl : u = Value.bool true := rv2
      have key : ∀ b o, b ∉ ts → s1.heap.get? b = some o → s2.heap.get? b = some o := by
        intro b o nb e
        match q3 : H b with
        | none => exact un.keep b o e q3 List.not_mem_nil List.not_mem_nil
        | some u3 =>
          have q4 := q3
          rw [hH2 b nb] at q4
          obtain ⟨ob, xs, rfl⟩ := only b u3 q4
          obtain ⟨g1, _⟩ := hok b _ q3
          obtain ⟨g2, _⟩ := hok2 b _ (un.frzs b ob _ q3)
          rw [g1] at e; cases e
          exact g2
      have grown : ∀ p ∈ cs, ∃ more : Array Value, s2.heap.get? p.2 = some { cls := .none, data := .fields more } := fun p hp => by
        obtain ⟨more, z⟩ := un.tbls p.2 #[] (hH1 p.2 (memT p hp))
        exact ⟨_, hok2 p.2 _ z⟩
      have seen : ∀ b o, s1.heap.get? b = some o → b ∉ ts ∨ ∃ p ∈ cs, b = p.2 ∧ o = { cls := .none, data := .fields #[] } ∧ ∃ more : Array Value, s2.heap.get? b = some { cls := .none, data := .fields more } := by
        intro b o e
        rcases Classical.em (b ∈ ts) with m | m
        · obtain ⟨p, hp, rfl⟩ := ofT b m
          exact .inr ⟨p, hp, rfl, Option.some.inj (e.symm.trans (hT p hp)), grown p hp⟩
        · exact .inl m
      refine ⟨rfl, ⟨fun b o e => (seen b o e).elim (fun m => .inl (key b o m e)) ?_, fun b o e => (seen b o e).elim (fun m => ⟨o, key b o m e⟩) fun ⟨_, _, _, _, _, g⟩ => ⟨_, g⟩⟩, os, bare⟩
      rintro ⟨p, hp, rfl, rfl, more, g⟩
      have same : #[] ++ more = more := Array.empty_append
      exact Or.inr (Or.inl ⟨((C p hp).tab (hT p hp)).isCodeTable, rfl, #[], more, rfl, same.symm ▸ g⟩)
  match hk : K.lookup a with
  | some o =>
    have e := inK a o hk
    rw [obj] at e
    cases e
    exact main (fun _ => none) (fun _ z => absurd rfl z) (fun _ _ z => nomatch z) (fun H _ => .inr ⟨_, vs.toArray, _, hk, rfl, rfl, rfl, by rw [List.size_toArray, many]; exact len, by simpa using rv⟩) (fun _ _ z => nomatch z) fun z => absurd rfl z
  | none =>
    refine main (upd (fun _ => none) a (.frz { cls := .type "list", data := .seq vs.toArray } (.lst (ns.map V.int)))) (fun b z => ?_) (fun b u z => ?_) (fun H e => .inl (.inr ⟨_, e _ _ upd_same⟩)) (fun b u z H => ?_) fun _ => hk
    · exact Classical.byContradiction fun hb => z (upd_ne hb)
    · by_cases hb : b = a
      · subst hb
        rw [upd_same] at z; cases z
        exact ⟨_, _, rfl⟩
      · rw [upd_ne hb] at z; cases z
    · by_cases hb : b = a
      · subst hb
        rw [upd_same] at z; cases z
        exact ⟨obj, by rw [List.length_map]; exact len, vs, _, rv, obj⟩
      · rw [upd_ne hb] at z; cases z
/-- the goal that k_head leaves, by the law's promise over data; cs: the code objects of the defs that make lambdas, and their tables -/
theorem walk_endT {l : PySem.W.OpenLaw} {k : Nat} {q : Program} {loose : List Str} {XP : (Str → Option Value) → Heap → Prop} {YP : World → Heap → Prop} {d : DefRec} {K : Params → PySem.W.Frag} {c : World → AC} {x : Str} (cs : List (Addr × Addr)) (qs : Addr → Str)
    (hn : l.most = some 63) (hdf : d.params.defaults = []) (room : Room k callerA) (hY : ∀ (w : World) (h : Heap), YP w h → (K w.params).In h)
    (hT : ∀ (w : World) (h : Heap), YP w h → ∀ p ∈ cs, h.get? p.2 = some { cls := .none, data := .fields #[] }) (nT : ∀ (w : World), ∀ p ∈ cs, (K w.params).lookup p.2 = none) (C : ∀ (w : World) (h : Heap), YP w h → ∀ p ∈ cs, PySem.W.CodeHd h p.1 p.2)
    (F : ∀ (w : World) (mg : Str → Option Value) (fa : Addr) (g : Heap), (K w.params).In g → g.Ns mainGlobals mg →
      mg d.name = some (.ref fa) → ∃ fd : FuncData, (∀ (s : Shared) (u : Value), BindsTo s fd ⟨[u], []⟩ [(x, u)]) ∧ ∀ base : Heap, (K w.params).In base → base.Ns mainGlobals mg → base.NoDigits → (∀ p ∈ cs, TabB base mg p.1 p.2) → FnD l.prog w (K w.params) mg base CX0 k fa fd [x] (c w))
    (hc : ∀ (w : World) (ns : List Int), ns.length ≤ 63 → c w [.fls (ns.map A.int)] (muT (cs.map (·.2)) qs) (fun y _ => y = .bl true) fun _ _ _ => False) : PySem.W.WalkO q loose XP YP l.row.toRowW d [] (fun f vs => PySem.call f vs) := by
  refine Att.attach_call hn hdf ?_
  intro w s0 s1 mg mb fa o pm cd doc a vs ns gr Y ho hd hcd hmg hobj hints hlen hg
  have inK := hY w _ Y
  obtain ⟨fd, hb, hF⟩ := F w mg fa _ inK gr.T.g hmg
  exact law_endS (SP := False) qs False.elim inK gr.T.g gr.T.b gr.T.builtins gr.T.nolimit gr.T.nodigits hg (hT w _ Y) (nT w) (C w _ Y) gr.T.bmain hobj hints (Nat.le_trans hlen (by decide)) room (fun base i g d _ t => hF base i g d t) hb (hc w ns hlen)
/-- .. where nobody sees a great division -/
theorem walk_endS {l : PySem.W.OpenLaw} {k : Nat} {q : Program} {loose : List Str} {XP : (Str → Option Value) → Heap → Prop} {YP : World → Heap → Prop} {d : DefRec} {K : Params → PySem.W.Frag} {c : World → AC} {x : Str} (cs : List (Addr × Addr)) (qs : Addr → Str)
    (hn : l.most = some 63) (hdf : d.params.defaults = []) (room : Room k callerA) (hI : importsNone q = true) (hY : ∀ (w : World) (h : Heap), YP w h → (K w.params).In h)
    (hT : ∀ (w : World) (h : Heap), YP w h → ∀ p ∈ cs, h.get? p.2 = some { cls := .none, data := .fields #[] }) (nT : ∀ (w : World), ∀ p ∈ cs, (K w.params).lookup p.2 = none) (C : ∀ (w : World) (h : Heap), YP w h → ∀ p ∈ cs, PySem.W.CodeHd h p.1 p.2)
    (F : ∀ (w : World) (mg : Str → Option Value) (fa : Addr) (g : Heap), (K w.params).In g → g.Ns mainGlobals mg →
      mg d.name = some (.ref fa) → ∃ fd : FuncData, (∀ (s : Shared) (u : Value), BindsTo s fd ⟨[u], []⟩ [(x, u)]) ∧ ∀ base : Heap, (K w.params).In base → base.Ns mainGlobals mg → base.NoDigits → base.NoSeer → (∀ p ∈ cs, TabB base mg p.1 p.2) → FnD l.prog w (K w.params) mg base CX0 k fa fd [x] (c w))
    (hc : ∀ (w : World) (ns : List Int), ns.length ≤ 63 → c w [.fls (ns.map A.int)] (muT (cs.map (·.2)) qs) (fun y _ => y = .bl true) fun _ _ _ => False) : PySem.W.WalkO q loose XP YP l.row.toRowW d [] (fun f vs => PySem.call f vs) := by
  refine Att.attach_call hn hdf ?_
  intro w s0 s1 mg mb fa o pm cd doc a vs ns gr Y ho hd hcd hmg hobj hints hlen hg
  have inK := hY w _ Y
  obtain ⟨fd, hb, hF⟩ := F w mg fa _ inK gr.T.g hmg
  exact law_endS (SP := True) qs (fun _ => gr.T.seer hI) inK gr.T.g gr.T.b gr.T.builtins gr.T.nolimit gr.T.nodigits hg (hT w _ Y) (nT w) (C w _ Y) gr.T.bmain hobj hints (Nat.le_trans hlen (by decide)) room (fun base i g d s t => hF base i g d (s trivial) t) hb (hc w ns hlen)
end D

set_option exponentiation.threshold 256
set_option pp.maxSteps 5000
set_option Elab.async false
set_option linter.all false
set_option maxRecDepth 100000
set_option maxHeartbeats 4000000
/-! DMM: // by a divisor of any size, where no audit hook may see it. -/
namespace D
open PySem PySem.Spec PyProof.Rows L2
/-- what a great division wants of the module's heap -/
structure Far (P : Program) (base : Heap) : Prop where
  dig : base.NoDigits
  seer : base.NoSeer
  tree : P.given.tree = none
section
variable {X : Cx} {k : Nat} {μ : Mu} {Q : A → Mu → Prop}
theorem op_fdivF (far : Far X.prog X.base) (ar : Ar X k) (hk : 32 ≤ k) (hst : X.stack = X.env :: X.outer) (hg : X.env.scope.isGenerator = false) (hc : X.env.scope.isCoroutine = false) : OpR X (binaryOp .FloorDiv) (rI (fun _ j => j ≠ 0) fun i j => .int (i.fdiv j)) := by
  intro pins s σ H x y v u Q I rx ry h
  obtain ⟨i, j, rfl, rfl, nz, q⟩ := h
  obtain ⟨t, rfl⟩ := rx
  obtain ⟨t', rfl⟩ := ry
  have seer : SeerAt (model X.prog X.w) X.A s.heap := .of (far.seer.keeps I.bk) far.tree (by rw [I.ok.frames, hst]) hg hc I.ok.blt I.ok.glob
  have room : PylongRoom (model X.prog X.w) X.A s := .of I.nolimit (by have := ar.room.dp; show X.A.depth + 100 < _; omega) seer
  exact floordiv_int nz ⟨.int (i.fdiv j), H, I.tok _, ⟨_, rfl⟩, q⟩ (.inr room)
theorem wO_fdivF {i j : Int} (far : Far X.prog X.base) (ar : Ar X k) (hk : 32 ≤ k) (nz : j ≠ 0) (q : Q (.int (i.fdiv j)) μ) (hst : X.stack = X.env :: X.outer := by rfl) (hg : X.env.scope.isGenerator = false := by rfl) (hc : X.env.scope.isCoroutine = false := by rfl) : wO X (binaryOp .FloorDiv) (.int i) (.int j) μ Q :=
  wO_I (op_fdivF far ar hk hst hg hc) nz q
end
/-- products of whole numbers so great that they still have room -/
theorem Bd.mulFar {n m : Nat} {i j : Int} (hi : Bd n i) (hj : Bd m j) (hn : n + m ≤ 2 ^ 27) : IntMulOk i j := by
  have key : ∀ {x : Int} {k : Nat}, Bd k x → Builtin.Int.intBits x ≤ k + 0 := fun {x k} hx => by
    unfold Builtin.Int.intBits
    by_cases h : (x == 0) = true
    · rw [if_pos h]; omega
    · rw [if_neg h]
      have := (Nat.log2_lt (fun z => h (by rw [Int.natAbs_eq_zero.mp z]; rfl))).mpr hx
      omega
  have a := key hi
  have b := key hj
  unfold IntMulOk
  have e : Builtin.Int.intTooBig (Builtin.Int.intBits i + Builtin.Int.intBits j) = false := by
    unfold Builtin.Int.intTooBig
    rw [decide_eq_false_iff_not]
    have : bitsLine = 2 ^ 27 := rfl
    omega
  rw [e, Bool.and_false]
  exact Bool.false_ne_true
end D

set_option exponentiation.threshold 256
set_option pp.maxSteps 5000
set_option Elab.async false
set_option linter.all false
set_option pp.maxSteps 300
set_option maxRecDepth 100000
set_option maxHeartbeats 4000000
/-! P70: squares of four: determinants, by rows; what undoes them. -/
namespace D
open PySem PySem.Spec PyProof.Rows L2
abbrev F4 := Nat → Nat → Rat
def d2 (a b : Nat → Rat) (i j : Nat) : Rat := a i * b j - a j * b i
def d3 (a b c : Nat → Rat) (i j k : Nat) : Rat := a i * d2 b c j k - a j * d2 b c i k + a k * d2 b c i j
def d4 (a b c d : Nat → Rat) : Rat := a 0 * d3 b c d 1 2 3 - a 1 * d3 b c d 0 2 3 + a 2 * d3 b c d 0 1 3 - a 3 * d3 b c d 0 1 2
def det4 (M : F4) : Rat := d4 (M 0) (M 1) (M 2) (M 3)
theorem four {i : Nat} (h : i < 4) : i = 0 ∨ i = 1 ∨ i = 2 ∨ i = 3 := by omega
/-- two rows exchanged; a row divided, the others cleared by it -/
def swN (k p i : Nat) : Nat := if i = k then p else if i = p then k else i
def swF (M : F4) (k p : Nat) : F4 := fun i => M (swN k p i)
def clG (N G : F4) (k : Nat) : F4 := fun i j => if i = k then G k j / N k k else G i j - N i k * (G k j / N k k)
def clF (N : F4) (k : Nat) : F4 := clG N N k
section
variable (a b c d : Nat → Rat) (x y z : Rat)
theorem d4_s0 : d4 (fun j => x * a j) b c d = x * d4 a b c d := by unfold d4 d3 d2; grind
theorem d4_s1 : d4 a (fun j => x * b j) c d = x * d4 a b c d := by unfold d4 d3 d2; grind
theorem d4_s2 : d4 a b (fun j => x * c j) d = x * d4 a b c d := by unfold d4 d3 d2; grind
theorem d4_s3 : d4 a b c (fun j => x * d j) = x * d4 a b c d := by unfold d4 d3 d2; grind
theorem d4_x01 : d4 b a c d = -d4 a b c d := by unfold d4 d3 d2; grind
theorem d4_x02 : d4 c b a d = -d4 a b c d := by unfold d4 d3 d2; grind
theorem d4_x03 : d4 d b c a = -d4 a b c d := by unfold d4 d3 d2; grind
theorem d4_x12 : d4 a c b d = -d4 a b c d := by unfold d4 d3 d2; grind
theorem d4_x13 : d4 a d c b = -d4 a b c d := by unfold d4 d3 d2; grind
theorem d4_x23 : d4 a b d c = -d4 a b c d := by unfold d4 d3 d2; grind
theorem d4_a01 : d4 a (fun j => b j - x * a j) c d = d4 a b c d := by unfold d4 d3 d2; grind
theorem d4_a02 : d4 a b (fun j => c j - x * a j) d = d4 a b c d := by unfold d4 d3 d2; grind
theorem d4_a03 : d4 a b c (fun j => d j - x * a j) = d4 a b c d := by unfold d4 d3 d2; grind
theorem d4_a10 : d4 (fun j => a j - x * b j) b c d = d4 a b c d := by unfold d4 d3 d2; grind
theorem d4_a12 : d4 a b (fun j => c j - x * b j) d = d4 a b c d := by unfold d4 d3 d2; grind
theorem d4_a13 : d4 a b c (fun j => d j - x * b j) = d4 a b c d := by unfold d4 d3 d2; grind
theorem d4_a20 : d4 (fun j => a j - x * c j) b c d = d4 a b c d := by unfold d4 d3 d2; grind
theorem d4_a21 : d4 a (fun j => b j - x * c j) c d = d4 a b c d := by unfold d4 d3 d2; grind
theorem d4_a23 : d4 a b c (fun j => d j - x * c j) = d4 a b c d := by unfold d4 d3 d2; grind
theorem d4_a30 : d4 (fun j => a j - x * d j) b c d = d4 a b c d := by unfold d4 d3 d2; grind
theorem d4_a31 : d4 a (fun j => b j - x * d j) c d = d4 a b c d := by unfold d4 d3 d2; grind
theorem d4_a32 : d4 a b (fun j => c j - x * d j) d = d4 a b c d := by unfold d4 d3 d2; grind
end
theorem det_sw (M : F4) {k p : Nat} (hk : k < 4) (hp : p < 4) : det4 (swF M k p) = if p = k then det4 M else 0 - det4 M := by
  have neg : ∀ q : Rat, -q = 0 - q := fun q => by grind
  rcases four hk with rfl | rfl | rfl | rfl <;> rcases four hp with rfl | rfl | rfl | rfl <;> simp only [det4, swF, swN] <;> simp <;> first | (rw [d4_x01, neg]; done) | (rw [d4_x02, neg]; done) | (rw [d4_x03, neg]; done) | (rw [d4_x12, neg]; done) | (rw [d4_x13, neg]; done) | (rw [d4_x23, neg]; done) | (rw [d4_x01]; done) | (rw [d4_x02]; done) | (rw [d4_x03]; done) | (rw [d4_x12]; done) | (rw [d4_x13]; done) | (rw [d4_x23]; done)
theorem div_by (a : Nat → Rat) (p : Rat) : (fun j => a j / p) = fun j => p⁻¹ * a j := funext fun j => by rw [Rat.div_def, Rat.mul_comm]
theorem det_cl (N : F4) {k : Nat} (hk : k < 4) (h : N k k ≠ 0) : N k k * det4 (clF N k) = det4 N := by
  have e : ∀ q : Rat, N k k * ((N k k)⁻¹ * q) = q := fun q => by rw [← Rat.mul_assoc, Rat.mul_inv_cancel _ h, Rat.one_mul]
  rcases four hk with rfl | rfl | rfl | rfl
  · show N 0 0 * d4 (fun j => N 0 j / N 0 0) (fun j => N 1 j - N 1 0 * (N 0 j / N 0 0)) (fun j => N 2 j - N 2 0 * (N 0 j / N 0 0)) (fun j => N 3 j - N 3 0 * (N 0 j / N 0 0)) = _
    rw [d4_a01 (fun j => N 0 j / N 0 0), d4_a02 (fun j => N 0 j / N 0 0), d4_a03 (fun j => N 0 j / N 0 0), div_by, d4_s0, e]; rfl
  · show N 1 1 * d4 (fun j => N 0 j - N 0 1 * (N 1 j / N 1 1)) (fun j => N 1 j / N 1 1) (fun j => N 2 j - N 2 1 * (N 1 j / N 1 1)) (fun j => N 3 j - N 3 1 * (N 1 j / N 1 1)) = _
    rw [d4_a10 _ (fun j => N 1 j / N 1 1), d4_a12 _ (fun j => N 1 j / N 1 1), d4_a13 _ (fun j => N 1 j / N 1 1), div_by, d4_s1, e]; rfl
  · show N 2 2 * d4 (fun j => N 0 j - N 0 2 * (N 2 j / N 2 2)) (fun j => N 1 j - N 1 2 * (N 2 j / N 2 2)) (fun j => N 2 j / N 2 2) (fun j => N 3 j - N 3 2 * (N 2 j / N 2 2)) = _
    rw [d4_a20 _ _ (fun j => N 2 j / N 2 2), d4_a21 _ _ (fun j => N 2 j / N 2 2), d4_a23 _ _ (fun j => N 2 j / N 2 2), div_by, d4_s2, e]; rfl
  · show N 3 3 * d4 (fun j => N 0 j - N 0 3 * (N 3 j / N 3 3)) (fun j => N 1 j - N 1 3 * (N 3 j / N 3 3)) (fun j => N 2 j - N 2 3 * (N 3 j / N 3 3)) (fun j => N 3 j / N 3 3) = _
    rw [d4_a30 _ _ _ (fun j => N 3 j / N 3 3), d4_a31 _ _ _ (fun j => N 3 j / N 3 3), d4_a32 _ _ _ (fun j => N 3 j / N 3 3), div_by, d4_s3, e]; rfl
theorem div_one' {x : Rat} (h : x ≠ 0) : x / x = 1 := by rw [Rat.div_def, Rat.mul_inv_cancel _ h]
/-- the first columns are those of the unit -/
def Un (M : F4) (k : Nat) : Prop := ∀ i j, i < 4 → j < k → M i j = if i = j then 1 else 0
theorem swN_lt {k p i n : Nat} (hk : k < n) (hp : p < n) (hi : i < n) : swN k p i < n := by
  unfold swN
  repeat' split
  all_goals omega
theorem un_step {M : F4} {k p : Nat} (le : k ≤ p) (hp : p < 4) (u : Un M k) (h : M p k ≠ 0) : Un (clF (swF M k p) k) (k + 1) := fun i j hi hj => by
  have ek : swF M k p k = M p := by unfold swF swN; rw [if_pos rfl]
  have hz : ∀ j, j < k → swF M k p k j = 0 := fun j hj => by rw [ek, u p j hp hj, if_neg (by omega)]
  unfold clF clG
  by_cases e : j = k
  · subst e
    by_cases ei : i = j
    · rw [if_pos ei, if_pos ei, div_one' (by rw [ek]; exact h)]
    · rw [if_neg ei, if_neg ei, div_one' (by rw [ek]; exact h)]; grind
  · have hj2 : j < k := by omega
    have dz : swF M k p k j / swF M k p k k = 0 := by rw [hz j hj2, Rat.div_def, Rat.zero_mul]
    by_cases ei : i = k
    · rw [if_pos ei, if_neg (by omega), dz]
    · rw [if_neg ei, dz, Rat.mul_zero, show swF M k p i j - 0 = swF M k p i j by grind]
      show M (swN k p i) j = _
      unfold swN
      rw [if_neg ei]
      by_cases e2 : i = p
      · rw [if_pos e2, u k j (by omega) hj2, if_neg (by omega), if_neg (by omega)]
      · rw [if_neg e2, u i j hi hj2]
theorem det_unit {M : F4} (u : Un M 4) : det4 M = 1 := by
  have h : ∀ i j, i < 4 → j < 4 → M i j = if i = j then 1 else 0 := u
  unfold det4 d4 d3 d2
  rw [h 0 0 (by decide) (by decide), h 0 1 (by decide) (by decide), h 0 2 (by decide) (by decide), h 0 3 (by decide) (by decide), h 1 0 (by decide) (by decide), h 1 1 (by decide) (by decide), h 1 2 (by decide) (by decide), h 1 3 (by decide) (by decide), h 2 0 (by decide) (by decide), h 2 1 (by decide) (by decide), h 2 2 (by decide) (by decide), h 2 3 (by decide) (by decide), h 3 0 (by decide) (by decide), h 3 1 (by decide) (by decide), h 3 2 (by decide) (by decide), h 3 3 (by decide) (by decide)]
  simp
  grind
theorem det_none {M : F4} {k : Nat} (hk : k < 4) (u : Un M k) (hz : ∀ i, k ≤ i → i < 4 → M i k = 0) : det4 M = 0 := by
  unfold det4 d4 d3 d2
  rcases four hk with rfl | rfl | rfl | rfl
  · rw [hz 0 (by decide) (by decide), hz 1 (by decide) (by decide), hz 2 (by decide) (by decide), hz 3 (by decide) (by decide)]; grind
  · rw [hz 1 (by decide) (by decide), hz 2 (by decide) (by decide), hz 3 (by decide) (by decide), u 1 0 (by decide) (by decide), u 2 0 (by decide) (by decide), u 3 0 (by decide) (by decide)]; simp; grind
  · rw [hz 2 (by decide) (by decide), hz 3 (by decide) (by decide), u 2 0 (by decide) (by decide), u 3 0 (by decide) (by decide), u 2 1 (by decide) (by decide), u 3 1 (by decide) (by decide)]; simp; grind
  · rw [hz 3 (by decide) (by decide), u 3 0 (by decide) (by decide), u 3 1 (by decide) (by decide), u 3 2 (by decide) (by decide)]; simp; grind
/-! ### what the rows come from -/
def sum4 (f : Nat → Rat) : Rat := f 0 + f 1 + f 2 + f 3
def PrR (A L R : F4) : Prop := ∀ i j, i < 4 → j < 4 → L i j = sum4 fun t => R i t * A t j
theorem pr_sw {A L R : F4} {k p : Nat} (hk : k < 4) (hp : p < 4) (h : PrR A L R) : PrR A (swF L k p) (swF R k p) := fun i j hi hj => h _ j (swN_lt hk hp hi) hj
theorem pr_cl {A L R : F4} {k : Nat} (hk : k < 4) (h : PrR A L R) : PrR A (clF L k) (clG L R k) := fun i j hi hj => by
  unfold clF clG
  by_cases e : i = k
  · rw [if_pos e, h k j hk hj]
    unfold sum4
    simp only [if_pos e]
    generalize L k k = x
    grind
  · rw [if_neg e, h k j hk hj, h i j hi hj]
    unfold sum4
    simp only [if_neg e]
    generalize L k k = x
    generalize L i k = y
    grind
/-! ### lesser determinants -/
def sk (i t : Nat) : Nat := if t < i then t else t + 1
def m3 (A : F4) (i j : Nat) : Rat := d3 (A (sk i 0)) (A (sk i 1)) (A (sk i 2)) (sk j 0) (sk j 1) (sk j 2)
def sgN (k : Nat) : Rat := if k % 2 = 0 then 1 else -1
theorem adj_r (A : F4) {i l : Nat} (hi : i < 4) (hl : l < 4) : sum4 (fun t => A i t * (sgN (l + t) * m3 A l t)) = if i = l then det4 A else 0 := by
  rcases four hi with rfl | rfl | rfl | rfl <;> rcases four hl with rfl | rfl | rfl | rfl <;> simp only [sum4, sgN, m3, sk, det4, d4, d3, d2] <;> simp <;> grind
theorem inv_is {A R : F4} (h : ∀ i j, i < 4 → j < 4 → sum4 (fun t => R i t * A t j) = if i = j then 1 else 0) {k l : Nat} (hk : k < 4) (hl : l < 4) : R k l * det4 A = sgN (l + k) * m3 A l k := by
  have f := fun i (hi : i < 4) => adj_r A hi hl
  have e := fun j (hj : j < 4) => h k j hk hj
  have key : ∀ C : Nat → Rat, R k 0 * sum4 (fun t => A 0 t * C t) + R k 1 * sum4 (fun t => A 1 t * C t) + R k 2 * sum4 (fun t => A 2 t * C t) + R k 3 * sum4 (fun t => A 3 t * C t) = C 0 * sum4 (fun t => R k t * A t 0) + C 1 * sum4 (fun t => R k t * A t 1) + C 2 * sum4 (fun t => R k t * A t 2) + C 3 * sum4 (fun t => R k t * A t 3) := fun C => by unfold sum4; grind
  have q := key fun t => sgN (l + t) * m3 A l t
  rw [f 0 (by decide), f 1 (by decide), f 2 (by decide), f 3 (by decide), e 0 (by decide), e 1 (by decide), e 2 (by decide), e 3 (by decide)] at q
  rcases four hk with rfl | rfl | rfl | rfl <;> rcases four hl with rfl | rfl | rfl | rfl <;> simp at q ⊢ <;> grind
end D

set_option exponentiation.threshold 256
set_option pp.maxSteps 5000
set_option Elab.async false
set_option linter.all false
set_option pp.maxSteps 300
set_option maxRecDepth 100000
set_option maxHeartbeats 4000000
/-! P70b: squares as lists of lists: what a row that is cleared makes of them. -/
namespace D
open PySem PySem.Spec PyProof.Rows L2
/-! ### fractions of bounded size -/
theorem isF_self (x : Rat) : IsF x x.num (x.den : Int) := ⟨den_ne, by
  have e := Rat.num_divInt_den x
  rw [Rat.divInt_eq_div] at e
  have nz := cast_ne (@den_ne x)
  grind⟩
structure FB (n : Nat) (q : Rat) : Prop where
  u : Bd n q.num
  d : Bd n (q.den : Int)
theorem FB.mono {n m : Nat} {q : Rat} (h : FB n q) (le : n ≤ m) : FB m q := ⟨h.u.mono le, h.d.mono le⟩
theorem FB.add {n m : Nat} {x y : Rat} (h : FB n x) (k : FB m y) : FB (n + m + 1) (x + y) := by
  have f : IsF (x + y) (x.num * y.den + y.num * x.den) ((x.den : Int) * y.den) := ((isF_self x).wide den_ne).add (((isF_self y).wide den_ne).cast rfl (Int.mul_comm ..))
  have a := (h.u.mul k.d).add ((k.u.mul h.d).mono (m := n + m) (by omega))
  have b := h.d.mul k.d
  refine ⟨Nat.lt_of_le_of_lt f.num_le a, ?_⟩
  show ((x + y).den : Int).natAbs < _
  rw [Int.natAbs_natCast]
  exact Nat.lt_of_le_of_lt f.den_le (Nat.lt_of_lt_of_le b (Nat.pow_le_pow_right (by decide) (by omega)))
theorem FB.mul {n m : Nat} {x y : Rat} (h : FB n x) (k : FB m y) : FB (n + m) (x * y) := by
  have f := (isF_self x).mul (isF_self y)
  refine ⟨Nat.lt_of_le_of_lt f.num_le (h.u.mul k.u), ?_⟩
  show ((x * y).den : Int).natAbs < _
  rw [Int.natAbs_natCast]
  exact Nat.lt_of_le_of_lt f.den_le (h.d.mul k.d)
theorem FB.zero : FB 1 0 := ⟨by show (0 : Rat).num.natAbs < 2; decide, by show ((0 : Rat).den : Int).natAbs < 2 ^ 1; decide⟩
theorem FB.one : FB 1 1 := ⟨by show (1 : Rat).num.natAbs < 2; decide, by show ((1 : Rat).den : Int).natAbs < 2 ^ 1; decide⟩
theorem FB.neg {n : Nat} {q : Rat} (h : FB n q) : FB n (-q) := ⟨by have := h.u; unfold Bd at this ⊢; rw [Rat.neg_num, Int.natAbs_neg]; exact this, by have := h.d; rw [Rat.neg_den]; exact this⟩
theorem FB.sub {n m : Nat} {x y : Rat} (h : FB n x) (k : FB m y) : FB (n + m + 1) (x - y) := by
  rw [Rat.sub_eq_add_neg]
  exact h.add k.neg
theorem FB.inv {n : Nat} {x : Rat} (h : FB n x) (z : x ≠ 0) : FB n x⁻¹ := by
  have a := h.u
  have b := h.d
  unfold Bd at a b
  rw [Int.natAbs_natCast] at b
  refine ⟨?_, ?_⟩
  · unfold Bd
    rw [Rat.num_inv, Int.natAbs_mul, Int.natAbs_natCast, Int.natAbs_sign_of_ne_zero (fun q => z (num_zero.mp q)), Nat.one_mul]
    exact b
  · unfold Bd
    rw [Rat.den_inv, if_neg (fun q => z (num_zero.mp q)), Int.natAbs_natCast]
    exact a
theorem FB.div {n m : Nat} {x y : Rat} (h : FB n x) (k : FB m y) (z : y ≠ 0) : FB (n + m) (x / y) := by
  rw [Rat.div_def]
  exact h.mul (k.inv z)
/-! ### squares -/
def en (M : List (List Rat)) (i j : Nat) : Rat := ap (M.getD i []) j
structure Rect (n w : Nat) (M : List (List Rat)) : Prop where
  len : M.length = n
  row : ∀ r ∈ M, r.length = w
def AB (b : Nat) (M : List (List Rat)) : Prop := ∀ r ∈ M, ∀ x ∈ r, FB b x
theorem getD_mem {α : Type} {M : List α} {i : Nat} {d : α} (h : i < M.length) : M.getD i d ∈ M := by
  rw [List.getD_eq_getElem?_getD, List.getElem?_eq_getElem h]
  exact List.getElem_mem h
theorem getD_some {α : Type} {M : List α} {i : Nat} {x d : α} (h : M[i]? = some x) : M.getD i d = x := by rw [List.getD_eq_getElem?_getD, h]; rfl
theorem some_getD {α : Type} {M : List α} {i : Nat} (d : α) (h : i < M.length) : M[i]? = some (M.getD i d) := by
  rw [List.getD_eq_getElem?_getD, List.getElem?_eq_getElem h]; rfl
theorem Rect.rw {n w : Nat} {M : List (List Rat)} (h : Rect n w M) {i : Nat} (hi : i < n) : (M.getD i []).length = w := h.row _ (getD_mem (by rw [h.len]; exact hi))
theorem AB.en {b : Nat} {M : List (List Rat)} (h : AB b M) (hb : 1 ≤ b) (i j : Nat) : FB b (en M i j) := by
  unfold D.en
  by_cases hi : i < M.length
  · by_cases hj : j < (M.getD i []).length
    · refine h _ (getD_mem (d := []) hi) _ ?_
      unfold ap
      exact getD_mem hj
    · rw [ap_out (by omega)]; exact FB.zero.mono hb
  · rw [List.getD_eq_getElem?_getD, List.getElem?_eq_none (by omega)]
    exact FB.zero.mono hb
def exF (n : Nat) (M : List (List Rat)) : F4 := fun i j => if i < n ∧ j < n then en M i j else if i = j then 1 else 0
def exG (n : Nat) (M : List (List Rat)) : F4 := fun i j => if i < n ∧ j < n then en M i (n + j) else if i = j then 1 else 0
theorem exF_in {n : Nat} {M : List (List Rat)} {i j : Nat} (hi : i < n) (hj : j < n) : exF n M i j = en M i j := if_pos ⟨hi, hj⟩
theorem exG_in {n : Nat} {M : List (List Rat)} {i j : Nat} (hi : i < n) (hj : j < n) : exG n M i j = en M i (n + j) := if_pos ⟨hi, hj⟩
theorem exF_out {n : Nat} {M : List (List Rat)} {i j : Nat} (h : ¬ (i < n ∧ j < n)) : exF n M i j = if i = j then 1 else 0 := if_neg h
theorem exG_out {n : Nat} {M : List (List Rat)} {i j : Nat} (h : ¬ (i < n ∧ j < n)) : exG n M i j = if i = j then 1 else 0 := if_neg h
theorem rect_ext {n w : Nat} {X Y : List (List Rat)} (hx : Rect n w X) (hy : Rect n w Y) (h : ∀ i j, i < n → j < w → en X i j = en Y i j) : X = Y := by
  refine List.ext_getElem (by rw [hx.len, hy.len]) fun i h1 h2 => ?_
  have hi : i < n := by rw [← hx.len]; exact h1
  have ex : X.getD i [] = X[i] := by rw [List.getD_eq_getElem?_getD, List.getElem?_eq_getElem h1]; rfl
  have ey : Y.getD i [] = Y[i] := by rw [List.getD_eq_getElem?_getD, List.getElem?_eq_getElem h2]; rfl
  have lx := hx.rw hi
  have ly := hy.rw hi
  rw [ex] at lx
  rw [ey] at ly
  refine List.ext_getElem (by rw [lx, ly]) fun j h3 h4 => ?_
  have q := h i j hi (by rw [← lx]; exact h3)
  unfold en ap at q
  rw [ex, ey, List.getD_eq_getElem?_getD, List.getD_eq_getElem?_getD, List.getElem?_eq_getElem h3, List.getElem?_eq_getElem h4] at q
  exact q
/-- two rows exchanged -/
def swL (M : List (List Rat)) (k p : Nat) : List (List Rat) := (M.set k (M.getD p [])).set p (M.getD k [])
/-- the row at k divided by its k-th, all others cleared by it -/
def ownL (M : List (List Rat)) (k : Nat) : List Rat := (M.getD k []).map fun x => x / en M k k
def rowL (M : List (List Rat)) (k i : Nat) : List Rat := if i = k then ownL M k else ((M.getD i []).zip (ownL M k)).map fun q => q.1 - en M i k * q.2
def clL (M : List (List Rat)) (k : Nat) : List (List Rat) := (List.range M.length).map (rowL M k)
section
variable {n w k p : Nat} {M : List (List Rat)}
theorem sw_at (h : Rect n w M) (hk : k < n) (hp : p < n) {i : Nat} (hi : i < n) : (swL M k p).getD i [] = M.getD (swN k p i) [] := by
  unfold swL swN
  have l := h.len
  rw [List.getD_eq_getElem?_getD, List.getElem?_set]
  by_cases e : p = i
  · rw [if_pos e, if_pos (by rw [List.length_set]; omega)]
    by_cases e2 : i = k
    · rw [if_pos e2]; subst e; subst e2; rfl
    · rw [if_neg e2, if_pos e.symm]; rfl
  · rw [if_neg e, List.getElem?_set]
    by_cases e2 : k = i
    · rw [if_pos e2, if_pos (by omega), if_pos e2.symm]; rfl
    · rw [if_neg e2, if_neg (fun z => e2 z.symm), if_neg (fun z => e z.symm), ← List.getD_eq_getElem?_getD]
theorem en_sw (h : Rect n w M) (hk : k < n) (hp : p < n) {i : Nat} (hi : i < n) (j : Nat) : en (swL M k p) i j = en M (swN k p i) j := by
  unfold en
  rw [sw_at h hk hp hi]
theorem sw_len : (swL M k p).length = M.length := by unfold swL; rw [List.length_set, List.length_set]
theorem sw_mem (hk : k < M.length) (hp : p < M.length) {r : List Rat} (hr : r ∈ swL M k p) : r ∈ M := by
  rcases List.mem_or_eq_of_mem_set hr with h | rfl
  · rcases List.mem_or_eq_of_mem_set h with h | rfl
    · exact h
    · exact getD_mem hp
  · exact getD_mem hk
theorem rect_sw (h : Rect n w M) (hk : k < n) (hp : p < n) : Rect n w (swL M k p) := ⟨by rw [sw_len, h.len], fun r hr => h.row r (sw_mem (by rw [h.len]; exact hk) (by rw [h.len]; exact hp) hr)⟩
theorem ab_sw {b : Nat} (h : AB b M) (hk : k < M.length) (hp : p < M.length) : AB b (swL M k p) := fun r hr => h r (sw_mem hk hp hr)
theorem own_len : (ownL M k).length = (M.getD k []).length := List.length_map ..
theorem ap_map {f : Rat → Rat} {r : List Rat} {j : Nat} (h : j < r.length) : ap (r.map f) j = f (ap r j) := by
  unfold ap
  rw [List.getD_eq_getElem?_getD, List.getD_eq_getElem?_getD, List.getElem?_map, List.getElem?_eq_getElem h]; rfl
theorem ap_zip {f : Rat × Rat → Rat} {r s : List Rat} {j : Nat} (h : j < r.length) (h2 : j < s.length) : ap ((r.zip s).map f) j = f (ap r j, ap s j) := zipL_at (by rw [List.length_map, List.length_zip]; omega)
theorem rowL_len (h : Rect n w M) (hk : k < n) {i : Nat} (hi : i < n) : (rowL M k i).length = w := by
  unfold rowL
  split
  · rw [own_len, h.rw hk]
  · rw [List.length_map, List.length_zip, own_len, h.rw hk, h.rw hi]; omega
theorem rect_cl (h : Rect n w M) (hk : k < n) : Rect n w (clL M k) := ⟨by unfold clL; rw [List.length_map, List.length_range, h.len], fun r hr => by
  unfold clL at hr
  obtain ⟨i, hi, rfl⟩ := List.mem_map.mp hr
  rw [List.mem_range, h.len] at hi
  exact rowL_len h hk hi⟩
theorem cl_at (h : Rect n w M) {i : Nat} (hi : i < n) : (clL M k).getD i [] = rowL M k i := by
  refine getD_some ?_
  unfold clL
  rw [List.getElem?_map, List.getElem?_range (by rw [h.len]; exact hi)]; rfl
theorem en_cl (h : Rect n w M) (hk : k < n) {i j : Nat} (hi : i < n) (hj : j < w) : en (clL M k) i j = if i = k then en M k j / en M k k else en M i j - en M i k * (en M k j / en M k k) := by
  unfold en
  rw [cl_at h hi]
  unfold rowL
  by_cases e : i = k
  · rw [if_pos e, if_pos e]
    unfold ownL
    rw [ap_map (by rw [h.rw hk]; exact hj)]; rfl
  · rw [if_neg e, if_neg e, ap_zip (by rw [h.rw hi]; exact hj) (by rw [own_len, h.rw hk]; exact hj)]
    unfold ownL
    rw [ap_map (by rw [h.rw hk]; exact hj)]; rfl
theorem swN_out {i : Nat} (hk : k < n) (hp : p < n) (hi : ¬ i < n) : swN k p i = i := by unfold swN; rw [if_neg (by omega), if_neg (by omega)]
theorem zero_div' (x : Rat) : 0 / x = 0 := by rw [Rat.div_def, Rat.zero_mul]
theorem sub_zero' (x : Rat) : x - 0 = x := by grind
theorem ex_step (h : Rect n w M) (le : n ≤ w) (hk : k < n) (hp : p < n) : exF n (clL (swL M k p) k) = clF (swF (exF n M) k p) k := by
  have h2 := rect_sw h hk hp
  have e1 : ∀ i, i < n → ∀ j, j < n → swF (exF n M) k p i j = en (swL M k p) i j := fun i hi j hj => by
    unfold swF
    rw [exF_in (swN_lt hk hp hi) hj, en_sw h hk hp hi]
  have e2 : ∀ i, ¬ i < n → ∀ j, swF (exF n M) k p i j = if i = j then 1 else 0 := fun i hi j => by
    unfold swF
    rw [swN_out hk hp hi, exF_out (fun z => hi z.1)]
  have e3 : ∀ i, i < n → ∀ j, ¬ j < n → swF (exF n M) k p i j = 0 := fun i hi j hj => by
    unfold swF
    have := swN_lt hk hp hi
    rw [exF_out (fun z => hj z.2), if_neg (by omega)]
  funext i j
  unfold clF clG
  by_cases hi : i < n
  · by_cases hj : j < n
    · rw [exF_in hi hj, en_cl h2 hk hi (by omega), e1 k hk k hk, e1 k hk j hj, e1 i hi j hj, e1 i hi k hk]
    · rw [exF_out (fun z => hj z.2), if_neg (by omega), e3 k hk j hj, e3 i hi j hj, zero_div', Rat.mul_zero, sub_zero', ite_self]
  · rw [exF_out (fun z => hi z.1), if_neg (show ¬ i = k by omega), e2 i hi j, e2 i hi k, if_neg (show ¬ i = k by omega), Rat.zero_mul, sub_zero']
theorem exG_step (h : Rect n w M) (le : n + n ≤ w) (hk : k < n) (hp : p < n) : exG n (clL (swL M k p) k) = clG (swF (exF n M) k p) (swF (exG n M) k p) k := by
  have h2 := rect_sw h hk hp
  have e1 : ∀ i, i < n → ∀ j, j < n → swF (exF n M) k p i j = en (swL M k p) i j := fun i hi j hj => by
    unfold swF
    rw [exF_in (swN_lt hk hp hi) hj, en_sw h hk hp hi]
  have g1 : ∀ i, i < n → ∀ j, j < n → swF (exG n M) k p i j = en (swL M k p) i (n + j) := fun i hi j hj => by
    unfold swF
    rw [exG_in (swN_lt hk hp hi) hj, en_sw h hk hp hi]
  have e2 : ∀ i, ¬ i < n → ∀ j, swF (exF n M) k p i j = if i = j then 1 else 0 := fun i hi j => by
    unfold swF
    rw [swN_out hk hp hi, exF_out (fun z => hi z.1)]
  have g2 : ∀ i, ¬ i < n → ∀ j, swF (exG n M) k p i j = if i = j then 1 else 0 := fun i hi j => by
    unfold swF
    rw [swN_out hk hp hi, exG_out (fun z => hi z.1)]
  have g3 : ∀ i, i < n → ∀ j, ¬ j < n → swF (exG n M) k p i j = 0 := fun i hi j hj => by
    unfold swF
    have := swN_lt hk hp hi
    rw [exG_out (fun z => hj z.2), if_neg (by omega)]
  funext i j
  unfold clG
  by_cases hi : i < n
  · by_cases hj : j < n
    · rw [exG_in hi hj, en_cl h2 hk hi (by omega), e1 k hk k hk, g1 k hk j hj, g1 i hi j hj, e1 i hi k hk]
    · rw [exG_out (fun z => hj z.2), if_neg (by omega), g3 k hk j hj, g3 i hi j hj, zero_div', Rat.mul_zero, sub_zero', ite_self]
  · rw [exG_out (fun z => hi z.1), if_neg (show ¬ i = k by omega), g2 i hi j, e2 i hi k, if_neg (show ¬ i = k by omega), Rat.zero_mul, sub_zero']
theorem ab_cl {b : Nat} (hb : 1 ≤ b) (h : AB b M) (hr : Rect n w M) (hk : k < n) (z : en M k k ≠ 0) : AB (4 * b + 1) (clL M k) := fun r hr2 x hx => by
  unfold clL at hr2
  obtain ⟨i, hi, rfl⟩ := List.mem_map.mp hr2
  rw [List.mem_range, hr.len] at hi
  have ho : ∀ y ∈ ownL M k, FB (b + b) y := fun y hy => by
    unfold ownL at hy
    obtain ⟨v, hv, rfl⟩ := List.mem_map.mp hy
    exact (h _ (getD_mem (d := []) (by rw [hr.len]; exact hk)) v hv).div (h.en hb k k) z
  unfold rowL at hx
  split at hx
  · exact (ho x hx).mono (by omega)
  · obtain ⟨q, hq, rfl⟩ := List.mem_map.mp hx
    obtain ⟨q1, q2⟩ := List.of_mem_zip (a := q.1) (b := q.2) hq
    exact ((h _ (getD_mem (d := []) (by rw [hr.len]; exact hi)) _ q1).sub ((h.en hb i k).mul (ho _ q2))).mono (by omega)
end
end D

set_option exponentiation.threshold 256
set_option pp.maxSteps 5000
set_option Elab.async false
set_option linter.all false
set_option pp.maxSteps 300
set_option maxRecDepth 100000
set_option maxHeartbeats 4000000
/-! P70c: determinants by the first row; the back; products. -/
namespace D
open PySem PySem.Spec PyProof.Rows L2
/-- without the thing at k -/
def dropC (k : Nat) (r : List Rat) : List Rat := r.take k ++ r.drop (k + 1)
def altF (a d : Nat → Rat) : Nat → Rat
  | 0 => 0
  | k + 1 => if k % 2 = 1 then altF a d k - a k * d k else altF a d k + a k * d k
def detF : Nat → List (List Rat) → Rat
  | 0, _ => 1
  | n + 1, M => altF (fun k => ap (M.getD 0 []) k) (fun k => detF n (M.tail.map (dropC k))) (n + 1)
def miL (M : List (List Rat)) (j k : Nat) : List (List Rat) := (M.eraseIdx j).map (dropC k)
theorem rows1 {M : List (List Rat)} {w : Nat} (h : Rect 1 w M) : ∃ a, M = [a] ∧ a.length = w := by
  match M, h with
  | [a], h => exact ⟨a, rfl, h.row a (by simp)⟩
theorem rows2 {M : List (List Rat)} {w : Nat} (h : Rect 2 w M) : ∃ a b, M = [a, b] ∧ a.length = w ∧ b.length = w := by
  match M, h with
  | [a, b], h => exact ⟨a, b, rfl, h.row a (by simp), h.row b (by simp)⟩
theorem rows3 {M : List (List Rat)} {w : Nat} (h : Rect 3 w M) : ∃ a b c, M = [a, b, c] ∧ a.length = w ∧ b.length = w ∧ c.length = w := by
  match M, h with
  | [a, b, c], h => exact ⟨a, b, c, rfl, h.row a (by simp), h.row b (by simp), h.row c (by simp)⟩
theorem rows4 {M : List (List Rat)} {w : Nat} (h : Rect 4 w M) : ∃ a b c d, M = [a, b, c, d] ∧ a.length = w ∧ b.length = w ∧ c.length = w ∧ d.length = w := by
  match M, h with
  | [a, b, c, d], h => exact ⟨a, b, c, d, rfl, h.row a (by simp), h.row b (by simp), h.row c (by simp), h.row d (by simp)⟩
theorem l1 {a : List Rat} (h : a.length = 1) : ∃ x, a = [x] := List.length_eq_one_iff.mp h
theorem l2 {a : List Rat} (h : a.length = 2) : ∃ x y, a = [x, y] := by
  match a, h with
  | [x, y], _ => exact ⟨x, y, rfl⟩
theorem l3 {a : List Rat} (h : a.length = 3) : ∃ x y z, a = [x, y, z] := by
  match a, h with
  | [x, y, z], _ => exact ⟨x, y, z, rfl⟩
theorem l4 {a : List Rat} (h : a.length = 4) : ∃ x y z u, a = [x, y, z, u] := by
  match a, h with
  | [x, y, z, u], _ => exact ⟨x, y, z, u, rfl⟩
theorem det_ex {n : Nat} {M : List (List Rat)} (h : Rect n n M) (hn : 1 ≤ n) (h4 : n ≤ 4) : det4 (exF n M) = detF n M := by
  match n, hn, h4 with
  | 1, _, _ =>
    obtain ⟨a, rfl, ha⟩ := rows1 h
    obtain ⟨a0, rfl⟩ := l1 ha
    simp [det4, d4, d3, d2, exF, en, ap, detF, altF]
    try grind
  | 2, _, _ =>
    obtain ⟨a, b, rfl, ha, hb⟩ := rows2 h
    obtain ⟨a0, a1, rfl⟩ := l2 ha
    obtain ⟨b0, b1, rfl⟩ := l2 hb
    simp [det4, d4, d3, d2, exF, en, ap, detF, altF, dropC]
    try grind
  | 3, _, _ =>
    obtain ⟨a, b, c, rfl, ha, hb, hc⟩ := rows3 h
    obtain ⟨a0, a1, a2, rfl⟩ := l3 ha
    obtain ⟨b0, b1, b2, rfl⟩ := l3 hb
    obtain ⟨c0, c1, c2, rfl⟩ := l3 hc
    simp [det4, d4, d3, d2, exF, en, ap, detF, altF, dropC]
    try grind
  | 4, _, _ =>
    obtain ⟨a, b, c, d, rfl, ha, hb, hc, hd⟩ := rows4 h
    obtain ⟨a0, a1, a2, a3, rfl⟩ := l4 ha
    obtain ⟨b0, b1, b2, b3, rfl⟩ := l4 hb
    obtain ⟨c0, c1, c2, c3, rfl⟩ := l4 hc
    obtain ⟨d0, d1, d2, d3, rfl⟩ := l4 hd
    simp [det4, d4, D.d3, D.d2, exF, en, ap, detF, altF, dropC]
    try grind
theorem min_ex {n : Nat} {M : List (List Rat)} (h : Rect n n M) (hn : 1 ≤ n) (h4 : n ≤ 4) {j k : Nat} (hj : j < n) (hk : k < n) : m3 (exF n M) j k = detF (n - 1) (miL M j k) := by
  match n, hn, h4 with
  | 1, _, _ =>
    obtain ⟨a, rfl, ha⟩ := rows1 h
    obtain ⟨a0, rfl⟩ := l1 ha
    obtain rfl : j = 0 := by omega
    obtain rfl : k = 0 := by omega
    simp [m3, sk, d3, d2, exF, en, ap, detF, altF, miL, dropC]
    try grind
  | 2, _, _ =>
    obtain ⟨a, b, rfl, ha, hb⟩ := rows2 h
    obtain ⟨a0, a1, rfl⟩ := l2 ha
    obtain ⟨b0, b1, rfl⟩ := l2 hb
    rcases (show j = 0 ∨ j = 1 by omega) with rfl | rfl <;> rcases (show k = 0 ∨ k = 1 by omega) with rfl | rfl <;> simp [m3, sk, d3, d2, exF, en, ap, detF, altF, miL, dropC] <;> try grind
  | 3, _, _ =>
    obtain ⟨a, b, c, rfl, ha, hb, hc⟩ := rows3 h
    obtain ⟨a0, a1, a2, rfl⟩ := l3 ha
    obtain ⟨b0, b1, b2, rfl⟩ := l3 hb
    obtain ⟨c0, c1, c2, rfl⟩ := l3 hc
    rcases (show j = 0 ∨ j = 1 ∨ j = 2 by omega) with rfl | rfl | rfl <;> rcases (show k = 0 ∨ k = 1 ∨ k = 2 by omega) with rfl | rfl | rfl <;> simp [m3, sk, d3, d2, exF, en, ap, detF, altF, miL, dropC] <;> try grind
  | 4, _, _ =>
    obtain ⟨a, b, c, d, rfl, ha, hb, hc, hd⟩ := rows4 h
    obtain ⟨a0, a1, a2, a3, rfl⟩ := l4 ha
    obtain ⟨b0, b1, b2, b3, rfl⟩ := l4 hb
    obtain ⟨c0, c1, c2, c3, rfl⟩ := l4 hc
    obtain ⟨d0, d1, d2, d3, rfl⟩ := l4 hd
    rcases four hj with rfl | rfl | rfl | rfl <;> rcases four hk with rfl | rfl | rfl | rfl <;> simp [m3, sk, D.d3, D.d2, exF, en, ap, detF, altF, miL, dropC] <;> try grind
/-! ### the back -/
def backF (n : Nat) (M : List (List Rat)) : List (List Rat) := (List.range n).map fun k => (List.range n).map fun j => sgN (k + j) * detF (n - 1) (miL M j k) / detF n M
theorem ap_range {n : Nat} {f : Nat → Rat} {j : Nat} (h : j < n) : ap ((List.range n).map f) j = f j := by
  unfold ap
  rw [List.getD_eq_getElem?_getD, List.getElem?_map, List.getElem?_range h]; rfl
theorem en_tab {n w : Nat} {f : Nat → Nat → Rat} {i j : Nat} (hi : i < n) (hj : j < w) : en ((List.range n).map fun k => (List.range w).map fun j => f k j) i j = f i j := by
  unfold en
  rw [getD_some (x := (List.range w).map fun j => f i j) (by rw [List.getElem?_map, List.getElem?_range hi]; rfl), ap_range hj]
theorem rect_tab {n w : Nat} {f : Nat → Nat → Rat} : Rect n w ((List.range n).map fun k => (List.range w).map fun j => f k j) := ⟨by simp, fun r hr => by
  obtain ⟨k, _, rfl⟩ := List.mem_map.mp hr
  simp⟩
def unitF (n : Nat) : List (List Rat) := (List.range n).map fun k => (List.range n).map fun j => if k = j then 1 else 0
/-! ### products -/
def dotZ (a b : List Rat) : Rat := (a.zip b).foldl (fun t p => t + p.1 * p.2) 0
def putF (X : List (List Rat)) (r : List Rat) : List Rat := X.map fun own => dotZ own r
def colF (Y : List (List Rat)) (c : Nat) : List Rat := Y.map fun r => ap r c
def prodF (X Y : List (List Rat)) : List (List Rat) := (List.range X.length).map fun k => (List.range Y.length).map fun c => ap (putF X (colF Y c)) k
theorem dot_ex {n : Nat} {a b : List Rat} (ha : a.length = n) (hb : b.length = n) (hn : 1 ≤ n) (h4 : n ≤ 4) : dotZ a b = sum4 fun t => if t < n then ap a t * ap b t else 0 := by
  match n, hn, h4 with
  | 1, _, _ =>
    obtain ⟨a0, rfl⟩ := l1 ha
    obtain ⟨b0, rfl⟩ := l1 hb
    simp [dotZ, sum4, ap]
    try grind
  | 2, _, _ =>
    obtain ⟨a0, a1, rfl⟩ := l2 ha
    obtain ⟨b0, b1, rfl⟩ := l2 hb
    simp [dotZ, sum4, ap]
    try grind
  | 3, _, _ =>
    obtain ⟨a0, a1, a2, rfl⟩ := l3 ha
    obtain ⟨b0, b1, b2, rfl⟩ := l3 hb
    simp [dotZ, sum4, ap]
    try grind
  | 4, _, _ =>
    obtain ⟨a0, a1, a2, a3, rfl⟩ := l4 ha
    obtain ⟨b0, b1, b2, b3, rfl⟩ := l4 hb
    simp [dotZ, sum4, ap]
    try grind
theorem put_ap {X : List (List Rat)} {r : List Rat} {k : Nat} (h : k < X.length) : ap (putF X r) k = dotZ (X.getD k []) r := by
  unfold putF ap
  rw [List.getD_eq_getElem?_getD, List.getElem?_map, some_getD [] h]; rfl
theorem col_ap {Y : List (List Rat)} {c t : Nat} (h : t < Y.length) : ap (colF Y c) t = en Y t c := by
  unfold colF ap
  rw [List.getD_eq_getElem?_getD, List.getElem?_map, some_getD [] h]; rfl
theorem prod_unit {n : Nat} {X Y : List (List Rat)} (hx : Rect n n X) (hy : Rect n n Y) (hn : 1 ≤ n) (h4 : n ≤ 4) (h : ∀ i j, i < 4 → j < 4 → sum4 (fun t => exF n X i t * exF n Y t j) = if i = j then 1 else 0) : prodF X Y = unitF n := by
  unfold prodF unitF
  rw [hx.len, hy.len]
  refine List.map_congr_left fun k hk => List.map_congr_left fun c hc => ?_
  rw [List.mem_range] at hk hc
  rw [put_ap (by rw [hx.len]; exact hk), dot_ex (hx.rw hk) (by unfold colF; rw [List.length_map, hy.len]) hn h4, ← h k c (by omega) (by omega)]
  congr 1
  funext t
  by_cases ht : t < n
  · rw [if_pos ht, col_ap (by rw [hy.len]; exact ht), exF_in hk ht, exF_in ht hc]; rfl
  · rw [if_neg ht, exF_out (fun z => ht z.2), if_neg (show ¬ k = t by omega), Rat.zero_mul]
/-- what back_of tells of a square that has a back -/
structure IsBack (n : Nat) (M X : List (List Rat)) : Prop where
  e : X = backF n M
  r : Rect n n X
  one : prodF X M = unitF n
  two : prodF M X = unitF n
def tailL (n : Nat) (Z : List (List Rat)) : List (List Rat) := Z.map fun r => r.drop n
theorem ap_drop (r : List Rat) (n j : Nat) : ap (r.drop n) j = ap r (n + j) := by
  unfold ap
  rw [List.getD_eq_getElem?_getD, List.getD_eq_getElem?_getD, List.getElem?_drop]
theorem rect_tail {n w : Nat} {Z : List (List Rat)} (h : Rect n (n + w) Z) : Rect n w (tailL n Z) := ⟨by unfold tailL; rw [List.length_map, h.len], fun r hr => by
  obtain ⟨z, hz, rfl⟩ := List.mem_map.mp hr
  rw [List.length_drop, h.row z hz]; omega⟩
theorem en_tail {n w : Nat} {Z : List (List Rat)} (h : Rect n (n + w) Z) {i j : Nat} (hi : i < n) : en (tailL n Z) i j = en Z i (n + j) := by
  unfold en
  rw [getD_some (x := (Z.getD i []).drop n) (by unfold tailL; rw [List.getElem?_map, some_getD [] (by rw [h.len]; exact hi)]; rfl), ap_drop]
theorem un_all {n : Nat} {Z : List (List Rat)} (h4 : n ≤ 4) (u : Un (exF n Z) n) : Un (exF n Z) 4 := fun i j hi hj => by
  by_cases e : j < n
  · exact u i j hi e
  · rw [exF_out (fun z => e z.2)]
theorem fin_back {n : Nat} {M Z : List (List Rat)} (hm : Rect n n M) (hz : Rect n (n + n) Z) (hn : 1 ≤ n) (h4 : n ≤ 4) (u : Un (exF n Z) n) (pr : PrR (exF n M) (exF n Z) (exG n Z)) (nz : det4 (exF n M) ≠ 0) : IsBack n M (tailL n Z) := by
  have u4 := un_all h4 u
  have rx := rect_tail hz
  have ex : exF n (tailL n Z) = exG n Z := by
    funext i j
    by_cases h : i < n ∧ j < n
    · rw [exF_in h.1 h.2, exG_in h.1 h.2, en_tail hz h.1]
    · rw [exF_out h, exG_out h]
  have one : ∀ i j, i < 4 → j < 4 → sum4 (fun t => exG n Z i t * exF n M t j) = if i = j then 1 else 0 := fun i j hi hj => by rw [← pr i j hi hj, u4 i j hi hj]
  have inv := fun {k l : Nat} (hk : k < 4) (hl : l < 4) => inv_is one hk hl
  have eR : ∀ k l, k < 4 → l < 4 → exG n Z k l = sgN (l + k) * m3 (exF n M) l k / det4 (exF n M) := fun k l hk hl => by
    rw [← inv hk hl, Rat.div_def, Rat.mul_assoc, Rat.mul_inv_cancel _ nz, Rat.mul_one]
  have two : ∀ i j, i < 4 → j < 4 → sum4 (fun t => exF n M i t * exG n Z t j) = if i = j then 1 else 0 := fun i j hi hj => by
    have q := adj_r (exF n M) hi hj
    unfold sum4 at q ⊢
    simp only [] at q ⊢
    rw [eR 0 j (by decide) hj, eR 1 j (by decide) hj, eR 2 j (by decide) hj, eR 3 j (by decide) hj]
    have e : ∀ a x : Rat, a * (x / det4 (exF n M)) = (a * x) * (det4 (exF n M))⁻¹ := fun a x => by rw [Rat.div_def, Rat.mul_assoc]
    rw [e, e, e, e, ← Rat.add_mul, ← Rat.add_mul, ← Rat.add_mul, q]
    split
    · exact Rat.mul_inv_cancel _ nz
    · exact Rat.zero_mul _
  refine ⟨rect_ext rx rect_tab fun i j hi hj => ?_, rx, prod_unit rx hm hn h4 (by rw [ex]; exact one), prod_unit hm rx hn h4 (by rw [ex]; exact two)⟩
  unfold backF
  rw [en_tab hi hj, ← exF_in (n := n) hi hj, ex, eR i j (by omega) (by omega), min_ex hm hn h4 hj hi, det_ex hm hn h4, Nat.add_comm]
end D

set_option exponentiation.threshold 256
set_option pp.maxSteps 5000
set_option Elab.async false
set_option linter.all false
set_option maxRecDepth 100000
set_option maxHeartbeats 4000000
/-! DQ: defs that make lambdas, defs that get a deed. -/
namespace D
open PySem PySem.Spec PyProof.Rows L2
section
variable {P : Program} {w : World} {mg : Str → Option Value} {base : Heap} {K : PySem.W.Frag}
/-- fnD, where the code object is wanted -/
theorem fnDc {x qual : Str} {st : Stmt} {f : Addr} {fd : FuncData} {N ps : List Str} {k : Nat} {c : AC} (F : Fun K x qual st f fd) (S : FnScope N ps (defScope st)) (len : ∀ xs μ Q E, c xs μ Q E → xs.length = ps.length)
    (go : ∀ {B : Bs} (cdv : Value) (A : Around) (outer : List Env) (s : Shared) (H : Hp) (E : XK) (xs : List D.A) (μ : Mu) (Q : D.A → Mu → Prop) (E0 : Value → Option Addr → Mu → Prop), Ar (cx0 P w K mg base N qual (defScope st) f cdv A outer s H E) k → c xs μ Q E0 → fd.code = cdv →
      wSs B (cx0 P w K mg base N qual (defScope st) f cdv A outer s H E) (defBody st) (startA N xs) μ { nx := fun _ μ' => Q .non μ', rt := Q }) : FnD P w K mg base CX0 (k + 1) f fd ps c := by
  obtain ⟨oc, od, kV, doc, pm, an, cdv, ct, osl, rfl, lk, hcd⟩ := F.ex
  refine FnD.body lk hcd S len fun A outer s H vs Q E room sh sp => rdSs_nox ?_
  obtain ⟨xs, F0, M, μ, Q0, E0, rp, rl, hc, hq, he⟩ := sp
  refine (go cdv A outer s H E xs μ Q0 E0 ⟨room, sh⟩ hc rfl (L2.start N vs) M F0 H (Bs.ok.own M F0) (relS_start N rp) rl).imp (fun σ2 H2 q => ?_) (fun v H2 q => ?_) (fun σ2 H2 q => ?_) (fun σ2 H2 q => ?_)
  · obtain ⟨Γ', F', μ', ex, _, rl', q⟩ := q
    exact hq .non μ' F' H2 .non q ex rl' (rep_non.mpr rfl)
  · obtain ⟨y, F', μ', ex, rl', rp', q⟩ := q
    exact hq y μ' F' H2 v q ex rl' rp'
  · obtain ⟨_, _, _, _, _, _, q⟩ := q; exact q
  · obtain ⟨_, _, _, _, _, _, q⟩ := q; exact q
theorem lgD {x a : Str} {st : Stmt} {g : Addr} {fd : FuncData} {N : List Str} {k : Nat} {c : DL → Mu → (A → Mu → Prop) → Prop} (F : Fun K x x st g fd) (S : FnScope N [a] (defScope st)) (hN : N[0]? = some a) (hv : Vis (defScope st) a) (gm : mg x = some (.ref g)) (gk : PySem.W.keepIn K (.ref g) = true) (gb : Binds K fd [a] [])
    (go : ∀ {B : Bs} (cdv : Value) (A : Around) (outer : List Env) (s : Shared) (H : Hp) (f : Addr) (dl : DL) (μ : Mu) (Q : D.A → Mu → Prop), Ar (cx0 P w K mg base N x (defScope st) g cdv A outer s H C8.E0) k → c dl μ Q → Act B (cx0 P w K mg base N x (defScope st) g cdv A outer s H C8.E0) a f dl →
      wSs B (cx0 P w K mg base N x (defScope st) g cdv A outer s H C8.E0) (defBody st) (startA N [.loc f]) μ { nx := fun _ μ' => Q .non μ', rt := Q })
    (hd : (a == ("__debug__" : Str)) = false := by decide) (hcd : (a == ("__classdict__" : Str)) = false := by decide) : LG P w K mg base k x c := by
  obtain ⟨oc, od, kV, doc, pm, an, cdv, ct, osl, rfl, lk, hc⟩ := F.ex
  exact ⟨g, _, _, _, _, _, _, _, _, _, _, _, _, _, N, a, gm, gk, lk, hc, gb, S, hN, hv, hd, hcd, fun B A outer s H f dl μ Q ar hc act => go cdv A outer s H f dl μ Q ⟨ar.room, ar.show0⟩ hc ⟨fun B' pn xe Γ μ Q E1 p1 p2 le tk h0 h => act.o B' pn xe Γ μ Q E1 p1 p2 le tk h0 h⟩⟩
end
end D

set_option exponentiation.threshold 256
set_option pp.maxSteps 5000
set_option Elab.async false
set_option linter.all false
set_option maxRecDepth 100000
set_option maxHeartbeats 4000000
/-! DR: D.get(k) of a dict of the module. -/
namespace D
open PySem PySem.Spec PyProof.Rows L2
section
variable {B : Bs} {X : Cx} {Γ : G} {μ : Mu} {Q : A → Mu → Prop} {o e : Expr} {apos cpos : Pos}
def getI (kvs : List (Str × Int)) (k : Str) : A := match valI kvs k with
  | some i => .int i
  | none => .non
theorem wE_kget1 {p : Addr} {kvs : List (Str × Int)} (Dk : KDi X.K X.w p kvs) (h : wE B X o Γ μ fun x μ1 => x = .loc p ∧ wE B X e Γ μ1 fun y μ2 => ∃ k : Str, y = .str k ∧ Q (getI kvs k) μ2)
    (hb : attributeBase o "get" X.env (eval o X.env) = eval o X.env := by rfl)
    (hf : ((backTo cpos (starEach [e] X.env)).all (fun x => !x.1) && (backToKw cpos (keywordEach [] X.env)).all (fun x => x.1.isSome) && decide (([e] : List Expr).length + ([] : List Keyword).length + (if ([] : List Keyword).isEmpty then 0 else 1) < 30)) = true := by rfl)
    (hl : (apos.endLine == cpos.line) = true := by rfl) (ht : backTo cpos (starEach [e] X.env) = [(false, eval e X.env)] := by rfl) : wE B X (.Call (.Attribute o "get" apos) [e] [] cpos) Γ μ Q := by
  obtain ⟨es, n, k1, k2, k3, k4⟩ := Dk.ex
  intro σ M F H bo rs rl
  refine ⟨fun pins s I => ?_⟩
  refine wpAny_Call_method hb hf hl PySem.F.plainAttrs_dict PySem.F.slot_dict_get PySem.F.type_dict_get (thn ((h σ M F H bo rs rl).o pins s I) fun u s1 got => ?_)
  obtain ⟨v, H1, I1, rv, x, F1, μ1, ex1, r1, p1, rfl, q1⟩ := got
  rw [rep_loc] at p1; subst p1
  obtain rfl : u = Value.ref p := rv
  have mo := fun {s : Shared} {pins : List (Addr × Obj)} {σ : L2.St} {H : Hp} (I : Inv X pins σ H s) => PySem.W.mapOf_K (prog := X.prog) (w := X.w) I.kIn k1 k2
  refine ⟨(mo I1).typeIs, fun b q => ?_, ?_⟩
  · cases q; exact ⟨_, I1.kIn _ _ k1, rfl⟩
  rw [ht]
  refine Calls.callWith_builtin rfl (Calls.evalArgs_plain (Calls.spliced_cons (thn ((q1 σ M F1 H1 (bo.mono ex1) (rs.mono ex1) r1).o pins s1 I1) fun iv s2 got2 => Calls.spliced_nil ?_)))
  obtain ⟨v2, H2, I2, rv2, y, F2, μ2, ex2, r2, p2, k, rfl, q2⟩ := got2
  rw [rep_str] at p2; subst p2
  obtain ⟨t2, rfl⟩ := rv2
  refine call_meetsIn PySem.F.slot_dict_get (mo I2).typeIs PySem.F.entry_dict_get (PySem.F.args_dict_get_2 _ _) (meets_dict_get (strKind X.prog X.w) p (strKind_is X.prog X.w k t2) k3) ⟨_, mo I2, ?_⟩
  rcases ent_find k k4 with ⟨h1, h2⟩ | ⟨d, m, t, h1, h2, h3⟩
  · have e0 : findBy Value.isStrOf es k = none := by unfold findBy; rw [← Array.find?_toList, h2]; rfl
    simp only [e0, Option.getD_none]
    exact ⟨.non, H2, I2.tok _, rfl, .non, F2, μ2, ex1.trans ex2, r2, rep_non.mpr rfl, by unfold getI at q2; rw [h1] at q2; exact q2⟩
  · have e0 : findBy Value.isStrOf es k = some (.int m t) := by unfold findBy; rw [← Array.find?_toList, h2, ← h3]; rfl
    simp only [e0, Option.getD_some]
    exact ⟨.int m, H2, I2.tok _, ⟨_, rfl⟩, .int m, F2, μ2, ex1.trans ex2, r2, rep_int.mpr rfl, by unfold getI at q2; rw [h1] at q2; exact q2⟩
end
end D

set_option exponentiation.threshold 256
set_option pp.maxSteps 5000
set_option Elab.async false
set_option linter.all false
set_option maxRecDepth 100000
set_option maxHeartbeats 4000000
/-! DE: a tuple turned about (t[::-1]); repr of an empty dict of our own. -/
namespace D
open PySem PySem.Spec PyProof.Rows L2
/-! ### places and items from the end -/
theorem back_count (n : Nat) : Builtin.Slice.slicePlaces ((n : Int) - 1) (-1) (-1) = n := by
  unfold Builtin.Slice.slicePlaces
  cases n with
  | zero => rfl
  | succ n =>
    simp only [show ¬ ((-1 : Int) > 0) by decide, if_false]
    rw [if_pos (by omega)]
    simp only [Int.neg_neg, Int.ediv_one]
    omega
theorem pick_map {α β : Type} {f : α → Option β} {g : α → β} : ∀ l : List α, (∀ a ∈ l, f a = some (g a)) → l.filterMap f = l.map g := by
  intro l
  induction l with
  | nil => intro _; rfl
  | cons a l ih => intro h; simp [h a (.head _), ih fun b hb => h b (.tail _ hb)]
theorem back_items (l : List Value) : (List.range l.length).filterMap (fun (m : Nat) => l[((l.length : Int) - 1 + (m : Int) * (-1)).toNat]?) = l.reverse := by
  have all : (List.range l.length).filterMap (fun (m : Nat) => l[((l.length : Int) - 1 + (m : Int) * (-1)).toNat]?) = (List.range l.length).map fun m => l[l.length - 1 - m]?.getD .none := by
    refine pick_map _ fun m hm => ?_
    have lt : m < l.length := List.mem_range.mp hm
    have pl : ((l.length : Int) - 1 + (m : Int) * (-1)).toNat = l.length - 1 - m := by omega
    rw [pl, List.getElem?_eq_getElem (by omega)]; rfl
  rw [all]
  refine List.ext_getElem (by simp) fun i h1 h2 => ?_
  have lt : i < l.length := by simpa using h2
  rw [List.getElem_map, List.getElem_range, List.getElem_reverse, List.getElem?_eq_getElem (by omega)]; rfl
/-! ### the slice -/
section
variable {prog : Program} {w : World} {A : Around} {E : Value → Shared → Prop} {s : Shared}
theorem slice_back {sl : Addr} {st : Value} {n : Nat} {Q : Int × Int × Nat → Shared → Prop} (hs : s.heap.IsSliceOf sl .none .none st) (ps : IsPart st (some (-1))) (q : Q ((n : Int) - 1, -1, n) s) :
    wpAny (model prog w) A (Builtin.Slice.sliceApplied (.ref sl) (pure (n : Int))) Q E s := by
  obtain ⟨o, e, _, dt⟩ := hs
  have rd : ∀ {i : Nat} {v : Value} {R : Value → Shared → Prop}, (#[Value.none, .none, st] : Array Value)[i]? = some v → R v s → wpAny (model prog w) A (field (.ref sl) i) R E s := fun hv r => wpAny_field e dt hv r
  have parts : wpAny (model prog w) A (Builtin.Slice.sliceFields (.ref sl)) (fun r s1 => r = (.none, .none, st) ∧ s1 = s) E s := by
    unfold Builtin.Slice.sliceFields
    exact wpAny_bind (rd (v := .none) rfl (wpAny_bind (rd (v := .none) rfl (wpAny_bind (rd (v := st) rfl (wpAny_pure ⟨rfl, rfl⟩))))))
  unfold Builtin.Slice.sliceApplied
  refine wpAny_bind (wpAny_mono parts (fun r s1 h => ?_) fun _ _ z => z)
  obtain ⟨rfl, rfl⟩ := h
  refine wpAny_bind (HT.slicePart_ ps ?_)
  show wpAny _ _ (if _ then _ else _) _ _ _
  rw [if_neg (by decide)]
  refine wpAny_bind (slicePart_none (wpAny_bind (slicePart_none (wpAny_bind (wpAny_pure ?_)))))
  have e : (((n : Int) - 1, -1, Builtin.Slice.slicePlaces ((n : Int) - 1) (-1) (-1)) : Int × Int × Nat) = ((n : Int) - 1, -1, n) := by rw [back_count]
  exact wpAny_pure (e ▸ q)
/-- t[sl], sl the slice from the end -/
theorem tup_back {t sl : Addr} {xs : List Value} {st : Value} {Q : Value → Shared → Prop} (ht : IsTup s.heap t xs.toArray) (hs : s.heap.IsSliceOf sl .none .none st) (ps : IsPart st (some (-1))) (sz : xs.length ≤ sizeLine)
    (q : Q (.ref s.heap.objs.size) { s with heap := s.heap.push { cls := .type "tuple", data := .seq xs.reverse.toArray } }) : wpAny (model prog w) A (getItem (.ref t) (.ref sl)) Q E s := by
  have isSl : s.TypeIs (.ref sl) "slice" := hs.elim fun o p => ⟨o, p.1, p.2.1⟩
  refine getItem_slot ht.typeIs (by decide) PyProof.Rows.slot_tuple_getitem (wpAny_call_entry PyProof.Rows.slot_tuple_getitem ht.typeIs entry_tuple_getitem ?_ (args_tuple_getitem _ _))
  refine wpAny_bind (m := Builtin.Tuple.tupleItemsOf (.ref t)) (tupleItemsOf_ ht ?_)
  refine wpAny_bind (m := typeOf (.ref sl)) (wpAny_typeOf isSl ?_)
  rw [if_pos (by decide)]
  refine wpAny_bind (slice_back hs ps ?_)
  have sz' : sizeOk (.seq xs.reverse.toArray) := by show xs.reverse.toArray.size ≤ sizeLine; simpa using sz
  have items : ((List.range xs.toArray.size).filterMap fun (m : Nat) => xs.toArray[(((xs.toArray.size : Nat) : Int) - 1 + (m : Int) * (-1)).toNat]?).toArray = xs.reverse.toArray := by
    simpa using congrArg List.toArray (back_items xs)
  show wpAny _ _ (if ((((xs.toArray.size : Nat) : Int) - 1) == 0 && (-1 : Int) == 1 && xs.toArray.size == xs.toArray.size) = true then _ else _) _ _ s
  rw [if_neg (by simp), items]
  refine wpAny_bind (m := Builtin.Tuple.tupleExact _) (wpAny_newObj_type ?_ sz')
  first
    | exact wpAny_pure ⟨_, rfl, wpAny_pure q⟩
    | exact wpAny_pure ⟨_, rfl, q⟩
    | exact wpAny_bind (wpAny_pure (wpAny_pure ⟨_, rfl, wpAny_pure q⟩))
end
section
variable {B : Bs} {X : Cx}
/-- e[::-1] of a tuple: a new tuple, its items from the end -/
def tBack (K : PySem.W.Frag) (te : TE) : TE := fun σ H Q => te σ H fun x H1 => ∃ a xs, x = .ref a ∧ SqT K H1 a xs ∧ ∀ p, H1 p = none → Q (.ref p) (upd H1 p (.tup xs.reverse))
theorem minus_one {k : Nat} {p1 p2 : Pos} : PO X (some (.UnaryOp .USub (.Constant (.int 1) k p1) p2)) (tPart (tUn (rU fun i => .int (-i)) (tC (.int 1)))) := po_some (pe_un un_neg pe_int)
theorem pe_back {e : Expr} {te : TE} {k : Nat} {p1 p2 p3 pos : Pos} (he : PE X e te) : PE X (.Subscript e (.Slice none none (some (.UnaryOp .USub (.Constant (.int 1) k p1) p2)) p3) pos) (tBack X.K te) := by
  constructor
  intro pins s σ H Q I h
  refine Subscript_ (thn (he.run pins s σ H _ I h) fun v s1 got => wpAny_Slice ?_)
  obtain ⟨x, H1, I1, rx, a, xs, rfl, sq, q⟩ := got
  obtain rfl : v = Value.ref a := rx
  rw [evalPart_none]
  refine wpAny_pure (wpAny_pure (thn (minus_one.run pins s1 σ H1 (fun o H2 => o = some (-1) ∧ H2 = H1) I1 ⟨1, rfl, -1, rfl, rfl, rfl⟩) fun st s2 part => ?_))
  obtain ⟨_, H2, I2, ps, rfl, same⟩ := part
  rw [same] at I2
  let s3 : Shared := { s2 with heap := s2.heap.push { cls := .type "slice", data := .fields #[.none, .none, st] } }
  have I3 : L2.Inv X pins σ H1 s3 := I2.kept (t' := s2.toks) fun _ _ => Heap.get?_push_of_some _
  obtain ⟨its, vals, tup, le⟩ := I3.tuple sq
  show wpAny (model X.prog X.w) X.A (subscriptTail e _ (.ref a) (.ref s2.heap.objs.size)) (EP X pins σ Q) X.xe s3
  refine tail_any (ops := [.ref a, .ref s2.heap.objs.size]) tup.typeIs PyProof.Rows.slot_tuple_getitem.lookup (tup_back tup (Heap.IsSliceOf.new _ .none .none st) ps (vals.length ▸ le) ?_) (by with_unfolding_all rfl)
  have fresh : H1 s3.heap.objs.size = none := I3.hok.fresh (Nat.le_refl _)
  refine ⟨.ref s3.heap.objs.size, _, I3.laid (t' := s3.toks) (o := .tup xs.reverse) (fun _ _ => Heap.get?_push_of_some _) (Nat.le_refl _) ?_, rfl, q _ fresh⟩
  exact ⟨by simpa using le, its.reverse, vals.reverse, ⟨_, Heap.get?_push_size _ rfl, rfl, 0, rfl⟩⟩
variable {Γ : G} {μ : Mu} {Q : A → Mu → Prop} {a : Expr} {pos : Pos}
theorem wE_revT {k : Nat} {p1 p2 p3 : Pos} (h : wE B X a Γ μ fun x μ1 => ∃ xs, x = .tup xs ∧ Q (.tup xs.reverse) μ1) : wE B X (.Subscript a (.Slice none none (some (.UnaryOp .USub (.Constant (.int 1) k p1) p2)) p3) pos) Γ μ Q := wE_of (pe_back pe_rd) fun σ M F H bo rs r => by
  refine (h σ M F H bo rs r).imp fun v H1 ⟨x, F1, μ1, e1, r1, p1, xs, ex, q1⟩ => ?_
  subst ex; rw [rep_tup] at p1
  obtain ⟨p, vs, rfl, h1, h2⟩ := p1
  refine ⟨p, vs, rfl, r1.sub.t h1, fun l nl => ?_⟩
  obtain ⟨ex, rl'⟩ := r1.newF (o := .tup vs.reverse) nl
  exact ⟨_, _, _, e1.trans ex, rl', rep_tup.mpr ⟨l, _, rfl, .inl (.inl upd_same), h2.reverse.mono ex⟩, q1⟩
theorem wE_revL {k : Nat} {p1 p2 p3 : Pos} (h : wE B X a Γ μ fun x μ1 => ∃ xs, IsL μ1 x xs ∧ Q (.lst xs.reverse) μ1) : wE B X (.Subscript a (.Slice none none (some (.UnaryOp .USub (.Constant (.int 1) k p1) p2)) p3) pos) Γ μ Q := wE_of (pe_revL pe_rd) fun σ M F H bo rs r => by
  refine (h σ M F H bo rs r).imp fun v H1 ⟨x, F1, μ1, e1, r1, p1, xs, hx, q1⟩ => ?_
  obtain ⟨p, vs, rfl, h1, h2⟩ := hx.rep r1 p1
  refine ⟨p, vs, rfl, .inl (.inl h1), fun l nl => ?_⟩
  obtain ⟨ex, rl'⟩ := r1.newF (o := .lst vs.reverse) nl
  exact ⟨_, _, _, e1.trans ex, rl', rep_lst.mpr ⟨l, _, rfl, upd_same, h2.reverse.mono ex⟩, q1⟩
/-- repr of an empty dict of ours -/
theorem wC_reprD0 {k : Nat} {p : Addr} (ar : Ar X k) (hp : μ p = some (.dic [])) (q : Q (.str "{}") μ) : wC X (.builtin "repr") [.loc p] μ Q := by
  intro M F H vs rl rp
  refine ⟨fun pins s σ us I rv => ?_⟩
  obtain ⟨v, rfl, h⟩ := rp.one
  obtain ⟨u, rfl, ru⟩ := rv.one
  rw [rep_loc] at h; subst h; cases ru
  obtain ⟨_, _, h1, ws, rfl, h3⟩ := rl.own p _ hp
  have e0 : ws = [] := by
    cases ws with
    | nil => rfl
    | cons => simp [RepK] at h3
  subst e0
  obtain ⟨_, hsm, ps, kv, o2, es, ep, ho, hc, hd, _, hpr, _⟩ := dk_of I.hok h1
  have ep0 : ps = [] := by cases kv; rfl
  subst ep0
  have empty : es.toList = [] := by
    rcases z : es.toList with _ | _
    · rfl
    · rw [z] at hpr; cases hpr
  have noKeys : ReadsAll s.heap (es.toList.map (·.key)) (([] : List (PyData × PyData)).map (·.1)) [] := by rw [empty]; exact .nil
  have noVals : ReadsAll s.heap (es.toList.map (·.val)) (([] : List (PyData × PyData)).map (·.2)) [] := by rw [empty]; exact .nil
  have hu := ar.u64
  exact repr_of_reads' (.dict ho hc.1 hd noKeys noVals) (by decide) (fun _ z => by simp at z; rw [z] at hsm; simp at hsm) ar.show0 (by show X.A.units + 2 < cLine; omega) (fun _ _ z => z) (fun h' t tk kp => ⟨.str "{}", H, I.kept kp, ⟨t, rfl⟩, .pure rl (rep_str.mpr rfl) q⟩) (by decide)
end
end D

set_option exponentiation.threshold 256
set_option pp.maxSteps 5000
set_option Elab.async false
set_option linter.all false
set_option maxRecDepth 100000
set_option maxHeartbeats 4000000
/-! DS: enumerate of a tuple. -/
namespace D
open PySem PySem.Spec PyProof.Rows L2
/-- the enumerate object over the iterator at it, as it is made -/
def enumObj (it : Addr) : Obj := { cls := .type "enumerate", data := .fields #[.none, .bool false, .ref it, rawInt 0, .none, .none] }
theorem enum_made {v : Value} {o : Obj} {C : Heap → Prop} (B : Begins v o C) : Meets (Builtin.«enumerate.__new__» ⟨[.type "enumerate", v], []⟩) (fun _ R s => C s.heap ∧ R (.ok (.ret (.ref (s.heap.objs.size + 1)))) { s with heap := (s.heap.push o).push (enumObj s.heap.objs.size) }) :=
  .of_wp fun prog w A R s given => by
    obtain ⟨hp, gs, dr, tk, os⟩ := s
    have kind := sub_enumerate
    have size : (hp.push o).objs.size = hp.objs.size + 1 := Heap.size_push ..
    have start : ∀ {A' : Around} {E : Value → Shared → Prop} {Q : Value → Shared → Prop}, Q (.ref hp.objs.size) ⟨hp.push o, gs, dr, tk, os⟩ → wpAny (model prog w) A' (pyIter v) Q E ⟨hp, gs, dr, tk, os⟩ := B.iter prog w _ _ ⟨hp, gs, dr, tk, os⟩ _ given.1
    have made := given.2
    rw [← size] at made
    wp_walk using start
    refine wpAny_stack_any fun frames => wpAny_pure ?_
    split <;> (try (rename_i c _ _ _ _ _; cases c == Value.type "enumerate")) <;> (wp_walk using start; exact ⟨_, rfl, made⟩)
theorem enum_call {prog : Program} {w : World} {A : Around} {E : Value → Shared → Prop} {s : Shared} {v : Value} {o : Obj} {C : Heap → Prop} {Q : Value → Shared → Prop} (B : Begins v o C) (c : C s.heap)
    (q : Q (.ref (s.heap.objs.size + 1)) { s with heap := (s.heap.push o).push (enumObj s.heap.objs.size) }) : wpAny (model prog w) A (call (.type "enumerate") [v]) Q E s := by
  have last : ((s.heap.push o).push (enumObj s.heap.objs.size)).get? (s.heap.objs.size + 1) = some (enumObj s.heap.objs.size) := by
    rw [← Heap.size_push s.heap o]; exact Heap.get?_push_size _ rfl
  exact callType_new F.called_enumerate (by decide) (F.typeCall_enumerate_1 v) (F.newCall_enumerate_1 v) (fun x => F.args_object_init_2 x v) F.entry_enumerate_new (enum_made B) ⟨c, ⟨_, last, rfl⟩, q⟩
/-- enumerate over the tuple at a: turn i gives a new pair of i and item i -/
def IteT (K : PySem.W.Frag) (a : Addr) : L2.It where
  go i H := ∃ xs x, SqT K H a xs ∧ xs[i]? = some x
  stop i H := ∃ xs : List V, SqT K H a xs ∧ xs.length = i
  yld i H v H' := ∃ T x, v = .ref T ∧ H T = none ∧ H' = upd H T (.tup [.int (i : Nat), x]) ∧ ∀ xs, SqT K H a xs → xs[i]? = some x
/-- where its two records stand at turn i -/
def EnumAt (e it a : Addr) (i : Nat) (h : Heap) : Prop := (∃ old, IsEnum h e it ((i : Nat) : Int) old) ∧ h.IsTupleIter it a i
section
variable {P : Program} {w : World} {K : PySem.W.Frag} {a e it : Addr}
theorem EnumAt.keep {i : Nat} {h h' : Heap} (st : EnumAt e it a i h) (k : ∀ b ∈ [e, it], ∀ o, h.get? b = some o → h'.get? b = some o) : EnumAt e it a i h' :=
  ⟨st.1.imp fun _ q => k e (by simp) _ q, st.2.at fun o q => k it (by simp) o q⟩
/-- the library's walk of an enumerate, over a tuple's items -/
theorem enum_walk {A : Around} (hd : A.in1.handled = none) (ei : e ≠ it) (ai : a ≠ it) (ae : a ≠ e) (its : Array Value) :
    WalksT P w A e [e, it, a] [e, it] its.size (fun i vals => ∃ t x, its[i]? = some x ∧ vals = #[.int i t, x]) (fun i h => (∃ old, IsEnum h e it i old) ∧ h.IsTupleIter it a i ∧ h.IsTuple a its)
      (fun i T h => (∃ x, IsEnumOut h e it ((i : Int) + 1) x T) ∧ (h.IsTupleIter it a (i + 1) ∧ h.IsTuple a its) ∧ T ≠ e ∧ T ≠ it) :=
  WalksT.enumerateD (Draws.tuple hd it a ai its) e ei (by simp [ei, Ne.symm ae]) (by simp)
theorem turn_enumT {elts : List Expr} {kk : Nat} {tpos : Pos} (ei : e ≠ it) (ai : a ≠ it) (ae : a ≠ e) : Turn P w K (.Tuple elts kk tpos) (IteT K a) [e, it] e (EnumAt e it a) where
  mem := .head _
  keep := fun i h h' st k => st.keep k
  self := fun A i s Q E st q => wpAny_pyIter_enum st.1.choose_spec q
  obj := fun i h st => by
    obtain ⟨⟨old, he⟩, o, ho, _, dt⟩ := st
    refine List.forall_mem_cons.mpr ⟨⟨_, he, fun v z => nomatch z⟩, List.forall_mem_cons.mpr ⟨⟨o, ho, fun v z => ?_⟩, fun _ z => nomatch z⟩⟩
    rw [dt] at z; cases z
  done := by
    rintro X rfl rfl rfl calm i pins s σ H E I fp st ⟨xs, sq, rfl⟩
    obtain ⟨its, vals, tup, _⟩ := I.tuple sq
    have size : its.toArray.size = xs.length := by rw [List.size_toArray]; exact vals.length.symm
    refine (enum_walk (show X.A.in1.handled = none from I.ok.hd calm) ei ai ae its.toArray).done s _ E ?_ fun h' tk keep => ⟨rfl, I.turnedL (ch := [e, it]) keep fp⟩
    rw [size]; exact ⟨st.1, st.2, tup⟩
  item := by
    rintro X rfl rfl rfl calm i pins s σ H E I fp st ⟨xs, x, sq, hx⟩
    obtain ⟨its, vals, tup, _⟩ := I.tuple sq
    obtain ⟨u, hu, ru⟩ := vals.get hx
    have W := enum_walk (P := X.prog) (w := X.w) (A := X.A) (show X.A.in1.handled = none from I.ok.hd calm) ei ai ae its.toArray
    have lt : i < its.toArray.size := by rw [List.size_toArray]; exact (List.getElem?_eq_some_iff.mp hu).1
    refine W.item i s _ E lt ⟨st.1, st.2, tup⟩ fun T us h1 tk1 pair new isT mid keep1 => ⟨.ref T, rfl, W.go elts kk tpos i T _ _ E mid fun h2 st2 keep2 => ?_⟩
    obtain ⟨t, x', hx', rfl⟩ := pair
    obtain rfl : u = x' := by
      rw [show its.toArray[i]? = its[i]? by simp, hu] at hx'
      exact Option.some.inj hx'
    have made : ObjOk X.prog X.w (upd H T (.tup [.int (i : Nat), x])) h2 T (.tup [.int (i : Nat), x]) := by
      obtain ⟨o, ho, rest⟩ := isT
      exact ⟨by show 2 ≤ sizeLine; decide, [.int i t, u], .cons ⟨t, rfl⟩ (.cons ru .nil), o, keep2 T o (W.apart i T h1 mid) ho, rest⟩
    refine ⟨.ref T, _, I.turnedNew (t' := tk1) (ch := [e, it]) (fun b o off q => keep2 b o off (keep1 b o off q)) fp new made, rfl, ⟨T, x, rfl, I.hok.fresh new, rfl, fun ys hy => ?_⟩, ⟨st2.1, st2.2.1⟩, fun b hb => ?_⟩
    · rw [I.tuple_inj hy sq]; exact hx
    · have low : b < s.heap.objs.size := by
        obtain ⟨o, ho, _⟩ := (show ∀ b ∈ [e, it], ∃ o, s.heap.get? b = some o ∧ True from List.forall_mem_cons.mpr ⟨⟨_, st.1.choose_spec, trivial⟩, List.forall_mem_cons.mpr ⟨st.2.elim fun o q => ⟨o, q.1, trivial⟩, fun _ z => nomatch z⟩⟩) b hb
        exact Heap.lt_size ho
      rw [upd_ne (Nat.ne_of_lt (Nat.lt_of_lt_of_le low new))]
      exact (fp b hb).1
end
def iEnumT (K : PySem.W.Frag) (ta : TA) : TI := fun σ H R => ta σ H fun vs H1 => ∃ a xs, vs = [.ref a] ∧ SqT K H1 a xs ∧ R (IteT K a) H1
theorem pi_enumT {X : Cx} {arg : Expr} {ta : TA} {p pos tpos : Pos} {elts : List Expr} {kk : Nat} (hg : Gl X "enumerate") (hm : X.mg "enumerate" = none) (ha : PA X [arg] ta) (hs : starEach [arg] X.env = [(false, eval arg X.env)] := by rfl) :
    PI X (.Tuple elts kk tpos) (.Call (.Name "enumerate" p) [arg] [] pos) (iEnumT X.K ta) := by
  constructor
  intro pins s σ H R I h
  refine Call_ (ld_blt I hg hm boot_enumerate (PyProof.Rows.callWith_type1 (thn (ha.run pos pins s σ H _ I h) fun us s1 got => ?_) hs rfl))
  obtain ⟨_, H1, I1, rv, a, xs, rfl, sq, q⟩ := got
  obtain ⟨v, rfl, ru⟩ := rv.one
  obtain rfl : v = Value.ref a := ru
  obtain ⟨its, _, tup, _⟩ := I1.tuple sq
  have al : a < s1.heap.objs.size := tup.elim fun o q => Heap.lt_size q.1
  have size := Heap.size_push s1.heap { cls := .type "tuple_iterator", data := .fields #[.ref a, .int 0 0] }
  have last : IsEnum ((s1.heap.push { cls := .type "tuple_iterator", data := .fields #[.ref a, .int 0 0] }).push (enumObj s1.heap.objs.size)) (s1.heap.objs.size + 1) s1.heap.objs.size ((0 : Nat) : Int) .none := by
    rw [← size]; exact Heap.get?_push_size _ rfl
  refine enum_call (begins_tuple a its.toArray) tup (wpAny_pyIter_enum last ?_)
  refine ⟨s1.heap.objs.size + 1, [s1.heap.objs.size + 1, s1.heap.objs.size], EnumAt (s1.heap.objs.size + 1) s1.heap.objs.size a, IteT X.K a, H1, rfl, I1.kept (t' := s1.toks) fun _ _ z => Heap.get?_push_of_some _ (Heap.get?_push_of_some _ z),
    turn_enumT (Nat.succ_ne_self _) (Nat.ne_of_lt al) (Nat.ne_of_lt (Nat.lt_succ_of_lt al)), ⟨⟨_, last⟩, ⟨_, Heap.get?_push_of_some _ (Heap.get?_push_size _ rfl), rfl, rfl⟩⟩, fun b hb => ?_, q⟩
  have up : s1.heap.objs.size ≤ b := by
    have : b = s1.heap.objs.size + 1 ∨ b = s1.heap.objs.size := by simpa using hb
    exact this.elim (fun z => z ▸ Nat.le_succ _) fun z => z ▸ Nat.le_refl _
  exact I1.fpOk up (I1.hok.fresh up)
theorem wk_enumT {K : PySem.W.Frag} {F : Hp} {p : Addr} {xs : List A} {vs : List V} (h : SqT K F p vs) (r : RepL K F xs vs) : WkA K F (IteT K p) (enumA 0 xs) :=
  { goes := fun i H hi e => by
      rw [enumA_len] at hi
      have h1 : i < vs.length := by rw [r.len]; omega
      exact ⟨vs, vs[i], e.t h, by simp [h1]⟩
    stops := fun H e => ⟨vs, e.t h, by rw [enumA_len, r.len]⟩
    yields := fun i H x H' M F1 μ hi e rl yl => by
      obtain ⟨T, v, rfl, nT, rfl, g1⟩ := yl
      have h1 := g1 vs ((e.trans rl.sub).t h)
      obtain ⟨x1, k1, k2⟩ := r.rev h1
      obtain ⟨F2, ex, rl', rp⟩ := pair_new (x := .int (i : Nat)) rl nT (rep_int.mpr rfl) (k2.mono e)
      exact ⟨F2, _, ex, rl', by rw [enumA_get k1]; simp, rp⟩ }
section
variable {B : Bs} {X : Cx} {Γ : G} {μ : Mu} {R : List A → Mu → Prop} {e : Expr} {pos : Pos}
theorem wIt_enumT {p tpos : Pos} {elts : List Expr} {kk : Nat} (hm : X.mg "enumerate" = none) (h : wA B X [e] Γ μ fun zs μ1 => ∃ xs, zs = [.tup xs] ∧ R (enumA 0 xs) μ1) (hg : Gl X "enumerate" := by rfl) (hs : starEach [e] X.env = [(false, eval e X.env)] := by rfl) :
    wIt B X (.Tuple elts kk tpos) (.Call (.Name "enumerate" p) [e] [] pos) Γ μ R := fun σ M F H bo rs rl => rd_pi (pi_enumT hg hm pa_rd hs) (by
  refine (h σ M F H bo rs rl).imp fun us H1 ⟨zs, F1, μ1, e1, r1, p1, xs, ez, q1⟩ => ?_
  subst ez
  obtain ⟨v, rfl, h1⟩ := p1.one
  rw [rep_tup] at h1
  obtain ⟨p, vs, rfl, g1, g2⟩ := h1
  exact ⟨p, vs, rfl, r1.sub.t g1, _, F1, μ1, e1, r1, wk_enumT g1 g2, q1⟩)
end
end D

set_option exponentiation.threshold 256
set_option pp.maxSteps 5000
set_option Elab.async false
set_option linter.all false
set_option maxRecDepth 100000
set_option maxHeartbeats 4000000
/-! DC: loops and comprehensions over a list of ours that stays as it is meanwhile. -/
namespace D
open PySem PySem.Spec PyProof.Rows L2
/-- a list of ours, told by its cell: what it gives at each turn -/
theorem own_go {K : PySem.W.Frag} {μ : Mu} {M F H : Hp} {p : Addr} {xs : List A} {i : Nat} (r : Rel K μ M F H) (hp : μ p = some (.lst xs)) (hi : i < xs.length) : (Itl K p).go i H := by
  obtain ⟨_, o, h1, vs, rfl, h2⟩ := r.own p _ hp
  exact ⟨vs, vs[i]'(by rw [h2.len]; exact hi), .inl (.inl h1), by simp [h2.len, hi]⟩
theorem own_stop {K : PySem.W.Frag} {μ : Mu} {M F H : Hp} {p : Addr} {xs : List A} (r : Rel K μ M F H) (hp : μ p = some (.lst xs)) : (Itl K p).stop xs.length H := by
  obtain ⟨_, o, h1, vs, rfl, h2⟩ := r.own p _ hp
  exact ⟨vs, .inl (.inl h1), by rw [h2.len]; exact Nat.le_refl _⟩
theorem own_yld {K : PySem.W.Frag} {μ : Mu} {M F H H' : Hp} {p : Addr} {xs : List A} {i : Nat} {x : V} (r : Rel K μ M F H) (hp : μ p = some (.lst xs)) (hi : i < xs.length) (yl : (Itl K p).yld i H x H') : H' = H ∧ ∃ y, xs[i]? = some y ∧ Rep K F y x := by
  obtain ⟨_, o, h1, vs, rfl, h2⟩ := r.own p _ hp
  obtain ⟨rfl, g⟩ := yl
  obtain ⟨v, e1, e2⟩ := h2.get (List.getElem?_eq_getElem hi)
  have := g vs (.inl (.inl h1))
  rw [e1] at this; cases this
  exact ⟨rfl, _, List.getElem?_eq_getElem hi, e2⟩
section
variable {B : Bs} {X : Cx} {Γ : G} {μ : Mu} {Q : A → Mu → Prop} {Z : AD} {a e o i : Expr} {pos apos cpos : Pos} {tg : Expr} {body : List Stmt}
variable {elt iter c : Expr} {scope : Scope} {own : List (Str × Nat)} {ifs : List Expr}
/-- for tg in a list of ours, which the body leaves as it is -/
theorem wS_forO (h : wE B X a Γ μ fun x μ1 => ∃ p xs, x = .loc p ∧ μ1 p = some (.lst xs) ∧ ∃ I : Nat → G → Mu → Prop, I 0 Γ μ1 ∧ (∀ i Γ' μ', I i Γ' μ' → μ' p = some (.lst xs)) ∧
      (∀ (i : Nat) y Γ' μ', xs[i]? = some y → I i Γ' μ' → wG B X tg y Γ' μ' fun Γ2 μ2 => wSs B X body Γ2 μ2 { nx := I (i + 1), rt := Z.rt, ct := I (i + 1), bk := Z.nx }) ∧ (∀ Γ' μ', I xs.length Γ' μ' → Z.nx Γ' μ'))
    (hp : PassesOwn (model X.prog X.w) X.A X.env X.xe := by first | exact PassesOwn.never | assumption) (hc : X.calm = true := by rfl) (hs : ∀ x, foldedSetIterable a X.env x = pure x := by intro _; rfl) : wS B X (.For tg a body [] pos) Γ μ Z :=
  wS_of (ps_for hp hc (pi_list pe_rd) pg_rd pss_rd hs) fun σ M F H bo rs r => by
  refine ((h σ M F H bo rs r).imp fun v H1 q => ?_)
  obtain ⟨x, F1, μ1, e1, r1, p1, p, ys, ex, hp1, I, i0, keepP, turn, done⟩ := q
  subst ex; rw [rep_loc] at p1; subst p1
  obtain ⟨_, ob, g1, vs, rfl, g2⟩ := r1.own p _ hp1
  refine ⟨p, rfl, ⟨vs, .inl (.inl g1)⟩, fun i m σ' H' => m = ys.length - i ∧ i ≤ ys.length ∧ QS X.K M F1 (I i) σ' H', ⟨ys.length, by simp, Nat.zero_le _, Γ, F1, μ1, .refl _, rs.mono e1, r1, i0⟩, ?_⟩
  rintro i m σ' H' ⟨rfl, hi, Γ', F', μ', e2, rs2, r2, q⟩
  have hpi := keepP i Γ' μ' q
  by_cases lt : i < ys.length
  · refine .inr ⟨own_go r2 hpi lt, fun σ3 H3 => QS X.K M F1 (I (i + 1)) σ3 H3, fun σ3 H3 q3 => ⟨ys.length - (i + 1), by omega, rfl, lt, q3⟩, fun x H3 yl => ?_⟩
    obtain ⟨rfl, y, hy, rp⟩ := own_yld r2 hpi lt yl
    refine (turn i y Γ' μ' hy q σ' M F' H3 x (bo.mono (e1.trans e2)) rs2 r2 rp).imp fun σ4 H4 q4 => ?_
    obtain ⟨Γ4, F4, μ4, e4, rs4, r4, q4⟩ := q4
    have eF : Ex F1 F4 := e2.trans e4
    exact (q4 σ4 M F4 H4 (bo.mono (e1.trans eF)) rs4 r4).imp (fun _ _ q => q.mono eF) (fun _ _ q => q.mono (e1.trans eF)) (fun _ _ q => q.mono (e1.trans eF)) (fun _ _ q => q.mono eF)
  · obtain rfl : i = ys.length := by omega
    exact .inl ⟨own_stop r2 hpi, Γ', F', μ', e1.trans e2, rs2, r2, done Γ' μ' q⟩
def lcAskO (B : Bs) (X : Cx) (scope : Scope) (tg iter elt : Expr) (ifs : List Expr) (vs : List Nat) (Γ : G) (μ : Mu) (Q : A → Mu → Prop) : Prop :=
  wE B X iter Γ μ fun x μ1 => ∃ q ys, x = .loc q ∧ μ1 q = some (.lst ys) ∧ ys.length ≤ sizeLine ∧ ∃ J : Nat → List A → Mu → Prop, J 0 [] μ1 ∧ (∀ i acc μ', J i acc μ' → μ' q = some (.lst ys)) ∧ lcTurns B X scope tg elt ifs vs Γ ys J ∧ ∀ acc μ', J ys.length acc μ' → ∀ p, μ' p = none → Q (.loc p) (μ'.upd p (.lst acc))
theorem lc_coreO {ifs : List Expr} (hi : ifs = [] ∨ ∃ c, ifs = [c]) (h : lcAskO B X scope tg iter elt ifs (own.map (·.2)) Γ μ Q) {σ : L2.St} {M F H : Hp} (bo : B.ok M F) (rs : RelS X.K Γ F σ) (r : Rel X.K μ M F H) :
    tLc (iList X.K (rdE X iter)) (bkG X scope tg) (bkT X scope ifs) (bkE X scope elt) (own.map (·.2)) σ H (QE X.K M F Q) := by
  generalize hvs : own.map (·.2) = vs at h
  refine (h σ M F H bo rs r).imp fun v H2 q => ?_
  obtain ⟨x, F1, μ1, e1, r1, p1, q0, ys, ex, hq1, hz, J, j0, keepP, turn, done⟩ := q
  subst ex; rw [rep_loc] at p1; subst p1
  obtain ⟨_, ob, g1, vs0, rfl, g2⟩ := r1.own q0 _ hq1
  refine ⟨q0, rfl, ⟨vs0, .inl (.inl g1)⟩, fun p np => ?_⟩
  obtain ⟨hM, rN⟩ := r1.frmNew (o := .lst []) np
  refine ⟨fun i m H' => m = ys.length - i ∧ i ≤ ys.length ∧ ∃ F' μ' acc ws, Ex F1 F' ∧ Rel X.K μ' (upd M p (.lst ws)) F' H' ∧ RepL X.K F' acc ws ∧ acc.length ≤ i ∧ J i acc μ', ⟨ys.length, by simp, Nat.zero_le _, F1, μ1, [], [], .refl _, rN, .nil, Nat.le_refl _, j0⟩, ?_⟩
  rintro i m H' ⟨rfl, hi', F', μ', acc, ws, e2, r2, ra, hl, q⟩
  have hpi := keepP i acc μ' q
  have rs' : RelS X.K (wipeA Γ vs) F' (wipe σ vs) := (wipeA_rel rs vs).mono (e1.trans e2)
  have bo' : B.ok (upd M p (.lst ws)) F' := (bo.up (.new hM)).mono (e1.trans e2)
  by_cases lt : i < ys.length
  · refine .inr ⟨own_go r2 hpi lt, fun H3 => ∃ F' μ' acc ws, Ex F1 F' ∧ Rel X.K μ' (upd M p (.lst ws)) F' H3 ∧ RepL X.K F' acc ws ∧ acc.length ≤ i + 1 ∧ J (i + 1) acc μ', fun H3 q3 => ⟨ys.length - (i + 1), by omega, rfl, lt, q3⟩, fun x H3 yl => ?_⟩
    obtain ⟨rfl, y, hy, rp⟩ := own_yld r2 hpi lt yl
    have e3 : Ex F' F' := .refl _
    have r3 := r2
    intro s0 H0 C cl fp'
    refine (turn i y acc μ' hy q s0 H0 C cl fp' (wipe σ vs) _ F' H3 x bo' rs' r3 rp).imp fun σ4 H4 q4 => ?_
    obtain ⟨w4, Γ4, F4, μ4, e4, rs4, r4, q4⟩ := q4
    rw [hvs] at *
    have w5 : wipe σ4 vs = wipe σ vs := w4.trans (wipe_wipe vs fun _ h => h)
    refine ⟨w5, ?_⟩
    have elem : ∀ {F5 : Hp} {μ5 : Mu} {H5 : Hp}, Ex F4 F5 → Rel X.K μ5 (upd M p (.lst ws)) F5 H5 → (∀ s0 H0 C cl fp, wE B (bk X scope s0 H0 C cl fp) elt Γ4 μ5 fun z μ6 => J (i + 1) (acc ++ [z]) μ6) →
        bkE X scope elt σ4 H5 fun y H6 => ∃ acc', H6 p = some (.lst acc') ∧ acc'.length < sizeLine ∧ ∃ F' μ' acc ws, Ex F1 F' ∧ Rel X.K μ' (upd M p (.lst ws)) F' (upd H6 p (.lst (acc' ++ [y]))) ∧ RepL X.K F' acc ws ∧ acc.length ≤ i + 1 ∧ J (i + 1) acc μ' := by
      intro F5 μ5 H5 e5 r5 hE s0 H0 C cl fp6
      refine (hE s0 H0 C cl fp6 σ4 _ F5 H5 (bo'.mono ((e3.trans e4).trans e5)) (rs4.mono e5) r5).imp fun z6 H6 ⟨z, F6, μ6, e6, r6, p6, q6⟩ => ?_
      obtain ⟨_, _, hp6⟩ := r6.frm p _ upd_same
      have ex := ((e3.trans e4).trans e5).trans e6
      refine ⟨ws, hp6, by rw [ra.len]; omega, F6, μ6, acc ++ [z], ws ++ [z6], e2.trans ex, r6.frmWrite, (ra.mono ex).snoc p6, by simp; omega, q6⟩
    rcases hi with rfl | ⟨c, rfl⟩
    · have k := elem (.refl _) r4 q4
      simp only [bkT, tYes, if_true]
      exact k
    · intro s0 H0 C cl fp6
      refine (q4 s0 H0 C cl fp6 σ4 _ F4 H4 (bo'.mono (e3.trans e4)) rs4 r4).imp fun k H5 ⟨F5, μ5, e5, r5, k1, k2⟩ => ?_
      cases k with
      | true => exact iteT (elem e5 r5 (k1 rfl))
      | false => exact iteF ⟨F5, μ5, acc, ws, (e2.trans (e3.trans e4)).trans e5, r5, ra.mono ((e3.trans e4).trans e5), by omega, k2 rfl⟩
  · obtain rfl : i = ys.length := by omega
    obtain ⟨nμ, rO⟩ := r2.frmOut (m := .lst acc) hM ⟨ws, rfl, ra⟩
    exact .inl ⟨own_stop r2 hpi, .loc p, F', _, e1.trans e2, rO, rep_loc.mpr rfl, done acc μ' q p nμ⟩
theorem wE_lcO (own : List (Str × Nat)) (h : lcAskO B X scope tg iter elt ifs (own.map (·.2)) Γ μ Q) (hN : X.N.Nodup) (ok : BlkOk X.N X.env.scope scope own) (hi : ifs = [] ∨ ∃ c, ifs = [c] := by first | exact .inl rfl | exact .inr ⟨_, rfl⟩) (hc : X.calm = true := by rfl) (hs : ∀ x, foldedSetIterable iter X.env x = pure x := by intro _; rfl) :
    wE B X (.ListComp elt [⟨tg, iter, ifs, 0⟩] scope pos) Γ μ Q :=
  wE_of (pe_lc (own := own) hc hN (pi_list pe_rd) ok (fun s0 H0 C cl fp => bkG_pg s0 H0 C cl fp) (bk_pts hi) (fun s0 H0 C cl fp => bkE_pe s0 H0 C cl fp) hs) fun σ M F H bo rs r => lc_coreO hi h bo rs r
theorem wS_setLcO (own : List (Str × Nat)) (i : Nat) {y : Str} {py spos : Pos} (h : lcAskO B X scope tg iter elt ifs (own.map (·.2)) Γ μ fun z μ1 => Z.nx (Γ.set i (some z)) μ1) (hN : X.N.Nodup) (ok : BlkOk X.N X.env.scope scope own)
    (hsw : swapsWith (.ListComp elt [⟨tg, iter, ifs, 0⟩] scope pos) (some (.Name y py)) spos.line X.env = pure true)
    (hi : ifs = [] ∨ ∃ c, ifs = [c] := by first | exact .inl rfl | exact .inr ⟨_, rfl⟩) (hc : X.calm = true := by rfl) (hy : X.N[i]? = some y := by rfl) (hyl : X.env.scope.names.lookup y = some .local := by rfl) (hs : ∀ x, foldedSetIterable iter X.env x = pure x := by intro _; rfl) :
    wS B X (.Assign [.Name y py] (.ListComp elt [⟨tg, iter, ifs, 0⟩] scope pos) spos) Γ μ Z :=
  wS_of (ps_setLc (own := own) hc hN hy hyl hsw (pi_list pe_rd) ok (fun s0 H0 C cl fp => bkG_pg s0 H0 C cl fp) (bk_pts hi) (fun s0 H0 C cl fp => bkE_pe s0 H0 C cl fp) hs) fun σ M F H bo rs r => by
  have k := lc_coreO hi h bo rs r
  refine k.imp fun v H2 q => ?_
  obtain ⟨q0, e0, k0, q⟩ := q
  refine ⟨q0, e0, k0, fun p np => ?_⟩
  obtain ⟨W, w0, turn⟩ := q p np
  refine ⟨W, w0, fun i' m H' w => ?_⟩
  rcases turn i' m H' w with ⟨st, q⟩ | q
  · refine .inl ⟨st, ?_⟩
    obtain ⟨x, F', μ', ex, rl, rp, q⟩ := q
    exact ⟨_, F', μ', ex, (rs.mono ex).set rp, rl, q⟩
  · exact .inr q
theorem lcMapO {vs : List Nat} (h : wE B X iter Γ μ fun x μ1 => ∃ q ys, x = .loc q ∧ μ1 q = some (.lst ys) ∧ ys.length ≤ sizeLine ∧ ∃ zs : List A, zs.length = ys.length ∧
      (∀ (i : Nat) y z, ys[i]? = some y → zs[i]? = some z → ∀ s0 H0 C cl fp, wGw B (bk X scope s0 H0 C cl fp) tg vs y (wipeA Γ vs) μ1 fun Γ2 μ2 => μ2 = μ1 ∧ ∀ s0 H0 C cl fp, vE B (bk X scope s0 H0 C cl fp) elt Γ2 μ1 z) ∧
      ∀ p : Addr, μ1 p = none → Q (.loc p) (μ1.upd p (.lst zs))) : lcAskO B X scope tg iter elt [] vs Γ μ Q := wE.imp h fun x μ1 ⟨q, ys, ex, hq, hz, zs, hl, turn, done⟩ => by
  refine ⟨q, ys, ex, hq, hz, fun i acc μ' => acc = zs.take i ∧ μ' = μ1, ⟨by simp, rfl⟩, fun i acc μ' ⟨_, e⟩ => by rw [e]; exact hq, ?_, ?_⟩
  · rintro i y acc _ hy ⟨ea, rfl⟩ s0 H0 C cl fp'
    have hi : i < zs.length := by rw [hl]; exact (List.getElem?_eq_some_iff.mp hy).1
    have t := turn i y zs[i] hy (List.getElem?_eq_getElem hi) s0 H0 C cl fp'
    intro σ3 M3 F3 H3 v3 bo3 rs3 r3 rp3
    refine (t σ3 M3 F3 H3 v3 bo3 rs3 r3 rp3).imp fun σ4 H4 ⟨w4, Γ4, F4, μ4, e4, rs4, r4, em, q4⟩ => ⟨w4, Γ4, F4, μ4, e4, rs4, r4, ?_⟩
    subst em
    intro s0 H0 C cl fp6
    refine (q4 s0 H0 C cl fp6).use ⟨?_, rfl⟩
    rw [ea, List.take_succ, List.getElem?_eq_getElem hi]; rfl
  · rintro acc _ ⟨ea, rfl⟩ p np
    rw [ea, ← hl, List.take_length]
    exact done p np
theorem lcPickO {vs : List Nat} (h : wE B X iter Γ μ fun x μ1 => ∃ q ys, x = .loc q ∧ μ1 q = some (.lst ys) ∧ ys.length ≤ sizeLine ∧ ∃ (ks : List Bool) (zs : List A), ks.length = ys.length ∧ zs.length = ys.length ∧
      (∀ (i : Nat) y k z, ys[i]? = some y → ks[i]? = some k → zs[i]? = some z → ∀ s0 H0 C cl fp, wGw B (bk X scope s0 H0 C cl fp) tg vs y (wipeA Γ vs) μ1 fun Γ2 μ2 => μ2 = μ1 ∧ (∀ s0 H0 C cl fp, vT B (bk X scope s0 H0 C cl fp) c Γ2 μ1 k) ∧ (k = true → ∀ s0 H0 C cl fp, vE B (bk X scope s0 H0 C cl fp) elt Γ2 μ1 z)) ∧
      ∀ p : Addr, μ1 p = none → Q (.loc p) (μ1.upd p (.lst (pickA ks zs)))) : lcAskO B X scope tg iter elt [c] vs Γ μ Q := wE.imp h fun x μ1 ⟨q, ys, ex, hq, hz, ks, zs, hk, hl, turn, done⟩ => by
  refine ⟨q, ys, ex, hq, hz, fun i acc μ' => acc = pickA (ks.take i) (zs.take i) ∧ μ' = μ1, ⟨by simp [pickA], rfl⟩, fun i acc μ' ⟨_, e⟩ => by rw [e]; exact hq, ?_, ?_⟩
  · rintro i y acc _ hy ⟨ea, rfl⟩ s0 H0 C cl fp'
    have hy' := (List.getElem?_eq_some_iff.mp hy).1
    have hi : i < zs.length := by rw [hl]; exact hy'
    have hi' : i < ks.length := by rw [hk]; exact hy'
    have t := turn i y ks[i] zs[i] hy (List.getElem?_eq_getElem hi') (List.getElem?_eq_getElem hi) s0 H0 C cl fp'
    have en : pickA (ks.take (i + 1)) (zs.take (i + 1)) = acc ++ (if ks[i] then [zs[i]] else []) := by
      rw [ea, List.take_succ, List.take_succ, List.getElem?_eq_getElem hi, List.getElem?_eq_getElem hi']
      exact pickA_snoc _ _ _ _ (by simp; omega)
    intro σ3 M3 F3 H3 v3 bo3 rs3 r3 rp3
    refine (t σ3 M3 F3 H3 v3 bo3 rs3 r3 rp3).imp fun σ4 H4 ⟨w4, Γ4, F4, μ4, e4, rs4, r4, em, q4, q5⟩ => ⟨w4, Γ4, F4, μ4, e4, rs4, r4, ?_⟩
    subst em
    intro s0 H0 C cl fp6
    refine (q4 s0 H0 C cl fp6).use ⟨fun kt s0 H0 C cl fp7 => (q5 kt s0 H0 C cl fp7).use ⟨?_, rfl⟩, fun kf => ⟨?_, rfl⟩⟩
    · rw [en, kt]; rfl
    · rw [en, kf]; simp
  · rintro acc _ ⟨ea, rfl⟩ p np
    rw [ea, ← hl, List.take_length, hl, ← hk, List.take_length]
    exact done p np
/-- .. the list for good -/
theorem wE_lcFO (own : List (Str × Nat)) (h : wE B X iter Γ μ fun x μ1 => ∃ q ys, x = .loc q ∧ μ1 q = some (.lst ys) ∧ ys.length ≤ sizeLine ∧ ∃ zs : List A, zs.length = ys.length ∧
      (∀ (i : Nat) y z, ys[i]? = some y → zs[i]? = some z → ∀ s0 H0 C cl fp, wGw B (bk X scope s0 H0 C cl fp) tg (own.map (·.2)) y (wipeA Γ (own.map (·.2))) μ1 fun Γ2 μ2 => μ2 = μ1 ∧ ∀ s0 H0 C cl fp, vE B (bk X scope s0 H0 C cl fp) elt Γ2 μ1 z) ∧ Q (.lst zs) μ1)
    (hN : X.N.Nodup) (ok : BlkOk X.N X.env.scope scope own) (hc : X.calm = true := by rfl) (hs : ∀ x, foldedSetIterable iter X.env x = pure x := by intro _; rfl) : wE B X (.ListComp elt [⟨tg, iter, [], 0⟩] scope pos) Γ μ Q :=
  wE_frz (wE_lcO own (lcMapO (wE.imp h fun x μ1 ⟨q, ys, ex, hq, hz, zs, hl, turn, done⟩ => ⟨q, ys, ex, hq, hz, zs, hl, turn, fun p np => ⟨p, zs, rfl, Mu.upd_same, by rw [Mu.del_upd np]; exact done⟩⟩)) hN ok (.inl rfl) hc hs)
theorem wE_lcPFO (own : List (Str × Nat)) (h : wE B X iter Γ μ fun x μ1 => ∃ q ys, x = .loc q ∧ μ1 q = some (.lst ys) ∧ ys.length ≤ sizeLine ∧ ∃ (ks : List Bool) (zs : List A), ks.length = ys.length ∧ zs.length = ys.length ∧
      (∀ (i : Nat) y k z, ys[i]? = some y → ks[i]? = some k → zs[i]? = some z → ∀ s0 H0 C cl fp, wGw B (bk X scope s0 H0 C cl fp) tg (own.map (·.2)) y (wipeA Γ (own.map (·.2))) μ1 fun Γ2 μ2 => μ2 = μ1 ∧ (∀ s0 H0 C cl fp, vT B (bk X scope s0 H0 C cl fp) c Γ2 μ1 k) ∧ (k = true → ∀ s0 H0 C cl fp, vE B (bk X scope s0 H0 C cl fp) elt Γ2 μ1 z)) ∧ Q (.lst (pickA ks zs)) μ1)
    (hN : X.N.Nodup) (ok : BlkOk X.N X.env.scope scope own) (hc : X.calm = true := by rfl) (hs : ∀ x, foldedSetIterable iter X.env x = pure x := by intro _; rfl) : wE B X (.ListComp elt [⟨tg, iter, [c], 0⟩] scope pos) Γ μ Q :=
  wE_frz (wE_lcO own (lcPickO (wE.imp h fun x μ1 ⟨q, ys, ex, hq, hz, ks, zs, hk, hl, turn, done⟩ => ⟨q, ys, ex, hq, hz, ks, zs, hk, hl, turn, fun p np => ⟨p, _, rfl, Mu.upd_same, by rw [Mu.del_upd np]; exact done⟩⟩)) hN ok (.inr ⟨_, rfl⟩) hc hs)
theorem wS_setLcFO (own : List (Str × Nat)) (i : Nat) {y : Str} {py spos : Pos} (h : wE B X iter Γ μ fun x μ1 => ∃ q ys, x = .loc q ∧ μ1 q = some (.lst ys) ∧ ys.length ≤ sizeLine ∧ ∃ zs : List A, zs.length = ys.length ∧
      (∀ (i : Nat) y z, ys[i]? = some y → zs[i]? = some z → ∀ s0 H0 C cl fp, wGw B (bk X scope s0 H0 C cl fp) tg (own.map (·.2)) y (wipeA Γ (own.map (·.2))) μ1 fun Γ2 μ2 => μ2 = μ1 ∧ ∀ s0 H0 C cl fp, vE B (bk X scope s0 H0 C cl fp) elt Γ2 μ1 z) ∧ Z.nx (Γ.set i (some (.lst zs))) μ1)
    (hN : X.N.Nodup) (ok : BlkOk X.N X.env.scope scope own) (hsw : swapsWith (.ListComp elt [⟨tg, iter, [], 0⟩] scope pos) (some (.Name y py)) spos.line X.env = pure true) (hl : i < Γ.length := by exact Nat.le_of_ble_eq_true rfl)
    (hc : X.calm = true := by rfl) (hy : X.N[i]? = some y := by rfl) (hyl : X.env.scope.names.lookup y = some .local := by rfl) (hs : ∀ x, foldedSetIterable iter X.env x = pure x := by intro _; rfl) :
    wS B X (.Assign [.Name y py] (.ListComp elt [⟨tg, iter, [], 0⟩] scope pos) spos) Γ μ Z :=
  wS_frzNx i (wS_setLcO own i (lcMapO (wE.imp h fun x μ1 ⟨q, ys, ex, hq, hz, zs, hzl, turn, done⟩ => ⟨q, ys, ex, hq, hz, zs, hzl, turn, fun p np => ⟨p, zs, by rw [List.getElem?_set_self hl], Mu.upd_same, by rw [Mu.del_upd np, List.set_set]; exact done⟩⟩)) hN ok hsw (.inl rfl) hc hy hyl hs)
theorem wS_setLcPFO (own : List (Str × Nat)) (i : Nat) {y : Str} {py spos : Pos} (h : wE B X iter Γ μ fun x μ1 => ∃ q ys, x = .loc q ∧ μ1 q = some (.lst ys) ∧ ys.length ≤ sizeLine ∧ ∃ (ks : List Bool) (zs : List A), ks.length = ys.length ∧ zs.length = ys.length ∧
      (∀ (i : Nat) y k z, ys[i]? = some y → ks[i]? = some k → zs[i]? = some z → ∀ s0 H0 C cl fp, wGw B (bk X scope s0 H0 C cl fp) tg (own.map (·.2)) y (wipeA Γ (own.map (·.2))) μ1 fun Γ2 μ2 => μ2 = μ1 ∧ (∀ s0 H0 C cl fp, vT B (bk X scope s0 H0 C cl fp) c Γ2 μ1 k) ∧ (k = true → ∀ s0 H0 C cl fp, vE B (bk X scope s0 H0 C cl fp) elt Γ2 μ1 z)) ∧ Z.nx (Γ.set i (some (.lst (pickA ks zs)))) μ1)
    (hN : X.N.Nodup) (ok : BlkOk X.N X.env.scope scope own) (hsw : swapsWith (.ListComp elt [⟨tg, iter, [c], 0⟩] scope pos) (some (.Name y py)) spos.line X.env = pure true) (hl : i < Γ.length := by exact Nat.le_of_ble_eq_true rfl)
    (hc : X.calm = true := by rfl) (hy : X.N[i]? = some y := by rfl) (hyl : X.env.scope.names.lookup y = some .local := by rfl) (hs : ∀ x, foldedSetIterable iter X.env x = pure x := by intro _; rfl) :
    wS B X (.Assign [.Name y py] (.ListComp elt [⟨tg, iter, [c], 0⟩] scope pos) spos) Γ μ Z :=
  wS_frzNx i (wS_setLcO own i (lcPickO (wE.imp h fun x μ1 ⟨q, ys, ex, hq, hz, ks, zs, hk, hzl, turn, done⟩ => ⟨q, ys, ex, hq, hz, ks, zs, hk, hzl, turn, fun p np => ⟨p, _, by rw [List.getElem?_set_self hl], Mu.upd_same, by rw [Mu.del_upd np, List.set_set]; exact done⟩⟩)) hN ok hsw (.inr ⟨_, rfl⟩) hc hy hyl hs)
end
end D

set_option exponentiation.threshold 256
set_option pp.maxSteps 5000
set_option Elab.async false
set_option linter.all false
set_option pp.maxSteps 300
set_option maxRecDepth 100000
set_option maxHeartbeats 4000000
/-! DEE: lists that stand for good, or are ours and stay as they are meanwhile: index, loops, comprehensions, zip. -/
namespace D
open PySem PySem.Spec PyProof.Rows L2
/-- a list for good, or one of ours -/
def LsAt (μ : Mu) (x : A) (xs : List A) : Prop := x = .lst xs ∨ ∃ p, x = .loc p ∧ μ p = some (.lst xs)
theorem LsAt.isL {μ : Mu} {x : A} {xs : List A} (h : LsAt μ x xs) : IsL μ x xs := by
  rcases h with rfl | ⟨p, rfl, h⟩
  · exact .lst _
  · exact .loc h
theorem LsAt.isQ {μ : Mu} {x : A} {xs : List A} (h : LsAt μ x xs) : IsQ μ x xs := by
  rcases h with rfl | ⟨p, rfl, h⟩
  · exact .lst _
  · exact .loc h
theorem LsAt.sub {μ μ' : Mu} {x : A} {xs : List A} (h : LsAt μ x xs) (s : Sub μ μ') : LsAt μ' x xs := by
  rcases h with rfl | ⟨p, rfl, h⟩
  · exact .inl rfl
  · exact .inr ⟨p, rfl, s _ _ h⟩
/-- as long as this holds of the state, the walk goes so -/
structure WkB (K : PySem.W.Frag) (F : Hp) (St : Mu → Prop) (J : L2.It) (ys : List A) : Prop where
  goes : ∀ i H M F1 μ, i < ys.length → Ex F F1 → St μ → Rel K μ M F1 H → J.go i H
  stops : ∀ H M F1 μ, Ex F F1 → St μ → Rel K μ M F1 H → J.stop ys.length H
  yields : ∀ i H x H' M F1 μ, i < ys.length → Ex F F1 → St μ → Rel K μ M F1 H → J.yld i H x H' → ∃ F2 y, Ex F1 F2 ∧ Rel K μ M F2 H' ∧ ys[i]? = some y ∧ Rep K F2 y x
def wItB (B : Bs) (X : Cx) (tg iter : Expr) (Γ : G) (μ : Mu) (R : (Mu → Prop) → List A → Mu → Prop) : Prop := ∀ σ M F H, B.ok M F → RelS X.K Γ F σ → Rel X.K μ M F H → rdI X tg iter σ H fun J H' => ∃ ys F' μ' St, Ex F F' ∧ Rel X.K μ' M F' H' ∧ WkB X.K F' St J ys ∧ R St ys μ'
section
variable {B : Bs} {X : Cx} {Γ : G} {μ : Mu} {Q : A → Mu → Prop} {Z : AD} {a e o : Expr} {pos apos cpos : Pos} {tg : Expr} {body : List Stmt}
variable {elt iter c : Expr} {scope : Scope} {own : List (Str × Nat)} {ifs : List Expr} {R : (Mu → Prop) → List A → Mu → Prop}
theorem wI_E {x y : A} {xs : List A} {i : Int} (h : LsAt μ x xs) (e : atI xs i = some y) (q : Q y μ) : wI X x (.int i) μ Q := by
  rcases h with rfl | ⟨p, rfl, h⟩
  · exact wI_lst e q
  · exact wI_loc h e q
theorem wIt_B (h : wIt B X tg iter Γ μ (R fun _ => True)) : wItB B X tg iter Γ μ R := fun σ M F H bo rs rl => ⟨fun pins s I0 => by
  refine thn ((h σ M F H bo rs rl).o pins s I0) fun v s1 h1 => thn h1 fun itv s2 h2 => ?_
  obtain ⟨it, fp, tn, J, H2, g1, g2, g3, g4, g5, ys, F1, μ1, e1, r1, wk, q⟩ := h2
  exact ⟨it, fp, tn, J, H2, g1, g2, g3, g4, g5, ys, F1, μ1, _, e1, r1, ⟨fun i H M F1 μ hi e _ r => wk.goes i H hi (e.trans r.sub), fun H M F1 μ e _ r => wk.stops H (e.trans r.sub), fun i H x H' M F1 μ hi e _ r yl => wk.yields i H x H' M F1 μ hi e r yl⟩, q⟩⟩
theorem wk_own {K : PySem.W.Frag} {F : Hp} {p : Addr} {xs : List A} : WkB K F (fun μ => μ p = some (.lst xs)) (Itl K p) xs :=
  { goes := fun i H M F1 μ hi _ hp r => own_go r hp hi
    stops := fun H M F1 μ _ hp r => own_stop r hp
    yields := fun i H x H' M F1 μ hi _ hp r yl => by
      obtain ⟨rfl, y, hy, rp⟩ := own_yld r hp hi yl
      exact ⟨F1, y, .refl _, r, hy, rp⟩ }
/-- for .. in a list, whosever it is -/
theorem wIt_E (h : wE B X a Γ μ fun x μ1 => ∃ xs, LsAt μ1 x xs ∧ R (fun μ' => LsAt μ' x xs) xs μ1) : wItB B X tg a Γ μ R := fun σ M F H bo rs rl => rd_pi (pi_list pe_rd) (by
  refine (h σ M F H bo rs rl).imp fun v H1 ⟨x, F1, μ1, e1, r1, p1, xs, hx, q1⟩ => ?_
  rcases hx with rfl | ⟨p, rfl, hp⟩
  · rw [rep_lst] at p1
    obtain ⟨p, vs, rfl, h1, h2⟩ := p1
    have wk := wk_list (ys := xs) (K := X.K) (.inl (.inl h1)) h2
    exact ⟨p, rfl, ⟨vs, .inl (.inl (r1.sub _ _ h1))⟩, xs, F1, μ1, _, e1, r1, ⟨fun i H M F1 μ hi e _ r => wk.goes i H hi (e.trans r.sub), fun H M F1 μ e _ r => wk.stops H (e.trans r.sub), fun i H x H' M F1 μ hi e _ r yl => wk.yields i H x H' M F1 μ hi e r yl⟩, q1⟩
  · rw [rep_loc] at p1; subst p1
    obtain ⟨_, ob, g1, vs, rfl, g2⟩ := r1.own p _ hp
    have wk := wk_own (K := X.K) (F := F1) (p := p) (xs := xs)
    have ne : ∀ {μ' : Mu}, LsAt μ' (.loc p) xs → μ' p = some (.lst xs) := fun h => by
      rcases h with h | ⟨q, h, g⟩
      · cases h
      · cases h; exact g
    exact ⟨p, rfl, ⟨vs, .inl (.inl g1)⟩, xs, F1, μ1, _, e1, r1, ⟨fun i H M F1 μ hi e s r => wk.goes i H M F1 μ hi e (ne s) r, fun H M F1 μ e s r => wk.stops H M F1 μ e (ne s) r, fun i H x H' M F1 μ hi e s r yl => wk.yields i H x H' M F1 μ hi e (ne s) r yl⟩, q1⟩)
/-- a list's place, and what stands there -/
theorem ls_rep {K : PySem.W.Frag} {μ : Mu} {M F H : Hp} {x : A} {xs : List A} {v : V} (r : Rel K μ M F H) (h : LsAt μ x xs) (p : Rep K F x v) : ∃ a vs, v = .ref a ∧ H a = some (.lst vs) ∧ RepL K F xs vs ∧
    ∀ {M1 F1 H1 : Hp} {μ1 : Mu}, Ex F F1 → LsAt μ1 x xs → Rel K μ1 M1 F1 H1 → ∃ ws, H1 a = some (.lst ws) ∧ RepL K F1 xs ws := by
  rcases h with rfl | ⟨q, rfl, hq⟩
  · rw [rep_lst] at p
    obtain ⟨a, vs, rfl, h1, h2⟩ := p
    exact ⟨a, vs, rfl, r.sub _ _ h1, h2, fun e _ r1 => ⟨vs, r1.sub _ _ (e _ _ h1), h2.mono e⟩⟩
  · rw [rep_loc] at p; subst p
    obtain ⟨_, ob, g1, vs, rfl, g2⟩ := r.own q _ hq
    refine ⟨q, vs, rfl, g1, g2, fun e h1 r1 => ?_⟩
    rcases h1 with h1 | ⟨q1, h1, h2⟩
    · cases h1
    · cases h1
      obtain ⟨_, ob, k1, ws, rfl, k2⟩ := r1.own q _ h2
      exact ⟨ws, k1, k2⟩
theorem wIt_zipE {e2 : Expr} {p tpos : Pos} {elts : List Expr} {kk : Nat} (hm : X.mg "zip" = none) (h : wA B X [e, e2] Γ μ fun zs μ1 => ∃ x y xs ys, zs = [x, y] ∧ LsAt μ1 x xs ∧ LsAt μ1 y ys ∧ R (fun μ' => LsAt μ' x xs ∧ LsAt μ' y ys) (zipA xs ys) μ1) (hg : Gl X "zip" := by rfl)
    (hs : starEach [e, e2] X.env = (false, eval e X.env) :: starEach [e2] X.env := by rfl) (hpl : (backTo pos (starEach [e2] X.env)).any (·.1) = false := by rfl) : wItB B X (.Tuple elts kk tpos) (.Call (.Name "zip" p) [e, e2] [] pos) Γ μ R := fun σ M F H bo rs rl =>
  rd_pi (RZ.pi_zipA hg hm pa_rd hs hpl) (by
  refine (h σ M F H bo rs rl).imp fun us H1 ⟨zs, F1, μ1, e1, r1, p1, x, y, xs, ys, ez, hx, hy, q1⟩ => ?_
  subst ez
  obtain ⟨v, w, rfl, h1, h2⟩ := p1.two
  obtain ⟨p, vs, rfl, g1, g2, g3⟩ := ls_rep r1 hx h1
  obtain ⟨q, ws, rfl, k1, k2, k3⟩ := ls_rep r1 hy h2
  refine ⟨p, q, vs, ws, rfl, .inl ⟨.inl (.inl g1), .inl (.inl k1), _, F1, μ1, _, e1, r1, ?_, q1⟩⟩
  refine ⟨fun i H M F2 μ hi e s r => ?_, fun H M F2 μ e s r => ?_, fun i H z H' M F2 μ hi e s r yl => ?_⟩
  · obtain ⟨vs, a1, a2⟩ := g3 e s.1 r
    obtain ⟨ws, b1, b2⟩ := k3 e s.2 r
    rw [zipA_len] at hi
    have l1 : i < vs.length := by rw [a2.len]; omega
    have l2 : i < ws.length := by rw [b2.len]; omega
    exact ⟨vs, ws, vs[i], ws[i], .inl (.inl a1), .inl (.inl b1), by simp [l1], by simp [l2]⟩
  · obtain ⟨vs, a1, a2⟩ := g3 e s.1 r
    obtain ⟨ws, b1, b2⟩ := k3 e s.2 r
    exact ⟨vs, ws, .inl (.inl a1), .inl (.inl b1), by rw [zipA_len, a2.len, b2.len]; omega⟩
  · obtain ⟨vs, a1, a2⟩ := g3 e s.1 r
    obtain ⟨ws, b1, b2⟩ := k3 e s.2 r
    obtain ⟨T, v, w, rfl, nT, rfl, c1, c2⟩ := yl
    obtain ⟨x1, d1, d2⟩ := a2.rev (c1 vs (.inl (.inl a1)))
    obtain ⟨y1, d3, d4⟩ := b2.rev (c2 ws (.inl (.inl b1)))
    obtain ⟨F3, ex, rl', rp⟩ := pair_new r nT d2 d4
    exact ⟨F3, _, ex, rl', zipA_get d1 d3, rp⟩)
theorem wS_forB (h : wItB B X tg a Γ μ fun St ys μ1 => ∃ I : Nat → G → Mu → Prop, I 0 Γ μ1 ∧ (∀ i Γ' μ', I i Γ' μ' → St μ') ∧
      (∀ (i : Nat) y Γ' μ', ys[i]? = some y → I i Γ' μ' → wG B X tg y Γ' μ' fun Γ2 μ2 => wSs B X body Γ2 μ2 { nx := I (i + 1), rt := Z.rt, ct := I (i + 1), bk := Z.nx }) ∧ (∀ Γ' μ', I ys.length Γ' μ' → Z.nx Γ' μ'))
    (hp : PassesOwn (model X.prog X.w) X.A X.env X.xe := by first | exact PassesOwn.never | assumption) (hc : X.calm = true := by rfl) (hs : ∀ x, foldedSetIterable a X.env x = pure x := by intro _; rfl) : wS B X (.For tg a body [] pos) Γ μ Z :=
  wS_of (ps_for hp hc pi_rd pg_rd pss_rd hs) fun σ M F H bo rs r => by
  refine ⟨fun pins s I0 => ?_⟩
  refine thn ((h σ M F H bo rs r).o pins s I0) fun v s1 h1 => thn h1 fun itv s2 h2 => ?_
  obtain ⟨it, fp, tn, J, H2, g1, g2, g3, g4, g5, ys, F1, μ1, St, e1, r1, wk, I, i0, keep, turn, done⟩ := h2
  refine ⟨it, fp, tn, J, H2, g1, g2, g3, g4, g5, fun i m σ' H' => m = ys.length - i ∧ i ≤ ys.length ∧ QS X.K M F1 (I i) σ' H', ⟨ys.length, by simp, Nat.zero_le _, Γ, F1, μ1, .refl _, rs.mono e1, r1, i0⟩, ?_⟩
  rintro i m σ' H' ⟨rfl, hi, Γ', F', μ', e2, rs2, r2, q⟩
  have st := keep i Γ' μ' q
  by_cases lt : i < ys.length
  · refine .inr ⟨wk.goes i H' M F' μ' lt e2 st r2, fun σ3 H3 => QS X.K M F1 (I (i + 1)) σ3 H3, fun σ3 H3 q3 => ⟨ys.length - (i + 1), by omega, rfl, lt, q3⟩, fun x H3 yl => ?_⟩
    obtain ⟨F2, y, e3, r3, hy, rp⟩ := wk.yields i H' x H3 M F' μ' lt e2 st r2 yl
    refine (turn i y Γ' μ' hy q σ' M F2 H3 x (bo.mono (e1.trans (e2.trans e3))) (rs2.mono e3) r3 rp).imp fun σ4 H4 q4 => ?_
    obtain ⟨Γ4, F4, μ4, e4, rs4, r4, q4⟩ := q4
    have eF : Ex F1 F4 := (e2.trans e3).trans e4
    exact (q4 σ4 M F4 H4 (bo.mono (e1.trans eF)) rs4 r4).imp (fun _ _ q => q.mono eF) (fun _ _ q => q.mono (e1.trans eF)) (fun _ _ q => q.mono (e1.trans eF)) (fun _ _ q => q.mono eF)
  · obtain rfl : i = ys.length := by omega
    exact .inl ⟨wk.stops H' M F' μ' e2 st r2, Γ', F', μ', e1.trans e2, rs2, r2, done Γ' μ' q⟩
def lcAskB (B : Bs) (X : Cx) (scope : Scope) (tg iter elt : Expr) (ifs : List Expr) (vs : List Nat) (Γ : G) (μ : Mu) (Q : A → Mu → Prop) : Prop :=
  wItB B X tg iter Γ μ fun St ys μ1 => ys.length ≤ sizeLine ∧ ∃ J : Nat → List A → Mu → Prop, J 0 [] μ1 ∧ (∀ i acc μ', J i acc μ' → St μ') ∧ lcTurns B X scope tg elt ifs vs Γ ys J ∧ ∀ acc μ', J ys.length acc μ' → ∀ p, μ' p = none → Q (.loc p) (μ'.upd p (.lst acc))
theorem lc_coreB {ifs : List Expr} (hi : ifs = [] ∨ ∃ c, ifs = [c]) (h : lcAskB B X scope tg iter elt ifs (own.map (·.2)) Γ μ Q) {σ : L2.St} {M F H : Hp} (bo : B.ok M F) (rs : RelS X.K Γ F σ) (r : Rel X.K μ M F H) :
    tLc (rdI X tg iter) (bkG X scope tg) (bkT X scope ifs) (bkE X scope elt) (own.map (·.2)) σ H (QE X.K M F Q) := by
  generalize hvs : own.map (·.2) = vs at h
  refine ⟨fun pins s I0 => ?_⟩
  refine thn ((h σ M F H bo rs r).o pins s I0) fun v s1 h1 => thn h1 fun itv s2 h2 => ?_
  obtain ⟨it, fp, tn, J0, H2, g1, g2, g3, g4, g5, ys, F1, μ1, St, e1, r1, wk, hz, J, j0, keep, turn, done⟩ := h2
  refine ⟨it, fp, tn, J0, H2, g1, g2, g3, g4, g5, fun p np => ?_⟩
  obtain ⟨hM, rN⟩ := r1.frmNew (o := .lst []) np
  refine ⟨fun i m H' => m = ys.length - i ∧ i ≤ ys.length ∧ ∃ F' μ' acc ws, Ex F1 F' ∧ Rel X.K μ' (upd M p (.lst ws)) F' H' ∧ RepL X.K F' acc ws ∧ acc.length ≤ i ∧ J i acc μ', ⟨ys.length, by simp, Nat.zero_le _, F1, μ1, [], [], .refl _, rN, .nil, Nat.le_refl _, j0⟩, ?_⟩
  rintro i m H' ⟨rfl, hi', F', μ', acc, ws, e2, r2, ra, hl, q⟩
  have st := keep i acc μ' q
  have rs' : RelS X.K (wipeA Γ vs) F' (wipe σ vs) := (wipeA_rel rs vs).mono (e1.trans e2)
  have bo' : B.ok (upd M p (.lst ws)) F' := (bo.up (.new hM)).mono (e1.trans e2)
  by_cases lt : i < ys.length
  · refine .inr ⟨wk.goes i H' _ F' μ' lt e2 st r2, fun H3 => ∃ F' μ' acc ws, Ex F1 F' ∧ Rel X.K μ' (upd M p (.lst ws)) F' H3 ∧ RepL X.K F' acc ws ∧ acc.length ≤ i + 1 ∧ J (i + 1) acc μ', fun H3 q3 => ⟨ys.length - (i + 1), by omega, rfl, lt, q3⟩, fun x H3 yl => ?_⟩
    obtain ⟨F2, y, e3, r3, hy, rp⟩ := wk.yields i H' x H3 _ F' μ' lt e2 st r2 yl
    intro s0 H0 C cl fp'
    refine (turn i y acc μ' hy q s0 H0 C cl fp' (wipe σ vs) _ F2 H3 x (bo'.mono e3) (rs'.mono e3) r3 rp).imp fun σ4 H4 q4 => ?_
    obtain ⟨w4, Γ4, F4, μ4, e4, rs4, r4, q4⟩ := q4
    rw [hvs] at *
    have w5 : wipe σ4 vs = wipe σ vs := w4.trans (wipe_wipe vs fun _ h => h)
    refine ⟨w5, ?_⟩
    have elem : ∀ {F5 : Hp} {μ5 : Mu} {H5 : Hp}, Ex F4 F5 → Rel X.K μ5 (upd M p (.lst ws)) F5 H5 → (∀ s0 H0 C cl fp, wE B (bk X scope s0 H0 C cl fp) elt Γ4 μ5 fun z μ6 => J (i + 1) (acc ++ [z]) μ6) →
        bkE X scope elt σ4 H5 fun y H6 => ∃ acc', H6 p = some (.lst acc') ∧ acc'.length < sizeLine ∧ ∃ F' μ' acc ws, Ex F1 F' ∧ Rel X.K μ' (upd M p (.lst ws)) F' (upd H6 p (.lst (acc' ++ [y]))) ∧ RepL X.K F' acc ws ∧ acc.length ≤ i + 1 ∧ J (i + 1) acc μ' := by
      intro F5 μ5 H5 e5 r5 hE s0 H0 C cl fp6
      refine (hE s0 H0 C cl fp6 σ4 _ F5 H5 (bo'.mono ((e3.trans e4).trans e5)) (rs4.mono e5) r5).imp fun z6 H6 ⟨z, F6, μ6, e6, r6, p6, q6⟩ => ?_
      obtain ⟨_, _, hp6⟩ := r6.frm p _ upd_same
      have ex := ((e3.trans e4).trans e5).trans e6
      refine ⟨ws, hp6, by rw [ra.len]; omega, F6, μ6, acc ++ [z], ws ++ [z6], e2.trans ex, r6.frmWrite, (ra.mono ex).snoc p6, by simp; omega, q6⟩
    rcases hi with rfl | ⟨c, rfl⟩
    · have k := elem (.refl _) r4 q4
      simp only [bkT, tYes, if_true]
      exact k
    · intro s0 H0 C cl fp6
      refine (q4 s0 H0 C cl fp6 σ4 _ F4 H4 (bo'.mono (e3.trans e4)) rs4 r4).imp fun k H5 ⟨F5, μ5, e5, r5, k1, k2⟩ => ?_
      cases k with
      | true => exact iteT (elem e5 r5 (k1 rfl))
      | false => exact iteF ⟨F5, μ5, acc, ws, (e2.trans (e3.trans e4)).trans e5, r5, ra.mono ((e3.trans e4).trans e5), by omega, k2 rfl⟩
  · obtain rfl : i = ys.length := by omega
    obtain ⟨nμ, rO⟩ := r2.frmOut (m := .lst acc) hM ⟨ws, rfl, ra⟩
    exact .inl ⟨wk.stops H' _ F' μ' e2 st r2, .loc p, F', _, e1.trans e2, rO, rep_loc.mpr rfl, done acc μ' q p nμ⟩
theorem wE_lcB (own : List (Str × Nat)) (h : lcAskB B X scope tg iter elt ifs (own.map (·.2)) Γ μ Q) (hN : X.N.Nodup) (ok : BlkOk X.N X.env.scope scope own) (hi : ifs = [] ∨ ∃ c, ifs = [c] := by first | exact .inl rfl | exact .inr ⟨_, rfl⟩) (hc : X.calm = true := by rfl) (hs : ∀ x, foldedSetIterable iter X.env x = pure x := by intro _; rfl) :
    wE B X (.ListComp elt [⟨tg, iter, ifs, 0⟩] scope pos) Γ μ Q :=
  wE_of (pe_lc (own := own) hc hN pi_rd ok (fun s0 H0 C cl fp => bkG_pg s0 H0 C cl fp) (bk_pts hi) (fun s0 H0 C cl fp => bkE_pe s0 H0 C cl fp) hs) fun σ M F H bo rs r => lc_coreB hi h bo rs r
theorem lcMapB {vs : List Nat} (h : wItB B X tg iter Γ μ fun St ys μ1 => St μ1 ∧ ys.length ≤ sizeLine ∧ ∃ zs : List A, zs.length = ys.length ∧
      (∀ (i : Nat) y z, ys[i]? = some y → zs[i]? = some z → ∀ s0 H0 C cl fp, wGw B (bk X scope s0 H0 C cl fp) tg vs y (wipeA Γ vs) μ1 fun Γ2 μ2 => μ2 = μ1 ∧ ∀ s0 H0 C cl fp, vE B (bk X scope s0 H0 C cl fp) elt Γ2 μ1 z) ∧
      ∀ p : Addr, μ1 p = none → Q (.loc p) (μ1.upd p (.lst zs))) : lcAskB B X scope tg iter elt [] vs Γ μ Q := fun σ M F H bo rs r => by
  refine ⟨fun pins s I => ?_⟩
  refine thn ((h σ M F H bo rs r).o pins s I) fun v s1 h1 => thn h1 fun itv s2 h2 => ?_
  obtain ⟨it, fp, tn, J0, H2, g1, g2, g3, g4, g5, ys, F1, μ1, St, e1, r1, wk, st, hz, zs, hl, turn, done⟩ := h2
  refine ⟨it, fp, tn, J0, H2, g1, g2, g3, g4, g5, ys, F1, μ1, St, e1, r1, wk, hz, fun i acc μ' => acc = zs.take i ∧ μ' = μ1, ⟨by simp, rfl⟩, fun i acc μ' h => by rw [h.2]; exact st, ?_, ?_⟩
  · rintro i y acc _ hy ⟨ea, rfl⟩ s0 H0 C cl fp'
    have hi : i < zs.length := by rw [hl]; exact (List.getElem?_eq_some_iff.mp hy).1
    have t := turn i y zs[i] hy (List.getElem?_eq_getElem hi) s0 H0 C cl fp'
    intro σ3 M3 F3 H3 v3 bo3 rs3 r3 rp3
    refine (t σ3 M3 F3 H3 v3 bo3 rs3 r3 rp3).imp fun σ4 H4 ⟨w4, Γ4, F4, μ4, e4, rs4, r4, em, q4⟩ => ⟨w4, Γ4, F4, μ4, e4, rs4, r4, ?_⟩
    subst em
    intro s0 H0 C cl fp6
    refine (q4 s0 H0 C cl fp6).use ⟨?_, rfl⟩
    rw [ea, List.take_succ, List.getElem?_eq_getElem hi]; rfl
  · rintro acc _ ⟨ea, rfl⟩ p np
    rw [ea, ← hl, List.take_length]
    exact done p np
/-- .. the list for good -/
theorem wE_lcFB (own : List (Str × Nat)) (h : wItB B X tg iter Γ μ fun St ys μ1 => St μ1 ∧ ys.length ≤ sizeLine ∧ ∃ zs : List A, zs.length = ys.length ∧
      (∀ (i : Nat) y z, ys[i]? = some y → zs[i]? = some z → ∀ s0 H0 C cl fp, wGw B (bk X scope s0 H0 C cl fp) tg (own.map (·.2)) y (wipeA Γ (own.map (·.2))) μ1 fun Γ2 μ2 => μ2 = μ1 ∧ ∀ s0 H0 C cl fp, vE B (bk X scope s0 H0 C cl fp) elt Γ2 μ1 z) ∧ Q (.lst zs) μ1)
    (hN : X.N.Nodup) (ok : BlkOk X.N X.env.scope scope own) (hc : X.calm = true := by rfl) (hs : ∀ x, foldedSetIterable iter X.env x = pure x := by intro _; rfl) : wE B X (.ListComp elt [⟨tg, iter, [], 0⟩] scope pos) Γ μ Q :=
  wE_frz (wE_lcB own (lcMapB (fun σ M F H bo rs r => ⟨fun pins s I0 => by
    refine thn ((h σ M F H bo rs r).o pins s I0) fun v s1 h1 => thn h1 fun itv s2 h2 => ?_
    obtain ⟨it, fp, tn, J0, H2, g1, g2, g3, g4, g5, ys, F1, μ1, St, e1, r1, wk, st, hz, zs, hl, turn, done⟩ := h2
    exact ⟨it, fp, tn, J0, H2, g1, g2, g3, g4, g5, ys, F1, μ1, St, e1, r1, wk, st, hz, zs, hl, turn, fun p np => ⟨p, zs, rfl, Mu.upd_same, by rw [Mu.del_upd np]; exact done⟩⟩⟩)) hN ok (.inl rfl) hc hs)
end
end D

set_option exponentiation.threshold 256
set_option pp.maxSteps 5000
set_option Elab.async false
set_option linter.all false
set_option pp.maxSteps 300
set_option maxRecDepth 100000
set_option maxHeartbeats 4000000
set_option exponentiation.threshold 20000
/-! P70d: how great determinants are; what cleared finds; the steps of determinant and back_of. -/
namespace D
open PySem PySem.Spec PyProof.Rows L2
/-! ### sizes -/
def En7 (x : Rat) : Prop := ∃ X : Int, IsF x X 7560 ∧ X.natAbs ≤ 2 ^ 81
theorem e7_ne : (7560 : Int) ≠ 0 := by decide
theorem En7.zero : En7 0 := ⟨0, IsF.zero e7_ne, by decide⟩
theorem fb_isF {x : Rat} {X E : Int} {n : Nat} (h : IsF x X E) (h1 : X.natAbs < 2 ^ n) (h2 : E.natAbs < 2 ^ n) : FB n x := ⟨Nat.lt_of_le_of_lt h.num_le h1, by
  show ((x.den : Nat) : Int).natAbs < _
  rw [Int.natAbs_natCast]
  exact Nat.lt_of_le_of_lt h.den_le h2⟩
theorem En7.fb {x : Rat} (h : En7 x) : FB 82 x := by
  obtain ⟨X, x1, x2⟩ := h
  exact fb_isF x1 (Nat.lt_of_le_of_lt x2 (by decide)) (by decide)
theorem en7_in {x : Rat} (h : ∃ X : Int, IsF x X 2520 ∧ X.natAbs ≤ 2 ^ 78) : En7 x := by
  obtain ⟨X, x1, x2⟩ := h
  refine ⟨X * 3, (x1.wide (k := 3) (by decide)).cast rfl (by decide), ?_⟩
  rw [Int.natAbs_mul]
  exact Nat.le_trans (Nat.mul_le_mul_right _ x2) (by decide)
theorem en7_23 {x y : Rat} (h : ∃ X : Int, IsF x X 2520 ∧ X.natAbs ≤ 2 ^ 78) (g : ∃ X : Int, IsF y X 2520 ∧ X.natAbs ≤ 2 ^ 78) : En7 (x + (2 / 3 : Rat) * y) := by
  obtain ⟨X, x1, x2⟩ := h
  obtain ⟨Y, y1, y2⟩ := g
  have f23 : IsF (2 / 3 : Rat) 2 3 := ⟨by decide, by grind⟩
  have e1 : IsF ((2 / 3 : Rat) * y) (2 * Y) 7560 := (f23.mul y1).cast rfl (by decide)
  have e2 : IsF x (X * 3) 7560 := (x1.wide (k := 3) (by decide)).cast rfl (by decide)
  refine ⟨_, e2.add e1, ?_⟩
  have a1 : (X * 3).natAbs ≤ 2 ^ 78 * 3 := by rw [Int.natAbs_mul]; exact Nat.mul_le_mul_right _ x2
  have a2 : (2 * Y).natAbs ≤ 2 * 2 ^ 78 := by rw [Int.natAbs_mul]; exact Nat.mul_le_mul_left _ y2
  exact Nat.le_trans (Int.natAbs_add_le _ _) (Nat.le_trans (Nat.add_le_add a1 a2) (by decide))
/-- what the law draws: squares of one to four rows -/
structure SqD (n : Nat) (M : List (List Rat)) : Prop where
  r : Rect n n M
  n1 : 1 ≤ n
  n4 : n ≤ 4
  e : ∀ r ∈ M, ∀ x ∈ r, En7 x
theorem SqD.ab {n : Nat} {M : List (List Rat)} (h : SqD n M) : AB 82 M := fun r hr x hx => (h.e r hr x hx).fb
theorem altF_isF {a d : Nat → Rat} {E G : Int} {B C : Nat} (hE : E ≠ 0) (hG : G ≠ 0) : ∀ {m : Nat}, (∀ k, k < m → ∃ X, IsF (a k) X E ∧ X.natAbs ≤ B) → (∀ k, k < m → ∃ X, IsF (d k) X G ∧ X.natAbs ≤ C) → ∃ Y, IsF (altF a d m) Y (E * G) ∧ Y.natAbs ≤ m * (B * C)
  | 0, _, _ => ⟨0, IsF.zero (Int.mul_ne_zero hE hG), by simp⟩
  | m + 1, ha, hd => by
    obtain ⟨Y, y1, y2⟩ := altF_isF hE hG (m := m) (fun k hk => ha k (by omega)) fun k hk => hd k (by omega)
    obtain ⟨A, a1, a2⟩ := ha m (by omega)
    obtain ⟨D, d1, d2⟩ := hd m (by omega)
    have p2 : (A * D).natAbs ≤ B * C := by rw [Int.natAbs_mul]; exact Nat.mul_le_mul a2 d2
    have e : m * (B * C) + B * C = (m + 1) * (B * C) := (Nat.succ_mul ..).symm
    unfold altF
    split
    · exact ⟨_, y1.sub (a1.mul d1), Nat.le_trans (Int.natAbs_sub_le _ _) (by rw [← e]; exact Nat.add_le_add y2 p2)⟩
    · exact ⟨_, y1.add (a1.mul d1), Nat.le_trans (Int.natAbs_add_le _ _) (by rw [← e]; exact Nat.add_le_add y2 p2)⟩
theorem e7_at {M : List (List Rat)} (h : ∀ r ∈ M, ∀ x ∈ r, En7 x) (i k : Nat) : En7 (ap (M.getD i []) k) := by
  by_cases hi : i < M.length
  · by_cases hk : k < (M.getD i []).length
    · exact h _ (getD_mem (d := []) hi) _ (List.mem_of_getElem? (ap_some hk))
    · rw [ap_out (by omega)]; exact .zero
  · rw [List.getD_eq_getElem?_getD, List.getElem?_eq_none (by omega), ap_out (by simp)]
    exact .zero
theorem dropC_mem {k : Nat} {r : List Rat} {x : Rat} (h : x ∈ dropC k r) : x ∈ r := by
  unfold dropC at h
  rcases List.mem_append.mp h with h | h
  · exact List.mem_of_mem_take h
  · exact List.mem_of_mem_drop h
theorem dropC_len {k : Nat} {r : List Rat} (h : k < r.length) : (dropC k r).length = r.length - 1 := by
  unfold dropC
  rw [List.length_append, List.length_take, List.length_drop]; omega
theorem e7_drop {M : List (List Rat)} {k : Nat} (h : ∀ r ∈ M, ∀ x ∈ r, En7 x) : ∀ r ∈ M.map (dropC k), ∀ x ∈ r, En7 x := fun r hr x hx => by
  obtain ⟨q, hq, rfl⟩ := List.mem_map.mp hr
  exact h q hq x (dropC_mem hx)
theorem detF_isF : ∀ {n : Nat} {M : List (List Rat)}, (∀ r ∈ M, ∀ x ∈ r, En7 x) → n ≤ 4 → ∃ Y, IsF (detF n M) Y (7560 ^ n) ∧ Y.natAbs ≤ (2 ^ 83) ^ n
  | 0, M, _, _ => ⟨1, ⟨by decide, by show (1 : Rat) * _ = _; simp⟩, by decide⟩
  | n + 1, M, h, h4 => by
    obtain ⟨Y, y1, y2⟩ := altF_isF (a := fun k => ap (M.getD 0 []) k) (d := fun k => detF n (M.tail.map (dropC k))) (E := 7560) (G := 7560 ^ n) (B := 2 ^ 81) (C := (2 ^ 83) ^ n) (m := n + 1) e7_ne (Int.pow_ne_zero e7_ne) (fun k _ => e7_at h 0 k) fun k _ => detF_isF (e7_drop fun r hr => h r (List.mem_of_mem_tail hr)) (by omega)
    refine ⟨Y, y1.cast rfl (by rw [Int.pow_succ, Int.mul_comm]), Nat.le_trans y2 ?_⟩
    have e : ((2 : Nat) ^ 83) ^ (n + 1) = 2 ^ 83 * (2 ^ 83) ^ n := by rw [Nat.pow_succ, Nat.mul_comm]
    rw [e]
    generalize ((2 : Nat) ^ 83) ^ n = C
    rw [← Nat.mul_assoc]
    exact Nat.mul_le_mul_right _ (Nat.le_trans (Nat.mul_le_mul_right _ h4) (by decide))
theorem det_fb {n : Nat} {M : List (List Rat)} (h : ∀ r ∈ M, ∀ x ∈ r, En7 x) (h4 : n ≤ 4) : FB 340 (detF n M) := by
  obtain ⟨Y, y1, y2⟩ := detF_isF (n := n) h h4
  refine fb_isF y1 (Nat.lt_of_le_of_lt y2 ?_) ?_
  · rw [← Nat.pow_mul]
    exact Nat.pow_lt_pow_right (by decide) (by omega)
  · rw [Int.natAbs_pow]
    exact Nat.lt_of_le_of_lt (Nat.pow_le_pow_right (by decide) h4) (by decide)
theorem alt_fb {n m : Nat} {M : List (List Rat)} (h : ∀ r ∈ M, ∀ x ∈ r, En7 x) (h4 : n < 4) (hm : m ≤ 4) : FB 340 (altF (fun k => ap (M.getD 0 []) k) (fun k => detF n (M.tail.map (dropC k))) m) := by
  obtain ⟨Y, y1, y2⟩ := altF_isF (a := fun k => ap (M.getD 0 []) k) (d := fun k => detF n (M.tail.map (dropC k))) (E := 7560) (G := 7560 ^ n) (B := 2 ^ 81) (C := (2 ^ 83) ^ n) (m := m) e7_ne (Int.pow_ne_zero e7_ne) (fun k _ => e7_at h 0 k) fun k _ => detF_isF (e7_drop fun r hr => h r (List.mem_of_mem_tail hr)) (by omega)
  refine fb_isF y1 (Nat.lt_of_le_of_lt y2 ?_) ?_
  · rw [← Nat.pow_mul]
    have a : 2 ^ (83 * n) ≤ 2 ^ 249 := Nat.pow_le_pow_right (by decide) (by omega)
    exact Nat.lt_of_le_of_lt (Nat.mul_le_mul hm (Nat.mul_le_mul_left _ a)) (by decide)
  · rw [Int.natAbs_mul, Int.natAbs_pow]
    exact Nat.lt_of_le_of_lt (Nat.mul_le_mul_left _ (Nat.pow_le_pow_right (by decide) (Nat.le_of_lt h4))) (by decide)
theorem e7_mi {M : List (List Rat)} {j k : Nat} (h : ∀ r ∈ M, ∀ x ∈ r, En7 x) : ∀ r ∈ miL M j k, ∀ x ∈ r, En7 x := e7_drop fun r hr => h r (List.mem_of_mem_eraseIdx hr)
theorem sg_fb (k : Nat) : FB 1 (sgN k) := by
  unfold sgN
  split
  · exact FB.one
  · exact FB.one.neg
theorem back_fb {n : Nat} {M : List (List Rat)} (h : SqD n M) (nz : detF n M ≠ 0) : AB 700 (backF n M) := fun r hr x hx => by
  unfold backF at hr
  obtain ⟨k, hk, rfl⟩ := List.mem_map.mp hr
  obtain ⟨j, hj, rfl⟩ := List.mem_map.mp hx
  exact (((sg_fb _).mul (det_fb (e7_mi h.e) (by have := h.n4; omega))).div (det_fb h.e h.n4) nz).mono (by decide)
/-! ### the rows in which there is a number -/
def pivs (Z : List (List Rat)) (n k : Nat) : List Nat := (List.range (n - k)).filter fun i => decide (en Z (k + i) k ≠ 0)
theorem pivs_nil {Z : List (List Rat)} {n k : Nat} (h : pivs Z n k = []) {i : Nat} (h1 : k ≤ i) (h2 : i < n) : en Z i k = 0 := by
  unfold pivs at h
  have := (List.filter_eq_nil_iff.mp h) (i - k) (List.mem_range.mpr (by omega))
  rw [show k + (i - k) = i by omega] at this
  simpa using this
theorem pivs_head {Z : List (List Rat)} {n k i : Nat} {l : List Nat} (h : pivs Z n k = i :: l) : k + i < n ∧ en Z (k + i) k ≠ 0 := by
  have m : i ∈ pivs Z n k := by rw [h]; exact List.mem_cons_self
  unfold pivs at m
  obtain ⟨m1, m2⟩ := List.mem_filter.mp m
  rw [List.mem_range] at m1
  exact ⟨by omega, of_decide_eq_true m2⟩
/-! ### the rows as they go -/
def bN : Nat → Nat
  | 0 => 82
  | k + 1 => 4 * bN k + 1
theorem bN_le {k : Nat} (h : k ≤ 4) : bN k ≤ 30000 := by
  match k, h with
  | 0, _ => decide
  | 1, _ => decide
  | 2, _ => decide
  | 3, _ => decide
  | 4, _ => decide
theorem bN1 : ∀ k, 1 ≤ bN k
  | 0 => by decide
  | k + 1 => by unfold bN; omega
/-- rows of which the first k columns are done -/
structure GoF (n w k : Nat) (M Z : List (List Rat)) (f : Rat) : Prop where
  r : Rect n w Z
  b : AB (bN k) Z
  u : Un (exF n Z) k
  d : f * det4 (exF n Z) = det4 (exF n M)
  f0 : f ≠ 0
theorem ex_en {n : Nat} {Z : List (List Rat)} {i j : Nat} (hi : i < n) (hj : j < n) : exF n Z i j = en Z i j := exF_in hi hj
theorem GoF.none {n w k : Nat} {M Z : List (List Rat)} {f : Rat} (h : GoF n w k M Z f) (h4 : n ≤ 4) (hk : k < n) (p : pivs Z n k = []) : det4 (exF n M) = 0 := by
  rw [← h.d, det_none (k := k) (by omega) h.u fun i h1 h2 => ?_, Rat.mul_zero]
  by_cases hi : i < n
  · rw [exF_in hi hk, pivs_nil p h1 hi]
  · rw [exF_out (fun z => hi z.1), if_neg (by omega)]
theorem ite_num {a b : Nat} {x : Rat} : (if a = b then x else 0 - x) = (if a = b then 1 else -1) * x := by split <;> grind
theorem GoF.step {n w k i : Nat} {l : List Nat} {M Z : List (List Rat)} {f : Rat} (h : GoF n w k M Z f) (h4 : n ≤ 4) (hw : n ≤ w) (hk : k < n) (p : pivs Z n k = i :: l) :
    GoF n w (k + 1) M (clL (swL Z k (k + i)) k) (if k + i = k then f * en Z (k + i) k else 0 - f * en Z (k + i) k) := by
  obtain ⟨hp, nz⟩ := pivs_head p
  have r2 := rect_sw h.r hk hp
  have e1 : en (swL Z k (k + i)) k k = en Z (k + i) k := by rw [en_sw h.r hk hp hk]; unfold swN; rw [if_pos rfl]
  have e2 : swF (exF n Z) k (k + i) k k = en Z (k + i) k := by unfold swF swN; rw [if_pos rfl, exF_in hp hk]
  have z2 : exF n Z (k + i) k ≠ 0 := by rw [exF_in hp hk]; exact nz
  refine ⟨rect_cl r2 hk, ab_cl (bN1 k) (ab_sw h.b (by rw [h.r.len]; exact hk) (by rw [h.r.len]; exact hp)) r2 hk (by rw [e1]; exact nz), ?_, ?_, ?_⟩
  · rw [ex_step h.r hw hk hp]
    exact un_step (by omega) (by omega) h.u z2
  · rw [ex_step h.r hw hk hp, ← h.d, ite_num]
    have c := det_cl (swF (exF n Z) k (k + i)) (k := k) (by omega) (by rw [e2]; exact nz)
    rw [e2, det_sw _ (by omega) (by omega), ite_num] at c
    generalize det4 (clF (swF (exF n Z) k (k + i)) k) = x at c ⊢
    generalize det4 (exF n Z) = y at c ⊢
    generalize en Z (k + i) k = q at c ⊢
    split
    · rename_i e
      rw [if_pos e] at c
      grind
    · rename_i e
      rw [if_neg e] at c
      grind
  · have m : f * en Z (k + i) k ≠ 0 := fun z => (Rat.mul_eq_zero.mp z).elim h.f0 nz
    split
    · exact m
    · intro z; exact m (by grind)
theorem GoF.start {n : Nat} {M : List (List Rat)} (h : SqD n M) : GoF n n 0 M M 1 := ⟨h.r, h.ab, fun i j _ hj => absurd hj (Nat.not_lt_zero _), Rat.one_mul _, by decide⟩
theorem GoF.det {n : Nat} {M Z : List (List Rat)} {f : Rat} (h : GoF n n n M Z f) (s : SqD n M) : f = detF n M := by
  have e := h.d
  rw [det_unit (un_all s.n4 h.u), Rat.mul_one, det_ex s.r s.n1 s.n4] at e
  exact e
/-- .. of determinant: how great the product is -/
def fN : Nat → Nat
  | 0 => 1
  | k + 1 => fN k + bN k
theorem fN_le {k : Nat} (h : k ≤ 4) : fN k ≤ 30000 := by
  match k, h with
  | 0, _ => decide
  | 1, _ => decide
  | 2, _ => decide
  | 3, _ => decide
  | 4, _ => decide
theorem zero_sub' (x : Rat) : 0 - x = -x := by grind
theorem fb_step {k n i : Nat} {Z : List (List Rat)} {f : Rat} (h : FB (fN k) f) (b : AB (bN k) Z) : FB (fN (k + 1)) (f * en Z (k + i) k) := h.mul (b.en (bN1 k) _ _)
/-! ### back_of -/
def augL (n : Nat) (M : List (List Rat)) : List (List Rat) := (M.zip (unitF n)).map fun p => p.1 ++ p.2
theorem unit_len {n : Nat} : (unitF n).length = n := by simp [unitF]
theorem rect_unit {n : Nat} : Rect n n (unitF n) := rect_tab
theorem rect_aug {n : Nat} {M : List (List Rat)} (h : Rect n n M) : Rect n (n + n) (augL n M) := ⟨by unfold augL; rw [List.length_map, List.length_zip, h.len, unit_len]; omega, fun r hr => by
  obtain ⟨q, hq, rfl⟩ := List.mem_map.mp hr
  obtain ⟨q1, q2⟩ := List.of_mem_zip (a := q.1) (b := q.2) hq
  rw [List.length_append, h.row _ q1, rect_unit.row _ q2]⟩
theorem aug_at {n i : Nat} {M : List (List Rat)} (h : Rect n n M) (hi : i < n) : (augL n M).getD i [] = M.getD i [] ++ (unitF n).getD i [] := by
  refine getD_some ?_
  unfold augL
  rw [List.getElem?_map]
  have e : (M.zip (unitF n))[i]? = some (M.getD i [], (unitF n).getD i []) := List.getElem?_zip_eq_some.mpr ⟨some_getD [] (by rw [h.len]; exact hi), some_getD [] (by rw [unit_len]; exact hi)⟩
  rw [e]; rfl
theorem en_aug1 {n i j : Nat} {M : List (List Rat)} (h : Rect n n M) (hi : i < n) (hj : j < n) : en (augL n M) i j = en M i j := by
  unfold en
  rw [aug_at h hi, ap_append (by rw [h.rw hi]; exact hj)]
theorem en_unit {n i j : Nat} (hi : i < n) (hj : j < n) : en (unitF n) i j = if i = j then 1 else 0 := en_tab hi hj
theorem ap_right {a b : List Rat} {n j : Nat} (h : a.length = n) : ap (a ++ b) (n + j) = ap b j := by
  unfold ap
  rw [List.getD_eq_getElem?_getD, List.getD_eq_getElem?_getD, List.getElem?_append_right (by omega), show n + j - a.length = j by omega]
theorem en_aug2 {n i j : Nat} {M : List (List Rat)} (h : Rect n n M) (hi : i < n) (hj : j < n) : en (augL n M) i (n + j) = if i = j then 1 else 0 := by
  rw [← en_unit (n := n) hi hj]
  unfold en
  rw [aug_at h hi, ap_right (h.rw hi)]
theorem ab_unit {n b : Nat} (hb : 1 ≤ b) : AB b (unitF n) := fun r hr x hx => by
  unfold unitF at hr
  obtain ⟨k, _, rfl⟩ := List.mem_map.mp hr
  obtain ⟨j, _, rfl⟩ := List.mem_map.mp hx
  split
  · exact FB.one.mono hb
  · exact FB.zero.mono hb
theorem ab_aug {n b : Nat} {M : List (List Rat)} (hb : 1 ≤ b) (h : AB b M) : AB b (augL n M) := fun r hr x hx => by
  unfold augL at hr
  obtain ⟨q, hq, rfl⟩ := List.mem_map.mp hr
  obtain ⟨q1, q2⟩ := List.of_mem_zip (a := q.1) (b := q.2) hq
  rcases List.mem_append.mp hx with hx | hx
  · exact h _ q1 x hx
  · exact ab_unit hb _ q2 x hx
/-- .. and what the rows come from -/
structure GoB (n k : Nat) (M Z : List (List Rat)) : Prop where
  f : ∃ f, GoF n (n + n) k M Z f
  p : PrR (exF n M) (exF n Z) (exG n Z)
theorem ex_aug {n : Nat} {M : List (List Rat)} (h : Rect n n M) : exF n (augL n M) = exF n M := by
  funext i j
  by_cases e : i < n ∧ j < n
  · rw [exF_in e.1 e.2, exF_in e.1 e.2, en_aug1 h e.1 e.2]
  · rw [exF_out e, exF_out e]
theorem exG_aug {n : Nat} {M : List (List Rat)} (h : Rect n n M) : exG n (augL n M) = fun i j => if i = j then 1 else 0 := by
  funext i j
  by_cases e : i < n ∧ j < n
  · rw [exG_in e.1 e.2, en_aug2 h e.1 e.2]
  · rw [exG_out e]
theorem pr_one (A : F4) : PrR A A fun i j => if i = j then 1 else 0 := fun i j hi hj => by
  unfold sum4
  rcases four hi with rfl | rfl | rfl | rfl <;> simp <;> grind
theorem GoB.start {n : Nat} {M : List (List Rat)} (h : SqD n M) : GoB n 0 M (augL n M) := ⟨⟨1, rect_aug h.r, ab_aug (by decide) h.ab, fun i j _ hj => absurd hj (Nat.not_lt_zero _), by rw [ex_aug h.r, Rat.one_mul], by decide⟩, by rw [ex_aug h.r, exG_aug h.r]; exact pr_one _⟩
theorem GoB.step {n k i : Nat} {l : List Nat} {M Z : List (List Rat)} (h : GoB n k M Z) (h4 : n ≤ 4) (hk : k < n) (p : pivs Z n k = i :: l) : GoB n (k + 1) M (clL (swL Z k (k + i)) k) := by
  obtain ⟨f, g⟩ := h.f
  have hp := (pivs_head p).1
  refine ⟨⟨_, g.step h4 (by omega) hk p⟩, ?_⟩
  rw [ex_step g.r (by omega) hk hp, exG_step g.r (Nat.le_refl _) hk hp]
  exact pr_cl (by omega) (pr_sw (by omega) (by omega) h.p)
theorem GoB.fin {n : Nat} {M Z : List (List Rat)} (h : GoB n n M Z) (s : SqD n M) : detF n M ≠ 0 ∧ IsBack n M (tailL n Z) := by
  obtain ⟨f, g⟩ := h.f
  have e := g.d
  rw [det_unit (un_all s.n4 g.u), Rat.mul_one] at e
  have nz : det4 (exF n M) ≠ 0 := by rw [← e]; exact g.f0
  exact ⟨by rw [← det_ex s.r s.n1 s.n4]; exact nz, fin_back s.r g.r s.n1 s.n4 g.u h.p nz⟩
theorem GoB.none {n k : Nat} {M Z : List (List Rat)} (h : GoB n k M Z) (s : SqD n M) (hk : k < n) (p : pivs Z n k = []) : detF n M = 0 := by
  obtain ⟨f, g⟩ := h.f
  rw [← det_ex s.r s.n1 s.n4]
  exact g.none s.n4 hk p
/-! ### sums of products -/
theorem dot_go {a b : List Rat} {m k : Nat} (ha : ∀ x ∈ a, FB m x) (hb : ∀ x ∈ b, FB k x) : ∀ i, FB (1 + i * (m + k + 1)) (((a.zip b).take i).foldl (fun t p => t + p.1 * p.2) 0)
  | 0 => FB.zero.mono (by omega)
  | i + 1 => by
    have ih := dot_go (m := m) (k := k) ha hb i
    have mono : FB (1 + (i + 1) * (m + k + 1)) (((a.zip b).take i).foldl (fun t p => t + p.1 * p.2) 0) := ih.mono (by rw [Nat.succ_mul]; omega)
    rw [List.take_add_one]
    cases e : (a.zip b)[i]? with
    | none => simpa using mono
    | some q =>
      obtain ⟨q1, q2⟩ := List.of_mem_zip (a := q.1) (b := q.2) (List.mem_of_getElem? e)
      simp only [Option.toList_some, List.foldl_append, List.foldl_cons, List.foldl_nil]
      refine (ih.add ((ha _ q1).mul (hb _ q2))).mono ?_
      rw [Nat.succ_mul]; omega
theorem dot_snoc {a b : List Rat} {i : Nat} (h : i < (a.zip b).length) : ((a.zip b).take (i + 1)).foldl (fun t p => t + p.1 * p.2) 0 = ((a.zip b).take i).foldl (fun t p => t + p.1 * p.2) 0 + ap a i * ap b i := by
  rw [List.take_add_one, List.getElem?_eq_getElem h]
  obtain ⟨e1, e2⟩ := zip_at (List.getElem?_eq_getElem h)
  simp only [Option.toList_some, List.foldl_append, List.foldl_cons, List.foldl_nil]
  rw [e1, e2]
theorem put_take {M : List (List Rat)} {r : List Rat} {i : Nat} (h : i < M.length) : rl (putF (M.take i) r) ++ [ra (dotZ (M.getD i []) r)] = rl (putF (M.take (i + 1)) r) := by
  rw [List.take_add_one, some_getD [] h]
  unfold putF rl
  simp
end D

set_option exponentiation.threshold 256
set_option pp.maxSteps 5000
set_option Elab.async false
set_option linter.all false
set_option pp.maxSteps 300
set_option maxRecDepth 100000
set_option maxHeartbeats 4000000
set_option exponentiation.threshold 20000
/-! P70e: squares as data. -/
namespace D
open PySem PySem.Spec PyProof.Rows L2
theorem rls_len {M : List (List Rat)} : (rls M).length = M.length := List.length_map ..
theorem rls_get {M : List (List Rat)} {k : Nat} (h : k < M.length) : (rls M)[k]? = some (.lst (rl (M.getD k []))) := by
  unfold rls
  rw [List.getElem?_map, some_getD [] h]; rfl
theorem rls_ix {M : List (List Rat)} {z : Int} {k : Nat} (hz : z = k) (h : k < M.length) : atI (rls M) z = some (.lst (rl (M.getD k []))) := by
  refine atI_pos ?_ (by omega)
  rw [show z.toNat = k by omega]
  exact rls_get h
theorem dat_ra (x : Rat) : DatOk (ra x) := ⟨isRa x, Nat.le_trans (deepRa x) (by decide)⟩
theorem eqv_raF (x y : Rat) : PyData.eqv (toD (ra x)) (toD (ra y)) = decide (x = y) := by
  have e : PyData.eqv (toD (ra x)) (toD (ra y)) = (decide (x.num = y.num) && decide (((x.den : Nat) : Int) = ((y.den : Nat) : Int))) := by
    have e : ∀ a b : Int, (a == b) = decide (a = b) := fun a b => by rw [Bool.eq_iff_iff]; simp
    simp only [ra, toD, toDs, PyData.eqv, PyData.eqvAll, Bool.and_true, e]
  rw [e, ← Bool.decide_and]
  refine decide_eq_decide.mpr ⟨fun ⟨a, b⟩ => ?_, fun h => by rw [h]; exact ⟨rfl, rfl⟩⟩
  have b' : x.den = y.den := by omega
  exact Rat.ext a b'
theorem eqv_nilM {α : Type} (f : α → A) : ∀ l : List α, PyData.eqv (toD (.lst (l.map f))) (toD (.lst [])) = decide (l = [])
  | [] => by simp [toD, toDs, PyData.eqv, PyData.eqvAll]
  | x :: l => by simp [toD, toDs, PyData.eqv, PyData.eqvAll]
theorem dat_intsM {α : Type} (f : α → Int) (l : List α) : DatOk (.lst (l.map fun a => A.int (f a))) := by
  refine ⟨by simp only [isD]; exact isDs_map (fun _ => rfl) l, ?_⟩
  have : deeps (l.map fun a => A.int (f a)) ≤ 0 := deeps_le fun a ha => by
    obtain ⟨n, _, rfl⟩ := List.mem_map.mp ha
    exact Nat.le_refl _
  simp only [deep]; omega
theorem dat_nil : DatOk (.lst []) := ⟨rfl, by decide⟩
theorem sw_rls {M : List (List Rat)} {k p : Nat} : ((rls M).set k (.lst (rl (M.getD p [])))).set p (.lst (rl (M.getD k []))) = rls (swL M k p) := by
  unfold rls swL
  rw [List.map_set, List.map_set]
theorem zip_rls {X Y : List (List Rat)} : zipA (rls X) (rls Y) = (X.zip Y).map (fun p => A.tup [.lst (rl p.1), .lst (rl p.2)]) := zipA_map _ _ X Y
theorem rl_app {a b : List Rat} : rl a ++ rl b = rl (a ++ b) := by unfold rl; rw [List.map_append]
theorem cut_hi {α : Type} {f : α → A} {xs : List α} {n : Nat} : cutA (xs.map f) none (some (n : Int)) = (xs.take n).map f := by
  have e1 : HT.sIx (xs.map f).length 0 none = 0 := rfl
  have e2 : HT.sIx (xs.map f).length (xs.map f).length (some (n : Int)) = min n (xs.map f).length := HT.sIx_nat _ _ _
  unfold cutA
  rw [e1, e2, List.drop_zero, Nat.sub_zero, ← List.take_take, List.take_length, List.map_take]
theorem cut_lo {α : Type} {f : α → A} {xs : List α} {n : Nat} : cutA (xs.map f) (some (n : Int)) none = (xs.drop n).map f := by
  have e1 : HT.sIx (xs.map f).length 0 (some (n : Int)) = min n (xs.map f).length := HT.sIx_nat _ _ _
  have e2 : HT.sIx (xs.map f).length (xs.map f).length none = (xs.map f).length := rfl
  unfold cutA
  rw [e1, e2, List.map_drop]
  by_cases h : n ≤ (xs.map f).length
  · rw [Nat.min_eq_left h, List.take_of_length_le (by rw [List.length_drop]; exact Nat.le_refl _)]
  · rw [Nat.min_eq_right (by omega), List.drop_eq_nil_of_le (Nat.le_refl _), List.drop_eq_nil_of_le (by omega), List.take_nil]
theorem TellP.sub {μ μ' : Mu} (s : Sub μ μ') : ∀ {ps : List Addr} {zss : List (List Rat)}, TellP μ ps zss → TellP μ' ps zss
  | [], [], _ => trivial
  | p :: ps, z :: zs, h => ⟨s _ _ h.1, TellP.sub s h.2⟩
  | [], _ :: _, h => h.elim
  | _ :: _, [], h => h.elim
theorem TellP.snoc {μ : Mu} {p : Addr} {z : List Rat} (h2 : μ p = Option.some (.lst (rl z))) : ∀ {ps : List Addr} {zss : List (List Rat)}, TellP μ ps zss → TellP μ (ps ++ [p]) (zss ++ [z])
  | [], [], _ => ⟨h2, trivial⟩
  | p :: ps, z :: zs, h => ⟨h.1, TellP.snoc h2 h.2⟩
  | [], _ :: _, h => h.elim
  | _ :: _, [], h => h.elim
theorem TellP.ex {μ : Mu} : ∀ {ps : List Addr} {zss : List (List Rat)}, TellP μ ps zss → ∀ q ∈ ps, ∃ l, μ q = Option.some (.lst l)
  | [], [], _, _, hq => nomatch hq
  | p :: ps, z :: zs, h, q, hq => by
    rcases List.mem_cons.mp hq with rfl | hq
    · exact ⟨_, h.1⟩
    · exact TellP.ex h.2 q hq
  | [], _ :: _, h, _, _ => h.elim
  | _ :: _, [], h, _, _ => h.elim
theorem TellP.lenP {μ : Mu} : ∀ {ps : List Addr} {zss : List (List Rat)}, TellP μ ps zss → ps.length = zss.length
  | [], [], _ => rfl
  | p :: ps, z :: zs, h => congrArg (· + 1) (TellP.lenP h.2)
  | [], _ :: _, h => h.elim
  | _ :: _, [], h => h.elim
theorem Ls.over5 {m l p : Addr} {μ μ' : Mu} {o : MO} (h : Ls m l μ μ') (n : μ p = none) : Ls m l μ (μ'.upd p o) := fun q u h1 h2 e => by
  rw [Mu.upd_ne (fun z => by rw [z, n] at e; cases e)]
  exact h q u h1 h2 e
theorem Ls.gone5 {m l p : Addr} {μ μ' : Mu} (h : Ls m l μ μ') (n : μ p = none) : Ls m l μ (μ'.del p) := fun q u h1 h2 e => by
  rw [Mu.del_ne (fun z => by rw [z, n] at e; cases e)]
  exact h q u h1 h2 e
/-- what is told: lists that are ours, in one that is ours -/
structure ToldB (μ : Mu) (X : List (List Rat)) (p : Addr) (ps : List Addr) (μ' : Mu) : Prop where
  sub : Sub μ μ'
  at_ : μ' p = some (.lst (ps.map A.loc))
  rows : TellP μ' ps X
  new : μ p = none
  news : ∀ q ∈ ps, μ q = none ∧ q ≠ p
/-- a square, whosever its lists are -/
inductive RwsAt (μ : Mu) : List A → List (List Rat) → Prop
  | nil : RwsAt μ [] []
  | cons {a : A} {as : List A} {r : List Rat} {M : List (List Rat)} : LsAt μ a (rl r) → RwsAt μ as M → RwsAt μ (a :: as) (r :: M)
theorem RwsAt.len {μ : Mu} {as : List A} {M : List (List Rat)} (h : RwsAt μ as M) : as.length = M.length := by
  induction h with
  | nil => rfl
  | cons _ _ ih => exact congrArg (· + 1) ih
theorem RwsAt.at {μ : Mu} {as : List A} {M : List (List Rat)} (h : RwsAt μ as M) : ∀ {i : Nat} {y : A}, as[i]? = some y → M[i]? = some (M.getD i []) ∧ LsAt μ y (rl (M.getD i [])) := by
  induction h with
  | nil => intro i y e; simp at e
  | cons h1 h2 ih =>
    intro i y e
    cases i with
    | zero => simp at e; subst e; exact ⟨rfl, h1⟩
    | succ i => simp only [List.getElem?_cons_succ] at e; exact ih e
theorem RwsAt.sub {μ μ' : Mu} {as : List A} {M : List (List Rat)} (h : RwsAt μ as M) (s : Sub μ μ') : RwsAt μ' as M := by
  induction h with
  | nil => exact .nil
  | cons h1 h2 ih => exact .cons (h1.sub s) ih
theorem rwsF {μ : Mu} : ∀ M : List (List Rat), RwsAt μ (rls M) M
  | [] => .nil
  | r :: M => .cons (.inl rfl) (rwsF M)
theorem rwsO {μ : Mu} : ∀ {ps : List Addr} {M : List (List Rat)}, TellP μ ps M → RwsAt μ (ps.map A.loc) M
  | [], [], _ => .nil
  | p :: ps, r :: M, h => .cons (.inr ⟨p, rfl, h.1⟩) (rwsO h.2)
  | [], _ :: _, h => h.elim
  | _ :: _, [], h => h.elim
/-- left out in a walk with a test -/
theorem pick_mi {n j : Nat} {M : List (List Rat)} {f : List Rat → A} (h : Rect n n M) (h4 : n ≤ 4) (hj : j < n) : pickA ((List.range n).map fun (i : Nat) => !decide ((i : Int) = (j : Int))) (M.map f) = (M.eraseIdx j).map f := by
  match n, h4 with
  | 0, _ => omega
  | 1, _ =>
    obtain ⟨a, rfl, _⟩ := rows1 h
    obtain rfl : j = 0 := by omega
    rfl
  | 2, _ =>
    obtain ⟨a, b, rfl, _⟩ := rows2 h
    rcases (show j = 0 ∨ j = 1 by omega) with rfl | rfl <;> rfl
  | 3, _ =>
    obtain ⟨a, b, c, rfl, _⟩ := rows3 h
    rcases (show j = 0 ∨ j = 1 ∨ j = 2 by omega) with rfl | rfl | rfl <;> rfl
  | 4, _ =>
    obtain ⟨a, b, c, d, rfl, _⟩ := rows4 h
    rcases four hj with rfl | rfl | rfl | rfl <;> rfl
theorem rect_mi {n j k : Nat} {M : List (List Rat)} (h : Rect n n M) (hj : j < n) (hk : k < n) : Rect (n - 1) (n - 1) (miL M j k) := ⟨by unfold miL; rw [List.length_map, List.length_eraseIdx_of_lt (by rw [h.len]; exact hj), h.len], fun r hr => by
  unfold miL at hr
  obtain ⟨q, hq, rfl⟩ := List.mem_map.mp hr
  have := h.row q (List.mem_of_mem_eraseIdx hq)
  rw [dropC_len (by omega), this]⟩
theorem rect_tail1 {n k : Nat} {M : List (List Rat)} (h : Rect (n + 1) (n + 1) M) (hk : k < n + 1) : Rect n n (M.tail.map (dropC k)) := ⟨by rw [List.length_map, List.length_tail, h.len]; omega, fun r hr => by
  obtain ⟨q, hq, rfl⟩ := List.mem_map.mp hr
  have := h.row q (List.mem_of_mem_tail hq)
  rw [dropC_len (by omega), this]; omega⟩
/-! ### shown -/
theorem FB.qb {x : Rat} {n : Nat} (h : FB n x) (hn : n ≤ 4000) : QB x := by
  have a := h.u
  have b := h.d
  unfold Bd at a b
  rw [Int.natAbs_natCast] at b
  exact ⟨Nat.lt_of_lt_of_le b (Nat.pow_le_pow_right (by decide) (by omega)), Nat.lt_of_lt_of_le a (Nat.pow_le_pow_right (by decide) (by omega))⟩
theorem AB.sm {b w n : Nat} {M : List (List Rat)} (h : AB b M) (hr : Rect n w M) (hw : w ≤ 13) (hb : b ≤ 4000) : ∀ r ∈ M, Sm r := fun r hrm => ⟨by rw [hr.row r hrm]; exact hw, fun i => by
  by_cases hi : i < r.length
  · exact (h r hrm _ (List.mem_of_getElem? (ap_some hi))).qb hb
  · rw [ap_out (by omega)]; exact qb_zero⟩
theorem row_sm {b : Nat} {r : List Rat} (h : ∀ x ∈ r, FB b x) (hw : r.length ≤ 13) (hb : b ≤ 4000) : Sm r := ⟨hw, fun i => by
  by_cases hi : i < r.length
  · exact (h _ (List.mem_of_getElem? (ap_some hi))).qb hb
  · rw [ap_out (by omega)]; exact qb_zero⟩
theorem wsh_rl {r : List Rat} (h : Sm r) : wsh (toD (.lst (rl r))) = true := by
  simp only [toD, wsh]
  refine wshs_all _ fun a ha => ?_
  obtain ⟨x, hx, rfl⟩ := List.mem_map.mp ha
  exact wsh_ra (h.mem hx)
theorem shown_rls4 {M : List (List Rat)} (h : ∀ zs ∈ M, Sm zs) (h5 : M.length ≤ 4) : (toD (.lst (rls M))).shown.length ≤ 457000 := by
  simp only [toD, PyData.shown]
  have h1 := listText_len_le (PyData.shownAll (toDs (rls M)))
  have h2 := sumLe (n := 114000) (PyData.shownAll (toDs (rls M))) (by
    rw [showns_eq]
    intro t ht
    obtain ⟨a, ha, rfl⟩ := List.mem_map.mp ht
    obtain ⟨x, hx, rfl⟩ := List.mem_map.mp ha
    exact shown_rl (h x hx))
  have h3 : (PyData.shownAll (toDs (rls M))).length ≤ 4 := by rw [showns_eq, List.length_map]; unfold rls; rw [List.length_map]; exact h5
  have h4 : (114000 + 2) * (PyData.shownAll (toDs (rls M))).length ≤ (114000 + 2) * 4 := Nat.mul_le_mul_left _ h3
  omega
/-- what the law keeps the repr of -/
def threeA (M Y : List (List Rat)) (r : List Rat) : List A := [.lst (rls M), .lst (rls Y), .lst (rl r)]
theorem three_isD (M Y : List (List Rat)) (r : List Rat) : isD (.lst (threeA M Y r)) = true := by
  have h1 := (datRls M).1
  have h2 := (datRls Y).1
  have h3 := (datRl r).1
  show isDs _ = true
  simp only [threeA, isDs, h1, h2, h3, Bool.and_self]
theorem three_deep (M Y : List (List Rat)) (r : List Rat) : deep (.lst (threeA M Y r)) ≤ 60 := by
  have d1 : ∀ zs : List Rat, deep (.lst (rl zs)) ≤ 2 := fun zs => by
    have : deeps (rl zs) ≤ 1 := deeps_le fun a ha => by
      obtain ⟨n, _, rfl⟩ := List.mem_map.mp ha
      exact deepRa n
    simp only [deep]; omega
  have d2 : ∀ M : List (List Rat), deep (.lst (rls M)) ≤ 3 := fun M => by
    have : deeps (rls M) ≤ 2 := deeps_le fun a ha => by
      obtain ⟨n, _, rfl⟩ := List.mem_map.mp ha
      exact d1 n
    simp only [deep]; omega
  have : deeps (threeA M Y r) ≤ 3 := deeps_le fun a ha => by
    simp only [threeA, List.mem_cons, List.not_mem_nil, or_false] at ha
    rcases ha with rfl | rfl | rfl
    · exact d2 M
    · exact d2 Y
    · exact Nat.le_trans (d1 r) (by decide)
  simp only [deep]; omega
theorem three_wsh {M Y : List (List Rat)} {r : List Rat} (h1 : ∀ zs ∈ M, Sm zs) (h2 : ∀ zs ∈ Y, Sm zs) (h3 : Sm r) : wsh (toD (.lst (threeA M Y r))) = true := by
  show wshs (toDs (threeA M Y r)) = true
  refine wshs_all _ fun a ha => ?_
  simp only [threeA, List.mem_cons, List.not_mem_nil, or_false] at ha
  rcases ha with rfl | rfl | rfl
  · exact wsh_rls h1
  · exact wsh_rls h2
  · exact wsh_rl h3
theorem three_shown {M Y : List (List Rat)} {r : List Rat} (h1 : ∀ zs ∈ M, Sm zs) (h2 : ∀ zs ∈ Y, Sm zs) (h3 : Sm r) (l1 : M.length ≤ 4) (l2 : Y.length ≤ 4) : (toD (.lst (threeA M Y r))).shown.length ≤ sizeLine := by
  have a1 := shown_rls4 h1 l1
  have a2 := shown_rls4 h2 l2
  have a3 := shown_rl h3
  have e : toD (.lst (threeA M Y r)) = .list [toD (.lst (rls M)), toD (.lst (rls Y)), toD (.lst (rl r))] := rfl
  rw [e]
  simp only [PyData.shown, PyData.shownAll]
  have h := listText_len_le [(toD (.lst (rls M))).shown, (toD (.lst (rls Y))).shown, (toD (.lst (rl r))).shown]
  simp only [List.map_cons, List.map_nil, List.sum_cons, List.sum_nil, List.length_cons, List.length_nil] at h
  refine szOk (Nat.le_trans h ?_)
  omega
theorem show_ra {x : Rat} (h : FB 1900 x) : ShowOk (ra x) := by
  have a : ∀ {i : Int}, Bd 1900 i → isShow (.int i) = true ∧ shl (.int i) ≤ 1922 := fun h => by
    refine ⟨?_, ?_⟩
    · simp only [isShow, decide_eq_true_eq]
      exact Nat.lt_of_lt_of_le (h.log (by decide)) (by decide)
    · simp only [shl]; split <;> omega
  obtain ⟨a1, a2⟩ := a h.u
  obtain ⟨b1, b2⟩ := a h.d
  refine ⟨by simp only [ra, isShow, isShows, Bool.and_true, Bool.and_eq_true]; exact ⟨by simpa only [isShow] using a1, by simpa only [isShow] using b1⟩, by simp [ra, deep, deeps], szOk ?_⟩
  simp only [ra, shl, shls] at *
  omega
/-! ### the back, or flat -/
def dueB (n : Nat) (M : List (List Rat)) : A := if detF n M = 0 then .non else .lst (rls (backF n M))
def flatB (n : Nat) (M : List (List Rat)) : A := if detF n M = 0 then .str "flat" else .lst (rls (backF n M))
structure FoundT (n : Nat) (M : List (List Rat)) (μ : Mu) (y : A) (μ' : Mu) : Prop where
  sub : Sub μ μ'
  is_ : (detF n M = 0 ∧ y = .str "flat") ∨ (detF n M ≠ 0 ∧ ∃ X p ps, y = .loc p ∧ IsBack n M X ∧ ToldB μ X p ps μ')
theorem show_flat : ShowOk (.str "flat") := ⟨by decide +kernel, by decide +kernel, by decide +kernel⟩
theorem back_rect {n : Nat} {M : List (List Rat)} : Rect n n (backF n M) := rect_tab
section
variable {X : Cx} {μ : Mu} {Q : A → Mu → Prop} {k n : Nat} {M : List (List Rat)}
theorem back_sm (s : SqD n M) (nz : detF n M ≠ 0) : ∀ r ∈ backF n M, Sm r := (back_fb s nz).sm back_rect (by have := s.n4; omega) (by decide)
theorem wC_reprFlat (ar : Ar X k) (nd : X.base.NoDigits) (s : SqD n M) (q : Q (.str (toD (flatB n M)).shown) μ) : wC X (.builtin "repr") [flatB n M] μ Q := by
  unfold flatB at q ⊢
  by_cases h : detF n M = 0
  · rw [if_pos h] at q ⊢
    exact wC_repr ar show_flat q
  · rw [if_neg h] at q ⊢
    refine wC_reprW ar nd (.dat (datRls _).1) (wsh_rls (back_sm s h)) (datRls _).2 ?_ q
    exact szOk (Nat.le_trans (shown_rls4 (back_sm s h) (by rw [back_rect.len]; exact s.n4)) (by decide))
theorem wC_reprFound {μ0 : Mu} {y : A} (ar : Ar X k) (nd : X.base.NoDigits) (s : SqD n M) (f : FoundT n M μ0 y μ) (q : Q (.str (toD (flatB n M)).shown) μ) : wC X (.builtin "repr") [y] μ Q := by
  rcases f.is_ with ⟨h, rfl⟩ | ⟨h, B, p, ps, rfl, ib, tb⟩
  · unfold flatB at q
    rw [if_pos h] at q
    exact wC_repr ar show_flat q
  · unfold flatB at q
    rw [if_neg h] at q
    rw [ib.e] at tb
    refine wC_reprW ar nd (.own tb.at_ tb.rows.rs) (wsh_rls (back_sm s h)) (datRls _).2 ?_ q
    exact szOk (Nat.le_trans (shown_rls4 (back_sm s h) (by rw [back_rect.len]; exact s.n4)) (by decide))
end
theorem due_non {n : Nat} {M : List (List Rat)} : isNon (dueB n M) = decide (detF n M = 0) := by
  unfold dueB
  by_cases h : detF n M = 0
  · rw [if_pos h, decide_eq_true h]; rfl
  · rw [if_neg h, decide_eq_false h]; rfl
theorem due_flat {n : Nat} {M : List (List Rat)} (h : detF n M ≠ 0) : dueB n M = flatB n M := by unfold dueB flatB; rw [if_neg h, if_neg h]
theorem side_ra (k j : Nat) : A.tup [.int (1 - 2 * (((k : Int) + (j : Int)) % 2)), .int 1] = ra (sgN (k + j)) := by
  unfold sgN
  by_cases h : (k + j) % 2 = 0
  · rw [if_pos h, show (1 - 2 * (((k : Int) + (j : Int)) % 2)) = 1 by omega]; rfl
  · rw [if_neg h, show (1 - 2 * (((k : Int) + (j : Int)) % 2)) = -1 by omega]; rfl
theorem put_fb {b : Nat} {M : List (List Rat)} {r : List Rat} (h : AB b M) (hr : ∀ v ∈ r, FB b v) (hl : r.length ≤ 4) (hb : b ≤ 100000) : ∀ x ∈ putF M r, FB (1 + 4 * (b + b + 1)) x := fun x hx => by
  unfold putF at hx
  obtain ⟨a, ha, rfl⟩ := List.mem_map.mp hx
  have := dot_go (m := b) (k := b) (h a ha) hr (a.zip r).length
  rw [List.take_length] at this
  refine this.mono ?_
  have l : (a.zip r).length ≤ 4 := by rw [List.length_zip]; omega
  have := Nat.mul_le_mul_right (b + b + 1) l
  omega
theorem rect_prod {n : Nat} {X Y : List (List Rat)} (hx : Rect n n X) (hy : Rect n n Y) : Rect n n (prodF X Y) := by
  unfold prodF
  rw [hx.len, hy.len]
  exact rect_tab
theorem prod_fb {b n : Nat} {X Y : List (List Rat)} (hx : Rect n n X) (hy : Rect n n Y) (ax : AB b X) (ay : AB b Y) (h4 : n ≤ 4) (h1 : 1 ≤ b) (hb : b ≤ 100000) : AB (1 + 4 * (b + b + 1)) (prodF X Y) := fun r hr x hxm => by
  unfold prodF at hr
  obtain ⟨k, hk, rfl⟩ := List.mem_map.mp hr
  obtain ⟨c, hc, rfl⟩ := List.mem_map.mp hxm
  rw [List.mem_range] at hk hc
  have hcol : ∀ v ∈ colF Y c, FB b v := fun v hv => by
    unfold colF at hv
    obtain ⟨row, hrow, rfl⟩ := List.mem_map.mp hv
    by_cases hi : c < row.length
    · exact ay row hrow _ (List.mem_of_getElem? (ap_some hi))
    · rw [ap_out (by omega)]; exact FB.zero.mono h1
  refine put_fb ax hcol (by unfold colF; rw [List.length_map, hy.len]; exact h4) hb _ (List.mem_of_getElem? (ap_some ?_))
  unfold putF
  rw [List.length_map]; exact hk
end D

set_option exponentiation.threshold 256
set_option pp.maxSteps 5000
set_option Elab.async false
set_option linter.all false
set_option maxRecDepth 100000
set_option maxHeartbeats 4000000
/-! PS: programs small enough to be shown; bodies that grow at their end. -/
namespace D
open PySem PySem.Spec PyProof.Rows L2
theorem Lx.del {m l p : Addr} {c : Nat} {rm : Int} {mo : Option (List Str)} {μ : Mu} (h : Lx m l c rm mo μ) (h1 : p ≠ m) (h2 : p ≠ l) {o : MO} : Lx m l c rm mo (μ.upd p o) := by
  obtain ⟨⟨fs, left, a, g1, g2, g3⟩, h7⟩ := h
  exact ⟨⟨fs, left, a, by rw [Mu.upd_ne (Ne.symm h1)]; exact g1, by rw [Mu.upd_ne (Ne.symm h2)]; exact g2, g3⟩, h7⟩
/-- small data to show -/
def ThSm (x : A) : Prop := isShow x = true ∧ shl x ≤ 2000 ∧ ∀ n d : Int, x = .tup [.int n, .int d] → n.natAbs ≤ 10 ^ 20 ∧ d ≤ 9
theorem let_lt {w : Str} (h : letA w = true) : ∀ c ∈ w.cps.toList, c < 16 ^ 8 := fun c hc => by
  have h1 := of_decide_eq_true (List.all_eq_true.mp h c hc)
  have h2 : LETS.cps.toList.all (fun c => decide (c < 16 ^ 8)) = true := by decide
  exact of_decide_eq_true (List.all_eq_true.mp h2 c h1)
theorem shl_let {w : Str} (h : letA w = true) (hl : w.length ≤ 8) : shl (.str w) ≤ 82 := by
  have := StrLaws.reprText_len w (let_lt h)
  simp only [shl]; omega
theorem thSm_str {w : Str} (h : letA w = true) (hl : w.length ≤ 8) : ThSm (.str w) := ⟨rfl, Nat.le_trans (shl_let h hl) (by decide), fun _ _ e => nomatch e⟩
theorem log_small {n : Int} (h : n.natAbs ≤ 10 ^ 20) : n.natAbs.log2 < 1920 := by
  by_cases h0 : n.natAbs = 0
  · rw [h0]; decide
  · have h1 : n.natAbs.log2 < 70 := (Nat.log2_lt h0).mpr (Nat.lt_of_le_of_lt h (by decide))
    omega
theorem shl_int (n : Int) : shl (.int n) ≤ 1922 := by simp only [shl]; split <;> omega
theorem thSm_fr {n d : Int} (h : n.natAbs ≤ 10 ^ 20) (d0 : 1 ≤ d) (hd : d ≤ 9) : ThSm (.tup [.int n, .int d]) := by
  refine ⟨?_, ?_, fun n' d' e => by cases e; exact ⟨h, hd⟩⟩
  · simp only [isShow, isShows, Bool.and_true, Bool.and_eq_true, decide_eq_true_eq]
    exact ⟨log_small h, log_small (Nat.le_trans (show d.natAbs ≤ 9 by omega) (by decide))⟩
  · have h1 := shl_int n
    have h2 : shl (.int d) = 20 := by simp only [shl]; rw [if_pos (Nat.lt_of_le_of_lt (show d.natAbs ≤ 9 by omega) (by decide))]
    simp only [shl, shls] at h1 h2 ⊢
    omega
theorem thSm_int {k : Int} (h : k.natAbs ≤ 9) : ThSm (.int k) := by
  refine ⟨by simp only [isShow, decide_eq_true_eq]; exact log_small (Nat.le_trans h (by decide)), Nat.le_trans (shl_int k) (by decide), fun _ _ e => nomatch e⟩
theorem sm_list : ∀ {l : List A}, (∀ a ∈ l, ThSm a) → isShows l = true ∧ shls l ≤ 2002 * l.length
  | [], _ => ⟨rfl, Nat.le_refl _⟩
  | x :: l, h => by
    obtain ⟨h1, h2⟩ := sm_list fun a ha => h a (List.mem_cons_of_mem _ ha)
    obtain ⟨h3, h4, _⟩ := h x (List.mem_cons_self ..)
    exact ⟨by simp only [isShows, h1, h3, Bool.and_self], by simp only [shls, List.length_cons]; omega⟩
/-- a row's shown length is bounded -/
def RowSm (w : Str) (ts : List A) : Prop := ts.length ≤ 5 ∧ (∀ a ∈ ts, ThSm a) ∧ shl (.str w) ≤ 200
mutual
def It.sm : It → Prop
  | .row x w ts => shl (.str x) ≤ 82 ∧ RowSm w ts
  | .rep n b => 0 ≤ n ∧ n ≤ 5 ∧ smIts b
def smIts : List It → Prop
  | [] => True
  | i :: r => i.sm ∧ smIts r
end
mutual
theorem It.sm_shl : ∀ {i : It}, i.sm → isShow i.a = true ∧ shl i.a + 2 ≤ 12000 * i.size
  | .row x w ts, h => by
    simp only [It.sm] at h
    obtain ⟨h0, h1, h2, h3⟩ := h
    obtain ⟨g1, g2⟩ := sm_list h2
    have e0 : shl (.str "row") ≤ 82 := by decide +kernel
    refine ⟨by simp only [It.a, isShow, isShows, g1, Bool.and_self], ?_⟩
    simp only [It.a, It.size]
    rw [shl, shls, shls, shls, shls, shls, shl.eq_7]
    omega
  | .rep n b, h => by
    simp only [It.sm] at h
    obtain ⟨h0, h1, h2⟩ := h
    obtain ⟨g1, g2⟩ := smIts_shl h2
    have e0 : shl (.str "repeat") ≤ 100 := by decide +kernel
    have e1 := shl_int n
    refine ⟨by simp only [It.a, isShow, isShows, g1, Bool.and_true, Bool.true_and, decide_eq_true_eq]; exact log_small (Nat.le_trans (show n.natAbs ≤ 5 by omega) (by decide)), ?_⟩
    simp only [It.a, It.size]
    rw [shl, shls, shls, shls, shls, shl.eq_7]
    omega
theorem smIts_shl : ∀ {l : List It}, smIts l → isShows (aIts l) = true ∧ shls (aIts l) ≤ 12000 * sizeIts l
  | [], _ => ⟨rfl, Nat.zero_le _⟩
  | i :: r, h => by
    simp only [smIts] at h
    obtain ⟨h1, h2⟩ := It.sm_shl h.1
    obtain ⟨h3, h4⟩ := smIts_shl h.2
    exact ⟨by simp only [aIts, isShows, h1, h3, Bool.and_self], by simp only [aIts, shls, sizeIts]; omega⟩
end
mutual
theorem It.sm_ts : ∀ {i : It}, i.sm → i.tsOk
  | .row x w ts, h => by simp only [It.sm] at h; simp only [It.tsOk]; have := h.2.1; omega
  | .rep n b, h => by simp only [It.sm] at h; simp only [It.tsOk]; exact smIts_ts h.2.2
theorem smIts_ts : ∀ {l : List It}, smIts l → tsIts l
  | [], _ => trivial
  | i :: r, h => by simp only [smIts] at h; simp only [tsIts]; exact ⟨It.sm_ts h.1, smIts_ts h.2⟩
end
/-! ### bodies that grow at their end -/
theorem aIts_snoc (i : It) : ∀ b : List It, aIts (b ++ [i]) = aIts b ++ [i.a]
  | [] => rfl
  | x :: b => by simp only [List.cons_append, aIts, aIts_snoc i b]
theorem told_snoc (i : It) : ∀ (b : List It) (T : List Str), toldIts (b ++ [i]) T = i.told (toldIts b T)
  | [], _ => by simp only [List.nil_append, toldIts]
  | x :: b, T => by simp only [List.cons_append, toldIts, told_snoc i b]
theorem size_snoc (i : It) : ∀ b : List It, sizeIts (b ++ [i]) = sizeIts b + i.size
  | [] => by simp [sizeIts]
  | x :: b => by simp only [List.cons_append, sizeIts, size_snoc i b]; omega
theorem sm_snoc {i : It} (hi : i.sm) : ∀ {b : List It}, smIts b → smIts (b ++ [i])
  | [], _ => by simp only [List.nil_append, smIts]; exact ⟨hi, trivial⟩
  | x :: b, h => by simp only [smIts] at h; simp only [List.cons_append, smIts]; exact ⟨h.1, sm_snoc hi h.2⟩
theorem ok_snoc {Pn : List (Str × Int)} {i : It} : ∀ {b : List It} {d : Nat} {T : List Str}, okIts Pn d T b → i.ok Pn d (toldIts b T) → okIts Pn d T (b ++ [i])
  | [], d, T, _, h => by simp only [List.nil_append, okIts]; exact ⟨by simpa only [toldIts] using h, trivial⟩
  | x :: b, d, T, h, hi => by
    simp only [okIts] at h
    simp only [toldIts] at hi
    simp only [List.cons_append, okIts]
    exact ⟨h.1, ok_snoc h.2 hi⟩
mutual
theorem It.ok_down {Pn : List (Str × Int)} : ∀ {i : It} {d : Nat} {T : List Str}, i.ok Pn (d + 1) T → i.ok Pn d T
  | .row x w ts, d, T, h => by simp only [It.ok] at h ⊢; exact ⟨by omega, h.2⟩
  | .rep n b, d, T, h => by simp only [It.ok] at h ⊢; exact ⟨by omega, h.2.1, h.2.2.1, okIts_down h.2.2.2⟩
theorem okIts_down {Pn : List (Str × Int)} : ∀ {l : List It} {d : Nat} {T : List Str}, okIts Pn (d + 1) T l → okIts Pn d T l
  | [], _, _, _ => trivial
  | i :: r, d, T, h => by simp only [okIts] at h ⊢; exact ⟨It.ok_down h.1, okIts_down h.2⟩
end
/-- the same names, whatever their order -/
def Same (T T0 : List Str) : Prop := ∀ w, w ∈ T ↔ w ∈ T0
theorem Same.refl (T : List Str) : Same T T := fun _ => .rfl
mutual
theorem told_same : ∀ (i : It) {T T0 : List Str}, Same T T0 → Same (i.told T) (i.told T0)
  | .row x w ts, T, T0, h => fun v => by simp only [It.told, mem_insT]; rw [h v]
  | .rep n b, T, T0, h => by simp only [It.told]; exact tolds_same b h
theorem tolds_same : ∀ (l : List It) {T T0 : List Str}, Same T T0 → Same (toldIts l T) (toldIts l T0)
  | [], _, _, h => by simp only [toldIts]; exact h
  | i :: r, _, _, h => by simp only [toldIts]; exact tolds_same r (told_same i h)
end
theorem ThOk.same {T T0 : List Str} {x : A} (h : ThOk T x) (s : Same T T0) : ThOk T0 x := h.up fun y hy => (s y).mp hy
theorem RowOk.same {Pn : List (Str × Int)} {T T0 : List Str} {w : Str} {ts : List A} (h : RowOk Pn T w ts) (s : Same T T0) : RowOk Pn T0 w ts := h.up fun y hy => (s y).mp hy
mutual
theorem It.ok_same {Pn : List (Str × Int)} : ∀ {i : It} {d : Nat} {T T0 : List Str}, i.ok Pn d T → Same T T0 → i.ok Pn d T0
  | .row x w ts, d, T, T0, h, s => by simp only [It.ok] at h ⊢; exact ⟨h.1, h.2.1, h.2.2.same s⟩
  | .rep n b, d, T, T0, h, s => by simp only [It.ok] at h ⊢; exact ⟨h.1, h.2.1, h.2.2.1, okIts_same h.2.2.2 s⟩
theorem okIts_same {Pn : List (Str × Int)} : ∀ {l : List It} {d : Nat} {T T0 : List Str}, okIts Pn d T l → Same T T0 → okIts Pn d T0 l
  | [], _, _, _, _, _ => trivial
  | i :: r, d, T, T0, h, s => by simp only [okIts] at h ⊢; exact ⟨It.ok_same h.1 s, okIts_same h.2 (told_same i s)⟩
end
/-- what a law's row tells -/
def putT (T : List Str) (w : Str) : List Str := T.filter (fun x => decide (x ≠ w)) ++ [w]
theorem putT_same (T : List Str) (w : Str) : Same (putT T w) (insT T w) := fun v => by
  rw [mem_insT]
  simp only [putT, List.mem_append, List.mem_filter, List.mem_singleton, decide_eq_true_eq]
  constructor
  · rintro (⟨h, _⟩ | h)
    · exact .inl h
    · exact .inr h
  · rintro (h | h)
    · by_cases e : v = w
      · exact .inr e
      · exact .inl ⟨h, e⟩
    · exact .inr h
theorem putT_len (T : List Str) (w : Str) : (putT T w).length ≤ T.length + 1 := by
  simp only [putT, List.length_append, List.length_singleton]
  have := List.length_filter_le (fun x => decide (x ≠ w)) T
  omega
theorem putT_ne (T : List Str) (w : Str) : putT T w ≠ [] := by simp [putT]
theorem putT_all {P : Str → Prop} {T : List Str} {w : Str} (h : ∀ x ∈ T, P x) (hw : P w) : ∀ x ∈ putT T w, P x := fun x hx => by
  rcases List.mem_append.mp hx with h1 | h1
  · exact h x (List.mem_filter.mp h1).1
  · rw [List.mem_singleton.mp h1]; exact hw
/-! ### shown -/
theorem shls_nms : ∀ {l : List Str}, (∀ w ∈ l, isNm (.str w) = true) → isShows (l.map A.str) = true ∧ shls (l.map A.str) ≤ 84 * l.length
  | [], _ => ⟨rfl, Nat.le_refl _⟩
  | w :: l, h => by
    obtain ⟨h1, h2⟩ := shls_nms fun a ha => h a (List.mem_cons_of_mem _ ha)
    obtain ⟨g1, g2, _⟩ := isNm_let (h w (List.mem_cons_self ..))
    have g3 := shl_let g1 g2
    exact ⟨by simp only [List.map_cons, isShows, h1]; rfl, by simp only [List.map_cons, shls, List.length_cons]; omega⟩
structure Pt.sm (q : Pt) : Prop where
  nm : isNm (.str q.nm) = true
  ins : ∀ w ∈ q.ins, isNm (.str w) = true
  body : smIts q.body
  give : isNm (.str q.give) = true
theorem Pt.sm_shl {q : Pt} (h : q.sm) : isShow q.a = true ∧ shl q.a + 2 ≤ 12000 * q.size := by
  obtain ⟨a1, a2⟩ := smIts_shl h.body
  obtain ⟨b1, b2⟩ := shls_nms h.ins
  obtain ⟨g1, g2, _⟩ := isNm_let h.nm
  obtain ⟨k1, k2, _⟩ := isNm_let h.give
  have g3 := shl_let g1 g2
  have k3 := shl_let k1 k2
  refine ⟨by simp only [Pt.a, isShow, isShows, a1, b1, Bool.and_self], ?_⟩
  simp only [Pt.a, Pt.size]
  rw [shl, shls, shls, shls, shls, shls, shl.eq_7, shl.eq_7]
  omega
theorem shls_pts : ∀ {l : List Pt}, (∀ q ∈ l, q.sm) → isShows (l.map Pt.a) = true ∧ shls (l.map Pt.a) ≤ 12000 * sizePts l
  | [], _ => ⟨rfl, Nat.zero_le _⟩
  | q :: l, h => by
    obtain ⟨h1, h2⟩ := shls_pts fun a ha => h a (List.mem_cons_of_mem _ ha)
    obtain ⟨g1, g2⟩ := Pt.sm_shl (h q (List.mem_cons_self ..))
    refine ⟨by simp only [List.map_cons, isShows, g1, h1, Bool.and_self], ?_⟩
    simp only [List.map_cons, shls, sizePts, List.map_cons, List.sum_cons] at h2 ⊢
    omega
structure Pg.sm (g : Pg) : Prop where
  parts : ∀ q ∈ g.parts, q.sm
  body : smIts g.body
theorem Pg.show {g : Pg} (ok : g.ok) (h : g.sm) : ShowOk g.a := by
  obtain ⟨a1, a2⟩ := smIts_shl h.body
  obtain ⟨b1, b2⟩ := shls_nms ok.ins
  obtain ⟨c1, c2⟩ := shls_nms (l := g.outs) fun w hw => (ok.outs w hw).1
  obtain ⟨d1, d2⟩ := shls_pts h.parts
  have hz := ok.size
  refine ⟨by simp only [Pg.a, isShow, isShows, a1, b1, c1, d1, Bool.and_self], ?_, ?_⟩
  · have e1 := (datIts ok.body).2
    have e2 : ∀ l : List Str, deeps (l.map A.str) ≤ 0 := fun l => deeps_le fun a ha => by
      obtain ⟨w, _, rfl⟩ := List.mem_map.mp ha
      simp [deep]
    have e3 : ∀ {l : List Pt} {Pn : List (Str × Int)}, okPts Pn l → deeps (l.map Pt.a) ≤ 13 := by
      intro l
      induction l with
      | nil => intro _ _; simp [deeps]
      | cons q l ih =>
        intro Pn h
        simp only [okPts] at h
        have i1 := ih h.2
        have i2 := (datIts h.1.body).2
        have i3 := e2 q.ins
        simp only [List.map_cons, deeps, Pt.a, deep]
        omega
    have f1 := e2 g.ins
    have f2 := e2 g.outs
    have f3 := e3 ok.parts
    simp only [Pg.a, deep, deeps]
    omega
  · simp only [Pg.size] at hz
    simp only [Pg.a]
    rw [shl, shls, shls, shls, shls, shls, shl.eq_7, shl.eq_7, shl.eq_7, shl.eq_7]
    have : sizeLine = 16777216 := rfl
    omega
end D

set_option exponentiation.threshold 256
set_option pp.maxSteps 5000
set_option Elab.async false
set_option linter.all false
set_option pp.maxSteps 300
set_option maxRecDepth 100000
set_option maxHeartbeats 4000000
namespace D
open PySem PySem.Spec PyProof.Rows L2
def topS (i : Nat) : Stmt := PySem.Challenge.pw_slopehouse_k70_squares.main.body.getD i (.Pass ⟨0, 0, 0, 0⟩)
/-- the names that nobody has taken, the constants, the classes -/
structure Txt (K : PySem.W.Frag) (mg : Str → Option Value) (CF CS : Addr) : Prop where
  b_range : mg "range" = none
  b_len : mg "len" = none
  b_abs : mg "abs" = none
  b_min : mg "min" = none
  b_enumerate : mg "enumerate" = none
  b_zip : mg "zip" = none
  b_list : mg "list" = none
  b_repr : mg "repr" = none
  b_int : mg "int" = none
  b_isinstance : mg "isinstance" = none
  b_ValueError : mg "ValueError" = none
  k_NOUGHT : Kn K mg "NOUGHT" (.tup [.int 0, .int 1])
  k_ONE : Kn K mg "ONE" (.tup [.int 1, .int 1])
  x_Flat : ExcN K mg "Flat" CF
  k_Flat : Kn K mg "Flat" (.loc CF)
  i_Flat : PySem.W.kitOne K (.ref CF) (.ref CF) = some true
  i_ValueError : PySem.W.kitOne K (.ref CF) (.type "ValueError") = some true
  e_Flat : ExcC K CF
  g_SlopeError : mg "SlopeError" = some (.ref CS)
  m_Flat : PySem.W.exmOne K (.ref CF) (.ref CS) = some true
end D

set_option exponentiation.threshold 256
set_option pp.maxSteps 5000
set_option Elab.async false
set_option linter.all false
set_option pp.maxSteps 300
set_option maxRecDepth 100000
set_option maxHeartbeats 4000000
namespace D
open PySem PySem.Spec PyProof.Rows L2
local macro_rules | `(tactic| walk_at "mul") => `(tactic| first | refine wO_mul (mulR (by first | decide | omega) (by first | decide | omega)) ?_ | refine wO_mul (mulL (by first | decide | omega) (by first | decide | omega)) ?_)
local macro_rules | `(tactic| walk_at "mod") => `(tactic| refine wO_mod (by first | decide | omega) ?_)
local macro_rules | `(tactic| walk_at "fdiv") => `(tactic| refine wO_fdiv (by first | decide | omega) (divS (by first | decide | omega)) ?_)
local macro_rules | `(tactic| walk_at "ix") => `(tactic| first | refine wI_tup (by rfl) ?_ | refine wI_lst (by rfl) ?_)
local macro_rules | `(tactic| walk_at "sl") => `(tactic| first | refine wSl_tup ?_ | refine wSl_lstF ?_)
local macro_rules | `(tactic| walk_at "obj") => `(tactic| refine ⟨_, _, _, rfl, by assumption, rfl, ?_⟩)
local macro_rules | `(tactic| walk_at "len") => `(tactic| first | refine wC_len (.tup _) ?_ | refine wC_len (.lst _) ?_ | refine wC_len (.loc (by assumption)) ?_)
section
variable {P : Program} {w : World} {mg : Str → Option Value} {base : Heap} {K : PySem.W.Frag} {CF CS : Addr} {k : Nat}
abbrev s_common : Stmt := topS 4
abbrev N_common : List Str := ["one", "other"]
theorem sc_common : FnScope N_common ["one", "other"] (defScope s_common) := ⟨rfl, rfl, rfl, by decide +kernel, rfl, by decide +kernel, by decide +kernel⟩
def c_common : AC := fun xs μ Q _ => ∃ a b : Int, xs = [.int a, .int b] ∧ Q (.int (Int.gcd a b : Nat)) μ
theorem ok_common {n : Nat}  {f : Addr} {fd : FuncData} (TX : Txt K mg CF CS)  (F : Fun K "common" "common" s_common f fd) : FnD P w K mg base CX0 (n + 1) f fd ["one", "other"] c_common := by
  refine fnD F sc_common (fun xs μ Q E hc => by obtain ⟨a, b, rfl, q⟩ := hc; rfl) (fun cdv Ao outer s H E xs μ Q E0 ar hc => ?_)
  obtain ⟨a, b, rfl, q⟩ := hc
  have nd := sc_common.nd
  refine wSs_cons (wS_par 0 1 (wA_cons (wE_callB (id := "abs") TX.b_abs (by decide +kernel) (wA_cons (wE_name 0 rfl (wA_nil ?_))))) nd)
  refine wC_abs ?_
  refine wA_cons (wE_callB (id := "abs") TX.b_abs (by decide +kernel) (wA_cons (wE_name 1 rfl (wA_nil ?_))))
  refine wC_abs ?_
  refine wA_nil ⟨_, _, rfl, (wSs_cons ?_)⟩
  refine wS_while (fun m Γ' μ' => ∃ x y : Nat, Γ' = [some (.int x), some (.int y)] ∧ μ = μ' ∧ Nat.gcd x y = Int.gcd a b ∧ y ≤ m) b.natAbs ⟨a.natAbs, b.natAbs, ?_, rfl, rfl, Nat.le_refl _⟩ (fun m Γ' μ' hW => ?_)
  · have e1 : (if a < 0 then -a else a) = (a.natAbs : Int) := by split <;> omega
    have e2 : (if b < 0 then -b else b) = (b.natAbs : Int) := by split <;> omega
    rw [e1, e2]; rfl
  obtain ⟨x, y, rfl, rfl, hg, hy⟩ := hW
  refine wT_cmp (wE_name 1 rfl (wE_int ?_))
  refine wO_gt ?_
  refine ⟨_, rfl, ?_⟩
  refine ⟨fun hk => ?_, fun hk => ?_⟩
  have hk2 : (0 : Int) < y := of_decide_eq_true hk
  refine wSs_cons (wS_par 0 1 (wA_cons (wE_name 1 rfl (wA_cons (wE_bin (wE_name 0 rfl (wE_name 1 rfl ?_)))))) nd)
  walk_at "mod"
  refine wA_nil ⟨_, _, rfl, (wSs_nil ?_)⟩
  refine ⟨x % y, Nat.lt_of_lt_of_le (Nat.mod_lt _ (by omega)) hy, y, x % y, rfl, rfl, ?_, Nat.le_refl _⟩
  rw [← hg, Nat.gcd_comm x y, Nat.gcd_rec y x, Nat.gcd_comm]
  have hk2 : ¬ (0 : Int) < y := of_decide_eq_false hk
  obtain rfl : y = 0 := by omega
  rw [Nat.gcd_zero_right] at hg
  refine wSs_cons (wS_ret (wE_name 0 rfl ?_))
  rw [hg]; exact q

abbrev s_fraction : Stmt := topS 5
abbrev N_fraction : List Str := ["n", "d", "part"]
theorem sc_fraction : FnScope N_fraction ["n", "d"] (defScope s_fraction) := ⟨rfl, rfl, rfl, by decide +kernel, rfl, by decide +kernel, by decide +kernel⟩
def c_fraction : AC := fun xs μ Q _ => ∃ n d : Int, xs = [.int n, .int d] ∧ d ≠ 0 ∧ Q (low n d) μ
abbrev dvs_fraction : List L2.V := [.int 1]
abbrev das_fraction : List D.A := [.int 1]
theorem ok_fraction {n : Nat} {n2 : 32 ≤ n} {far : Far P base} {f : Addr} {fd : FuncData} (TX : Txt K mg CF CS) (C_common : Cal P w K mg base n "common" c_common) (F : FunD K "fraction" "fraction" (defArgs s_fraction) (defBody s_fraction) (defScope s_fraction) dvs_fraction [] f fd) : FnD P w K mg base CX0 (n + 1) f fd ["n", "d"] c_fraction := by
  refine fnDD F sc_fraction (fun xs μ Q E hc => by obtain ⟨n, d, rfl, d0, q⟩ := hc; rfl) (fun cdv Ao outer s H E xs μ Q E0 ar hc => ?_)
  obtain ⟨n, d, rfl, d0, q⟩ := hc
  have nd := sc_fraction.nd
  refine wSs_cons (wS_set 2 (wE_cal C_common ar (by omega) (wA_cons (wE_name 0 rfl (wA_cons (wE_name 1 rfl (wA_nil ?_)))))) nd)
  refine ⟨n, d, rfl, ?_⟩
  refine wSs_cons (wS_set 2 ?_ nd)
  refine wE.imp (Q := fun z μ' => μ = μ' ∧ z = .int (part n d)) ?_ (fun z μ' hz => ?_)
  refine wE_if (wT_cmp (wE_name 1 rfl (wE_int ?_)))
  refine wO_gt ?_
  refine ⟨_, rfl, ?_⟩
  refine ⟨fun hk => ?_, fun hk => ?_⟩
  refine wE_name 2 rfl ?_
  exact ⟨rfl, by unfold part; rw [if_pos (of_decide_eq_true hk)]⟩
  refine wE_bin (wE_int (wE_name 2 rfl ?_))
  refine wO_sub ?_
  exact ⟨rfl, by unfold part; rw [if_neg (of_decide_eq_false hk)]⟩
  obtain ⟨rfl, rfl⟩ := hz
  refine wSs_cons (wS_ret (wE_tup (wA_cons (wE_bin (wE_name 0 rfl (wE_name 2 rfl ?_))))))
  refine wO_fdivF far ar n2 (part_ne d0) ?_
  refine wA_cons (wE_bin (wE_name 1 rfl (wE_name 2 rfl ?_)))
  refine wO_fdivF far ar n2 (part_ne d0) ?_
  refine wA_nil ⟨by show 2 ≤ sizeLine; decide, ?_⟩
  exact q

abbrev s_plus : Stmt := topS 6
abbrev N_plus : List Str := ["one", "other"]
theorem sc_plus : FnScope N_plus ["one", "other"] (defScope s_plus) := ⟨rfl, rfl, rfl, by decide +kernel, rfl, by decide +kernel, by decide +kernel⟩
def c_plus : AC := fun xs μ Q _ => ∃ (x y : Rat) (n m : Nat), xs = [ra x, ra y] ∧ FB n x ∧ FB m y ∧ n + m ≤ 2 ^ 27 ∧ Q (ra (x + y)) μ
theorem ok_plus {n : Nat}  {f : Addr} {fd : FuncData} (TX : Txt K mg CF CS) (C_fraction : Cal P w K mg base n "fraction" c_fraction) (F : Fun K "plus" "plus" s_plus f fd) : FnD P w K mg base CX0 (n + 1) f fd ["one", "other"] c_plus := by
  refine fnD F sc_plus (fun xs μ Q E hc => by obtain ⟨x, y, n, m, rfl, hx, hy, hnm, q⟩ := hc; rfl) (fun cdv Ao outer s H E xs μ Q E0 ar hc => ?_)
  obtain ⟨x, y, n, m, rfl, hx, hy, hnm, q⟩ := hc
  have nd := sc_plus.nd
  refine wSs_cons (wS_ret (wE_cal C_fraction ar (by omega) (wA_cons (wE_bin (wE_bin (wE_ix (wE_name 0 rfl (wE_int ?_))))))))
  walk_at "ix"
  refine wE_ix (wE_name 1 rfl (wE_int ?_))
  walk_at "ix"
  refine wO_mul (hx.u.mulFar hy.d hnm) ?_
  refine wE_bin (wE_ix (wE_name 1 rfl (wE_int ?_)))
  walk_at "ix"
  refine wE_ix (wE_name 0 rfl (wE_int ?_))
  walk_at "ix"
  refine wO_mul (hy.u.mulFar hx.d (by omega)) ?_
  refine wO_add ?_
  refine wA_cons (wE_bin (wE_ix (wE_name 0 rfl (wE_int ?_))))
  walk_at "ix"
  refine wE_ix (wE_name 1 rfl (wE_int ?_))
  walk_at "ix"
  refine wO_mul (hx.d.mulFar hy.d hnm) ?_
  refine wA_nil ?_
  refine ⟨_, _, rfl, Int.mul_ne_zero den_ne den_ne, ?_⟩
  rw [ra_add]
  exact q

abbrev s_less : Stmt := topS 7
abbrev N_less : List Str := ["one", "other"]
theorem sc_less : FnScope N_less ["one", "other"] (defScope s_less) := ⟨rfl, rfl, rfl, by decide +kernel, rfl, by decide +kernel, by decide +kernel⟩
def c_less : AC := fun xs μ Q _ => ∃ (x y : Rat) (n m : Nat), xs = [ra x, ra y] ∧ FB n x ∧ FB m y ∧ n + m ≤ 2 ^ 27 ∧ Q (ra (x - y)) μ
theorem ok_less {n : Nat}  {f : Addr} {fd : FuncData} (TX : Txt K mg CF CS) (C_fraction : Cal P w K mg base n "fraction" c_fraction) (F : Fun K "less" "less" s_less f fd) : FnD P w K mg base CX0 (n + 1) f fd ["one", "other"] c_less := by
  refine fnD F sc_less (fun xs μ Q E hc => by obtain ⟨x, y, n, m, rfl, hx, hy, hnm, q⟩ := hc; rfl) (fun cdv Ao outer s H E xs μ Q E0 ar hc => ?_)
  obtain ⟨x, y, n, m, rfl, hx, hy, hnm, q⟩ := hc
  have nd := sc_less.nd
  refine wSs_cons (wS_ret (wE_cal C_fraction ar (by omega) (wA_cons (wE_bin (wE_bin (wE_ix (wE_name 0 rfl (wE_int ?_))))))))
  walk_at "ix"
  refine wE_ix (wE_name 1 rfl (wE_int ?_))
  walk_at "ix"
  refine wO_mul (hx.u.mulFar hy.d hnm) ?_
  refine wE_bin (wE_ix (wE_name 1 rfl (wE_int ?_)))
  walk_at "ix"
  refine wE_ix (wE_name 0 rfl (wE_int ?_))
  walk_at "ix"
  refine wO_mul (hy.u.mulFar hx.d (by omega)) ?_
  refine wO_sub ?_
  refine wA_cons (wE_bin (wE_ix (wE_name 0 rfl (wE_int ?_))))
  walk_at "ix"
  refine wE_ix (wE_name 1 rfl (wE_int ?_))
  walk_at "ix"
  refine wO_mul (hx.d.mulFar hy.d hnm) ?_
  refine wA_nil ?_
  refine ⟨_, _, rfl, Int.mul_ne_zero den_ne den_ne, ?_⟩
  rw [ra_sub]
  exact q

abbrev s_times : Stmt := topS 8
abbrev N_times : List Str := ["one", "other"]
theorem sc_times : FnScope N_times ["one", "other"] (defScope s_times) := ⟨rfl, rfl, rfl, by decide +kernel, rfl, by decide +kernel, by decide +kernel⟩
def c_times : AC := fun xs μ Q _ => ∃ (x y : Rat) (n m : Nat), xs = [ra x, ra y] ∧ FB n x ∧ FB m y ∧ n + m ≤ 2 ^ 27 ∧ Q (ra (x * y)) μ
theorem ok_times {n : Nat}  {f : Addr} {fd : FuncData} (TX : Txt K mg CF CS) (C_fraction : Cal P w K mg base n "fraction" c_fraction) (F : Fun K "times" "times" s_times f fd) : FnD P w K mg base CX0 (n + 1) f fd ["one", "other"] c_times := by
  refine fnD F sc_times (fun xs μ Q E hc => by obtain ⟨x, y, n, m, rfl, hx, hy, hnm, q⟩ := hc; rfl) (fun cdv Ao outer s H E xs μ Q E0 ar hc => ?_)
  obtain ⟨x, y, n, m, rfl, hx, hy, hnm, q⟩ := hc
  have nd := sc_times.nd
  refine wSs_cons (wS_ret (wE_cal C_fraction ar (by omega) (wA_cons (wE_bin (wE_ix (wE_name 0 rfl (wE_int ?_)))))))
  walk_at "ix"
  refine wE_ix (wE_name 1 rfl (wE_int ?_))
  walk_at "ix"
  refine wO_mul (hx.u.mulFar hy.u hnm) ?_
  refine wA_cons (wE_bin (wE_ix (wE_name 0 rfl (wE_int ?_))))
  walk_at "ix"
  refine wE_ix (wE_name 1 rfl (wE_int ?_))
  walk_at "ix"
  refine wO_mul (hx.d.mulFar hy.d hnm) ?_
  refine wA_nil ?_
  refine ⟨_, _, rfl, Int.mul_ne_zero den_ne den_ne, ?_⟩
  rw [ra_mul]
  exact q

abbrev s_over : Stmt := topS 9
abbrev N_over : List Str := ["one", "other"]
theorem sc_over : FnScope N_over ["one", "other"] (defScope s_over) := ⟨rfl, rfl, rfl, by decide +kernel, rfl, by decide +kernel, by decide +kernel⟩
def c_over : AC := fun xs μ Q _ => ∃ (x y : Rat) (n m : Nat), xs = [ra x, ra y] ∧ FB n x ∧ FB m y ∧ n + m ≤ 2 ^ 27 ∧ y ≠ 0 ∧ Q (ra (x / y)) μ
theorem ok_over {n : Nat}  {f : Addr} {fd : FuncData} (TX : Txt K mg CF CS) (C_fraction : Cal P w K mg base n "fraction" c_fraction) (F : Fun K "over" "over" s_over f fd) : FnD P w K mg base CX0 (n + 1) f fd ["one", "other"] c_over := by
  refine fnD F sc_over (fun xs μ Q E hc => by obtain ⟨x, y, n, m, rfl, hx, hy, hnm, y0, q⟩ := hc; rfl) (fun cdv Ao outer s H E xs μ Q E0 ar hc => ?_)
  obtain ⟨x, y, n, m, rfl, hx, hy, hnm, y0, q⟩ := hc
  have nd := sc_over.nd
  refine wSs_cons (wS_ret (wE_cal C_fraction ar (by omega) (wA_cons (wE_bin (wE_ix (wE_name 0 rfl (wE_int ?_)))))))
  walk_at "ix"
  refine wE_ix (wE_name 1 rfl (wE_int ?_))
  walk_at "ix"
  refine wO_mul (hx.u.mulFar hy.d hnm) ?_
  refine wA_cons (wE_bin (wE_ix (wE_name 0 rfl (wE_int ?_))))
  walk_at "ix"
  refine wE_ix (wE_name 1 rfl (wE_int ?_))
  walk_at "ix"
  refine wO_mul (hx.d.mulFar hy.u hnm) ?_
  refine wA_nil ?_
  refine ⟨_, _, rfl, Int.mul_ne_zero den_ne (fun z => y0 (num_zero.mp z)), ?_⟩
  rw [ra_div _ _ (fun z => y0 (num_zero.mp z))]
  exact q

abbrev s_unit : Stmt := topS 13
abbrev N_unit : List Str := ["many", "j", "k"]
theorem sc_unit : FnScope N_unit ["many"] (defScope s_unit) := ⟨rfl, rfl, rfl, by decide +kernel, rfl, by decide +kernel, by decide +kernel⟩
def c_unit : AC := fun xs μ Q _ => ∃ n : Nat, xs = [.int n] ∧ n ≤ 4 ∧ Q (.lst (rls (unitF n))) μ
theorem ra_one' : D.A.tup [.int 1, .int 1] = ra 1 := rfl
theorem ra_zero' : D.A.tup [.int 0, .int 1] = ra 0 := rfl
theorem ok_unit {n : Nat}  {f : Addr} {fd : FuncData} (TX : Txt K mg CF CS)  (F : Fun K "unit" "unit" s_unit f fd) : FnD P w K mg base CX0 (n + 1) f fd ["many"] c_unit := by
  refine fnD F sc_unit (fun xs μ Q E hc => by obtain ⟨n, rfl, h4, q⟩ := hc; rfl) (fun cdv Ao outer s H E xs μ Q E0 ar hc => ?_)
  obtain ⟨n, rfl, h4, q⟩ := hc
  have nd := sc_unit.nd
  refine wSs_cons (wS_ret (wE_lcF (own := [("k", 2)]) (wIt_range1 TX.b_range (wA_cons (wE_name 0 rfl (wA_nil ⟨_, rfl, by omega, by omega, ?_⟩)))) nd (blkOk_by (N := N_unit) (sc := defScope s_unit) (by decide +kernel))))
  refine ⟨szOk (by rw [rgA_len]; omega), rls (unitF n), by rw [rgA_len]; unfold rls; rw [List.length_map, unit_len]; omega, fun i y z hy hz s0 H0 C cl fp => ?_, ?_⟩
  obtain ⟨hi, rfl⟩ := rgA_at hy
  obtain ⟨r, hr, rfl⟩ := map_at hz
  obtain ⟨i2, hi2, rfl⟩ := map_at hr
  obtain rfl : i2 = i := by
    rw [List.getElem?_range (by omega)] at hi2
    exact (Option.some.inj hi2).symm
  refine wGw_name 2 (⟨rfl, fun s0 H0 C cl fp => (wE_lcF (own := [("j", 1)]) (wIt_range1 TX.b_range (wA_cons (wE_name 0 rfl (wA_nil ⟨_, rfl, by omega, by omega, ?_⟩)))) nd (blkOk_by (by kernel_rfl)))⟩) nd
  refine ⟨szOk (by rw [rgA_len]; omega), rl ((List.range n).map fun j => if i2 = j then 1 else 0), by rw [rgA_len, rl_len, List.length_map, List.length_range]; omega, fun j y z hy hz s0 H0 C cl fp => ?_, ?_⟩
  obtain ⟨hj, rfl⟩ := rgA_at hy
  obtain ⟨v, hv, rfl⟩ := map_at hz
  obtain ⟨j2, hj2, rfl⟩ := map_at hv
  obtain rfl : j2 = j := by
    rw [List.getElem?_range (by omega)] at hj2
    exact (Option.some.inj hj2).symm
  refine wGw_name 1 (⟨rfl, fun s0 H0 C cl fp => ?_⟩) nd
  refine wE_if (wT_cmp (wE_name 2 rfl (wE_name 1 rfl ?_)))
  refine wO_eqI ?_
  refine ⟨_, rfl, ?_⟩
  refine ⟨fun hk => ?_, fun hk => ?_⟩
  refine wE_glob TX.k_ONE ?_
  have e : i2 = j2 := by have := of_decide_eq_true hk; omega
  exact ⟨by rw [if_pos e]; rfl, .refl _⟩
  refine wE_glob TX.k_NOUGHT ?_
  refine ⟨?_, .refl _⟩
  have e : ¬ i2 = j2 := by have := of_decide_eq_false hk; omega
  rw [if_neg e]; rfl
  refine ⟨?_, .refl _⟩
  rfl
  exact q

end
end D

set_option exponentiation.threshold 256
set_option pp.maxSteps 5000
set_option Elab.async false
set_option linter.all false
set_option pp.maxSteps 300
set_option maxRecDepth 100000
set_option maxHeartbeats 4000000
namespace D
open PySem PySem.Spec PyProof.Rows L2
local macro_rules | `(tactic| walk_at "mul") => `(tactic| first | refine wO_mul (mulR (by first | decide | omega) (by first | decide | omega)) ?_ | refine wO_mul (mulL (by first | decide | omega) (by first | decide | omega)) ?_)
local macro_rules | `(tactic| walk_at "mod") => `(tactic| refine wO_mod (by first | decide | omega) ?_)
local macro_rules | `(tactic| walk_at "fdiv") => `(tactic| refine wO_fdiv (by first | decide | omega) (divS (by first | decide | omega)) ?_)
local macro_rules | `(tactic| walk_at "ix") => `(tactic| first | refine wI_tup (by rfl) ?_ | refine wI_lst (by rfl) ?_)
local macro_rules | `(tactic| walk_at "sl") => `(tactic| first | refine wSl_tup ?_ | refine wSl_lstF ?_)
local macro_rules | `(tactic| walk_at "obj") => `(tactic| refine ⟨_, _, _, rfl, by assumption, rfl, ?_⟩)
local macro_rules | `(tactic| walk_at "len") => `(tactic| first | refine wC_len (.tup _) ?_ | refine wC_len (.lst _) ?_ | refine wC_len (.loc (by assumption)) ?_)
section
variable {P : Program} {w : World} {mg : Str → Option Value} {base : Heap} {K : PySem.W.Frag} {CF CS : Addr} {k : Nat}
abbrev s_cleared : Stmt := topS 14
abbrev N_cleared : List Str := ["rows", "at", "some", "k", "own", "one", "found", "row", "other"]
theorem sc_cleared : FnScope N_cleared ["rows", "at"] (defScope s_cleared) := ⟨rfl, rfl, rfl, by decide +kernel, rfl, by decide +kernel, by decide +kernel⟩
def c_cleared : AC := fun xs μ Q _ => ∃ (Z : List (List Rat)) (n w k b : Nat), xs = [.lst (rls Z), .int k] ∧ Rect n w Z ∧ n ≤ 4 ∧ n ≤ w ∧ w ≤ 8 ∧ k < n ∧ AB b Z ∧ 1 ≤ b ∧ b ≤ 100000 ∧ (pivs Z n k = [] → Q .non μ) ∧ (∀ i l, pivs Z n k = i :: l → Q (.lst (rls (clL (swL Z k (k + i)) k))) μ)
theorem ok_cleared {n : Nat}  {f : Addr} {fd : FuncData} (TX : Txt K mg CF CS) (C_over : Cal P w K mg base n "over" c_over) (C_less : Cal P w K mg base n "less" c_less) (C_times : Cal P w K mg base n "times" c_times) (F : Fun K "cleared" "cleared" s_cleared f fd) : FnD P w K mg base CX0 (n + 1) f fd ["rows", "at"] c_cleared := by
  refine fnD F sc_cleared (fun xs μ Q E hc => by obtain ⟨Z, n, w, k, b, rfl, hr, h4, hw, w8, hk0, hb, b1, b2, q0, q1⟩ := hc; rfl) (fun cdv Ao outer s H E xs μ Q E0 ar hc => ?_)
  obtain ⟨Z, n, w, k, b, rfl, hr, h4, hw, w8, hk0, hb, b1, b2, q0, q1⟩ := hc
  have hl := hr.len
  have nd := sc_cleared.nd
  refine wSs_cons (wS_setLcPF [("k", 3)] 2 (wIt_range2 TX.b_range (wA_cons (wE_name 1 rfl (wA_cons (wE_callB (id := "len") TX.b_len (by decide +kernel) (wA_cons (wE_name 0 rfl (wA_nil ?_)))))))) nd (blkOk_by (N := N_cleared) (sc := defScope s_cleared) (by decide +kernel)) (sw_true rfl rfl rfl (by decide +kernel)))
  refine wC_len (.lst _) ?_
  rw [rls_len, hl]
  refine wA_nil ⟨_, _, rfl, by omega, ?_⟩
  refine ⟨szOk (by rw [rgA_len]; omega), (List.range (n - k)).map (fun i => decide (en Z (k + i) k ≠ 0)), (List.range (n - k)).map (fun i => D.A.int ((k : Int) + (i : Nat))), by rw [rgA_len, List.length_map, List.length_range]; omega, by rw [rgA_len, List.length_map, List.length_range]; omega, fun i y kk z hy hkk hz s0 H0 C cl fp => ?_, ?_⟩
  obtain ⟨hi, rfl⟩ := rgA_at hy
  obtain ⟨i1, hi1, rfl⟩ := map_at hkk
  obtain ⟨i2, hi2, rfl⟩ := map_at hz
  obtain rfl : i1 = i := by
    rw [List.getElem?_range (by omega)] at hi1
    exact (Option.some.inj hi1).symm
  obtain rfl : i2 = i1 := by
    rw [List.getElem?_range (by omega)] at hi2
    exact (Option.some.inj hi2).symm
  have hki : k + i2 < n := by omega
  refine wGw_name 3 (⟨rfl, ?_⟩) nd
  refine ⟨fun s0 H0 C cl fp => ?_, fun kt s0 H0 C cl fp => ?_⟩
  refine wT_cmp (wE_ix (wE_ix (wE_name 0 rfl (wE_name 3 rfl ?_))))
  refine wI_lst (rls_ix (k := k + i2) (by omega) (by omega)) ?_
  refine wE_name 1 rfl ?_
  refine wI_lst (rl_ix (k := k) rfl (by rw [hr.rw hki]; omega)) ?_
  refine wE_glob TX.k_NOUGHT ?_
  refine wO_neD (x := ra _) (y := ra 0) ar.u64 (dat_ra _) (dat_ra _) ?_
  rw [eqv_raF]
  refine ⟨_, rfl, ?_⟩
  exact ⟨by unfold en; rw [show (decide (ap (Z.getD (k + i2) []) k = 0)) = !decide (ap (Z.getD (k + i2) []) k ≠ 0) by simp, Bool.not_not], .refl _⟩
  refine wE_name 3 rfl ?_
  refine ⟨?_, .refl _⟩
  rfl
  refine wSs_cons (wS_if (wT_cmp (wE_name 2 rfl (wE_lstF (wA_nil ⟨by show 0 ≤ sizeLine; decide, ?_⟩)))))
  rw [pickA_map]
  have e0 : ((List.range (n - k)).filter fun i => decide (en Z (k + i) k ≠ 0)) = pivs Z n k := rfl
  rw [e0]
  refine wO_eqL ar.u64 (.lst _) (.lst _) (dat_intsM _ _) dat_nil ?_
  refine ⟨_, rfl, ?_⟩
  rw [eqv_nilM]
  refine ⟨fun hk => ?_, fun hk => ?_⟩
  refine wSs_cons (wS_ret (wE_non ?_))
  exact q0 (of_decide_eq_true hk)
  have hk2 : pivs Z n k ≠ [] := of_decide_eq_false hk
  obtain ⟨i, l, hp⟩ : ∃ i l, pivs Z n k = i :: l := by
    cases e : pivs Z n k with
    | nil => exact absurd e hk2
    | cons i l => exact ⟨i, l, rfl⟩
  obtain ⟨hi, nz⟩ := pivs_head hp
  rw [hp]
  have Q1 := q1 i l hp
  refine wSs_nil ?_
  refine wSs_cons (wS_set 0 (wE_callTy (T := "list") TX.b_list (by decide +kernel) (wA_cons (wE_name 0 rfl (wA_nil ?_)))) nd)
  refine wC_list (.lst _) (fun p0 np0 => ?_)
  refine wSs_cons (wS_asg (wE_tup (wA_cons (wE_ix (wE_name 0 rfl (wE_ix (wE_name 2 rfl (wE_int ?_))))))))
  refine wI_lst (atI_pos (i := 0) (y := .int ((k : Int) + (i : Nat))) (by rfl) (by decide)) ?_
  refine wI_loc Mu.upd_same (rls_ix (k := k + i) (by omega) (by omega)) ?_
  refine wA_cons (wE_ix (wE_name 0 rfl (wE_name 1 rfl ?_)))
  refine wI_loc Mu.upd_same (rls_ix (k := k) rfl (by omega)) ?_
  refine wA_nil ⟨by show 2 ≤ sizeLine; decide, (wG_tup (wGs_cons (wG_sub (wE_name 0 rfl (wE_name 1 rfl ?_)))))⟩
  refine ⟨_, _, _, _, rfl, rfl, Mu.upd_same, ixN_pos (by omega) (by rw [rls_len]; omega), ?_⟩
  refine wGs_cons (wG_sub (wE_name 0 rfl (wE_ix (wE_name 2 rfl (wE_int ?_)))))
  refine wI_lst (atI_pos (i := 0) (y := .int ((k : Int) + (i : Nat))) (by rfl) (by decide)) ?_
  refine ⟨_, _, _, _, rfl, rfl, Mu.upd_same, ixN_pos (by omega) (by rw [List.length_set, rls_len]; omega), ?_⟩
  rw [Mu.upd_upd, Mu.upd_upd]
  refine wGs_nil ?_
  refine wSs_frz 0 (xs := rls (swL Z k (k + i))) (by rw [Mu.upd_same, show ((k : Int)).toNat = k by omega, show ((k : Int) + (i : Nat)).toNat = k + i by omega, sw_rls]) rfl ?_
  rw [Mu.del_upd np0]
  have hs := rect_sw hr hk0 hi
  have hsl := hs.len
  have hab := ab_sw hb (k := k) (p := k + i) (by omega) (by omega)
  have e1 : en (swL Z k (k + i)) k k = en Z (k + i) k := by rw [en_sw hr hk0 hi hk0]; unfold swN; rw [if_pos rfl]
  generalize swL Z k (k + i) = W at hs hsl hab e1 Q1 ⊢
  refine wSs_cons (wS_setLcF [("one", 5)] 4 (wIt_list (wE_ix (wE_name 0 rfl (wE_name 1 rfl ?_)))) nd (blkOk_by (N := N_cleared) (sc := defScope s_cleared) (by decide +kernel)) (sw_true rfl rfl rfl (by decide +kernel)))
  refine wI_lst (rls_ix (k := k) rfl (by omega)) ?_
  refine ⟨_, rfl, ?_⟩
  refine ⟨szOk (by rw [rl_len, hs.rw hk0]; omega), rl (ownL W k), by rw [rl_len, rl_len, own_len], fun j y z hy hz s0 H0 C cl fp => ?_, ?_⟩
  obtain ⟨v, hv, rfl⟩ := map_at hy
  obtain ⟨v1, hv1, rfl⟩ := map_at hz
  obtain ⟨v2, hv2, rfl⟩ := map_at hv1
  obtain rfl : v = v2 := Option.some.inj (hv.symm.trans hv2)
  refine wGw_name 5 (⟨rfl, fun s0 H0 C cl fp => (wE_cal C_over ar.bk (by omega) (wA_cons (wE_name 5 rfl (wA_cons (wE_ix (wE_ix (wE_name 0 rfl (wE_name 1 rfl ?_))))))))⟩) nd
  refine wI_lst (rls_ix (k := k) rfl (by omega)) ?_
  refine wE_name 1 rfl ?_
  refine wI_lst (rl_ix (k := k) rfl (by rw [hs.rw hk0]; omega)) ?_
  refine wA_nil ?_
  refine ⟨v, en W k k, b, b, rfl, hab _ (getD_mem (d := []) (by omega)) _ (List.mem_of_getElem? hv), hab.en b1 _ _, by omega, by rw [e1]; exact nz, ?_⟩
  refine ⟨?_, .refl _⟩
  rfl
  refine wSs_cons (wS_set 6 (wE_lst (wA_nil ⟨by show 0 ≤ sizeLine; decide, fun p_found np_found => (wSs_cons (wS_for (wIt_enum TX.b_enumerate (wA_cons (wE_name 0 rfl (wA_nil ⟨_, .inl rfl, ?_⟩))))))⟩)) nd)
  refine ⟨fun j Γ' μ' => ∃ x3 x5 x7 x8, Γ' = [some (.lst (rls W)), some (.int k), some (.lst ((i :: l).map fun i => D.A.int ((k : Int) + (i : Nat)))), x3, some (.lst (rl (ownL W k))), x5, some (.loc p_found), x7, x8] ∧ μ' = μ.upd p_found (.lst (rls ((clL W k).take j))), ⟨_, _, _, _, rfl, rfl⟩, fun j y Γ' μ' hy hI => ?_, fun Γ' μ' hI => ?_⟩
  obtain ⟨x3, x5, x7, x8, rfl, rfl⟩ := hI
  obtain ⟨x, hx, rfl⟩ := enumA_at hy
  obtain ⟨r, hrr, rfl⟩ := map_at hx
  have hj : j < n := by have := (List.getElem?_eq_some_iff.mp hrr).1; omega
  obtain rfl : r = W.getD j [] := (getD_some hrr).symm
  have snoc : ∀ r, rowL W k j = r → rls ((clL W k).take j) ++ [.lst (rl r)] = rls ((clL W k).take (j + 1)) := fun r e => by
    rw [List.take_add_one, some_getD [] (by rw [(rect_cl hs hk0).len]; exact hj), cl_at hs hj, e]
    unfold rls
    rw [List.map_append]; rfl
  refine wG_tup (wGs_cons (wG_name 3 (wGs_cons (wG_name 7 (wGs_nil ?_) nd)) nd))
  refine wSs_cut (fun Γ' μ' => ∃ x3 x5 x7 x8, Γ' = [some (.lst (rls W)), some (.int k), some (.lst ((i :: l).map fun i => D.A.int ((k : Int) + (i : Nat)))), x3, some (.lst (rl (ownL W k))), x5, some (.loc p_found), x7, x8] ∧ μ' = μ.upd p_found (.lst (rls ((clL W k).take (j + 1))))) ?_ (fun Γ' μ' hP => ?_)
  refine wS_if (wT_cmp (wE_name 3 rfl (wE_name 1 rfl ?_)))
  refine wO_eqI ?_
  refine ⟨_, rfl, ?_⟩
  refine ⟨fun hk => ?_, fun hk => ?_⟩
  refine wSs_cons (wS_expr (wE_append (wE_name 6 rfl ?_)))
  refine ⟨_, _, rfl, Mu.upd_same, ?_⟩
  refine wE_name 4 rfl ?_
  refine ⟨_, Mu.upd_same, szLt (by rw [rls_len, List.length_take]; omega), ?_⟩
  refine wSs_nil ?_
  have e : j = k := by have := of_decide_eq_true hk; omega
  exact ⟨_, _, _, _, rfl, by rw [Mu.upd_upd, snoc _ (if_pos e)]⟩
  refine wSs_cons (wS_expr (wE_append (wE_name 6 rfl ?_)))
  refine ⟨_, _, rfl, Mu.upd_same, ?_⟩
  refine wE_lcF (own := [("one", 5), ("other", 8)]) (wIt_zip TX.b_zip (wA_cons (wE_name 7 rfl (wA_cons (wE_name 4 rfl (wA_nil ⟨_, _, .inl rfl, ?_⟩)))))) nd (blkOk_by (N := N_cleared) (sc := defScope s_cleared) (by decide +kernel))
  refine ⟨szOk (by rw [zip_rl, List.length_map, List.length_zip, own_len, hs.rw hk0, hs.rw hj]; omega), rl (((W.getD j []).zip (ownL W k)).map fun q => q.1 - en W j k * q.2), by rw [zip_rl, rl_len, List.length_map, List.length_map], fun m y z hy hz s0 H0 C cl fp => ?_, ?_⟩
  rw [zip_rl] at hy
  obtain ⟨u, hu, rfl⟩ := map_at hy
  obtain ⟨u1, hu1, rfl⟩ := map_at hz
  obtain ⟨u2, hu2, rfl⟩ := map_at hu1
  obtain rfl : u = u2 := Option.some.inj (hu.symm.trans hu2)
  obtain ⟨m1, m2⟩ := List.of_mem_zip (a := u.1) (b := u.2) (List.mem_of_getElem? hu)
  have o2 : FB (b + b) u.2 := by
    unfold ownL at m2
    obtain ⟨v, hv, e⟩ := List.mem_map.mp m2
    rw [← e]
    exact (hab _ (getD_mem (d := []) (by omega)) v hv).div (hab.en b1 k k) (by rw [e1]; exact nz)
  refine wGw_tup2 5 8 ⟨rfl, fun s0 H0 C cl fp => (wE_cal C_less ar.bk (by omega) (wA_cons (wE_name 5 rfl (wA_cons (wE_cal C_times ar.bk (by omega) (wA_cons (wE_ix (wE_name 7 rfl (wE_name 1 rfl ?_)))))))))⟩ nd
  refine wI_lst (rl_ix (k := k) rfl (by rw [hs.rw hj]; omega)) ?_
  refine wA_cons (wE_name 8 rfl (wA_nil ?_))
  refine ⟨_, _, b, b + b, rfl, hab.en b1 j k, o2, by omega, ?_⟩
  refine wA_nil ?_
  refine ⟨_, _, b, b + (b + b), rfl, hab _ (getD_mem (d := []) (by omega)) _ m1, (hab.en b1 j k).mul o2, by omega, ?_⟩
  refine ⟨?_, .refl _⟩
  rfl
  refine ⟨_, Mu.upd_same, szLt (by rw [rls_len, List.length_take]; omega), ?_⟩
  refine wSs_nil ?_
  have e : ¬ j = k := by have := of_decide_eq_false hk; omega
  exact ⟨_, _, _, _, rfl, by rw [Mu.upd_upd, snoc _ (if_neg e)]⟩
  refine wSs_nil ?_
  exact hP
  rw [enumA_len, rls_len, hsl] at hI
  obtain ⟨x3, x5, x7, x8, rfl, rfl⟩ := hI
  rw [List.take_of_length_le (by rw [(rect_cl hs hk0).len]; exact Nat.le_refl _)]
  refine wSs_frz 6 Mu.upd_same rfl ?_
  rw [Mu.del_upd np_found]
  refine wSs_cons (wS_ret (wE_name 6 rfl ?_))
  exact Q1

end
end D

set_option exponentiation.threshold 256
set_option pp.maxSteps 5000
set_option Elab.async false
set_option linter.all false
set_option pp.maxSteps 300
set_option maxRecDepth 100000
set_option maxHeartbeats 4000000
namespace D
open PySem PySem.Spec PyProof.Rows L2
local macro_rules | `(tactic| walk_at "mul") => `(tactic| first | refine wO_mul (mulR (by first | decide | omega) (by first | decide | omega)) ?_ | refine wO_mul (mulL (by first | decide | omega) (by first | decide | omega)) ?_)
local macro_rules | `(tactic| walk_at "mod") => `(tactic| refine wO_mod (by first | decide | omega) ?_)
local macro_rules | `(tactic| walk_at "fdiv") => `(tactic| refine wO_fdiv (by first | decide | omega) (divS (by first | decide | omega)) ?_)
local macro_rules | `(tactic| walk_at "ix") => `(tactic| first | refine wI_tup (by rfl) ?_ | refine wI_lst (by rfl) ?_)
local macro_rules | `(tactic| walk_at "sl") => `(tactic| first | refine wSl_tup ?_ | refine wSl_lstF ?_)
local macro_rules | `(tactic| walk_at "obj") => `(tactic| refine ⟨_, _, _, rfl, by assumption, rfl, ?_⟩)
local macro_rules | `(tactic| walk_at "len") => `(tactic| first | refine wC_len (.tup _) ?_ | refine wC_len (.lst _) ?_ | refine wC_len (.loc (by assumption)) ?_)
section
variable {P : Program} {w : World} {mg : Str → Option Value} {base : Heap} {K : PySem.W.Frag} {CF CS : Addr} {k : Nat}
abbrev s_determinant : Stmt := topS 15
abbrev N_determinant : List Str := ["square", "rows", "row", "found", "at", "some", "k"]
theorem sc_determinant : FnScope N_determinant ["square"] (defScope s_determinant) := ⟨rfl, rfl, rfl, by decide +kernel, rfl, by decide +kernel, by decide +kernel⟩
def c_determinant : AC := fun xs μ Q _ => ∃ (M : List (List Rat)) (n : Nat), xs = [.lst (rls M)] ∧ SqD n M ∧ Q (ra (detF n M)) μ
theorem ok_determinant {n : Nat}  {f : Addr} {fd : FuncData} (TX : Txt K mg CF CS) (C_times : Cal P w K mg base n "times" c_times) (C_less : Cal P w K mg base n "less" c_less) (C_cleared : Cal P w K mg base n "cleared" c_cleared) (F : Fun K "determinant" "determinant" s_determinant f fd) : FnD P w K mg base CX0 (n + 1) f fd ["square"] c_determinant := by
  refine fnD F sc_determinant (fun xs μ Q E hc => by obtain ⟨M, n, rfl, s, q⟩ := hc; rfl) (fun cdv Ao outer s H E xs μ Q E0 ar hc => ?_)
  obtain ⟨M, n, rfl, s, q⟩ := hc
  have hl := s.r.len
  have n4 := s.n4
  have nd := sc_determinant.nd
  refine wSs_cons (wS_set 1 (wE_lcF (own := [("row", 2)]) (wIt_list (wE_name 0 rfl ⟨_, rfl, ?_⟩)) nd (blkOk_by (N := N_determinant) (sc := defScope s_determinant) (by decide +kernel))) nd)
  refine ⟨szOk (by rw [rls_len]; omega), rls M, rfl, fun i y z hy hz s0 H0 C cl fp => ?_, ?_⟩
  obtain ⟨r, hr, rfl⟩ := map_at hy
  obtain ⟨r2, hr2, rfl⟩ := map_at hz
  obtain rfl : r = r2 := Option.some.inj (hr.symm.trans hr2)
  refine wGw_name 2 (⟨rfl, fun s0 H0 C cl fp => (wE_callTy (T := "list") TX.b_list (by decide +kernel) (wA_cons (wE_name 2 rfl (wA_nil ?_))))⟩) nd
  refine wC_listF (.lst _) ?_
  refine ⟨?_, .refl _⟩
  rfl
  refine wSs_cons (wS_set 3 (wE_glob TX.k_ONE (wSs_cons (wS_for (wIt_range1 TX.b_range (wA_cons (wE_callB (id := "len") TX.b_len (by decide +kernel) (wA_cons (wE_name 1 rfl (wA_nil ?_))))))))) nd)
  refine wC_len (.lst _) ?_
  rw [rls_len, hl]
  refine wA_nil ⟨_, rfl, by omega, by omega, ?_⟩
  refine ⟨fun i Γ' μ' => ∃ Z f x2 x4 x5 x6, Γ' = [some (.lst (rls M)), some (.lst (rls Z)), x2, some (ra f), x4, x5, x6] ∧ μ = μ' ∧ GoF n n i M Z f ∧ FB (fN i) f, ⟨M, 1, _, _, _, _, rfl, rfl, .start s, FB.one⟩, fun i y Γ' μ' hy hI => ?_, fun Γ' μ' hI => ?_⟩
  obtain ⟨Z, f, x2, x4, x5, x6, rfl, rfl, g, fb⟩ := hI
  obtain ⟨hi, rfl⟩ := rgA_at hy
  rw [Int.toNat_natCast] at hi
  rw [Int.zero_add]
  have zl := g.r.len
  refine wG_name 4 ?_ nd
  refine wSs_cons (wS_setLcPF [("k", 6)] 5 (wIt_range2 TX.b_range (wA_cons (wE_name 4 rfl (wA_cons (wE_callB (id := "len") TX.b_len (by decide +kernel) (wA_cons (wE_name 1 rfl (wA_nil ?_)))))))) nd (blkOk_by (N := N_determinant) (sc := defScope s_determinant) (by decide +kernel)) (sw_true rfl rfl rfl (by decide +kernel)))
  refine wC_len (.lst _) ?_
  rw [rls_len, zl]
  refine wA_nil ⟨_, _, rfl, by omega, ?_⟩
  refine ⟨szOk (by rw [rgA_len]; omega), (List.range (n - i)).map (fun j => decide (en Z (i + j) i ≠ 0)), (List.range (n - i)).map (fun j => D.A.int ((i : Int) + (j : Nat))), by rw [rgA_len, List.length_map, List.length_range]; omega, by rw [rgA_len, List.length_map, List.length_range]; omega, fun j y kk z hy hkk hz s0 H0 C cl fp => ?_, ?_⟩
  obtain ⟨hj, rfl⟩ := rgA_at hy
  obtain ⟨j1, hj1, rfl⟩ := map_at hkk
  obtain ⟨j2, hj2, rfl⟩ := map_at hz
  obtain rfl : j1 = j := by
    rw [List.getElem?_range (by omega)] at hj1
    exact (Option.some.inj hj1).symm
  obtain rfl : j2 = j1 := by
    rw [List.getElem?_range (by omega)] at hj2
    exact (Option.some.inj hj2).symm
  have hki : i + j2 < n := by omega
  refine wGw_name 6 (⟨rfl, ?_⟩) nd
  refine ⟨fun s0 H0 C cl fp => ?_, fun kt s0 H0 C cl fp => ?_⟩
  refine wT_cmp (wE_ix (wE_ix (wE_name 1 rfl (wE_name 6 rfl ?_))))
  refine wI_lst (rls_ix (k := i + j2) (by omega) (by omega)) ?_
  refine wE_name 4 rfl ?_
  refine wI_lst (rl_ix (k := i) rfl (by rw [g.r.rw hki]; omega)) ?_
  refine wE_glob TX.k_NOUGHT ?_
  refine wO_neD (x := ra _) (y := ra 0) ar.u64 (dat_ra _) (dat_ra _) ?_
  rw [eqv_raF]
  refine ⟨_, rfl, ?_⟩
  exact ⟨by unfold en; rw [show (decide (ap (Z.getD (i + j2) []) i = 0)) = !decide (ap (Z.getD (i + j2) []) i ≠ 0) by simp, Bool.not_not], .refl _⟩
  refine wE_name 6 rfl ?_
  refine ⟨?_, .refl _⟩
  rfl
  refine wSs_cons (wS_if (wT_cmp (wE_name 5 rfl (wE_lstF (wA_nil ⟨by show 0 ≤ sizeLine; decide, ?_⟩)))))
  rw [pickA_map]
  have e0 : ((List.range (n - i)).filter fun j => decide (en Z (i + j) i ≠ 0)) = pivs Z n i := rfl
  rw [e0]
  refine wO_eqL ar.u64 (.lst _) (.lst _) (dat_intsM _ _) dat_nil ?_
  refine ⟨_, rfl, ?_⟩
  rw [eqv_nilM]
  refine ⟨fun hk => ?_, fun hk => ?_⟩
  refine wSs_cons (wS_ret (wE_glob TX.k_NOUGHT ?_))
  have e := g.none n4 hi (of_decide_eq_true hk)
  rw [det_ex s.r s.n1 n4] at e
  rw [e] at q
  exact q
  have hk2 : pivs Z n i ≠ [] := of_decide_eq_false hk
  obtain ⟨j, l, hp⟩ : ∃ j l, pivs Z n i = j :: l := by
    cases e : pivs Z n i with
    | nil => exact absurd e hk2
    | cons j l => exact ⟨j, l, rfl⟩
  obtain ⟨hj, nz⟩ := pivs_head hp
  have hb : bN i ≤ 30000 := bN_le (by omega)
  have hf : fN i ≤ 30000 := fN_le (by omega)
  have hf2 : fN (i + 1) ≤ 30000 := fN_le (by omega)
  have st := g.step n4 (Nat.le_refl _) hi hp
  have fb2 := fb_step (n := n) (i := j) fb g.b
  rw [hp]
  refine wSs_nil ?_
  refine wSs_cons (wS_set 3 (wE_cal C_times ar (by omega) (wA_cons (wE_name 3 rfl (wA_cons (wE_ix (wE_ix (wE_name 1 rfl (wE_ix (wE_name 5 rfl (wE_int ?_)))))))))) nd)
  refine wI_lst (atI_pos (i := 0) (y := .int ((i : Int) + (j : Nat))) (by rfl) (by decide)) ?_
  refine wI_lst (rls_ix (k := i + j) (by omega) (by omega)) ?_
  refine wE_name 4 rfl ?_
  refine wI_lst (rl_ix (k := i) rfl (by rw [g.r.rw hj]; omega)) ?_
  refine wA_nil ?_
  refine ⟨f, en Z (i + j) i, fN i, bN i, rfl, fb, g.b.en (bN1 i) _ _, by omega, ?_⟩
  refine wSs_cut (fun Γ' μ' => ∃ f2 x2 x6, Γ' = [some (.lst (rls M)), some (.lst (rls Z)), x2, some (ra f2), some (.int (i : Int)), some (.lst ((j :: l).map fun j => D.A.int ((i : Int) + (j : Nat)))), x6] ∧ μ = μ' ∧ f2 = (if i + j = i then f * en Z (i + j) i else 0 - f * en Z (i + j) i) ∧ FB (fN (i + 1)) f2) ?_ (fun Γ' μ' hP => ?_)
  refine wS_if (wT_cmp (wE_ix (wE_name 5 rfl (wE_int ?_))))
  refine wI_lst (atI_pos (i := 0) (y := .int ((i : Int) + (j : Nat))) (by rfl) (by decide)) ?_
  refine wE_name 4 rfl ?_
  refine wO_neI ?_
  refine ⟨_, rfl, ?_⟩
  refine ⟨fun hk => ?_, fun hk => ?_⟩
  refine wSs_cons (wS_set 3 (wE_cal C_less ar (by omega) (wA_cons (wE_glob TX.k_NOUGHT (wA_cons (wE_name 3 rfl (wA_nil ?_)))))) nd)
  refine ⟨0, _, 1, fN (i + 1), rfl, FB.zero, fb2, by omega, ?_⟩
  refine wSs_nil ?_
  have e : ¬ i + j = i := by
    simp at hk
    omega
  exact ⟨_, _, _, rfl, rfl, by rw [if_neg e], by rw [zero_sub']; exact fb2.neg⟩
  refine wSs_nil ?_
  have e : i + j = i := by
    simp at hk
    omega
  exact ⟨_, _, _, rfl, rfl, by rw [if_pos e], fb2⟩
  obtain ⟨f2, x2, x6, rfl, rfl, ef, fb3⟩ := hP
  refine wSs_cons (wS_set 1 (wE_cal C_cleared ar (by omega) (wA_cons (wE_name 1 rfl (wA_cons (wE_name 4 rfl (wA_nil ?_)))))) nd)
  refine ⟨Z, n, n, i, bN i, rfl, g.r, n4, Nat.le_refl _, by omega, hi, g.b, bN1 i, by omega, fun e => absurd e hk2, fun j' l' e => ?_⟩
  rw [hp] at e
  obtain ⟨rfl, rfl⟩ := List.cons.inj e
  refine wSs_nil ?_
  exact ⟨_, f2, _, _, _, _, rfl, rfl, ef ▸ st, fb3⟩
  rw [rgA_len, Int.toNat_natCast] at hI
  obtain ⟨Z, f, x2, x4, x5, x6, rfl, rfl, g, fb⟩ := hI
  refine wSs_cons (wS_ret (wE_name 3 rfl ?_))
  rw [g.det s]; exact q

abbrev s_back_of : Stmt := topS 16
abbrev N_back_of : List Str := ["square", "many", "rows", "row", "more", "at"]
theorem sc_back_of : FnScope N_back_of ["square"] (defScope s_back_of) := ⟨rfl, rfl, rfl, by decide +kernel, rfl, by decide +kernel, by decide +kernel⟩
def c_back_of (CF : Addr) : AC := fun xs μ Q E => ∃ (M : List (List Rat)) (n : Nat), xs = [.lst (rls M)] ∧ SqD n M ∧ (detF n M = 0 → E (.ref CF) none μ) ∧ (detF n M ≠ 0 → ∀ X p ps μ', IsBack n M X → ToldB μ X p ps μ' → Q (.loc p) μ')
theorem ok_back_of {n : Nat}  {f : Addr} {fd : FuncData} (TX : Txt K mg CF CS) (C_unit : Cal P w K mg base n "unit" c_unit) (C_cleared : Cal P w K mg base n "cleared" c_cleared) (F : Fun K "back_of" "back_of" s_back_of f fd) : FnD P w K mg base (L2.CX P w) (n + 1) f fd ["square"] (c_back_of CF) := by
  refine fnDX F sc_back_of (fun xs μ Q E hc => by obtain ⟨M, n, rfl, s, q0, q1⟩ := hc; rfl) (fun cdv Ao outer s H E xs μ Q E0 ar hc tk pa => ?_)
  obtain ⟨M, n, rfl, s, q0, q1⟩ := hc
  have hl := s.r.len
  have n4 := s.n4
  have nd := sc_back_of.nd
  refine wSs_cons (wS_set 1 (wE_callB (id := "len") TX.b_len (by decide +kernel) (wA_cons (wE_name 0 rfl (wA_nil ?_)))) nd)
  refine wC_len (.lst _) ?_
  rw [rls_len, hl]
  refine wSs_cons (wS_setLcF [("row", 3), ("more", 4)] 2 (wIt_zip TX.b_zip (wA_cons (wE_name 0 rfl (wA_cons (wE_cal C_unit ar (by omega) (wA_cons (wE_name 1 rfl (wA_nil ?_)))))))) nd (blkOk_by (N := N_back_of) (sc := defScope s_back_of) (by decide +kernel)) (sw_true rfl rfl rfl (by decide +kernel)))
  refine ⟨n, rfl, n4, ?_⟩
  refine wA_nil ⟨_, _, .inl rfl, ?_⟩
  refine ⟨szOk (by rw [zip_rls, List.length_map, List.length_zip, hl]; omega), rls (augL n M), by rw [zip_rls, rls_len, List.length_map]; unfold augL; rw [List.length_map], fun i y z hy hz s0 H0 C cl fp => ?_, ?_⟩
  rw [zip_rls] at hy
  obtain ⟨u, hu, rfl⟩ := map_at hy
  obtain ⟨u1, hu1, rfl⟩ := map_at hz
  obtain ⟨u2, hu2, rfl⟩ := map_at hu1
  obtain rfl : u = u2 := Option.some.inj (hu.symm.trans hu2)
  obtain ⟨m1, m2⟩ := List.of_mem_zip (a := u.1) (b := u.2) (List.mem_of_getElem? hu)
  refine wGw_tup2 3 4 ⟨rfl, fun s0 H0 C cl fp => (wE_bin (wE_callTy (T := "list") TX.b_list (by decide +kernel) (wA_cons (wE_name 3 rfl (wA_nil ?_)))))⟩ nd
  refine wC_listF (.lst _) ?_
  refine wE_name 4 rfl ?_
  refine wO_catF (.lst _) (.lst _) (szOk (by rw [rl_len, rl_len, s.r.row _ m1, rect_unit.row _ m2]; omega)) ?_
  rw [rl_app]
  refine ⟨?_, .refl _⟩
  rfl
  refine wSs_cons (wS_for (wIt_range1 TX.b_range (wA_cons (wE_name 1 rfl (wA_nil ⟨_, rfl, by omega, by omega, ?_⟩)))))
  refine ⟨fun i Γ' μ' => ∃ Z x3 x4 x5, Γ' = [some (.lst (rls M)), some (.int (n : Int)), some (.lst (rls Z)), x3, x4, x5] ∧ μ = μ' ∧ GoB n i M Z, ⟨_, _, _, _, rfl, rfl, .start s⟩, fun i y Γ' μ' hy hI => ?_, fun Γ' μ' hI => ?_⟩
  obtain ⟨Z, x3, x4, x5, rfl, rfl, g⟩ := hI
  obtain ⟨hi, rfl⟩ := rgA_at hy
  rw [Int.toNat_natCast] at hi
  rw [Int.zero_add]
  obtain ⟨f, gf⟩ := g.f
  have hb : bN i ≤ 30000 := bN_le (by omega)
  refine wG_name 5 ?_ nd
  refine wSs_cons (wS_set 2 (wE_cal C_cleared ar (by omega) (wA_cons (wE_name 2 rfl (wA_cons (wE_name 5 rfl (wA_nil ?_)))))) nd)
  refine ⟨Z, n, n + n, i, bN i, rfl, gf.r, n4, by omega, by omega, hi, gf.b, bN1 i, by omega, fun e => ?_, fun j l e => ?_⟩
  · refine wSs_cons (wS_if (wT_cmp (wE_name 2 rfl (wE_non ?_))))
    refine wO_isN ?_
    refine ⟨_, rfl, ?_⟩
    refine ⟨fun hk => ?_, fun hk => (nomatch hk)⟩
    refine wSs_cons (wS_raise TX.x_Flat tk ?_)
    exact q0 (g.none s hi e)
  have st := g.step n4 hi e
  refine wSs_cons (wS_if (wT_cmp (wE_name 2 rfl (wE_non ?_))))
  refine wO_isN ?_
  refine ⟨_, rfl, ?_⟩
  refine ⟨fun hk => (nomatch hk), fun hk => ?_⟩
  refine wSs_nil ?_
  refine wSs_nil ?_
  exact ⟨_, _, _, _, rfl, rfl, st⟩
  rw [rgA_len, Int.toNat_natCast] at hI
  obtain ⟨Z, x3, x4, x5, rfl, rfl, g⟩ := hI
  obtain ⟨nz, ib⟩ := g.fin s
  obtain ⟨f, gf⟩ := g.f
  have zl := gf.r.len
  refine wSs_cons (wS_ret (wE_lc [("row", 3)] (wIt_list (wE_name 2 rfl ⟨_, rfl, ?_⟩)) nd (blkOk_by (N := N_back_of) (sc := defScope s_back_of) (by decide +kernel))))
  refine ⟨szOk (by rw [rls_len]; omega), fun i acc μ' => ∃ ps : List Addr, acc = ps.map D.A.loc ∧ ps.length = i ∧ Sub μ μ' ∧ TellP μ' ps ((tailL n Z).take i) ∧ ∀ q ∈ ps, μ q = none, ⟨[], rfl, rfl, .refl _, by rw [List.take_zero]; exact trivial, fun _ h => nomatch h⟩, fun i y acc μ' hy hJ s0 H0 C cl fp => ?_, fun acc μ' hJ p np => ?_⟩
  obtain ⟨ps, rfl, hpl, sb, tp, nw⟩ := hJ
  obtain ⟨r, hr, rfl⟩ := map_at hy
  refine wGw_name 3 (fun s0 H0 C cl fp => (wE_slice (wE_name 3 rfl (wE_name 1 rfl ⟨_, rfl, ?_⟩)))) nd
  refine wSl_lst (fun p np => ?_)
  have hi := (List.getElem?_eq_some_iff.mp hr).1
  have e : cutA (rl r) (some (n : Int)) none = rl (r.drop n) := cut_lo
  rw [e]
  refine ⟨ps ++ [p], by rw [List.map_append]; rfl, by rw [List.length_append, hpl]; rfl, sb.trans (.new np), ?_, fun q hq => ?_⟩
  · have e2 : (tailL n Z).take (i + 1) = (tailL n Z).take i ++ [r.drop n] := by
      rw [List.take_add_one]
      unfold tailL
      rw [List.getElem?_map, hr]; rfl
    rw [e2]
    exact (tp.sub (.new np)).snoc Mu.upd_same
  · rcases List.mem_append.mp hq with hq | hq
    · exact nw q hq
    · rw [List.mem_singleton.mp hq]; exact fresh_of sb np
  rw [rls_len, zl] at hJ
  obtain ⟨ps, rfl, hpl, sb, tp, nw⟩ := hJ
  rw [List.take_of_length_le (by unfold tailL; rw [List.length_map, zl]; exact Nat.le_refl _)] at tp
  refine q1 nz _ p ps _ ib ⟨sb.trans (.new np), Mu.upd_same, tp.sub (.new np), fresh_of sb np, fun q hq => ⟨nw q hq, fun z => ?_⟩⟩
  obtain ⟨l, hl2⟩ := tp.ex q hq
  rw [z, np] at hl2; cases hl2

end
end D

set_option exponentiation.threshold 256
set_option pp.maxSteps 5000
set_option Elab.async false
set_option linter.all false
set_option pp.maxSteps 300
set_option maxRecDepth 100000
set_option maxHeartbeats 4000000
namespace D
open PySem PySem.Spec PyProof.Rows L2
local macro_rules | `(tactic| walk_at "mul") => `(tactic| first | refine wO_mul (mulR (by first | decide | omega) (by first | decide | omega)) ?_ | refine wO_mul (mulL (by first | decide | omega) (by first | decide | omega)) ?_)
local macro_rules | `(tactic| walk_at "mod") => `(tactic| refine wO_mod (by first | decide | omega) ?_)
local macro_rules | `(tactic| walk_at "fdiv") => `(tactic| refine wO_fdiv (by first | decide | omega) (divS (by first | decide | omega)) ?_)
local macro_rules | `(tactic| walk_at "ix") => `(tactic| first | refine wI_tup (by rfl) ?_ | refine wI_lst (by rfl) ?_)
local macro_rules | `(tactic| walk_at "sl") => `(tactic| first | refine wSl_tup ?_ | refine wSl_lstF ?_)
local macro_rules | `(tactic| walk_at "obj") => `(tactic| refine ⟨_, _, _, rfl, by assumption, rfl, ?_⟩)
local macro_rules | `(tactic| walk_at "len") => `(tactic| first | refine wC_len (.tup _) ?_ | refine wC_len (.lst _) ?_ | refine wC_len (.loc (by assumption)) ?_)
section
variable {P : Program} {w : World} {mg : Str → Option Value} {base : Heap} {K : PySem.W.Frag} {CF CS : Addr} {k : Nat}
abbrev s__law_told : Stmt := topS 35
abbrev N__law_told : List Str := ["_law_square", "_law_caught", "_law_found", "e"]
theorem sc__law_told : FnScope N__law_told ["_law_square"] (defScope s__law_told) := ⟨rfl, rfl, rfl, by decide +kernel, rfl, by decide +kernel, by decide +kernel⟩
def c__law_told (CF : Addr) : AC := fun xs μ Q _ => ∃ (M : List (List Rat)) (n : Nat), xs = [.lst (rls M)] ∧ SqD n M ∧ ∀ y μ', FoundT n M μ y μ' → Q y μ'
theorem ok__law_told {n : Nat}  {f : Addr} {fd : FuncData} (TX : Txt K mg CF CS) (C_back_of : CalX P w K mg base n "back_of" (c_back_of CF)) (F : Fun K "_law_told" "_law_told" s__law_told f fd) : FnD P w K mg base CX0 (n + 1) f fd ["_law_square"] (c__law_told CF) := by
  refine fnD F sc__law_told (fun xs μ Q E hc => by obtain ⟨M, n, rfl, s, q⟩ := hc; rfl) (fun cdv Ao outer s H E xs μ Q E0 ar hc => ?_)
  obtain ⟨M, n, rfl, s, q⟩ := hc
  have nd := sc__law_told.nd
  refine wSs_cons (wS_set 1 (wE_non (wSs_cons (wS_set 2 (wE_non ?_) nd))) nd)
  refine wSs_cut (fun Γ' μ' => ∃ z y x3, Γ' = [some (.lst (rls M)), some z, some y, x3] ∧ ((z = .non ∧ FoundT n M μ y μ') ∨ (∃ a, z = .loc a ∧ detF n M = 0 ∧ Sub μ μ' ∧ μ' a = some (.exc a (.ref CF) none)))) ?_ (fun Γ' μ' hP => ?_)
  refine wS_try (i := 3) (j := 1) nd rfl rfl ⟨rfl, rfl, .inl TX.g_SlopeError⟩ (fun B2 pn xe le tk pa => (wSs_cons (wS_set 2 (wE_calX C_back_of ar.tr (by omega) tk (wA_cons (wE_name 0 rfl (wA_nil ?_)))) nd)))
  refine ⟨M, n, rfl, s, fun e0 => ?_, fun nz X p ps μ2 ib tb => ?_⟩
  · exact ⟨TX.m_Flat, fun a ha => ⟨_, _, _, rfl, .inr ⟨a, rfl, e0, Sub.new ha, Mu.upd_same⟩⟩⟩
  refine wSs_nil ?_
  exact ⟨_, _, _, rfl, .inl ⟨rfl, tb.sub, .inr ⟨nz, X, p, ps, rfl, ib, tb⟩⟩⟩
  obtain ⟨z, y, x3, rfl, hz⟩ := hP
  refine wSs_cons (wS_if (wT_cmp (wE_name 1 rfl (wE_non ?_))))
  refine wO_isN ?_
  refine ⟨_, rfl, ?_⟩
  refine ⟨fun hk => ?_, fun hk => ?_⟩
  refine wSs_cons (wS_ret (wE_name 2 rfl ?_))
  rcases hz with ⟨rfl, h⟩ | ⟨a, rfl, e0, sb, ha⟩
  · exact q y _ h
  · cases hk
  obtain ⟨a, rfl, e0, sb, ha⟩ : ∃ a, z = .loc a ∧ detF n M = 0 ∧ Sub μ μ' ∧ μ' a = some (.exc a (.ref CF) none) := by
    rcases hz with ⟨rfl, h⟩ | h
    · cases hk
    · exact h
  refine wSs_nil ?_
  refine wSs_cons (wS_ret ?_)
  refine wE_if ?_
  refine wT.imp (QB := fun kk μ2 => kk = true ∧ μ2 = μ') ?_ (fun kk μ2 hq => ?_)
  refine wT_chain (wW_and (wT_val (wE_callB (id := "isinstance") TX.b_isinstance (by decide +kernel) (wA_cons (wE_name 1 rfl (wA_cons (wE_glob TX.k_Flat (wA_nil ?_))))))))
  refine wC_isX TX.e_Flat ha (.inl ⟨_, rfl, rfl⟩) TX.i_Flat ?_
  refine ⟨_, rfl, ?_⟩
  refine and_flip (fun hk => ?_) (fun hk => ?_)
  · simp at hk
  refine wW_and1 (wT_val (wE_callB (id := "isinstance") TX.b_isinstance (by decide +kernel) (wA_cons (wE_name 1 rfl (wA_cons (wE_type (n := "ValueError") TX.b_ValueError (by decide +kernel) (wA_nil ?_)))))))
  refine wC_isX TX.e_Flat ha (.inr ⟨_, rfl, rfl⟩) TX.i_ValueError ?_
  refine ⟨_, rfl, ?_⟩
  exact ⟨rfl, rfl⟩
  obtain ⟨rfl, rfl⟩ := hq
  refine ⟨fun hk => ?_, fun hk => ?_⟩
  refine wE_str ?_
  exact q _ _ ⟨sb, .inl ⟨e0, rfl⟩⟩
  refine wE_str ?_
  cases hk

end
end D

set_option exponentiation.threshold 256
set_option pp.maxSteps 5000
set_option Elab.async false
set_option linter.all false
set_option pp.maxSteps 300
set_option maxRecDepth 100000
set_option maxHeartbeats 4000000
namespace D
open PySem PySem.Spec PyProof.Rows L2
local macro_rules | `(tactic| walk_at "mul") => `(tactic| first | refine wO_mul (mulR (by first | decide | omega) (by first | decide | omega)) ?_ | refine wO_mul (mulL (by first | decide | omega) (by first | decide | omega)) ?_)
local macro_rules | `(tactic| walk_at "mod") => `(tactic| refine wO_mod (by first | decide | omega) ?_)
local macro_rules | `(tactic| walk_at "fdiv") => `(tactic| refine wO_fdiv (by first | decide | omega) (divS (by first | decide | omega)) ?_)
local macro_rules | `(tactic| walk_at "ix") => `(tactic| first | refine wI_tup (by rfl) ?_ | refine wI_lst (by rfl) ?_)
local macro_rules | `(tactic| walk_at "sl") => `(tactic| first | refine wSl_tup ?_ | refine wSl_lstF ?_)
local macro_rules | `(tactic| walk_at "obj") => `(tactic| refine ⟨_, _, _, rfl, by assumption, rfl, ?_⟩)
local macro_rules | `(tactic| walk_at "len") => `(tactic| first | refine wC_len (.tup _) ?_ | refine wC_len (.lst _) ?_ | refine wC_len (.loc (by assumption)) ?_)
section
variable {P : Program} {w : World} {mg : Str → Option Value} {base : Heap} {K : PySem.W.Frag} {CF CS : Addr} {k : Nat}
abbrev s_put_to : Stmt := topS 17
abbrev N_put_to : List Str := ["square", "row", "found", "own", "total", "one", "other"]
theorem sc_put_to : FnScope N_put_to ["square", "row"] (defScope s_put_to) := ⟨rfl, rfl, rfl, by decide +kernel, rfl, by decide +kernel, by decide +kernel⟩
def c_put_to : AC := fun xs μ Q _ => ∃ (x : D.A) (as : List D.A) (M : List (List Rat)) (r : List Rat) (b : Nat), xs = [x, .lst (rl r)] ∧ LsAt μ x as ∧ RwsAt μ as M ∧ AB b M ∧ (∀ v ∈ r, FB b v) ∧ b ≤ 100000 ∧ M.length ≤ 8 ∧ r.length ≤ 8 ∧ ∀ p, μ p = none → Q (.loc p) (μ.upd p (.lst (rl (putF M r))))
theorem ok_put_to {n : Nat}  {f : Addr} {fd : FuncData} (TX : Txt K mg CF CS) (C_plus : Cal P w K mg base n "plus" c_plus) (C_times : Cal P w K mg base n "times" c_times) (F : Fun K "put_to" "put_to" s_put_to f fd) : FnD P w K mg base CX0 (n + 1) f fd ["square", "row"] c_put_to := by
  refine fnD F sc_put_to (fun xs μ Q E hc => by obtain ⟨x, as, M, r, b, rfl, hx, hM, hab, hr, b2, m8, r8, q⟩ := hc; rfl) (fun cdv Ao outer s H E xs μ Q E0 ar hc => ?_)
  obtain ⟨x, as, M, r, b, rfl, hx, hM, hab, hr, b2, m8, r8, q⟩ := hc
  have nd := sc_put_to.nd
  refine wSs_cons (wS_set 2 (wE_lst (wA_nil ⟨by show 0 ≤ sizeLine; decide, fun p_found np_found => (wSs_cons (wS_forB (wIt_E (wE_name 0 rfl ?_))))⟩)) nd)
  refine ⟨as, hx.sub (.new np_found), ?_⟩
  refine ⟨fun i Γ' μ' => ∃ x3 x4 x5 x6, Γ' = [some x, some (.lst (rl r)), some (.loc p_found), x3, x4, x5, x6] ∧ μ' = μ.upd p_found (.lst (rl (putF (M.take i) r))), ⟨_, _, _, _, rfl, rfl⟩, fun i Γ' μ' h => by obtain ⟨_, _, _, _, _, rfl⟩ := h; exact hx.sub (.new np_found), fun i y Γ' μ' hy hI => ?_, fun Γ' μ' hI => ?_⟩
  obtain ⟨x3, x4, x5, x6, rfl, rfl⟩ := hI
  obtain ⟨hm, hy2⟩ := hM.at hy
  have him : i < M.length := (List.getElem?_eq_some_iff.mp hm).1
  have hmem : M.getD i [] ∈ M := getD_mem him
  refine wG_name 3 ?_ nd
  refine wSs_cons (wS_set 4 (wE_glob TX.k_NOUGHT (wSs_cons (wS_forB (wIt_zipE TX.b_zip (wA_cons (wE_name 3 rfl (wA_cons (wE_name 1 rfl (wA_nil ?_))))))))) nd)
  refine ⟨y, .lst (rl r), _, _, rfl, hy2.sub (.new np_found), .inl rfl, ?_⟩
  refine ⟨fun j Γ' μ' => ∃ x5 x6, Γ' = [some x, some (.lst (rl r)), some (.loc p_found), some y, some (ra ((((M.getD i []).zip r).take j).foldl (fun t p => t + p.1 * p.2) 0)), x5, x6] ∧ μ' = μ.upd p_found (.lst (rl (putF (M.take i) r))), ⟨_, _, rfl, rfl⟩, fun j Γ' μ' h => by obtain ⟨_, _, _, rfl⟩ := h; exact ⟨hy2.sub (.new np_found), .inl rfl⟩, fun j y2 Γ' μ' hy3 hI => ?_, fun Γ' μ' hI => ?_⟩
  obtain ⟨x5, x6, rfl, rfl⟩ := hI
  rw [zip_rl] at hy3
  obtain ⟨u, hu, rfl⟩ := map_at hy3
  obtain ⟨m1, m2⟩ := List.of_mem_zip (a := u.1) (b := u.2) (List.mem_of_getElem? hu)
  have hj := (List.getElem?_eq_some_iff.mp hu).1
  obtain ⟨u1, u2⟩ := zip_at hu
  have hj8 : j ≤ 8 := by rw [List.length_zip] at hj; omega
  have hB := Nat.mul_le_mul_right (b + b + 1) hj8
  refine wG_tup (wGs_cons (wG_name 5 (wGs_cons (wG_name 6 (wGs_nil ?_) nd)) nd))
  refine wSs_cons (wS_set 4 (wE_cal C_plus ar (by omega) (wA_cons (wE_name 4 rfl (wA_cons (wE_cal C_times ar (by omega) (wA_cons (wE_name 5 rfl (wA_cons (wE_name 6 rfl (wA_nil ?_)))))))))) nd)
  refine ⟨u.1, u.2, b, b, rfl, hab _ hmem _ m1, hr _ m2, by omega, ?_⟩
  refine wA_nil ?_
  refine ⟨_, _, 1 + j * (b + b + 1), b + b, rfl, dot_go (hab _ hmem) hr j, (hab _ hmem _ m1).mul (hr _ m2), by omega, ?_⟩
  rw [u1, u2, ← dot_snoc hj]
  refine wSs_nil ?_
  exact ⟨_, _, rfl, rfl⟩
  rw [zip_rl, List.length_map, List.take_length] at hI
  obtain ⟨x5, x6, rfl, rfl⟩ := hI
  refine wSs_cons (wS_expr (wE_append (wE_name 2 rfl ?_)))
  refine ⟨_, _, rfl, Mu.upd_same, ?_⟩
  refine wE_name 4 rfl ?_
  refine ⟨_, Mu.upd_same, szLt (by rw [rl_len]; unfold putF; rw [List.length_map, List.length_take]; omega), ?_⟩
  refine wSs_nil ?_
  exact ⟨_, _, _, _, rfl, by rw [Mu.upd_upd, ← put_take him]; rfl⟩
  rw [hM.len, List.take_length] at hI
  obtain ⟨x3, x4, x5, x6, rfl, rfl⟩ := hI
  refine wSs_cons (wS_ret (wE_name 2 rfl ?_))
  exact q p_found np_found

abbrev s_both : Stmt := topS 18
abbrev N_both : List Str := ["one", "other", "columns", "row", "k", "column"]
theorem sc_both : FnScope N_both ["one", "other"] (defScope s_both) := ⟨rfl, rfl, rfl, by decide +kernel, rfl, by decide +kernel, by decide +kernel⟩
def c_both : AC := fun xs μ Q _ => ∃ (x y : D.A) (as bs : List D.A) (X Y : List (List Rat)) (n b : Nat), xs = [x, y] ∧ LsAt μ x as ∧ RwsAt μ as X ∧ LsAt μ y bs ∧ RwsAt μ bs Y ∧ Rect n n X ∧ Rect n n Y ∧ n ≤ 4 ∧ AB b X ∧ AB b Y ∧ 1 ≤ b ∧ b ≤ 100000 ∧ Q (.lst (rls (prodF X Y))) μ
theorem colF_fb {b c : Nat} {Y : List (List Rat)} (ay : AB b Y) (h1 : 1 ≤ b) : ∀ v ∈ colF Y c, FB b v := fun v hv => by
  unfold colF at hv
  obtain ⟨row, hrow, rfl⟩ := List.mem_map.mp hv
  by_cases hi : c < row.length
  · exact ay row hrow _ (List.mem_of_getElem? (ap_some hi))
  · rw [ap_out (by omega)]; exact FB.zero.mono h1
theorem ok_both {n : Nat}  {f : Addr} {fd : FuncData} (TX : Txt K mg CF CS) (C_put_to : Cal P w K mg base n "put_to" c_put_to) (F : Fun K "both" "both" s_both f fd) : FnD P w K mg base CX0 (n + 1) f fd ["one", "other"] c_both := by
  refine fnD F sc_both (fun xs μ Q E hc => by obtain ⟨x, y, as, bs, X0, Y0, n, b, rfl, hx, hX, hy, hY, rx, ry, n4, ax, ay, b1, b2, q⟩ := hc; rfl) (fun cdv Ao outer s H E xs μ Q E0 ar hc => ?_)
  obtain ⟨x, y, as, bs, X0, Y0, n, b, rfl, hx, hX, hy, hY, rx, ry, n4, ax, ay, b1, b2, q⟩ := hc
  have lx := rx.len
  have ly := ry.len
  have nd := sc_both.nd
  refine wSs_cons (wS_set 2 (wE_lcF (own := [("k", 4)]) (wIt_range1 TX.b_range (wA_cons (wE_callB (id := "len") TX.b_len (by decide +kernel) (wA_cons (wE_name 1 rfl (wA_nil ?_)))))) nd (blkOk_by (N := N_both) (sc := defScope s_both) (by decide +kernel))) nd)
  refine wC_len hy.isQ ?_
  rw [hY.len, ly]
  refine wA_nil ⟨_, rfl, by omega, by omega, ?_⟩
  refine ⟨szOk (by rw [rgA_len]; omega), rls ((List.range n).map fun c => putF X0 (colF Y0 c)), by rw [rgA_len, rls_len, List.length_map, List.length_range]; omega, fun i z w hz hw s0 H0 C cl fp => ?_, ?_⟩
  obtain ⟨hi, rfl⟩ := rgA_at hz
  obtain ⟨r, hr, rfl⟩ := map_at hw
  obtain ⟨i2, hi2, rfl⟩ := map_at hr
  obtain rfl : i2 = i := by
    rw [List.getElem?_range (by omega)] at hi2
    exact (Option.some.inj hi2).symm
  have hin : i2 < n := by omega
  refine wGw_name 4 (⟨rfl, fun s0 H0 C cl fp => (wE_frz (wE_cal C_put_to ar.bk (by omega) (wA_cons (wE_name 0 rfl (wA_cons (wE_lcFB (own := [("row", 3)]) (wIt_E (wE_name 1 rfl ?_)) nd (blkOk_by (by kernel_rfl))))))))⟩) nd
  refine ⟨bs, hy, ?_⟩
  refine ⟨hy, szOk (by rw [hY.len, ly]; omega), rl (colF Y0 i2), by rw [rl_len, hY.len]; unfold colF; rw [List.length_map], fun j z w hz hw s0 H0 C cl fp => ?_, ?_⟩
  obtain ⟨hm, hz2⟩ := hY.at hz
  have hjn := (List.getElem?_eq_some_iff.mp hm).1
  obtain ⟨v, hv, rfl⟩ := map_at hw
  obtain ⟨row, hrow, rfl⟩ := map_at hv
  obtain rfl : row = Y0.getD j [] := (getD_some hrow).symm
  refine wGw_name 3 (⟨rfl, fun s0 H0 C cl fp => (wE_ix (wE_name 3 rfl (wE_name 4 rfl ?_)))⟩) nd
  refine wI_E hz2 (rl_ix (k := i2) (by omega) (by rw [ry.rw (by omega)]; exact hin)) ?_
  refine ⟨?_, .refl _⟩
  rfl
  refine wA_nil ?_
  refine ⟨x, as, X0, colF Y0 i2, b, rfl, hx, hX, ax, colF_fb ay b1, b2, by omega, by unfold colF; rw [List.length_map]; omega, fun p np => ⟨p, _, rfl, Mu.upd_same, ?_⟩⟩
  rw [Mu.del_upd np]
  refine ⟨?_, .refl _⟩
  rfl
  refine wSs_cons (wS_ret (wE_lcF (own := [("k", 4)]) (wIt_range1 TX.b_range (wA_cons (wE_callB (id := "len") TX.b_len (by decide +kernel) (wA_cons (wE_name 0 rfl (wA_nil ?_)))))) nd (blkOk_by (N := N_both) (sc := defScope s_both) (by decide +kernel))))
  refine wC_len hx.isQ ?_
  rw [hX.len, lx]
  refine wA_nil ⟨_, rfl, by omega, by omega, ?_⟩
  refine ⟨szOk (by rw [rgA_len]; omega), rls (prodF X0 Y0), by rw [rgA_len, rls_len]; unfold prodF; rw [List.length_map, List.length_range, lx]; omega, fun i z w hz hw s0 H0 C cl fp => ?_, ?_⟩
  obtain ⟨hi, rfl⟩ := rgA_at hz
  obtain ⟨r, hr, rfl⟩ := map_at hw
  unfold prodF at hr
  rw [lx, ly] at hr
  obtain ⟨i2, hi2, rfl⟩ := map_at hr
  obtain rfl : i2 = i := by
    rw [List.getElem?_range (by omega)] at hi2
    exact (Option.some.inj hi2).symm
  have hin : i2 < n := by omega
  refine wGw_name 4 (⟨rfl, fun s0 H0 C cl fp => (wE_lcF (own := [("column", 5)]) (wIt_list (wE_name 2 rfl ⟨_, rfl, ?_⟩)) nd (blkOk_by (by kernel_rfl)))⟩) nd
  refine ⟨szOk (by rw [rls_len, List.length_map, List.length_range]; omega), rl ((List.range n).map fun c => ap (putF X0 (colF Y0 c)) i2), by rw [rl_len, rls_len, List.length_map, List.length_map], fun j z w hz hw s0 H0 C cl fp => ?_, ?_⟩
  obtain ⟨col, hcol, rfl⟩ := map_at hz
  obtain ⟨c1, hc1, rfl⟩ := map_at hcol
  obtain ⟨v, hv, rfl⟩ := map_at hw
  obtain ⟨c2, hc2, rfl⟩ := map_at hv
  obtain rfl : c1 = c2 := Option.some.inj (hc1.symm.trans hc2)
  refine wGw_name 5 (⟨rfl, fun s0 H0 C cl fp => (wE_ix (wE_name 5 rfl (wE_name 4 rfl ?_)))⟩) nd
  refine wI_lst (rl_ix (k := i2) (by omega) (by unfold putF; rw [List.length_map, lx]; exact hin)) ?_
  refine ⟨?_, .refl _⟩
  rfl
  refine ⟨?_, .refl _⟩
  rfl
  exact q

end
end D

set_option exponentiation.threshold 256
set_option pp.maxSteps 5000
set_option Elab.async false
set_option linter.all false
set_option pp.maxSteps 300
set_option maxRecDepth 100000
set_option maxHeartbeats 4000000
namespace D
open PySem PySem.Spec PyProof.Rows L2
local macro_rules | `(tactic| walk_at "mul") => `(tactic| first | refine wO_mul (mulR (by first | decide | omega) (by first | decide | omega)) ?_ | refine wO_mul (mulL (by first | decide | omega) (by first | decide | omega)) ?_)
local macro_rules | `(tactic| walk_at "mod") => `(tactic| refine wO_mod (by first | decide | omega) ?_)
local macro_rules | `(tactic| walk_at "fdiv") => `(tactic| refine wO_fdiv (by first | decide | omega) (divS (by first | decide | omega)) ?_)
local macro_rules | `(tactic| walk_at "ix") => `(tactic| first | refine wI_tup (by rfl) ?_ | refine wI_lst (by rfl) ?_)
local macro_rules | `(tactic| walk_at "sl") => `(tactic| first | refine wSl_tup ?_ | refine wSl_lstF ?_)
local macro_rules | `(tactic| walk_at "obj") => `(tactic| refine ⟨_, _, _, rfl, by assumption, rfl, ?_⟩)
local macro_rules | `(tactic| walk_at "len") => `(tactic| first | refine wC_len (.tup _) ?_ | refine wC_len (.lst _) ?_ | refine wC_len (.loc (by assumption)) ?_)
section
variable {P : Program} {w : World} {mg : Str → Option Value} {base : Heap} {K : PySem.W.Frag} {CF CS : Addr} {k : Nat}
abbrev s__law_mixed : Stmt := topS 20
abbrev N__law_mixed : List Str := ["_law_cell", "_law_k", "_law_number"]
theorem sc__law_mixed : FnScope N__law_mixed ["_law_cell", "_law_k"] (defScope s__law_mixed) := ⟨rfl, rfl, rfl, by decide +kernel, rfl, by decide +kernel, by decide +kernel⟩
def c__law_mixed : AC := fun xs μ Q _ => ∃ i k : Int, xs = [.int i, .int k] ∧ -(2 ^ 60) < i ∧ i < 2 ^ 60 ∧ 0 ≤ k ∧ k < 2 ^ 50 ∧ ∀ r : Int, 0 ≤ r → r < 2 ^ 30 → Q (.int r) μ
theorem ok__law_mixed {n : Nat}  {f : Addr} {fd : FuncData} (TX : Txt K mg CF CS)  (F : Fun K "_law_mixed" "_law_mixed" s__law_mixed f fd) : FnD P w K mg base CX0 (n + 1) f fd ["_law_cell", "_law_k"] c__law_mixed := by
  refine fnD F sc__law_mixed (fun xs μ Q E hc => by obtain ⟨i, k, rfl, i1, i2, k0, k1, q⟩ := hc; rfl) (fun cdv Ao outer s H E xs μ Q E0 ar hc => ?_)
  obtain ⟨i, k, rfl, i1, i2, k0, k1, q⟩ := hc
  have nd := sc__law_mixed.nd
  refine wSs_cons (wS_set 2 (wE_bin (wE_bin (wE_bin (wE_bin (wE_bin (wE_name 0 rfl (wE_bin (wE_int (wE_bin (wE_int (wE_name 1 rfl ?_))))))))))) nd)
  walk_at "mul"
  refine wO_add ?_
  walk_at "mul"
  refine wE_int ?_
  walk_at "mul"
  refine wE_int ?_
  walk_at "mod"
  refine wE_bin (wE_bin (wE_int (wE_name 1 rfl ?_)))
  walk_at "mul"
  refine wE_name 1 rfl ?_
  walk_at "mul"
  refine wO_add ?_
  refine wE_bin (wE_int (wE_name 1 rfl ?_))
  walk_at "mul"
  refine wO_add ?_
  refine wSs_cons (wS_ret (wE_bin (wE_bin (wE_bin (wE_name 2 rfl (wE_int ?_))))))
  walk_at "mul"
  refine wE_int ?_
  walk_at "mod"
  refine wE_int ?_
  walk_at "fdiv"
  exact q _ (by omega) (by omega)

abbrev s__law_folded : Stmt := topS 21
abbrev N__law_folded : List Str := ["_law_script", "_law_found", "_law_k", "_law_cell"]
theorem sc__law_folded : FnScope N__law_folded ["_law_script"] (defScope s__law_folded) := ⟨rfl, rfl, rfl, by decide +kernel, rfl, by decide +kernel, by decide +kernel⟩
def c__law_folded : AC := fun xs μ Q _ => ∃ ns : List Int, xs = [.fls (ns.map A.int)] ∧ ns.length ≤ 63 ∧ ∀ fs : List Int, G64 fs → Q (.lst (fs.map A.int)) μ
theorem ok__law_folded {n : Nat}  {f : Addr} {fd : FuncData} (TX : Txt K mg CF CS)  (F : Fun K "_law_folded" "_law_folded" s__law_folded f fd) : FnD P w K mg base CX0 (n + 1) f fd ["_law_script"] c__law_folded := by
  refine fnD F sc__law_folded (fun xs μ Q E hc => by obtain ⟨ns, rfl, hn, q⟩ := hc; rfl) (fun cdv Ao outer s H E xs μ Q E0 ar hc => ?_)
  obtain ⟨ns, rfl, hn, q⟩ := hc
  have nd := sc__law_folded.nd
  refine wSs_cons (wS_setLc [("_law_k", 2)] 1 (lcMap (wIt_range1 TX.b_range (wA_cons (wE_int (wA_nil ⟨_, rfl, by omega, by omega, ?_⟩))))) nd (blkOk_by (N := N__law_folded) (sc := defScope s__law_folded) (by decide +kernel)) (sw_true rfl rfl rfl (by decide +kernel)))
  refine ⟨by rw [rgA_len]; decide, (List.range 64).map (fun (i : Nat) => A.int (17 + (i : Int))), by simp [rgA_len], fun i y z hy hz s0 H0 C cl fp => ?_, fun p np => ?_⟩
  obtain ⟨hi, rfl⟩ := rgA_at hy
  refine wGw_name 2 (⟨rfl, fun s0 H0 C cl fp => (wE_bin (wE_int (wE_name 2 rfl ?_)))⟩) nd
  refine wO_add ?_
  refine ⟨?_, .refl _⟩
  obtain ⟨_, rfl⟩ := mapR_at hz
  rw [Int.zero_add]
  refine wSs_cons (wS_for (wIt_enum TX.b_enumerate (wA_cons (wE_name 0 rfl (wA_nil ⟨_, .inr rfl, ?_⟩)))))
  refine ⟨fun i Γ' μ' => ∃ (fs : List Int) (a b : Option D.A), Γ' = [some (.fls (ns.map A.int)), some (.loc p), a, b] ∧ μ' = μ.upd p (.lst (fs.map A.int)) ∧ G64 fs, ⟨(List.range 64).map (fun (i : Nat) => 17 + (i : Int)), _, _, rfl, by rw [List.map_map]; rfl, by simp, ?_⟩, fun i y Γ' μ' hy hI => ?_, fun Γ' μ' hI => ?_⟩
  · intro v hv
    simp only [List.mem_map, List.mem_range] at hv
    obtain ⟨j, hj, rfl⟩ := hv
    omega
  obtain ⟨fs, a, b, rfl, rfl, hg⟩ := hI
  obtain ⟨x, hx, rfl⟩ := enumA_at hy
  obtain ⟨cell, hc, rfl⟩ := map_at hx
  have hi : i < 63 := by have := (List.getElem?_eq_some_iff.mp hc).1; omega
  refine wG_tup (wGs_cons (wG_name 2 (wGs_cons (wG_name 3 (wGs_nil ?_) nd)) nd))
  refine wSs_cons (wS_asg (wE_bin (wE_bin (wE_bin (wE_ix (wE_name 1 rfl (wE_bin (wE_name 2 rfl (wE_int ?_)))))))))
  walk_at "mod"
  obtain ⟨v, hv, v0, v1⟩ := hg.at (i := (i : Int) % 64) (by omega) (by omega)
  refine wI_loc Mu.upd_same hv ?_
  refine wE_int ?_
  walk_at "mul"
  refine wE_name 3 rfl ?_
  refine wO_add ?_
  refine wE_int ?_
  walk_at "mod"
  refine wG_sub (wE_name 1 rfl (wE_bin (wE_name 2 rfl (wE_int ?_))))
  walk_at "mod"
  refine ⟨_, _, _, _, rfl, rfl, Mu.upd_same, ixN_pos (by omega) (by rw [List.length_map, hg.1]; omega), ?_⟩
  refine wSs_nil ?_
  exact ⟨_, _, _, rfl, by rw [Mu.upd_upd, set_map], hg.set _ (by omega) (by omega)⟩
  obtain ⟨fs, a, b, rfl, rfl, hg⟩ := hI
  refine wSs_cons (wS_for (wIt_range2 TX.b_range (wA_cons (wE_int (wA_cons (wE_int (wA_nil ⟨_, _, rfl, by omega, ?_⟩)))))))
  refine ⟨fun i Γ' μ' => ∃ (fs : List Int) (a b : Option D.A), Γ' = [some (.fls (ns.map A.int)), some (.loc p), a, b] ∧ μ' = μ.upd p (.lst (fs.map A.int)) ∧ G64 fs, ⟨fs, _, _, rfl, rfl, hg⟩, fun i y Γ' μ' hy hI => ?_, fun Γ' μ' hI => ?_⟩
  obtain ⟨fs, a, b, rfl, rfl, hg⟩ := hI
  obtain ⟨hi, rfl⟩ := rgA_at hy
  refine wG_name 2 ?_ nd
  refine wSs_cons (wS_asg (wE_bin (wE_bin (wE_ix (wE_name 1 rfl (wE_name 2 rfl ?_))))))
  obtain ⟨v, hv, v0, v1⟩ := hg.at (i := 1 + (i : Int)) (by omega) (by omega)
  refine wI_loc Mu.upd_same hv ?_
  refine wE_bin (wE_ix (wE_name 1 rfl (wE_bin (wE_name 2 rfl (wE_int ?_)))))
  refine wO_sub ?_
  obtain ⟨v2, hv2, v20, v21⟩ := hg.at (i := 1 + (i : Int) - 1) (by omega) (by omega)
  refine wI_loc Mu.upd_same hv2 ?_
  refine wE_int ?_
  walk_at "mul"
  refine wO_add ?_
  refine wE_int ?_
  walk_at "mod"
  refine wG_sub (wE_name 1 rfl (wE_name 2 rfl ?_))
  refine ⟨_, _, _, _, rfl, rfl, Mu.upd_same, ixN_pos (by omega) (by rw [List.length_map, hg.1]; omega), ?_⟩
  refine wSs_nil ?_
  exact ⟨_, _, _, rfl, by rw [Mu.upd_upd, set_map], hg.set _ (by omega) (by omega)⟩
  obtain ⟨fs, a, b, rfl, rfl, hg⟩ := hI
  refine wSs_frz 1 Mu.upd_same rfl ?_
  rw [Mu.del_upd np]
  refine wSs_cons (wS_ret (wE_name 1 rfl ?_))
  exact q fs hg

abbrev s__law_draw : Stmt := topS 22
abbrev N__law_draw : List Str := ["_law_m", "_law_many", "_law_k", "_law_at", "_law_cell"]
theorem sc__law_draw : FnScope N__law_draw ["_law_m", "_law_many"] (defScope s__law_draw) := ⟨rfl, rfl, rfl, by decide +kernel, rfl, by decide +kernel, by decide +kernel⟩
def c__law_draw : AC := fun xs μ Q _ => ∃ (m l : Addr) (many : Int) (c : Nat) (rm : Int) (mo : Option (List Str)), xs = [.loc m, .int many] ∧ 0 < many ∧ many < 2 ^ 100 ∧ Lx m l c rm mo μ ∧ c < 2 ^ 40 ∧ ∀ (r : Int) (μ' : Mu), 0 ≤ r → r < many → Lx m l (c + 1) rm mo μ' → Ls m l μ μ' → Q (.int r) μ'
theorem ok__law_draw {n : Nat}  {f : Addr} {fd : FuncData} (TX : Txt K mg CF CS) (C__law_mixed : Cal P w K mg base n "_law_mixed" c__law_mixed) (F : Fun K "_law_draw" "_law_draw" s__law_draw f fd) : FnD P w K mg base CX0 (n + 1) f fd ["_law_m", "_law_many"] c__law_draw := by
  refine fnD F sc__law_draw (fun xs μ Q E hc => by obtain ⟨m, l, many, c, room, mo, rfl, m0, m1, lw, hc, q⟩ := hc; rfl) (fun cdv Ao outer s H E xs μ Q E0 ar hc => ?_)
  obtain ⟨m, l, many, c, room, mo, rfl, m0, m1, lw, hc, q⟩ := hc
  obtain ⟨⟨fs, left, at_, g1, g2, hg, hl, a0, a1⟩, ne⟩ := lw
  have nd := sc__law_draw.nd
  refine wSs_cons (wS_set 2 (wE_dget ar (wE_name 0 rfl (wE_str ?_))) nd)
  refine ⟨_, _, .inr "at", _, rfl, g1, rfl, rfl, ?_⟩
  refine wSs_cons (wS_dput ar (wE_bin (wE_name 2 rfl (wE_int ?_))))
  refine wO_add ?_
  refine wE_name 0 rfl (wE_str ?_)
  refine ⟨_, _, .inr "at", rfl, g1, rfl, szLt (by have := @dicL_len fs l at_ room mo; omega), ?_⟩
  rw [dicL_at]
  generalize hμ : μ.upd m _ = μ1
  have k1 : μ1 m = some (.dic (dicL fs l (at_ + 1) room mo)) := by rw [← hμ]; exact Mu.upd_same
  have k2 : μ1 l = some (.lst (left.map A.int)) := by rw [← hμ, Mu.upd_ne ne]; exact g2
  have kl : Ls m l μ μ1 := by rw [← hμ]; exact Ls.m
  refine wSs_cut (fun Γ' μ' => (∃ a b, Γ' = [some (.loc m), some (.int many), some (.int at_), a, b]) ∧ μ' = μ1) ?_ (fun Γ' μ' hP => ?_)
  refine wS_if (wT_cmp (wE_dget ar (wE_name 0 rfl (wE_str ?_))))
  refine ⟨_, _, .inr "left", _, rfl, k1, rfl, rfl, ?_⟩
  refine wE_lstF (wA_nil ⟨by show 0 ≤ sizeLine; decide, ?_⟩)
  refine wO_neL ar.u64 (.loc k2) (.lst []) (datInts left) datNil ?_
  rw [eqvNil]
  refine ⟨_, rfl, ?_⟩
  refine ⟨fun hk => ?_, fun hk => ?_⟩
  have hne : left ≠ [] := fun z => by subst z; simp at hk
  have hll : 0 < left.length := List.length_pos_iff.mpr hne
  refine wSs_cons (wS_set 3 (wE_bin (wE_name 2 rfl (wE_callB (id := "len") TX.b_len (by decide +kernel) (wA_cons (wE_dget ar (wE_name 0 rfl (wE_str ?_))))))) nd)
  refine ⟨_, _, .inr "left", _, rfl, k1, rfl, rfl, ?_⟩
  refine wA_nil ?_
  refine wC_len (.loc k2) ?_
  rw [List.length_map]
  walk_at "mod"
  refine wSs_cons (wS_set 4 (wE_ix (wE_dget ar (wE_name 0 rfl (wE_str ?_)))) nd)
  refine ⟨_, _, .inr "left", _, rfl, k1, rfl, rfl, ?_⟩
  refine wE_name 3 rfl ?_
  have hi : at_ % (left.length : Int) < left.length := Int.emod_lt_of_pos _ (by omega)
  have h0 : 0 ≤ at_ % (left.length : Int) := Int.emod_nonneg _ (by omega)
  have hn : (at_ % (left.length : Int)).toNat < left.length := by omega
  refine wI_loc k2 (y := .int left[(at_ % (left.length : Int)).toNat]) (atI_pos (by rw [List.getElem?_map, List.getElem?_eq_getElem hn]; rfl) h0) ?_
  refine wSs_cons (wS_if (wT_cmp (wE_name 4 rfl (wE_int ?_))))
  refine wO_gt ?_
  refine ⟨_, rfl, ?_⟩
  refine ⟨fun hk => ?_, fun hk => ?_⟩
  have hp : 0 < left[(at_ % (left.length : Int)).toNat] := of_decide_eq_true hk
  refine wSs_cons (wS_asg (wE_bin (wE_name 4 rfl (wE_name 1 rfl ?_))))
  refine wO_fdiv m0 (PyProof.noPylong_of_log2 (log2_100 m0 m1)) ?_
  refine wG_sub (wE_dget ar (wE_name 0 rfl (wE_str ?_)))
  refine ⟨_, _, .inr "left", _, rfl, k1, rfl, rfl, ?_⟩
  refine wE_name 3 rfl ?_
  refine ⟨_, _, _, _, rfl, rfl, k2, ixN_pos h0 (by rw [List.length_map]; omega), ?_⟩
  refine wSs_cons (wS_ret (wE_bin (wE_name 4 rfl (wE_name 1 rfl ?_))))
  refine wO_mod m0 ?_
  refine q _ _ (Int.emod_nonneg _ (by omega)) (Int.emod_lt_of_pos _ m0) ⟨⟨fs, left.set (at_ % (left.length : Int)).toNat (left[(at_ % (left.length : Int)).toNat] / many), at_ + 1, by rw [Mu.upd_ne (Ne.symm ne)]; exact k1, by rw [Mu.upd_same, ← set_map], hg, by rw [List.length_set]; exact hl, by omega, by omega⟩, ne⟩ (kl.trans Ls.l)
  refine wSs_nil ?_
  refine wSs_nil ?_
  exact ⟨⟨_, _, rfl⟩, rfl⟩
  skip
  refine wSs_nil ?_
  exact ⟨⟨_, _, rfl⟩, rfl⟩
  obtain ⟨⟨a, b, rfl⟩, rfl⟩ := hP
  refine wSs_cons (wS_ret (wE_bin (wE_cal C__law_mixed ar (by omega) (wA_cons (wE_cal C__law_mixed ar (by omega) (wA_cons (wE_bin (wE_ix (wE_dget ar (wE_name 0 rfl (wE_str ?_)))))))))))
  refine ⟨_, _, .inr "cells", _, rfl, k1, rfl, rfl, ?_⟩
  refine wE_bin (wE_name 2 rfl (wE_int ?_))
  walk_at "mod"
  obtain ⟨v, hv, v0, v1⟩ := hg.at (i := at_ % 64) (by omega) (by omega)
  refine wI_lst hv ?_
  refine wE_bin (wE_int (wE_bin (wE_name 2 rfl (wE_int ?_))))
  walk_at "fdiv"
  walk_at "mul"
  refine wO_add ?_
  refine wA_cons (wE_name 2 rfl (wA_nil ?_))
  refine ⟨_, _, rfl, by omega, by omega, by omega, by omega, fun r r0 r1 => ?_⟩
  refine wA_cons (wE_bin (wE_name 2 rfl (wE_int ?_)))
  refine wO_add ?_
  refine wA_nil ?_
  refine ⟨_, _, rfl, by omega, by omega, by omega, by omega, fun r2 r20 r21 => ?_⟩
  refine wE_name 1 rfl ?_
  walk_at "mod"
  exact q _ _ (Int.emod_nonneg _ (by omega)) (Int.emod_lt_of_pos _ m0) ⟨⟨fs, left, at_ + 1, k1, k2, hg, hl, by omega, by omega⟩, ne⟩ kl

abbrev s__law_begun : Stmt := topS 23
abbrev N__law_begun : List Str := ["_law_script", "_law_m", "_law_cell"]
theorem sc__law_begun : FnScope N__law_begun ["_law_script"] (defScope s__law_begun) := ⟨rfl, rfl, rfl, by decide +kernel, rfl, by decide +kernel, by decide +kernel⟩
def c__law_begun : AC := fun xs μ Q _ => ∃ ns : List Int, xs = [.fls (ns.map A.int)] ∧ ns.length ≤ 63 ∧ ∀ (m l : Addr) (μ' : Mu), μ m = none → Lx m l 0 58 none μ' → Sub μ μ' → Q (.loc m) μ'
theorem ok__law_begun {n : Nat}  {f : Addr} {fd : FuncData} (TX : Txt K mg CF CS) (C__law_folded : Cal P w K mg base n "_law_folded" c__law_folded) (F : Fun K "_law_begun" "_law_begun" s__law_begun f fd) : FnD P w K mg base CX0 (n + 1) f fd ["_law_script"] c__law_begun := by
  refine fnD F sc__law_begun (fun xs μ Q E hc => by obtain ⟨ns, rfl, hn, q⟩ := hc; rfl) (fun cdv Ao outer s H E xs μ Q E0 ar hc => ?_)
  obtain ⟨ns, rfl, hn, q⟩ := hc
  have nd := sc__law_begun.nd
  refine wSs_cons (wS_set 1 (wE_disp (wE_str (wE_cal C__law_folded ar (by omega) (wA_cons (wE_name 0 rfl (wA_nil ?_)))))) nd)
  refine ⟨ns, rfl, hn, fun fs hg => ?_⟩
  refine wE_str (wE_lstF (wA_nil ⟨by show 0 ≤ sizeLine; decide, (wE_str (wE_int (wE_str (wE_int ?_))))⟩))
  refine ⟨[(.inr "cells", .lst (fs.map A.int)), (.inr "left", .lst []), (.inr "at", .int 0), (.inr "room", .int 58)] ++ wkL wk0, rfl, by simp [wkL], fun m nm => ?_⟩
  have e1 : mergeA [] ([((.inr "cells" : Key), A.lst (fs.map A.int)), (.inr "left", .lst []), (.inr "at", .int 0), (.inr "room", .int 58)] ++ wkL wk0) = [(.inr "cells", .lst (fs.map A.int)), (.inr "left", .lst []), (.inr "at", .int 0), (.inr "room", .int 58)] ++ wkL wk0 := rfl
  rw [e1]
  refine wSs_cons (wS_dput ar (wE_lc [("_law_cell", 2)] (lcMap (wIt_fls (wE_name 0 rfl ⟨_, rfl, ?_⟩))) nd (blkOk_by (N := N__law_begun) (sc := defScope s__law_begun) (by decide +kernel))))
  refine ⟨by rw [List.length_map]; exact Nat.le_trans hn (by decide), ns.map (fun i => A.int (if 10 ^ 18 ≤ i then i else 0)), by rw [List.length_map, List.length_map], fun i y z hy hz s0 H0 C cl fp => ?_, fun l nl => ?_⟩
  obtain ⟨v, hv, rfl⟩ := map_at hy
  obtain ⟨v2, hv2, rfl⟩ := map_at hz
  obtain rfl : v = v2 := Option.some.inj (hv.symm.trans hv2)
  refine wGw_name 2 (⟨rfl, fun s0 H0 C cl fp => ?_⟩) nd
  refine wE_if (wT_cmp (wE_name 2 rfl (wE_bin (wE_int (wE_int ?_)))))
  refine wO_pow (by decide) ?_
  refine wO_ge ?_
  refine ⟨_, rfl, ?_⟩
  refine ⟨fun hk => ?_, fun hk => ?_⟩
  refine wE_name 2 rfl ?_
  have hk2 : (10 : Int) ^ 18 ≤ v := of_decide_eq_true hk
  exact ⟨by rw [if_pos hk2], .refl _⟩
  refine wE_int ?_
  refine ⟨?_, .refl _⟩
  have hk2 : ¬ (10 : Int) ^ 18 ≤ v := of_decide_eq_false hk
  rw [if_neg hk2]
  refine wE_name 1 rfl (wE_str ?_)
  have nlm : l ≠ m := fun z => by rw [z, Mu.upd_same] at nl; cases nl
  have nl0 : μ l = none := by rw [Mu.upd_ne nlm] at nl; exact nl
  refine ⟨_, _, .inr "left", rfl, by rw [Mu.upd_ne (Ne.symm nlm)]; exact Mu.upd_same, rfl, szLt (by simp [wkL]), ?_⟩
  have e2 : putA ([(.inr "cells", .lst (fs.map A.int)), (.inr "left", .lst []), (.inr "at", .int 0), (.inr "room", .int 58)] ++ wkL wk0) (.inr "left" : Key) (.loc l) = dicL ⟨fs, wk0⟩ l 0 58 none := rfl
  rw [e2]
  refine wSs_cons (wS_ret (wE_name 1 rfl ?_))
  refine q m l _ nm ⟨⟨⟨fs, wk0⟩, ns.map (fun i => if 10 ^ 18 ≤ i then i else 0), 0, Mu.upd_same, ?_, hg, by rw [List.length_map]; exact hn, Int.le_refl _, Int.le_refl _⟩, nlm⟩ ?_
  · rw [Mu.upd_ne nlm, Mu.upd_same, List.map_map]; rfl
  · intro p o h
    have h1 : p ≠ m := fun z => by rw [z, nm] at h; cases h
    have h2 : p ≠ l := fun z => by rw [z, nl0] at h; cases h
    rw [Mu.upd_ne h1, Mu.upd_ne h2, Mu.upd_ne h1]
    exact h

end
end D

set_option exponentiation.threshold 256
set_option pp.maxSteps 5000
set_option Elab.async false
set_option linter.all false
set_option pp.maxSteps 300
set_option maxRecDepth 100000
set_option maxHeartbeats 4000000
namespace D
open PySem PySem.Spec PyProof.Rows L2
local macro_rules | `(tactic| walk_at "mul") => `(tactic| first | refine wO_mul (mulR (by first | decide | omega) (by first | decide | omega)) ?_ | refine wO_mul (mulL (by first | decide | omega) (by first | decide | omega)) ?_)
local macro_rules | `(tactic| walk_at "mod") => `(tactic| refine wO_mod (by first | decide | omega) ?_)
local macro_rules | `(tactic| walk_at "fdiv") => `(tactic| refine wO_fdiv (by first | decide | omega) (divS (by first | decide | omega)) ?_)
local macro_rules | `(tactic| walk_at "ix") => `(tactic| first | refine wI_tup (by rfl) ?_ | refine wI_lst (by rfl) ?_)
local macro_rules | `(tactic| walk_at "sl") => `(tactic| first | refine wSl_tup ?_ | refine wSl_lstF ?_)
local macro_rules | `(tactic| walk_at "obj") => `(tactic| refine ⟨_, _, _, rfl, by assumption, rfl, ?_⟩)
local macro_rules | `(tactic| walk_at "len") => `(tactic| first | refine wC_len (.tup _) ?_ | refine wC_len (.lst _) ?_ | refine wC_len (.loc (by assumption)) ?_)
section
variable {P : Program} {w : World} {mg : Str → Option Value} {base : Heap} {K : PySem.W.Frag} {CF CS : Addr} {k : Nat}
abbrev s__law_common : Stmt := topS 24
abbrev N__law_common : List Str := ["_law_one", "_law_other"]
theorem sc__law_common : FnScope N__law_common ["_law_one", "_law_other"] (defScope s__law_common) := ⟨rfl, rfl, rfl, by decide +kernel, rfl, by decide +kernel, by decide +kernel⟩
def c__law_common : AC := fun xs μ Q _ => ∃ a b : Int, xs = [.int a, .int b] ∧ Q (.int (Int.gcd a b : Nat)) μ
theorem ok__law_common {n : Nat}  {f : Addr} {fd : FuncData} (TX : Txt K mg CF CS)  (F : Fun K "_law_common" "_law_common" s__law_common f fd) : FnD P w K mg base CX0 (n + 1) f fd ["_law_one", "_law_other"] c__law_common := by
  refine fnD F sc__law_common (fun xs μ Q E hc => by obtain ⟨a, b, rfl, q⟩ := hc; rfl) (fun cdv Ao outer s H E xs μ Q E0 ar hc => ?_)
  obtain ⟨a, b, rfl, q⟩ := hc
  have nd := sc__law_common.nd
  refine wSs_cons (wS_par 0 1 (wA_cons (wE_callB (id := "abs") TX.b_abs (by decide +kernel) (wA_cons (wE_name 0 rfl (wA_nil ?_))))) nd)
  refine wC_abs ?_
  refine wA_cons (wE_callB (id := "abs") TX.b_abs (by decide +kernel) (wA_cons (wE_name 1 rfl (wA_nil ?_))))
  refine wC_abs ?_
  refine wA_nil ⟨_, _, rfl, (wSs_cons ?_)⟩
  refine wS_while (fun m Γ' μ' => ∃ x y : Nat, Γ' = [some (.int x), some (.int y)] ∧ μ = μ' ∧ Nat.gcd x y = Int.gcd a b ∧ y ≤ m) b.natAbs ⟨a.natAbs, b.natAbs, ?_, rfl, rfl, Nat.le_refl _⟩ (fun m Γ' μ' hW => ?_)
  · have e1 : (if a < 0 then -a else a) = (a.natAbs : Int) := by split <;> omega
    have e2 : (if b < 0 then -b else b) = (b.natAbs : Int) := by split <;> omega
    rw [e1, e2]; rfl
  obtain ⟨x, y, rfl, rfl, hg, hy⟩ := hW
  refine wT_cmp (wE_name 1 rfl (wE_int ?_))
  refine wO_gt ?_
  refine ⟨_, rfl, ?_⟩
  refine ⟨fun hk => ?_, fun hk => ?_⟩
  have hk2 : (0 : Int) < y := of_decide_eq_true hk
  refine wSs_cons (wS_par 0 1 (wA_cons (wE_name 1 rfl (wA_cons (wE_bin (wE_name 0 rfl (wE_name 1 rfl ?_)))))) nd)
  walk_at "mod"
  refine wA_nil ⟨_, _, rfl, (wSs_nil ?_)⟩
  refine ⟨x % y, Nat.lt_of_lt_of_le (Nat.mod_lt _ (by omega)) hy, y, x % y, rfl, rfl, ?_, Nat.le_refl _⟩
  rw [← hg, Nat.gcd_comm x y, Nat.gcd_rec y x, Nat.gcd_comm]
  have hk2 : ¬ (0 : Int) < y := of_decide_eq_false hk
  obtain rfl : y = 0 := by omega
  rw [Nat.gcd_zero_right] at hg
  refine wSs_cons (wS_ret (wE_name 0 rfl ?_))
  rw [hg]; exact q

abbrev s__law_lowest : Stmt := topS 25
abbrev N__law_lowest : List Str := ["_law_n", "_law_d", "_law_part"]
theorem sc__law_lowest : FnScope N__law_lowest ["_law_n", "_law_d"] (defScope s__law_lowest) := ⟨rfl, rfl, rfl, by decide +kernel, rfl, by decide +kernel, by decide +kernel⟩
def c__law_lowest : AC := fun xs μ Q _ => ∃ n d : Int, xs = [.int n, .int d] ∧ d ≠ 0 ∧ Bd 8000 d ∧ Q (low n d) μ
theorem ok__law_lowest {n : Nat}  {f : Addr} {fd : FuncData} (TX : Txt K mg CF CS) (C__law_common : Cal P w K mg base n "_law_common" c__law_common) (F : Fun K "_law_lowest" "_law_lowest" s__law_lowest f fd) : FnD P w K mg base CX0 (n + 1) f fd ["_law_n", "_law_d"] c__law_lowest := by
  refine fnD F sc__law_lowest (fun xs μ Q E hc => by obtain ⟨n, d, rfl, d0, hd, q⟩ := hc; rfl) (fun cdv Ao outer s H E xs μ Q E0 ar hc => ?_)
  obtain ⟨n, d, rfl, d0, hd, q⟩ := hc
  have nd := sc__law_lowest.nd
  refine wSs_cons (wS_set 2 (wE_cal C__law_common ar (by omega) (wA_cons (wE_name 0 rfl (wA_cons (wE_name 1 rfl (wA_nil ?_)))))) nd)
  refine ⟨n, d, rfl, ?_⟩
  refine wSs_cons (wS_set 2 ?_ nd)
  refine wE.imp (Q := fun z μ' => μ = μ' ∧ z = .int (part n d)) ?_ (fun z μ' hz => ?_)
  refine wE_if (wT_cmp (wE_name 1 rfl (wE_int ?_)))
  refine wO_gt ?_
  refine ⟨_, rfl, ?_⟩
  refine ⟨fun hk => ?_, fun hk => ?_⟩
  refine wE_name 2 rfl ?_
  exact ⟨rfl, by unfold part; rw [if_pos (of_decide_eq_true hk)]⟩
  refine wE_bin (wE_int (wE_name 2 rfl ?_))
  refine wO_sub ?_
  exact ⟨rfl, by unfold part; rw [if_neg (of_decide_eq_false hk)]⟩
  obtain ⟨rfl, rfl⟩ := hz
  refine wSs_cons (wS_ret (wE_tup (wA_cons (wE_bin (wE_name 0 rfl (wE_name 2 rfl ?_))))))
  refine wO_fdivN (part_ne d0) ((part_bd d0 hd).noPy (by decide) (by decide)) ?_
  refine wA_cons (wE_bin (wE_name 1 rfl (wE_name 2 rfl ?_)))
  refine wO_fdivN (part_ne d0) ((part_bd d0 hd).noPy (by decide) (by decide)) ?_
  refine wA_nil ⟨by show 2 ≤ sizeLine; decide, ?_⟩
  exact q

abbrev s__law_fraction : Stmt := topS 26
abbrev N__law_fraction : List Str := ["_law_m", "_law_size", "_law_below"]
theorem sc__law_fraction : FnScope N__law_fraction ["_law_m"] (defScope s__law_fraction) := ⟨rfl, rfl, rfl, by decide +kernel, rfl, by decide +kernel, by decide +kernel⟩
def c__law_fraction : AC := fun xs μ Q _ => ∃ (m l : Addr) (c : Nat) (rm : Int) (mo : Option (List Str)), xs = [.loc m] ∧ Lx m l c rm mo μ ∧ c < 2 ^ 39 ∧ ∀ (n d : Int) (μ' : Mu), Fr n d → n.natAbs ≤ 10 ^ 20 → d ≤ 9 → Lx m l (c + 4) rm mo μ' → Ls m l μ μ' → Q (.tup [.int n, .int d]) μ'
theorem ok__law_fraction {n : Nat}  {f : Addr} {fd : FuncData} (TX : Txt K mg CF CS) (C__law_draw : Cal P w K mg base n "_law_draw" c__law_draw) (C__law_lowest : Cal P w K mg base n "_law_lowest" c__law_lowest) (F : Fun K "_law_fraction" "_law_fraction" s__law_fraction f fd) : FnD P w K mg base CX0 (n + 1) f fd ["_law_m"] c__law_fraction := by
  refine fnD F sc__law_fraction (fun xs μ Q E hc => by obtain ⟨m, l, c, rm, mo, rfl, lw, hc, q⟩ := hc; rfl) (fun cdv Ao outer s H E xs μ Q E0 ar hc => ?_)
  obtain ⟨m, l, c, rm, mo, rfl, lw, hc, q⟩ := hc
  have nd := sc__law_fraction.nd
  refine wSs_cons (wS_set 1 (wE_ix (wE_lstF (wA_cons (wE_int (wA_cons (wE_int (wA_cons (wE_int (wA_cons (wE_int (wA_cons (wE_int (wA_cons (wE_bin (wE_int (wE_int ?_)))))))))))))))) nd)
  refine wO_pow (by decide) ?_
  refine wA_nil ⟨by show 6 ≤ sizeLine; decide, (wE_cal C__law_draw ar (by omega) (wA_cons (wE_name 0 rfl (wA_cons (wE_int (wA_nil ?_))))))⟩
  refine ⟨m, l, 6, c, _, _, rfl, by decide, by decide, lw, by omega, fun r1 μ1 a0 a1 lw1 ls1 => ?_⟩
  obtain ⟨y1, hy1, e1⟩ := atI_ex (xs := [D.A.int 1, .int 4, .int 9, .int 30, .int 30, .int (10 ^ (20 : Int).toNat)]) a0 (by simpa using a1)
  obtain ⟨z, rfl, z0, z1⟩ : ∃ z : Int, y1 = .int z ∧ 1 ≤ z ∧ z ≤ 10 ^ 20 := by
    simp only [List.mem_cons, List.not_mem_nil, or_false] at hy1
    rcases hy1 with rfl | rfl | rfl | rfl | rfl | rfl <;> exact ⟨_, rfl, by decide, by decide⟩
  refine wI_lst e1 ?_
  refine wSs_cons (wS_set 2 (wE_ix (wE_lstF (wA_cons (wE_int (wA_cons (wE_int (wA_cons (wE_int (wA_cons (wE_int (wA_cons (wE_bin (wE_int (wE_cal C__law_draw ar (by omega) (wA_cons (wE_name 0 rfl (wA_cons (wE_int (wA_nil ?_))))))))))))))))))) nd)
  refine ⟨m, l, 9, _, _, _, rfl, by decide, by decide, lw1, by omega, fun r2 μ2 b0 b1 lw2 ls2 => ?_⟩
  refine wO_add ?_
  refine wA_nil ⟨by show 5 ≤ sizeLine; decide, (wE_cal C__law_draw ar (by omega) (wA_cons (wE_name 0 rfl (wA_cons (wE_int (wA_nil ?_))))))⟩
  refine ⟨m, l, 5, _, _, _, rfl, by decide, by decide, lw2, by omega, fun r3 μ3 d0 d1 lw3 ls3 => ?_⟩
  obtain ⟨y2, hy2, e2⟩ := atI_ex (xs := [D.A.int 1, .int 1, .int 2, .int 3, .int (1 + r2)]) d0 (by simpa using d1)
  obtain ⟨u, rfl, u0, u1⟩ : ∃ u : Int, y2 = .int u ∧ 1 ≤ u ∧ u ≤ 9 := by
    simp only [List.mem_cons, List.not_mem_nil, or_false] at hy2
    rcases hy2 with rfl | rfl | rfl | rfl | rfl <;> exact ⟨_, rfl, by omega, by omega⟩
  refine wI_lst e2 ?_
  refine wSs_cons (wS_ret (wE_cal C__law_lowest ar (by omega) (wA_cons (wE_bin (wE_cal C__law_draw ar (by omega) (wA_cons (wE_name 0 rfl (wA_cons (wE_bin (wE_bin (wE_int (wE_name 1 rfl ?_))))))))))))
  walk_at "mul"
  refine wE_int ?_
  refine wO_add ?_
  refine wA_nil ?_
  refine ⟨m, l, _, _, _, _, rfl, by omega, by omega, lw3, by omega, fun r4 μ4 f0 f1 lw4 ls4 => ?_⟩
  refine wE_name 1 rfl ?_
  refine wO_sub ?_
  refine wA_cons (wE_name 2 rfl (wA_nil ?_))
  refine ⟨_, _, rfl, by omega, (Bd.of (n := 8) (by omega) (by omega)).mono (by decide), ?_⟩
  have hfr := low_fr (n := r4 - z) (d := u) (by omega)
  have h1 := lowN_le (n := r4 - z) (d := u) (by omega)
  have h2 := lowD_le (n := r4 - z) (d := u) (by omega)
  have h3 := hfr.pos
  exact q _ _ _ hfr (by omega) (by omega) lw4 (((ls1.trans ls2).trans ls3).trans ls4)

end
end D

set_option exponentiation.threshold 256
set_option pp.maxSteps 5000
set_option Elab.async false
set_option linter.all false
set_option pp.maxSteps 300
set_option maxRecDepth 100000
set_option maxHeartbeats 4000000
namespace D
open PySem PySem.Spec PyProof.Rows L2
local macro_rules | `(tactic| walk_at "mul") => `(tactic| first | refine wO_mul (mulR (by first | decide | omega) (by first | decide | omega)) ?_ | refine wO_mul (mulL (by first | decide | omega) (by first | decide | omega)) ?_)
local macro_rules | `(tactic| walk_at "mod") => `(tactic| refine wO_mod (by first | decide | omega) ?_)
local macro_rules | `(tactic| walk_at "fdiv") => `(tactic| refine wO_fdiv (by first | decide | omega) (divS (by first | decide | omega)) ?_)
local macro_rules | `(tactic| walk_at "ix") => `(tactic| first | refine wI_tup (by rfl) ?_ | refine wI_lst (by rfl) ?_)
local macro_rules | `(tactic| walk_at "sl") => `(tactic| first | refine wSl_tup ?_ | refine wSl_lstF ?_)
local macro_rules | `(tactic| walk_at "obj") => `(tactic| refine ⟨_, _, _, rfl, by assumption, rfl, ?_⟩)
local macro_rules | `(tactic| walk_at "len") => `(tactic| first | refine wC_len (.tup _) ?_ | refine wC_len (.lst _) ?_ | refine wC_len (.loc (by assumption)) ?_)
section
variable {P : Program} {w : World} {mg : Str → Option Value} {base : Heap} {K : PySem.W.Frag} {CF CS : Addr} {k : Nat}
def c__law_lowest_F : AC := fun xs μ Q _ => ∃ n d : Int, xs = [.int n, .int d] ∧ d ≠ 0 ∧ Q (low n d) μ
theorem ok__law_lowest_F {n : Nat} {n2 : 32 ≤ n} {far : Far P base} {f : Addr} {fd : FuncData} (TX : Txt K mg CF CS) (C__law_common : Cal P w K mg base n "_law_common" c__law_common) (F : Fun K "_law_lowest" "_law_lowest" s__law_lowest f fd) : FnD P w K mg base CX0 (n + 1) f fd ["_law_n", "_law_d"] c__law_lowest_F := by
  refine fnD F sc__law_lowest (fun xs μ Q E hc => by obtain ⟨n, d, rfl, d0, q⟩ := hc; rfl) (fun cdv Ao outer s H E xs μ Q E0 ar hc => ?_)
  obtain ⟨n, d, rfl, d0, q⟩ := hc
  have nd := sc__law_lowest.nd
  refine wSs_cons (wS_set 2 (wE_cal C__law_common ar (by omega) (wA_cons (wE_name 0 rfl (wA_cons (wE_name 1 rfl (wA_nil ?_)))))) nd)
  refine ⟨n, d, rfl, ?_⟩
  refine wSs_cons (wS_set 2 ?_ nd)
  refine wE.imp (Q := fun z μ' => μ = μ' ∧ z = .int (part n d)) ?_ (fun z μ' hz => ?_)
  refine wE_if (wT_cmp (wE_name 1 rfl (wE_int ?_)))
  refine wO_gt ?_
  refine ⟨_, rfl, ?_⟩
  refine ⟨fun hk => ?_, fun hk => ?_⟩
  refine wE_name 2 rfl ?_
  exact ⟨rfl, by unfold part; rw [if_pos (of_decide_eq_true hk)]⟩
  refine wE_bin (wE_int (wE_name 2 rfl ?_))
  refine wO_sub ?_
  exact ⟨rfl, by unfold part; rw [if_neg (of_decide_eq_false hk)]⟩
  obtain ⟨rfl, rfl⟩ := hz
  refine wSs_cons (wS_ret (wE_tup (wA_cons (wE_bin (wE_name 0 rfl (wE_name 2 rfl ?_))))))
  refine wO_fdivF far ar n2 (part_ne d0) ?_
  refine wA_cons (wE_bin (wE_name 1 rfl (wE_name 2 rfl ?_)))
  refine wO_fdivF far ar n2 (part_ne d0) ?_
  refine wA_nil ⟨by show 2 ≤ sizeLine; decide, ?_⟩
  exact q

abbrev s__law_plus : Stmt := topS 27
abbrev N__law_plus : List Str := ["_law_one", "_law_other"]
theorem sc__law_plus : FnScope N__law_plus ["_law_one", "_law_other"] (defScope s__law_plus) := ⟨rfl, rfl, rfl, by decide +kernel, rfl, by decide +kernel, by decide +kernel⟩
def c__law_plus : AC := fun xs μ Q _ => ∃ (x y : Rat) (n m : Nat), xs = [ra x, ra y] ∧ FB n x ∧ FB m y ∧ n + m ≤ 2 ^ 27 ∧ Q (ra (x + y)) μ
theorem ok__law_plus {n : Nat}  {f : Addr} {fd : FuncData} (TX : Txt K mg CF CS) (C__law_lowest : Cal P w K mg base n "_law_lowest" c__law_lowest_F) (F : Fun K "_law_plus" "_law_plus" s__law_plus f fd) : FnD P w K mg base CX0 (n + 1) f fd ["_law_one", "_law_other"] c__law_plus := by
  refine fnD F sc__law_plus (fun xs μ Q E hc => by obtain ⟨x, y, n, m, rfl, hx, hy, hnm, q⟩ := hc; rfl) (fun cdv Ao outer s H E xs μ Q E0 ar hc => ?_)
  obtain ⟨x, y, n, m, rfl, hx, hy, hnm, q⟩ := hc
  have nd := sc__law_plus.nd
  refine wSs_cons (wS_ret (wE_cal C__law_lowest ar (by omega) (wA_cons (wE_bin (wE_bin (wE_ix (wE_name 0 rfl (wE_int ?_))))))))
  walk_at "ix"
  refine wE_ix (wE_name 1 rfl (wE_int ?_))
  walk_at "ix"
  refine wO_mul (hx.u.mulFar hy.d hnm) ?_
  refine wE_bin (wE_ix (wE_name 1 rfl (wE_int ?_)))
  walk_at "ix"
  refine wE_ix (wE_name 0 rfl (wE_int ?_))
  walk_at "ix"
  refine wO_mul (hy.u.mulFar hx.d (by omega)) ?_
  refine wO_add ?_
  refine wA_cons (wE_bin (wE_ix (wE_name 0 rfl (wE_int ?_))))
  walk_at "ix"
  refine wE_ix (wE_name 1 rfl (wE_int ?_))
  walk_at "ix"
  refine wO_mul (hx.d.mulFar hy.d hnm) ?_
  refine wA_nil ?_
  refine ⟨_, _, rfl, Int.mul_ne_zero den_ne den_ne, ?_⟩
  rw [ra_add]
  exact q

abbrev s__law_less : Stmt := topS 28
abbrev N__law_less : List Str := ["_law_one", "_law_other"]
theorem sc__law_less : FnScope N__law_less ["_law_one", "_law_other"] (defScope s__law_less) := ⟨rfl, rfl, rfl, by decide +kernel, rfl, by decide +kernel, by decide +kernel⟩
def c__law_less : AC := fun xs μ Q _ => ∃ (x y : Rat) (n m : Nat), xs = [ra x, ra y] ∧ FB n x ∧ FB m y ∧ n + m ≤ 2 ^ 27 ∧ Q (ra (x - y)) μ
theorem ok__law_less {n : Nat}  {f : Addr} {fd : FuncData} (TX : Txt K mg CF CS) (C__law_lowest : Cal P w K mg base n "_law_lowest" c__law_lowest_F) (F : Fun K "_law_less" "_law_less" s__law_less f fd) : FnD P w K mg base CX0 (n + 1) f fd ["_law_one", "_law_other"] c__law_less := by
  refine fnD F sc__law_less (fun xs μ Q E hc => by obtain ⟨x, y, n, m, rfl, hx, hy, hnm, q⟩ := hc; rfl) (fun cdv Ao outer s H E xs μ Q E0 ar hc => ?_)
  obtain ⟨x, y, n, m, rfl, hx, hy, hnm, q⟩ := hc
  have nd := sc__law_less.nd
  refine wSs_cons (wS_ret (wE_cal C__law_lowest ar (by omega) (wA_cons (wE_bin (wE_bin (wE_ix (wE_name 0 rfl (wE_int ?_))))))))
  walk_at "ix"
  refine wE_ix (wE_name 1 rfl (wE_int ?_))
  walk_at "ix"
  refine wO_mul (hx.u.mulFar hy.d hnm) ?_
  refine wE_bin (wE_ix (wE_name 1 rfl (wE_int ?_)))
  walk_at "ix"
  refine wE_ix (wE_name 0 rfl (wE_int ?_))
  walk_at "ix"
  refine wO_mul (hy.u.mulFar hx.d (by omega)) ?_
  refine wO_sub ?_
  refine wA_cons (wE_bin (wE_ix (wE_name 0 rfl (wE_int ?_))))
  walk_at "ix"
  refine wE_ix (wE_name 1 rfl (wE_int ?_))
  walk_at "ix"
  refine wO_mul (hx.d.mulFar hy.d hnm) ?_
  refine wA_nil ?_
  refine ⟨_, _, rfl, Int.mul_ne_zero den_ne den_ne, ?_⟩
  rw [ra_sub]
  exact q

abbrev s__law_times : Stmt := topS 29
abbrev N__law_times : List Str := ["_law_one", "_law_other"]
theorem sc__law_times : FnScope N__law_times ["_law_one", "_law_other"] (defScope s__law_times) := ⟨rfl, rfl, rfl, by decide +kernel, rfl, by decide +kernel, by decide +kernel⟩
def c__law_times : AC := fun xs μ Q _ => ∃ (x y : Rat) (n m : Nat), xs = [ra x, ra y] ∧ FB n x ∧ FB m y ∧ n + m ≤ 2 ^ 27 ∧ Q (ra (x * y)) μ
theorem ok__law_times {n : Nat}  {f : Addr} {fd : FuncData} (TX : Txt K mg CF CS) (C__law_lowest : Cal P w K mg base n "_law_lowest" c__law_lowest_F) (F : Fun K "_law_times" "_law_times" s__law_times f fd) : FnD P w K mg base CX0 (n + 1) f fd ["_law_one", "_law_other"] c__law_times := by
  refine fnD F sc__law_times (fun xs μ Q E hc => by obtain ⟨x, y, n, m, rfl, hx, hy, hnm, q⟩ := hc; rfl) (fun cdv Ao outer s H E xs μ Q E0 ar hc => ?_)
  obtain ⟨x, y, n, m, rfl, hx, hy, hnm, q⟩ := hc
  have nd := sc__law_times.nd
  refine wSs_cons (wS_ret (wE_cal C__law_lowest ar (by omega) (wA_cons (wE_bin (wE_ix (wE_name 0 rfl (wE_int ?_)))))))
  walk_at "ix"
  refine wE_ix (wE_name 1 rfl (wE_int ?_))
  walk_at "ix"
  refine wO_mul (hx.u.mulFar hy.u hnm) ?_
  refine wA_cons (wE_bin (wE_ix (wE_name 0 rfl (wE_int ?_))))
  walk_at "ix"
  refine wE_ix (wE_name 1 rfl (wE_int ?_))
  walk_at "ix"
  refine wO_mul (hx.d.mulFar hy.d hnm) ?_
  refine wA_nil ?_
  refine ⟨_, _, rfl, Int.mul_ne_zero den_ne den_ne, ?_⟩
  rw [ra_mul]
  exact q

abbrev s__law_over : Stmt := topS 30
abbrev N__law_over : List Str := ["_law_one", "_law_other"]
theorem sc__law_over : FnScope N__law_over ["_law_one", "_law_other"] (defScope s__law_over) := ⟨rfl, rfl, rfl, by decide +kernel, rfl, by decide +kernel, by decide +kernel⟩
def c__law_over : AC := fun xs μ Q _ => ∃ (x y : Rat) (n m : Nat), xs = [ra x, ra y] ∧ FB n x ∧ FB m y ∧ n + m ≤ 2 ^ 27 ∧ y ≠ 0 ∧ Q (ra (x / y)) μ
theorem ok__law_over {n : Nat}  {f : Addr} {fd : FuncData} (TX : Txt K mg CF CS) (C__law_lowest : Cal P w K mg base n "_law_lowest" c__law_lowest_F) (F : Fun K "_law_over" "_law_over" s__law_over f fd) : FnD P w K mg base CX0 (n + 1) f fd ["_law_one", "_law_other"] c__law_over := by
  refine fnD F sc__law_over (fun xs μ Q E hc => by obtain ⟨x, y, n, m, rfl, hx, hy, hnm, y0, q⟩ := hc; rfl) (fun cdv Ao outer s H E xs μ Q E0 ar hc => ?_)
  obtain ⟨x, y, n, m, rfl, hx, hy, hnm, y0, q⟩ := hc
  have nd := sc__law_over.nd
  refine wSs_cons (wS_ret (wE_cal C__law_lowest ar (by omega) (wA_cons (wE_bin (wE_ix (wE_name 0 rfl (wE_int ?_)))))))
  walk_at "ix"
  refine wE_ix (wE_name 1 rfl (wE_int ?_))
  walk_at "ix"
  refine wO_mul (hx.u.mulFar hy.d hnm) ?_
  refine wA_cons (wE_bin (wE_ix (wE_name 0 rfl (wE_int ?_))))
  walk_at "ix"
  refine wE_ix (wE_name 1 rfl (wE_int ?_))
  walk_at "ix"
  refine wO_mul (hx.d.mulFar hy.u hnm) ?_
  refine wA_nil ?_
  refine ⟨_, _, rfl, Int.mul_ne_zero den_ne (fun z => y0 (num_zero.mp z)), ?_⟩
  rw [ra_div _ _ (fun z => y0 (num_zero.mp z))]
  exact q

end
end D

set_option exponentiation.threshold 256
set_option pp.maxSteps 5000
set_option Elab.async false
set_option linter.all false
set_option pp.maxSteps 300
set_option maxRecDepth 100000
set_option maxHeartbeats 4000000
namespace D
open PySem PySem.Spec PyProof.Rows L2
local macro_rules | `(tactic| walk_at "mul") => `(tactic| first | refine wO_mul (mulR (by first | decide | omega) (by first | decide | omega)) ?_ | refine wO_mul (mulL (by first | decide | omega) (by first | decide | omega)) ?_)
local macro_rules | `(tactic| walk_at "mod") => `(tactic| refine wO_mod (by first | decide | omega) ?_)
local macro_rules | `(tactic| walk_at "fdiv") => `(tactic| refine wO_fdiv (by first | decide | omega) (divS (by first | decide | omega)) ?_)
local macro_rules | `(tactic| walk_at "ix") => `(tactic| first | refine wI_tup (by rfl) ?_ | refine wI_lst (by rfl) ?_)
local macro_rules | `(tactic| walk_at "sl") => `(tactic| first | refine wSl_tup ?_ | refine wSl_lstF ?_)
local macro_rules | `(tactic| walk_at "obj") => `(tactic| refine ⟨_, _, _, rfl, by assumption, rfl, ?_⟩)
local macro_rules | `(tactic| walk_at "len") => `(tactic| first | refine wC_len (.tup _) ?_ | refine wC_len (.lst _) ?_ | refine wC_len (.loc (by assumption)) ?_)
section
variable {P : Program} {w : World} {mg : Str → Option Value} {base : Heap} {K : PySem.W.Frag} {CF CS : Addr} {k : Nat}
abbrev s__law_determinant : Stmt := topS 32
abbrev N__law_determinant : List Str := ["_law_square", "_law_found", "_law_k", "_law_one", "_law_rest", "_law_row", "_law_part"]
theorem sc__law_determinant : FnScope N__law_determinant ["_law_square"] (defScope s__law_determinant) := ⟨rfl, rfl, rfl, by decide +kernel, rfl, by decide +kernel, by decide +kernel⟩
def c__law_determinant (k : Nat) : AC := fun xs μ Q _ => ∃ (M : List (List Rat)) (n : Nat), xs = [.lst (rls M)] ∧ n < k ∧ n ≤ 4 ∧ Rect n n M ∧ (∀ r ∈ M, ∀ x ∈ r, En7 x) ∧ Q (ra (detF n M)) μ
theorem ok__law_determinant {n : Nat}  {f : Addr} {fd : FuncData} (TX : Txt K mg CF CS) (C__law_determinant : Cal P w K mg base n "_law_determinant" (c__law_determinant k)) (C__law_times : Cal P w K mg base n "_law_times" c__law_times) (C__law_less : Cal P w K mg base n "_law_less" c__law_less) (C__law_plus : Cal P w K mg base n "_law_plus" c__law_plus) (F : Fun K "_law_determinant" "_law_determinant" s__law_determinant f fd) : FnD P w K mg base CX0 (n + 1) f fd ["_law_square"] (c__law_determinant (k + 1)) := by
  refine fnD F sc__law_determinant (fun xs μ Q E hc => by obtain ⟨M, n, rfl, hk0, n4, hr, he, q⟩ := hc; rfl) (fun cdv Ao outer s H E xs μ Q E0 ar hc => ?_)
  obtain ⟨M, n, rfl, hk0, n4, hr, he, q⟩ := hc
  have hl := hr.len
  have nd := sc__law_determinant.nd
  refine wSs_cons (wS_set 1 (wE_tup (wA_cons (wE_int (wA_cons (wE_int (wA_nil ⟨by show 2 ≤ sizeLine; decide, (wSs_cons (wS_if (wT_cmp (wE_name 0 rfl (wE_lstF (wA_nil ⟨by show 0 ≤ sizeLine; decide, ?_⟩))))))⟩)))))) nd)
  refine wO_eqL ar.u64 (.lst _) (.lst _) (datRls M) dat_nil ?_
  refine ⟨_, rfl, ?_⟩
  rw [show PyData.eqv (toD (D.A.lst (rls M))) (toD (D.A.lst [])) = decide (M = []) from eqv_nilM _ M]
  refine ⟨fun hk => ?_, fun hk => ?_⟩
  refine wSs_cons (wS_ret (wE_tup (wA_cons (wE_int (wA_cons (wE_int (wA_nil ⟨by show 2 ≤ sizeLine; decide, ?_⟩)))))))
  have e : M = [] := of_decide_eq_true hk
  obtain rfl : n = 0 := by rw [e] at hl; exact hl.symm
  exact q
  have e : M ≠ [] := of_decide_eq_false hk
  obtain ⟨m, rfl⟩ : ∃ m, n = m + 1 := ⟨n - 1, by have := List.length_pos_iff.mpr e; omega⟩
  have r0 : (M.getD 0 []).length = m + 1 := hr.rw (by omega)
  refine wSs_nil ?_
  refine wSs_cons (wS_for (wIt_enum TX.b_enumerate (wA_cons (wE_ix (wE_name 0 rfl (wE_int ?_))))))
  refine wI_lst (rls_ix (k := 0) rfl (by omega)) ?_
  refine wA_nil ⟨_, .inl rfl, ?_⟩
  refine ⟨fun i Γ' μ' => ∃ f x2 x3 x4 x5 x6, Γ' = [some (.lst (rls M)), some (ra f), x2, x3, x4, x5, x6] ∧ μ' = μ ∧ f = altF (fun k => ap (M.getD 0 []) k) (fun k => detF m (M.tail.map (dropC k))) i, ⟨0, _, _, _, _, _, rfl, rfl, rfl⟩, fun i y Γ' μ' hy hI => ?_, fun Γ' μ' hI => ?_⟩
  obtain ⟨f, x2, x3, x4, x5, x6, rfl, rfl, ef⟩ := hI
  obtain ⟨x, hx, rfl⟩ := enumA_at hy
  obtain ⟨hi, rfl⟩ := rl_get hx
  have him : i < m + 1 := by omega
  refine wG_tup (wGs_cons (wG_name 2 (wGs_cons (wG_name 3 (wGs_nil ?_) nd)) nd))
  refine wSs_cons (wS_set 4 (wE_cal C__law_determinant ar (by omega) (wA_cons (wE_lcF (own := [("_law_row", 5)]) (wIt_list (wE_slice (wE_name 0 rfl (wE_int ⟨_, rfl, ?_⟩)))) nd (blkOk_by (N := N__law_determinant) (sc := defScope s__law_determinant) (by decide +kernel))))) nd)
  refine wSl_lstF ?_
  rw [show cutA (rls M) (some 1) none = rls (M.drop 1) from cut_lo (n := 1), List.drop_one]
  refine ⟨_, rfl, ?_⟩
  refine ⟨szOk (by rw [rls_len, List.length_tail]; omega), rls (M.tail.map (dropC i)), by rw [rls_len, rls_len, List.length_map], fun j y z hy hz s0 H0 C cl fp => ?_, ?_⟩
  obtain ⟨r, hrr, rfl⟩ := map_at hy
  obtain ⟨v, hv, rfl⟩ := map_at hz
  obtain ⟨r2, hr2, rfl⟩ := map_at hv
  obtain rfl : r = r2 := Option.some.inj (hrr.symm.trans hr2)
  have rl' : r.length = m + 1 := hr.row r (List.mem_of_mem_tail (List.mem_of_getElem? hrr))
  refine wGw_name 5 (⟨rfl, fun s0 H0 C cl fp => (wE_bin (wE_slice (wE_name 5 rfl (wE_name 2 rfl ⟨_, rfl, ?_⟩))))⟩) nd
  refine wSl_lstF ?_
  rw [show cutA (rl r) none (some (i : Int)) = rl (r.take i) from cut_hi]
  refine wE_slice (wE_name 5 rfl (wE_bin (wE_name 2 rfl (wE_int ?_))))
  refine wO_add ?_
  refine ⟨_, rfl, ?_⟩
  refine wSl_lstF ?_
  rw [show cutA (rl r) (some ((i : Int) + 1)) none = rl (r.drop (i + 1)) from cut_lo (n := i + 1)]
  refine wO_catF (.lst _) (.lst _) (szOk (by rw [rl_len, rl_len, List.length_take, List.length_drop]; omega)) ?_
  rw [rl_app]
  refine ⟨?_, .refl _⟩
  rfl
  refine wA_nil ?_
  refine ⟨_, m, rfl, by omega, by omega, rect_tail1 hr him, e7_drop fun r h => he r (List.mem_of_mem_tail h), ?_⟩
  refine wSs_cons (wS_set 6 (wE_cal C__law_times ar (by omega) (wA_cons (wE_name 3 rfl (wA_cons (wE_name 4 rfl (wA_nil ?_)))))) nd)
  refine ⟨_, _, 82, 340, rfl, (e7_at he 0 i).fb, det_fb (e7_drop fun r h => he r (List.mem_of_mem_tail h)) (by omega), by decide, ?_⟩
  refine wSs_cons (wS_set 1 ?_ nd)
  refine wE_if (wT_cmp (wE_bin (wE_name 2 rfl (wE_int ?_))))
  walk_at "mod"
  refine wE_int ?_
  refine wO_eqI ?_
  refine ⟨_, rfl, ?_⟩
  refine ⟨fun hk => ?_, fun hk => ?_⟩
  refine wE_cal C__law_less ar (by omega) (wA_cons (wE_name 1 rfl (wA_cons (wE_name 6 rfl (wA_nil ?_)))))
  refine ⟨_, _, 340, 82 + 340, rfl, ef ▸ alt_fb he (by omega) (by omega), (e7_at he 0 i).fb.mul (det_fb (e7_drop fun r h => he r (List.mem_of_mem_tail h)) (by omega)), by decide, ?_⟩
  have e1 : i % 2 = 1 := by have := of_decide_eq_true hk; omega
  exact wSs_nil ⟨_, _, _, _, _, _, rfl, rfl, by rw [ef]; exact (if_pos e1).symm⟩
  refine wE_cal C__law_plus ar (by omega) (wA_cons (wE_name 1 rfl (wA_cons (wE_name 6 rfl (wA_nil ?_)))))
  refine ⟨_, _, 340, 82 + 340, rfl, ef ▸ alt_fb he (by omega) (by omega), (e7_at he 0 i).fb.mul (det_fb (e7_drop fun r h => he r (List.mem_of_mem_tail h)) (by omega)), by decide, ?_⟩
  refine wSs_nil ?_
  have e1 : ¬ i % 2 = 1 := by have := of_decide_eq_false hk; omega
  exact ⟨_, _, _, _, _, _, rfl, rfl, by rw [ef]; exact (if_neg e1).symm⟩
  rw [enumA_len, rl_len, r0] at hI
  obtain ⟨f, x2, x3, x4, x5, x6, rfl, rfl, ef⟩ := hI
  rw [ef]
  refine wSs_cons (wS_ret (wE_name 1 rfl ?_))
  exact q

end
end D

set_option exponentiation.threshold 256
set_option pp.maxSteps 5000
set_option Elab.async false
set_option linter.all false
set_option pp.maxSteps 300
set_option maxRecDepth 100000
set_option maxHeartbeats 4000000
namespace D
open PySem PySem.Spec PyProof.Rows L2
local macro_rules | `(tactic| walk_at "mul") => `(tactic| first | refine wO_mul (mulR (by first | decide | omega) (by first | decide | omega)) ?_ | refine wO_mul (mulL (by first | decide | omega) (by first | decide | omega)) ?_)
local macro_rules | `(tactic| walk_at "mod") => `(tactic| refine wO_mod (by first | decide | omega) ?_)
local macro_rules | `(tactic| walk_at "fdiv") => `(tactic| refine wO_fdiv (by first | decide | omega) (divS (by first | decide | omega)) ?_)
local macro_rules | `(tactic| walk_at "ix") => `(tactic| first | refine wI_tup (by rfl) ?_ | refine wI_lst (by rfl) ?_)
local macro_rules | `(tactic| walk_at "sl") => `(tactic| first | refine wSl_tup ?_ | refine wSl_lstF ?_)
local macro_rules | `(tactic| walk_at "obj") => `(tactic| refine ⟨_, _, _, rfl, by assumption, rfl, ?_⟩)
local macro_rules | `(tactic| walk_at "len") => `(tactic| first | refine wC_len (.tup _) ?_ | refine wC_len (.lst _) ?_ | refine wC_len (.loc (by assumption)) ?_)
section
variable {P : Program} {w : World} {mg : Str → Option Value} {base : Heap} {K : PySem.W.Frag} {CF CS : Addr} {k : Nat}
abbrev s__law_square_back : Stmt := topS 31
abbrev N__law_square_back : List Str := ["_law_square", "_law_whole", "_law_found", "_law_k", "_law_row", "_law_j", "_law_rest", "_law_at", "_law_one", "_law_side"]
theorem sc__law_square_back : FnScope N__law_square_back ["_law_square"] (defScope s__law_square_back) := ⟨rfl, rfl, rfl, by decide +kernel, rfl, by decide +kernel, by decide +kernel⟩
def c__law_square_back : AC := fun xs μ Q _ => ∃ (M : List (List Rat)) (n : Nat), xs = [.lst (rls M)] ∧ SqD n M ∧ Q (dueB n M) μ
theorem back_row {n i j : Nat} {M : List (List Rat)} : (List.range (j + 1)).map (fun j => sgN (i + j) * detF (n - 1) (miL M j i) / detF n M) = (List.range j).map (fun j => sgN (i + j) * detF (n - 1) (miL M j i) / detF n M) ++ [sgN (i + j) * detF (n - 1) (miL M j i) / detF n M] := by
  rw [List.range_succ, List.map_append]; rfl
theorem back_snoc {n i : Nat} {M : List (List Rat)} (h : i < n) : rls ((backF n M).take i) ++ [.lst (rl ((List.range n).map fun j => sgN (i + j) * detF (n - 1) (miL M j i) / detF n M))] = rls ((backF n M).take (i + 1)) := by
  have e : (backF n M)[i]? = some ((List.range n).map fun j => sgN (i + j) * detF (n - 1) (miL M j i) / detF n M) := by
    unfold backF
    rw [List.getElem?_map, List.getElem?_range h]; rfl
  rw [List.take_add_one, e]
  unfold rls
  rw [List.map_append]; rfl
theorem ok__law_square_back {n : Nat}  {f : Addr} {fd : FuncData} (TX : Txt K mg CF CS) (C__law_determinant : Cal P w K mg base n "_law_determinant" (c__law_determinant 5)) (C__law_over : Cal P w K mg base n "_law_over" c__law_over) (C__law_times : Cal P w K mg base n "_law_times" c__law_times) (F : Fun K "_law_square_back" "_law_square_back" s__law_square_back f fd) : FnD P w K mg base CX0 (n + 1) f fd ["_law_square"] c__law_square_back := by
  refine fnD F sc__law_square_back (fun xs μ Q E hc => by obtain ⟨M, n, rfl, s, q⟩ := hc; rfl) (fun cdv Ao outer s H E xs μ Q E0 ar hc => ?_)
  obtain ⟨M, n, rfl, s, q⟩ := hc
  have hl := s.r.len
  have n4 := s.n4
  have n1 := s.n1
  have nd := sc__law_square_back.nd
  refine wSs_cons (wS_set 1 (wE_cal C__law_determinant ar (by omega) (wA_cons (wE_name 0 rfl (wA_nil ?_)))) nd)
  refine ⟨M, n, rfl, by omega, n4, s.r, s.e, ?_⟩
  refine wSs_cons (wS_if (wT_cmp (wE_name 1 rfl (wE_tup (wA_cons (wE_int (wA_cons (wE_int (wA_nil ⟨by show 2 ≤ sizeLine; decide, ?_⟩)))))))))
  refine wO_eqD (x := ra _) (y := ra 0) ar.u64 (dat_ra _) (dat_ra _) ?_
  rw [eqv_raF]
  refine ⟨_, rfl, ?_⟩
  refine ⟨fun hk => ?_, fun hk => ?_⟩
  refine wSs_cons (wS_ret (wE_non ?_))
  have e := of_decide_eq_true hk
  unfold dueB at q
  rw [if_pos e] at q
  exact q
  have nz := of_decide_eq_false hk
  unfold dueB at q
  rw [if_neg nz] at q
  refine wSs_nil ?_
  refine wSs_cons (wS_set 2 (wE_lst (wA_nil ⟨by show 0 ≤ sizeLine; decide, fun p__law_found np__law_found => (wSs_cons (wS_for (wIt_range1 TX.b_range (wA_cons (wE_callB (id := "len") TX.b_len (by decide +kernel) (wA_cons (wE_name 0 rfl (wA_nil ?_))))))))⟩)) nd)
  refine wC_len (.lst _) ?_
  rw [rls_len, hl]
  refine wA_nil ⟨_, rfl, by omega, by omega, ?_⟩
  refine ⟨fun i Γ' μ' => ∃ x3 x4 x5 x6 x7 x8 x9, Γ' = [some (.lst (rls M)), some (ra (detF n M)), some (.loc p__law_found), x3, x4, x5, x6, x7, x8, x9] ∧ μ' = μ.upd p__law_found (.lst (rls ((backF n M).take i))), ⟨_, _, _, _, _, _, _, rfl, rfl⟩, fun i y Γ' μ' hy hI => ?_, fun Γ' μ' hI => ?_⟩
  obtain ⟨x3, x4, x5, x6, x7, x8, x9, rfl, rfl⟩ := hI
  obtain ⟨hi, rfl⟩ := rgA_at hy
  rw [Int.toNat_natCast] at hi
  rw [Int.zero_add]
  generalize hμ : μ.upd p__law_found (.lst (rls ((backF n M).take i))) = μ1
  refine wG_name 3 ?_ nd
  refine wSs_cons (wS_set 4 (wE_lst (wA_nil ⟨by show 0 ≤ sizeLine; decide, fun p__law_row np__law_row => (wSs_cons (wS_for (wIt_range1 TX.b_range (wA_cons (wE_callB (id := "len") TX.b_len (by decide +kernel) (wA_cons (wE_name 0 rfl (wA_nil ?_))))))))⟩)) nd)
  refine wC_len (.lst _) ?_
  rw [rls_len, hl]
  refine wA_nil ⟨_, rfl, by omega, by omega, ?_⟩
  refine ⟨fun j Γ' μ' => ∃ x5 x6 x7 x8 x9, Γ' = [some (.lst (rls M)), some (ra (detF n M)), some (.loc p__law_found), some (.int (i : Int)), some (.loc p__law_row), x5, x6, x7, x8, x9] ∧ μ' = μ1.upd p__law_row (.lst (rl ((List.range j).map fun j => sgN (i + j) * detF (n - 1) (miL M j i) / detF n M))), ⟨_, _, _, _, _, rfl, rfl⟩, fun j y Γ' μ' hy hI => ?_, fun Γ' μ' hI => ?_⟩
  obtain ⟨x5, x6, x7, x8, x9, rfl, rfl⟩ := hI
  obtain ⟨hj, rfl⟩ := rgA_at hy
  rw [Int.toNat_natCast] at hj
  rw [Int.zero_add]
  refine wG_name 5 ?_ nd
  refine wSs_cons (wS_setLcPF [("_law_at", 7), ("_law_one", 8)] 6 (wIt_enum TX.b_enumerate (wA_cons (wE_name 0 rfl (wA_nil ⟨_, .inl rfl, ?_⟩)))) nd (blkOk_by (N := N__law_square_back) (sc := defScope s__law_square_back) (by decide +kernel)) (sw_true rfl rfl rfl (by decide +kernel)))
  refine ⟨szOk (by rw [enumA_len, rls_len]; omega), (List.range n).map (fun (i2 : Nat) => !decide ((i2 : Int) = (j : Int))), M.map (fun r => D.A.lst (rl (dropC i r))), by rw [enumA_len, rls_len, List.length_map, List.length_range, hl], by rw [enumA_len, rls_len, List.length_map], fun i2 y kk z hy hkk hz s0 H0 C cl fp => ?_, ?_⟩
  obtain ⟨x, hx, rfl⟩ := enumA_at hy
  obtain ⟨r, hrr, rfl⟩ := map_at hx
  obtain ⟨k1, hk1, rfl⟩ := map_at hkk
  obtain ⟨r2, hr2, rfl⟩ := map_at hz
  obtain rfl : r = r2 := Option.some.inj (hrr.symm.trans hr2)
  obtain rfl : k1 = i2 := by
    have hi2 := (List.getElem?_eq_some_iff.mp hrr).1
    rw [List.getElem?_range (by omega)] at hk1
    exact (Option.some.inj hk1).symm
  have rl' : r.length = n := s.r.row r (List.mem_of_getElem? hrr)
  refine wGw_tup2 7 8 ⟨rfl, ?_⟩ nd
  refine ⟨fun s0 H0 C cl fp => ?_, fun kt s0 H0 C cl fp => ?_⟩
  refine wT_cmp (wE_name 7 rfl (wE_name 5 rfl ?_))
  refine wO_neI ?_
  refine ⟨_, rfl, ?_⟩
  exact ⟨rfl, .refl _⟩
  refine wE_bin (wE_slice (wE_name 8 rfl (wE_name 3 rfl ⟨_, rfl, ?_⟩)))
  refine wSl_lstF ?_
  rw [show cutA (rl r) none (some (i : Int)) = rl (r.take i) from cut_hi]
  refine wE_slice (wE_name 8 rfl (wE_bin (wE_name 3 rfl (wE_int ?_))))
  refine wO_add ?_
  refine ⟨_, rfl, ?_⟩
  refine wSl_lstF ?_
  rw [show cutA (rl r) (some ((i : Int) + 1)) none = rl (r.drop (i + 1)) from cut_lo (n := i + 1)]
  refine wO_catF (.lst _) (.lst _) (szOk (by rw [rl_len, rl_len, List.length_take, List.length_drop]; omega)) ?_
  rw [rl_app]
  refine ⟨?_, .refl _⟩
  rfl
  refine wSs_cons (wS_set 9 (wE_tup (wA_cons (wE_bin (wE_int (wE_bin (wE_int (wE_bin (wE_bin (wE_name 3 rfl (wE_name 5 rfl ?_)))))))))) nd)
  rw [pick_mi s.r n4 hj]
  have em : (M.eraseIdx j).map (fun r => D.A.lst (rl (dropC i r))) = rls (miL M j i) := by
    unfold rls miL
    rw [List.map_map]; rfl
  rw [em]
  refine wO_add ?_
  refine wE_int ?_
  walk_at "mod"
  walk_at "mul"
  refine wO_sub ?_
  refine wA_cons (wE_int (wA_nil ⟨by show 2 ≤ sizeLine; decide, ?_⟩))
  refine wSs_cons (wS_expr (wE_append (wE_name 4 rfl ?_)))
  refine ⟨_, _, rfl, Mu.upd_same, ?_⟩
  refine wE_cal C__law_over ar (by omega) (wA_cons (wE_cal C__law_times ar (by omega) (wA_cons (wE_name 9 rfl (wA_cons (wE_cal C__law_determinant ar (by omega) (wA_cons (wE_name 6 rfl (wA_nil ?_)))))))))
  refine ⟨_, n - 1, rfl, by omega, by omega, rect_mi s.r hj hi, e7_mi s.e, ?_⟩
  refine wA_nil ?_
  rw [side_ra]
  refine ⟨_, _, 1, 340, rfl, sg_fb _, det_fb (e7_mi s.e) (by omega), by decide, ?_⟩
  refine wA_cons (wE_name 1 rfl (wA_nil ?_))
  refine ⟨_, _, 1 + 340, 340, rfl, (sg_fb _).mul (det_fb (e7_mi s.e) (by omega)), det_fb s.e n4, by decide, nz, ?_⟩
  refine ⟨_, Mu.upd_same, szLt (by rw [rl_len, List.length_map, List.length_range]; omega), ?_⟩
  refine wSs_nil ?_
  exact ⟨_, _, _, _, _, rfl, by rw [Mu.upd_upd, rl_snoc, ← back_row]⟩
  rw [rgA_len, Int.toNat_natCast] at hI
  obtain ⟨x5, x6, x7, x8, x9, rfl, rfl⟩ := hI
  refine wSs_frz 4 Mu.upd_same rfl ?_
  rw [Mu.del_upd np__law_row, ← hμ]
  refine wSs_cons (wS_expr (wE_append (wE_name 2 rfl ?_)))
  refine ⟨_, _, rfl, Mu.upd_same, ?_⟩
  refine wE_name 4 rfl ?_
  refine ⟨_, Mu.upd_same, szLt (by rw [rls_len, List.length_take]; omega), ?_⟩
  refine wSs_nil ?_
  exact ⟨_, _, _, _, _, _, _, rfl, by rw [Mu.upd_upd, back_snoc hi]⟩
  rw [rgA_len, Int.toNat_natCast, List.take_of_length_le (by rw [back_rect.len]; exact Nat.le_refl _)] at hI
  obtain ⟨x3, x4, x5, x6, x7, x8, x9, rfl, rfl⟩ := hI
  refine wSs_frz 2 Mu.upd_same rfl ?_
  rw [Mu.del_upd np__law_found]
  refine wSs_cons (wS_ret (wE_name 2 rfl ?_))
  exact q

end
end D

set_option exponentiation.threshold 256
set_option pp.maxSteps 5000
set_option Elab.async false
set_option linter.all false
set_option pp.maxSteps 300
set_option maxRecDepth 100000
set_option maxHeartbeats 4000000
namespace D
open PySem PySem.Spec PyProof.Rows L2
local macro_rules | `(tactic| walk_at "mul") => `(tactic| first | refine wO_mul (mulR (by first | decide | omega) (by first | decide | omega)) ?_ | refine wO_mul (mulL (by first | decide | omega) (by first | decide | omega)) ?_)
local macro_rules | `(tactic| walk_at "mod") => `(tactic| refine wO_mod (by first | decide | omega) ?_)
local macro_rules | `(tactic| walk_at "fdiv") => `(tactic| refine wO_fdiv (by first | decide | omega) (divS (by first | decide | omega)) ?_)
local macro_rules | `(tactic| walk_at "ix") => `(tactic| first | refine wI_tup (by rfl) ?_ | refine wI_lst (by rfl) ?_)
local macro_rules | `(tactic| walk_at "sl") => `(tactic| first | refine wSl_tup ?_ | refine wSl_lstF ?_)
local macro_rules | `(tactic| walk_at "obj") => `(tactic| refine ⟨_, _, _, rfl, by assumption, rfl, ?_⟩)
local macro_rules | `(tactic| walk_at "len") => `(tactic| first | refine wC_len (.tup _) ?_ | refine wC_len (.lst _) ?_ | refine wC_len (.loc (by assumption)) ?_)
section
variable {P : Program} {w : World} {mg : Str → Option Value} {base : Heap} {K : PySem.W.Frag} {CF CS : Addr} {k : Nat}
abbrev s__law_put_to : Stmt := topS 33
abbrev N__law_put_to : List Str := ["_law_square", "_law_row", "_law_found", "_law_own", "_law_total", "_law_one", "_law_other"]
theorem sc__law_put_to : FnScope N__law_put_to ["_law_square", "_law_row"] (defScope s__law_put_to) := ⟨rfl, rfl, rfl, by decide +kernel, rfl, by decide +kernel, by decide +kernel⟩
def c__law_put_to : AC := fun xs μ Q _ => ∃ (M : List (List Rat)) (r : List Rat) (b : Nat), xs = [.lst (rls M), .lst (rl r)] ∧ AB b M ∧ (∀ v ∈ r, FB b v) ∧ b ≤ 100000 ∧ M.length ≤ 8 ∧ r.length ≤ 8 ∧ Q (.lst (rl (putF M r))) μ
theorem ok__law_put_to {n : Nat}  {f : Addr} {fd : FuncData} (TX : Txt K mg CF CS) (C__law_plus : Cal P w K mg base n "_law_plus" c__law_plus) (C__law_times : Cal P w K mg base n "_law_times" c__law_times) (F : Fun K "_law_put_to" "_law_put_to" s__law_put_to f fd) : FnD P w K mg base CX0 (n + 1) f fd ["_law_square", "_law_row"] c__law_put_to := by
  refine fnD F sc__law_put_to (fun xs μ Q E hc => by obtain ⟨M, r, b, rfl, hab, hr, b2, m8, r8, q⟩ := hc; rfl) (fun cdv Ao outer s H E xs μ Q E0 ar hc => ?_)
  obtain ⟨M, r, b, rfl, hab, hr, b2, m8, r8, q⟩ := hc
  have nd := sc__law_put_to.nd
  refine wSs_cons (wS_set 2 (wE_lst (wA_nil ⟨by show 0 ≤ sizeLine; decide, fun p__law_found np__law_found => (wSs_cons (wS_for (wIt_list (wE_name 0 rfl ⟨_, rfl, ?_⟩))))⟩)) nd)
  refine ⟨fun i Γ' μ' => ∃ x3 x4 x5 x6, Γ' = [some (.lst (rls M)), some (.lst (rl r)), some (.loc p__law_found), x3, x4, x5, x6] ∧ μ' = μ.upd p__law_found (.lst (rl (putF (M.take i) r))), ⟨_, _, _, _, rfl, rfl⟩, fun i y Γ' μ' hy hI => ?_, fun Γ' μ' hI => ?_⟩
  obtain ⟨x3, x4, x5, x6, rfl, rfl⟩ := hI
  obtain ⟨a, ha, rfl⟩ := map_at hy
  have him : i < M.length := (List.getElem?_eq_some_iff.mp ha).1
  obtain rfl : a = M.getD i [] := (getD_some ha).symm
  have hmem : M.getD i [] ∈ M := getD_mem him
  refine wG_name 3 ?_ nd
  refine wSs_cons (wS_set 4 (wE_tup (wA_cons (wE_int (wA_cons (wE_int (wA_nil ⟨by show 2 ≤ sizeLine; decide, (wSs_cons (wS_for (wIt_zip TX.b_zip (wA_cons (wE_name 3 rfl (wA_cons (wE_name 1 rfl (wA_nil ⟨_, _, .inl rfl, ?_⟩))))))))⟩)))))) nd)
  refine ⟨fun j Γ' μ' => ∃ x5 x6, Γ' = [some (.lst (rls M)), some (.lst (rl r)), some (.loc p__law_found), some (.lst (rl (M.getD i []))), some (ra ((((M.getD i []).zip r).take j).foldl (fun t p => t + p.1 * p.2) 0)), x5, x6] ∧ μ' = μ.upd p__law_found (.lst (rl (putF (M.take i) r))), ⟨_, _, rfl, rfl⟩, fun j y2 Γ' μ' hy3 hI => ?_, fun Γ' μ' hI => ?_⟩
  obtain ⟨x5, x6, rfl, rfl⟩ := hI
  rw [zip_rl] at hy3
  obtain ⟨u, hu, rfl⟩ := map_at hy3
  obtain ⟨m1, m2⟩ := List.of_mem_zip (a := u.1) (b := u.2) (List.mem_of_getElem? hu)
  have hj := (List.getElem?_eq_some_iff.mp hu).1
  obtain ⟨u1, u2⟩ := zip_at hu
  have hj8 : j ≤ 8 := by rw [List.length_zip] at hj; omega
  have hB := Nat.mul_le_mul_right (b + b + 1) hj8
  refine wG_tup (wGs_cons (wG_name 5 (wGs_cons (wG_name 6 (wGs_nil ?_) nd)) nd))
  refine wSs_cons (wS_set 4 (wE_cal C__law_plus ar (by omega) (wA_cons (wE_name 4 rfl (wA_cons (wE_cal C__law_times ar (by omega) (wA_cons (wE_name 5 rfl (wA_cons (wE_name 6 rfl (wA_nil ?_)))))))))) nd)
  refine ⟨u.1, u.2, b, b, rfl, hab _ hmem _ m1, hr _ m2, by omega, ?_⟩
  refine wA_nil ?_
  refine ⟨_, _, 1 + j * (b + b + 1), b + b, rfl, dot_go (hab _ hmem) hr j, (hab _ hmem _ m1).mul (hr _ m2), by omega, ?_⟩
  rw [u1, u2, ← dot_snoc hj]
  refine wSs_nil ?_
  exact ⟨_, _, rfl, rfl⟩
  rw [zip_rl, List.length_map, List.take_length] at hI
  obtain ⟨x5, x6, rfl, rfl⟩ := hI
  refine wSs_cons (wS_expr (wE_append (wE_name 2 rfl ?_)))
  refine ⟨_, _, rfl, Mu.upd_same, ?_⟩
  refine wE_name 4 rfl ?_
  refine ⟨_, Mu.upd_same, szLt (by rw [rl_len]; unfold putF; rw [List.length_map, List.length_take]; omega), ?_⟩
  refine wSs_nil ?_
  exact ⟨_, _, _, _, rfl, by rw [Mu.upd_upd, ← put_take him]; rfl⟩
  rw [rls_len, List.take_length] at hI
  obtain ⟨x3, x4, x5, x6, rfl, rfl⟩ := hI
  refine wSs_frz 2 Mu.upd_same rfl ?_
  rw [Mu.del_upd np__law_found]
  refine wSs_cons (wS_ret (wE_name 2 rfl ?_))
  exact q

abbrev s__law_product : Stmt := topS 36
abbrev N__law_product : List Str := ["_law_one", "_law_other", "_law_columns", "_law_row", "_law_k", "_law_column"]
theorem sc__law_product : FnScope N__law_product ["_law_one", "_law_other"] (defScope s__law_product) := ⟨rfl, rfl, rfl, by decide +kernel, rfl, by decide +kernel, by decide +kernel⟩
def c__law_product : AC := fun xs μ Q _ => ∃ (X Y : List (List Rat)) (n b : Nat), xs = [.lst (rls X), .lst (rls Y)] ∧ Rect n n X ∧ Rect n n Y ∧ n ≤ 4 ∧ AB b X ∧ AB b Y ∧ 1 ≤ b ∧ b ≤ 100000 ∧ Q (.lst (rls (prodF X Y))) μ
theorem colF_fb2 {b c : Nat} {Y : List (List Rat)} (ay : AB b Y) (h1 : 1 ≤ b) : ∀ v ∈ colF Y c, FB b v := fun v hv => by
  unfold colF at hv
  obtain ⟨row, hrow, rfl⟩ := List.mem_map.mp hv
  by_cases hi : c < row.length
  · exact ay row hrow _ (List.mem_of_getElem? (ap_some hi))
  · rw [ap_out (by omega)]; exact FB.zero.mono h1
theorem ok__law_product {n : Nat}  {f : Addr} {fd : FuncData} (TX : Txt K mg CF CS) (C__law_put_to : Cal P w K mg base n "_law_put_to" c__law_put_to) (F : Fun K "_law_product" "_law_product" s__law_product f fd) : FnD P w K mg base CX0 (n + 1) f fd ["_law_one", "_law_other"] c__law_product := by
  refine fnD F sc__law_product (fun xs μ Q E hc => by obtain ⟨X0, Y0, n, b, rfl, rx, ry, n4, ax, ay, b1, b2, q⟩ := hc; rfl) (fun cdv Ao outer s H E xs μ Q E0 ar hc => ?_)
  obtain ⟨X0, Y0, n, b, rfl, rx, ry, n4, ax, ay, b1, b2, q⟩ := hc
  have lx := rx.len
  have ly := ry.len
  have nd := sc__law_product.nd
  refine wSs_cons (wS_set 2 (wE_lcF (own := [("_law_k", 4)]) (wIt_range1 TX.b_range (wA_cons (wE_callB (id := "len") TX.b_len (by decide +kernel) (wA_cons (wE_name 1 rfl (wA_nil ?_)))))) nd (blkOk_by (N := N__law_product) (sc := defScope s__law_product) (by decide +kernel))) nd)
  refine wC_len (.lst _) ?_
  rw [rls_len, ly]
  refine wA_nil ⟨_, rfl, by omega, by omega, ?_⟩
  refine ⟨szOk (by rw [rgA_len]; omega), rls ((List.range n).map fun c => putF X0 (colF Y0 c)), by rw [rgA_len, rls_len, List.length_map, List.length_range]; omega, fun i z w hz hw s0 H0 C cl fp => ?_, ?_⟩
  obtain ⟨hi, rfl⟩ := rgA_at hz
  obtain ⟨r, hr, rfl⟩ := map_at hw
  obtain ⟨i2, hi2, rfl⟩ := map_at hr
  obtain rfl : i2 = i := by
    rw [List.getElem?_range (by omega)] at hi2
    exact (Option.some.inj hi2).symm
  have hin : i2 < n := by omega
  refine wGw_name 4 (⟨rfl, fun s0 H0 C cl fp => (wE_cal C__law_put_to ar.bk (by omega) (wA_cons (wE_name 0 rfl (wA_cons (wE_lcF (own := [("_law_row", 3)]) (wIt_list (wE_name 1 rfl ⟨_, rfl, ?_⟩)) nd (blkOk_by (by kernel_rfl)))))))⟩) nd
  refine ⟨szOk (by rw [rls_len]; omega), rl (colF Y0 i2), by rw [rl_len, rls_len]; unfold colF; rw [List.length_map], fun j z w hz hw s0 H0 C cl fp => ?_, ?_⟩
  obtain ⟨row0, hm, rfl⟩ := map_at hz
  have hjn := (List.getElem?_eq_some_iff.mp hm).1
  obtain ⟨v, hv, rfl⟩ := map_at hw
  obtain ⟨row, hrow, rfl⟩ := map_at hv
  obtain rfl : row0 = row := Option.some.inj (hm.symm.trans hrow)
  have hrl : row0.length = n := ry.row _ (List.mem_of_getElem? hm)
  refine wGw_name 3 (⟨rfl, fun s0 H0 C cl fp => (wE_ix (wE_name 3 rfl (wE_name 4 rfl ?_)))⟩) nd
  refine wI_lst (rl_ix (k := i2) (by omega) (by omega)) ?_
  refine ⟨?_, .refl _⟩
  rfl
  refine wA_nil ?_
  refine ⟨X0, colF Y0 i2, b, rfl, ax, colF_fb2 ay b1, b2, by omega, by unfold colF; rw [List.length_map]; omega, ?_⟩
  refine ⟨?_, .refl _⟩
  rfl
  refine wSs_cons (wS_ret (wE_lcF (own := [("_law_k", 4)]) (wIt_range1 TX.b_range (wA_cons (wE_callB (id := "len") TX.b_len (by decide +kernel) (wA_cons (wE_name 0 rfl (wA_nil ?_)))))) nd (blkOk_by (N := N__law_product) (sc := defScope s__law_product) (by decide +kernel))))
  refine wC_len (.lst _) ?_
  rw [rls_len, lx]
  refine wA_nil ⟨_, rfl, by omega, by omega, ?_⟩
  refine ⟨szOk (by rw [rgA_len]; omega), rls (prodF X0 Y0), by rw [rgA_len, rls_len]; unfold prodF; rw [List.length_map, List.length_range, lx]; omega, fun i z w hz hw s0 H0 C cl fp => ?_, ?_⟩
  obtain ⟨hi, rfl⟩ := rgA_at hz
  obtain ⟨r, hr, rfl⟩ := map_at hw
  unfold prodF at hr
  rw [lx, ly] at hr
  obtain ⟨i2, hi2, rfl⟩ := map_at hr
  obtain rfl : i2 = i := by
    rw [List.getElem?_range (by omega)] at hi2
    exact (Option.some.inj hi2).symm
  have hin : i2 < n := by omega
  refine wGw_name 4 (⟨rfl, fun s0 H0 C cl fp => (wE_lcF (own := [("_law_column", 5)]) (wIt_list (wE_name 2 rfl ⟨_, rfl, ?_⟩)) nd (blkOk_by (by kernel_rfl)))⟩) nd
  refine ⟨szOk (by rw [rls_len, List.length_map, List.length_range]; omega), rl ((List.range n).map fun c => ap (putF X0 (colF Y0 c)) i2), by rw [rl_len, rls_len, List.length_map, List.length_map], fun j z w hz hw s0 H0 C cl fp => ?_, ?_⟩
  obtain ⟨col, hcol, rfl⟩ := map_at hz
  obtain ⟨c1, hc1, rfl⟩ := map_at hcol
  obtain ⟨v, hv, rfl⟩ := map_at hw
  obtain ⟨c2, hc2, rfl⟩ := map_at hv
  obtain rfl : c1 = c2 := Option.some.inj (hc1.symm.trans hc2)
  refine wGw_name 5 (⟨rfl, fun s0 H0 C cl fp => (wE_ix (wE_name 5 rfl (wE_name 4 rfl ?_)))⟩) nd
  refine wI_lst (rl_ix (k := i2) (by omega) (by unfold putF; rw [List.length_map, lx]; exact hin)) ?_
  refine ⟨?_, .refl _⟩
  rfl
  refine ⟨?_, .refl _⟩
  rfl
  exact q

end
end D

set_option exponentiation.threshold 256
set_option pp.maxSteps 5000
set_option Elab.async false
set_option linter.all false
set_option pp.maxSteps 300
set_option maxRecDepth 100000
set_option maxHeartbeats 4000000
namespace D
open PySem PySem.Spec PyProof.Rows L2
local macro_rules | `(tactic| walk_at "mul") => `(tactic| first | refine wO_mul (mulR (by first | decide | omega) (by first | decide | omega)) ?_ | refine wO_mul (mulL (by first | decide | omega) (by first | decide | omega)) ?_)
local macro_rules | `(tactic| walk_at "mod") => `(tactic| refine wO_mod (by first | decide | omega) ?_)
local macro_rules | `(tactic| walk_at "fdiv") => `(tactic| refine wO_fdiv (by first | decide | omega) (divS (by first | decide | omega)) ?_)
local macro_rules | `(tactic| walk_at "ix") => `(tactic| first | refine wI_tup (by rfl) ?_ | refine wI_lst (by rfl) ?_)
local macro_rules | `(tactic| walk_at "sl") => `(tactic| first | refine wSl_tup ?_ | refine wSl_lstF ?_)
local macro_rules | `(tactic| walk_at "obj") => `(tactic| refine ⟨_, _, _, rfl, by assumption, rfl, ?_⟩)
local macro_rules | `(tactic| walk_at "len") => `(tactic| first | refine wC_len (.tup _) ?_ | refine wC_len (.lst _) ?_ | refine wC_len (.loc (by assumption)) ?_)
section
variable {P : Program} {w : World} {mg : Str → Option Value} {base : Heap} {K : PySem.W.Frag} {CF CS : Addr} {k : Nat}
abbrev s__law_drawn : Stmt := topS 34
abbrev N__law_drawn : List Str := ["_law_m", "_law_many", "_law_rows", "_law_j", "_law_k", "_law_way", "_law_one", "_law_other"]
theorem sc__law_drawn : FnScope N__law_drawn ["_law_m"] (defScope s__law_drawn) := ⟨rfl, rfl, rfl, by decide +kernel, rfl, by decide +kernel, by decide +kernel⟩
def In5 (x : Rat) : Prop := ∃ X : Int, IsF x X 2520 ∧ X.natAbs ≤ 2 ^ 78
theorem In5.zero : In5 0 := ⟨0, IsF.zero (by decide), by decide⟩
def c__law_drawn : AC := fun xs μ Q _ => ∃ (m l : Addr) (c : Nat) (rm : Int) (mo : Option (List Str)), xs = [.loc m] ∧ Lx m l c rm mo μ ∧ c < 2 ^ 38 ∧ ∀ (n : Nat) (M : List (List Rat)) (μ' : Mu), SqD n M → Lx m l (c + 80) rm mo μ' → Ls m l μ μ' → Q (.lst (rls M)) μ'
theorem sq_set {n i : Nat} {M : List (List Rat)} {r : List Rat} (s : SqD n M) (hr : r.length = n) (he : ∀ x ∈ r, En7 x) : SqD n (M.set i r) := ⟨⟨by rw [List.length_set, s.r.len], fun q hq => by
    rcases List.mem_or_eq_of_mem_set hq with h | rfl
    · exact s.r.row q h
    · exact hr⟩, s.n1, s.n4, fun q hq => by
    rcases List.mem_or_eq_of_mem_set hq with h | rfl
    · exact s.e q h
    · exact he⟩
theorem rls_set {M : List (List Rat)} {i : Nat} {r : List Rat} : (rls M).set i (.lst (rl r)) = rls (M.set i r) := by
  unfold rls
  rw [List.map_set]
theorem ok__law_drawn {n : Nat}  {f : Addr} {fd : FuncData} (TX : Txt K mg CF CS) (C__law_draw : Cal P w K mg base n "_law_draw" c__law_draw) (C__law_fraction : Cal P w K mg base n "_law_fraction" c__law_fraction) (C__law_plus : Cal P w K mg base n "_law_plus" c__law_plus) (C__law_times : Cal P w K mg base n "_law_times" c__law_times) (F : Fun K "_law_drawn" "_law_drawn" s__law_drawn f fd) : FnD P w K mg base CX0 (n + 1) f fd ["_law_m"] c__law_drawn := by
  refine fnD F sc__law_drawn (fun xs μ Q E hc => by obtain ⟨m, l, c, rm, mo, rfl, lw, hc, q⟩ := hc; rfl) (fun cdv Ao outer s H E xs μ Q E0 ar hc => ?_)
  obtain ⟨m, l, c, rm, mo, rfl, lw, hc, q⟩ := hc
  have nd := sc__law_drawn.nd
  refine wSs_cons (wS_set 1 (wE_bin (wE_int (wE_cal C__law_draw ar (by omega) (wA_cons (wE_name 0 rfl (wA_cons (wE_int (wA_nil ?_)))))))) nd)
  refine ⟨m, l, 4, c, _, _, rfl, by decide, by decide, lw, by omega, fun r1 μ1 a0 a1 lw1 ls1 => ?_⟩
  refine wO_add ?_
  obtain ⟨n1, rfl⟩ : ∃ n : Nat, r1 = n := ⟨r1.toNat, by omega⟩
  rw [show 1 + (n1 : Int) = ((n1 + 1 : Nat) : Int) by omega]
  obtain ⟨n, hn⟩ : ∃ n, n1 + 1 = n := ⟨_, rfl⟩
  rw [hn]
  have n4 : n ≤ 4 := by omega
  refine wSs_cons (wS_setLc [("_law_k", 4)] 2 (wIt_range1 TX.b_range (wA_cons (wE_name 1 rfl (wA_nil ⟨_, rfl, by omega, by omega, ?_⟩)))) nd (blkOk_by (N := N__law_drawn) (sc := defScope s__law_drawn) (by decide +kernel)) (sw_true rfl rfl rfl (by decide +kernel)))
  refine ⟨szOk (by rw [rgA_len]; omega), fun i acc μ' => (∃ M : List (List Rat), acc = rls M ∧ M.length = i ∧ ∀ r ∈ M, r.length = n ∧ ∀ x ∈ r, In5 x) ∧ Lx m l (c + 1 + 16 * i) rm mo μ' ∧ Ls m l μ μ', ⟨⟨[], rfl, rfl, fun _ h => nomatch h⟩, lw1, ls1⟩, fun i y acc μ' hy hJ s0 H0 C cl fp => ?_, fun acc μ' hJ p np => ?_⟩
  obtain ⟨⟨M, rfl, hMl, hM⟩, lwi, lsi⟩ := hJ
  obtain ⟨hi, rfl⟩ := rgA_at hy
  refine wGw_name 4 (fun s0 H0 C cl fp => (wE_frz (wE_lc [("_law_j", 3)] (wIt_range1 TX.b_range (wA_cons (wE_name 1 rfl (wA_nil ⟨_, rfl, by omega, by omega, ?_⟩)))) nd (blkOk_by (by kernel_rfl))))) nd
  refine ⟨szOk (by rw [rgA_len]; omega), fun j acc μ2 => (∃ zs : List Rat, acc = rl zs ∧ zs.length = j ∧ ∀ x ∈ zs, In5 x) ∧ Lx m l (c + 1 + 16 * i + 4 * j) rm mo μ2 ∧ Ls m l μ μ2, ⟨⟨[], rfl, rfl, fun _ h => nomatch h⟩, lwi, lsi⟩, fun j y acc μ2 hy hJ s0 H0 C cl fp => ?_, fun acc μ2 hJ p np => ?_⟩
  obtain ⟨⟨zs, rfl, hl, hz⟩, lwj, lsj⟩ := hJ
  obtain ⟨hj, rfl⟩ := rgA_at hy
  refine wGw_name 3 (fun s0 H0 C cl fp => (wE_cal C__law_fraction ar.bk.bk (by omega) (wA_cons (wE_name 0 rfl (wA_nil ?_))))) nd
  refine ⟨m, l, _, _, _, rfl, lwj, by omega, fun nn d μ3 hf b1 b2 lw3 ls3 => ?_⟩
  obtain ⟨x, ex, hX⟩ := fr_in hf b1 b2
  refine ⟨⟨zs ++ [x], by rw [ex, rl_snoc], by rw [List.length_append, hl]; rfl, fun y hy => ?_⟩, lw3.up (by omega), lsj.trans ls3⟩
  rcases List.mem_append.mp hy with hy | hy
  · exact hz y hy
  · rw [List.mem_singleton.mp hy]; exact hX
  rw [rgA_len, Int.toNat_natCast] at hJ
  obtain ⟨⟨zs, rfl, hl, hz⟩, lwj, lsj⟩ := hJ
  refine ⟨p, _, rfl, Mu.upd_same, ?_⟩
  rw [Mu.del_upd np]
  refine ⟨⟨M ++ [zs], by unfold rls; rw [List.map_append]; rfl, by rw [List.length_append, hMl]; rfl, fun r hr => ?_⟩, lwj.up (by omega), lsj⟩
  rcases List.mem_append.mp hr with hr | hr
  · exact hM r hr
  · rw [List.mem_singleton.mp hr]; exact ⟨hl, hz⟩
  rw [rgA_len, Int.toNat_natCast] at hJ
  obtain ⟨⟨M, rfl, hMl, hM⟩, lwi, lsi⟩ := hJ
  have s : SqD n M := ⟨⟨hMl, fun r hr => (hM r hr).1⟩, by omega, n4, fun r hr x hx => en7_in ((hM r hr).2 x hx)⟩
  have lw2 := (lxN (o := .lst (rls M)) lwi np).up (d := c + 65) (by omega)
  have ls2 := lsN (o := .lst (rls M)) lsi np
  have ho := lwi.off np
  have pn := lsNone lsi np ho.1 ho.2
  have at2 : (μ'.upd p (.lst (rls M))) p = some (.lst (rls M)) := Mu.upd_same
  generalize μ'.upd p (.lst (rls M)) = μ2 at lw2 ls2 at2 ⊢
  refine wSs_cons (wS_set 5 (wE_cal C__law_draw ar (by omega) (wA_cons (wE_name 0 rfl (wA_cons (wE_int (wA_nil ?_)))))) nd)
  refine ⟨m, l, 5, _, _, _, rfl, by decide, by decide, lw2, by omega, fun r2 μ3 b0 b1 lw3 ls3 => ?_⟩
  have at3 := ls3 p _ ho.1 ho.2 at2
  have ls3 := ls2.trans ls3
  refine wSs_cut (fun Γ' μ' => ∃ x3 x4 x6 x7, Γ' = [some (.loc m), some (.int (n : Int)), some (.loc p), x3, x4, some (.int r2), x6, x7] ∧ ∃ M2 : List (List Rat), SqD n M2 ∧ (r2 = 2 → ∀ r ∈ M2, ∀ x ∈ r, In5 x) ∧ μ' p = some (.lst (rls M2)) ∧ Lx m l (c + 70) rm mo μ' ∧ Ls m l μ μ') ?_ (fun Γ' μ' hP => ?_)
  refine wS_if (wT_cmp (wE_name 5 rfl (wE_int ?_)))
  refine wO_eqI ?_
  refine ⟨_, rfl, ?_⟩
  refine ⟨fun hk => ?_, fun hk => ?_⟩
  refine wSs_cons (wS_asg (wE_callTy (T := "list") TX.b_list (by decide +kernel) (wA_cons (wE_ix (wE_name 2 rfl (wE_cal C__law_draw ar (by omega) (wA_cons (wE_name 0 rfl (wA_cons (wE_name 1 rfl (wA_nil ?_)))))))))))
  refine ⟨m, l, n, _, _, _, rfl, by omega, by omega, lw3, by omega, fun r3 μ4 c0 c1 lw4 ls4 => ?_⟩
  have at4 := ls4 p _ ho.1 ho.2 at3
  have ml := s.r.len
  have hr3 : r3.toNat < M.length := by omega
  refine wI_loc at4 (rls_ix (k := r3.toNat) (by omega) hr3) ?_
  refine wA_nil ?_
  refine wC_listF (.lst _) ?_
  refine wG_sub (wE_name 2 rfl (wE_cal C__law_draw ar (by omega) (wA_cons (wE_name 0 rfl (wA_cons (wE_name 1 rfl (wA_nil ?_)))))))
  refine ⟨m, l, n, _, _, _, rfl, by omega, by omega, lw4, by omega, fun r4 μ5 d0 d1 lw5 ls5 => ?_⟩
  have at5 := ls5 p _ ho.1 ho.2 at4
  refine ⟨_, _, _, _, rfl, rfl, at5, ixN_pos (by omega) (by rw [rls_len]; omega), ?_⟩
  rw [rls_set]
  refine wSs_nil ?_
  have e : r2 = 0 := of_decide_eq_true hk
  exact ⟨_, _, _, _, rfl, _, sq_set s (s.r.row _ (getD_mem hr3)) (s.e _ (getD_mem hr3)), fun z => (by omega), Mu.upd_same, (lxUpd lw5 ho.1 ho.2).up (by omega), ((ls3.trans ls4).trans ls5).over5 pn⟩
  refine wSs_nil ?_
  exact ⟨_, _, _, _, rfl, M, s, fun _ r hr => (hM r hr).2, at3, lw3.up (by omega), ls3⟩
  obtain ⟨x3, x4, x6, x7, rfl, M2, s2, h5, at6, lw6, ls6⟩ := hP
  refine wSs_cut (fun Γ' μ' => ∃ x3 x4 x6 x7, Γ' = [some (.loc m), some (.int (n : Int)), some (.loc p), x3, x4, some (.int r2), x6, x7] ∧ ∃ M2 : List (List Rat), SqD n M2 ∧ (r2 = 2 → ∀ r ∈ M2, ∀ x ∈ r, In5 x) ∧ μ' p = some (.lst (rls M2)) ∧ Lx m l (c + 70) rm mo μ' ∧ Ls m l μ μ') ?_ (fun Γ' μ' hP => ?_)
  refine wS_if (wT_cmp (wE_name 5 rfl (wE_int ?_)))
  refine wO_eqI ?_
  refine ⟨_, rfl, ?_⟩
  refine ⟨fun hk => ?_, fun hk => ?_⟩
  refine wSs_cons (wS_asg (wE_bin (wE_lstF (wA_cons (wE_tup (wA_cons (wE_int (wA_cons (wE_int (wA_nil ⟨by show 2 ≤ sizeLine; decide, (wA_nil ⟨by show 1 ≤ sizeLine; decide, (wE_slice (wE_ix (wE_name 2 rfl (wE_int ?_))))⟩)⟩))))))))))
  refine wI_loc at6 (rls_ix (k := 0) rfl (by rw [s2.r.len]; exact s2.n1)) ?_
  refine wE_int ⟨_, rfl, ?_⟩
  refine wSl_lstF ?_
  rw [show cutA (rl (M2.getD 0 [])) (some 1) none = rl ((M2.getD 0 []).drop 1) from cut_lo (n := 1)]
  have l0 := s2.r.rw (i := 0) s2.n1
  refine wO_catF (.lst _) (.lst _) (szOk (by rw [rl_len, List.length_drop, l0]; simp; omega)) ?_
  rw [show ([D.A.tup [.int 0, .int 1]] ++ rl ((M2.getD 0 []).drop 1)) = rl (0 :: (M2.getD 0 []).drop 1) from rfl]
  refine wG_sub (wE_name 2 rfl (wE_int ?_))
  refine ⟨_, _, _, _, rfl, rfl, at6, ixN_pos (by omega) (by rw [rls_len, s2.r.len]; have := s2.n1; omega), ?_⟩
  rw [rls_set]
  refine wSs_nil ?_
  have e : r2 = 1 := of_decide_eq_true hk
  refine ⟨_, _, _, _, rfl, _, sq_set s2 (by rw [List.length_cons, List.length_drop, l0]; have := s2.n1; omega) (fun x hx => ?_), fun z => (by omega), Mu.upd_same, lxUpd lw6 ho.1 ho.2, ls6.over5 pn⟩
  rcases List.mem_cons.mp hx with rfl | hx
  · exact .zero
  · exact s2.e _ (getD_mem (by rw [s2.r.len]; exact s2.n1)) x (List.mem_of_mem_drop hx)
  refine wSs_nil ?_
  exact ⟨_, _, _, _, rfl, M2, s2, h5, at6, lw6, ls6⟩
  obtain ⟨x3, x4, x6, x7, rfl, M3, s3, h6, at7, lw7, ls7⟩ := hP
  refine wSs_cut (fun Γ' μ' => ∃ x3 x4 x6 x7, Γ' = [some (.loc m), some (.int (n : Int)), some (.loc p), x3, x4, some (.int r2), x6, x7] ∧ ∃ M2 : List (List Rat), SqD n M2 ∧ μ' p = some (.lst (rls M2)) ∧ Lx m l (c + 70) rm mo μ' ∧ Ls m l μ μ') ?_ (fun Γ' μ' hP => ?_)
  refine wS_if ?_
  refine wT.imp (QB := fun kk μ2 => (kk = true → r2 = 2 ∧ 2 < n) ∧ μ2 = μ') ?_ (fun kk μ2 hq => ?_)
  refine wT_chain (wW_and (wT_cmp (wE_name 5 rfl (wE_int ?_))))
  refine wO_eqI ?_
  refine ⟨_, rfl, ?_⟩
  refine and_flip (fun hk => ?_) (fun hk => ?_)
  · exact ⟨fun z => (nomatch z), rfl⟩
  refine wW_and1 (wT_cmp (wE_name 1 rfl (wE_int ?_)))
  refine wO_gt ?_
  refine ⟨_, rfl, ?_⟩
  exact ⟨fun z => ⟨of_decide_eq_true hk, by have := of_decide_eq_true z; omega⟩, rfl⟩
  obtain ⟨hq1, rfl⟩ := hq
  refine ⟨fun hk => ?_, fun hk => ?_⟩
  obtain ⟨e2, n3⟩ := hq1 hk
  have l0 := s3.r.rw (i := 0) (by omega)
  have l1 := s3.r.rw (i := 1) (by omega)
  have ml := s3.r.len
  refine wSs_cons (wS_asg (wE_lcF (own := [("_law_one", 6), ("_law_other", 7)]) (wIt_zip TX.b_zip (wA_cons (wE_ix (wE_name 2 rfl (wE_int ?_))))) nd (blkOk_by (N := N__law_drawn) (sc := defScope s__law_drawn) (by decide +kernel))))
  refine wI_loc at7 (rls_ix (k := 0) rfl (by omega)) ?_
  refine wA_cons (wE_ix (wE_name 2 rfl (wE_int ?_)))
  refine wI_loc at7 (rls_ix (k := 1) rfl (by omega)) ?_
  refine wA_nil ⟨_, _, .inl rfl, ?_⟩
  refine ⟨szOk (by rw [zip_rl, List.length_map, List.length_zip, l0, l1]; omega), rl (((M3.getD 0 []).zip (M3.getD 1 [])).map fun q => q.1 + (2 / 3 : Rat) * q.2), by rw [zip_rl, rl_len, List.length_map, List.length_map], fun j y z hy hz s0 H0 C cl fp => ?_, ?_⟩
  rw [zip_rl] at hy
  obtain ⟨u, hu, rfl⟩ := map_at hy
  obtain ⟨u1, hu1, rfl⟩ := map_at hz
  obtain ⟨u2, hu2, rfl⟩ := map_at hu1
  obtain rfl : u = u2 := Option.some.inj (hu.symm.trans hu2)
  obtain ⟨m1, m2⟩ := List.of_mem_zip (a := u.1) (b := u.2) (List.mem_of_getElem? hu)
  have f1 := (s3.e _ (getD_mem (by omega)) _ m1).fb
  have f2 := (s3.e _ (getD_mem (by omega)) _ m2).fb
  refine wGw_tup2 6 7 ⟨rfl, fun s0 H0 C cl fp => (wE_cal C__law_plus ar.bk (by omega) (wA_cons (wE_name 6 rfl (wA_cons (wE_cal C__law_times ar.bk (by omega) (wA_cons (wE_tup (wA_cons (wE_int (wA_cons (wE_int (wA_nil ⟨by show 2 ≤ sizeLine; decide, (wA_cons (wE_name 7 rfl (wA_nil ?_)))⟩))))))))))))⟩ nd
  have f3 : FB 2 (2 / 3 : Rat) := ⟨by unfold Bd; decide +kernel, by unfold Bd; decide +kernel⟩
  have e3 : D.A.tup [.int 2, .int 3] = ra (2 / 3 : Rat) := by
    have h1 : (2 / 3 : Rat).num = 2 := by decide +kernel
    have h2 : (2 / 3 : Rat).den = 3 := by decide +kernel
    unfold ra
    rw [h1, h2]; rfl
  rw [e3]
  refine ⟨_, _, 2, 82, rfl, f3, f2, by decide, ?_⟩
  refine wA_nil ?_
  refine ⟨_, _, 82, 2 + 82, rfl, f1, f3.mul f2, by decide, ?_⟩
  refine ⟨?_, .refl _⟩
  rfl
  refine wG_sub (wE_name 2 rfl (wE_bin (wE_name 1 rfl (wE_int ?_))))
  refine wO_sub ?_
  refine ⟨_, _, _, _, rfl, rfl, at7, ixN_pos (by omega) (by rw [rls_len]; omega), ?_⟩
  rw [rls_set]
  refine wSs_nil ?_
  refine ⟨_, _, _, _, rfl, _, sq_set s3 (by rw [List.length_map, List.length_zip, l0, l1]; omega) (fun x hx => ?_), Mu.upd_same, lxUpd lw7 ho.1 ho.2, ls7.over5 pn⟩
  obtain ⟨u, hu, rfl⟩ := List.mem_map.mp hx
  obtain ⟨m1, m2⟩ := List.of_mem_zip (a := u.1) (b := u.2) hu
  exact en7_23 (h6 e2 _ (getD_mem (by omega)) _ m1) (h6 e2 _ (getD_mem (by omega)) _ m2)
  refine wSs_nil ?_
  exact ⟨_, _, _, _, rfl, M3, s3, at7, lw7, ls7⟩
  obtain ⟨x3, x4, x6, x7, rfl, M4, s4, at8, lw8, ls8⟩ := hP
  refine wSs_frz 2 at8 rfl ?_
  refine wSs_cons (wS_ret (wE_name 2 rfl ?_))
  exact q n M4 _ s4 ((lxDel lw8 ho.1 ho.2).up (by omega)) (ls8.gone5 pn)

end
end D

set_option exponentiation.threshold 256
set_option pp.maxSteps 5000
set_option Elab.async false
set_option linter.all false
set_option pp.maxSteps 300
set_option maxRecDepth 100000
set_option maxHeartbeats 4000000
namespace D
open PySem PySem.Spec PyProof.Rows L2
local macro_rules | `(tactic| walk_at "mul") => `(tactic| first | refine wO_mul (mulR (by first | decide | omega) (by first | decide | omega)) ?_ | refine wO_mul (mulL (by first | decide | omega) (by first | decide | omega)) ?_)
local macro_rules | `(tactic| walk_at "mod") => `(tactic| refine wO_mod (by first | decide | omega) ?_)
local macro_rules | `(tactic| walk_at "fdiv") => `(tactic| refine wO_fdiv (by first | decide | omega) (divS (by first | decide | omega)) ?_)
local macro_rules | `(tactic| walk_at "ix") => `(tactic| first | refine wI_tup (by rfl) ?_ | refine wI_lst (by rfl) ?_)
local macro_rules | `(tactic| walk_at "sl") => `(tactic| first | refine wSl_tup ?_ | refine wSl_lstF ?_)
local macro_rules | `(tactic| walk_at "obj") => `(tactic| refine ⟨_, _, _, rfl, by assumption, rfl, ?_⟩)
local macro_rules | `(tactic| walk_at "len") => `(tactic| first | refine wC_len (.tup _) ?_ | refine wC_len (.lst _) ?_ | refine wC_len (.loc (by assumption)) ?_)
section
variable {P : Program} {w : World} {mg : Str → Option Value} {base : Heap} {K : PySem.W.Frag} {CF CS : Addr} {k : Nat}
abbrev s_law : Stmt := topS 37
abbrev N_law : List Str := ["_law_script", "_law_m", "_law_turn", "_law_square", "_law_other", "_law_one", "_law_row", "_law_kept", "_law_due", "_law_again", "_law_found", "_law_corners_one", "_law_j", "_law_k"]
theorem sc_law : FnScope N_law ["_law_script"] (defScope s_law) := ⟨rfl, rfl, rfl, by decide +kernel, rfl, by decide +kernel, by decide +kernel⟩
def c_law : AC := fun xs μ Q _ => ∃ ns : List Int, xs = [.fls (ns.map D.A.int)] ∧ ns.length ≤ 63 ∧ ∀ μ', Q (.bl true) μ'
theorem unit_int {n k j : Nat} : D.A.tup [.int (if decide ((k : Int) = (j : Int)) then 1 else 0), .int 1] = ra (if k = j then 1 else 0) := by
  by_cases h : k = j
  · rw [if_pos h, if_pos (decide_eq_true (by omega))]; rfl
  · rw [if_neg h, if_neg (by simp; omega)]; rfl
theorem told_first {n : Nat} {X : List (List Rat)} {ps : List Addr} {μ : Mu} (h : TellP μ ps X) (hr : Rect n n X) (n1 : 1 ≤ n) : ∃ q0 ps2, ps = q0 :: ps2 ∧ μ q0 = some (.lst (rl (X.getD 0 []))) := by
  cases X with
  | nil => have := hr.len; simp at this; omega
  | cons r X => cases ps with
    | nil => exact h.elim
    | cons p ps => exact ⟨p, ps, rfl, h.1⟩
theorem ok_law {n : Nat} {ND : base.NoDigits} {f : Addr} {fd : FuncData} (TX : Txt K mg CF CS) (C__law_begun : Cal P w K mg base n "_law_begun" c__law_begun) (C__law_drawn : Cal P w K mg base n "_law_drawn" c__law_drawn) (C__law_fraction : Cal P w K mg base n "_law_fraction" c__law_fraction) (C__law_square_back : Cal P w K mg base n "_law_square_back" c__law_square_back) (C_determinant : Cal P w K mg base n "determinant" c_determinant) (C__law_determinant : Cal P w K mg base n "_law_determinant" (c__law_determinant 5)) (C_put_to : Cal P w K mg base n "put_to" c_put_to) (C__law_put_to : Cal P w K mg base n "_law_put_to" c__law_put_to) (C_both : Cal P w K mg base n "both" c_both) (C__law_product : Cal P w K mg base n "_law_product" c__law_product) (C__law_told : Cal P w K mg base n "_law_told" (c__law_told CF)) (F : Fun K "law" "law" s_law f fd) : FnD P w K mg base CX0 (n + 1) f fd ["_law_script"] c_law := by
  refine fnD F sc_law (fun xs μ Q E hc => by obtain ⟨ns, rfl, hn, q⟩ := hc; rfl) (fun cdv Ao outer s H E xs μ Q E0 ar hc => ?_)
  obtain ⟨ns, rfl, hn, q⟩ := hc
  have nd := sc_law.nd
  refine wSs_cons (wS_set 1 (wE_cal C__law_begun ar (by omega) (wA_cons (wE_name 0 rfl (wA_nil ?_)))) nd)
  refine ⟨ns, rfl, hn, fun m l μ1 nm lw sb => ?_⟩
  refine wSs_cons (wS_for (wIt_range1 TX.b_range (wA_cons (wE_callB (id := "min") TX.b_min (by decide +kernel) (wA_cons (wE_int (wA_cons (wE_bin (wE_int (wE_bin (wE_callB (id := "len") TX.b_len (by decide +kernel) (wA_cons (wE_name 0 rfl (wA_nil ?_))))))))))))))
  refine wC_len (.fls _) ?_
  refine wE_int ?_
  walk_at "fdiv"
  refine wO_add ?_
  refine wA_nil ?_
  refine wC_min2 (by rfl) ?_
  obtain ⟨t, ht, t6⟩ : ∃ t : Nat, (if (2 + ((ns.map D.A.int).length : Int) / 2) < 6 then (2 + ((ns.map D.A.int).length : Int) / 2) else 6) = (t : Int) ∧ t ≤ 6 := by
    split
    · exact ⟨(2 + ((ns.map D.A.int).length : Int) / 2).toNat, by omega, by omega⟩
    · exact ⟨6, rfl, by omega⟩
  rw [ht]
  refine wA_nil ⟨_, rfl, by omega, by omega, ?_⟩
  refine ⟨fun i Γ' μ' => ∃ x2 x3 x4 x5 x6 x7 x8 x9 x10 x11 x12 x13, Γ' = [some (.fls (ns.map D.A.int)), some (.loc m), x2, x3, x4, x5, x6, x7, x8, x9, x10, x11, x12, x13] ∧ Lx m l (200 * i) 58 none μ', ⟨_, _, _, _, _, _, _, _, _, _, _, _, rfl, lw⟩, fun i y Γ' μ' hy hI => ?_, fun Γ' μ' hI => ?_⟩
  obtain ⟨x2, x3, x4, x5, x6, x7, x8, x9, x10, x11, x12, x13, rfl, lwi⟩ := hI
  obtain ⟨hi, rfl⟩ := rgA_at hy
  rw [Int.toNat_natCast] at hi
  refine wG_name 2 ?_ nd
  refine wSs_cons (wS_set 3 (wE_cal C__law_drawn ar (by omega) (wA_cons (wE_name 1 rfl (wA_nil ?_)))) nd)
  refine ⟨m, l, _, _, _, rfl, lwi, by omega, fun n M μ2 s lw2 ls2 => ?_⟩
  have hl := s.r.len
  have n4 := s.n4
  have n1 := s.n1
  refine wSs_cons (wS_setLc [("_law_row", 6)] 4 (wIt_list (wE_name 3 rfl ⟨_, rfl, ?_⟩)) nd (blkOk_by (N := N_law) (sc := defScope s_law) (by decide +kernel)) (sw_true rfl rfl rfl (by decide +kernel)))
  refine ⟨szOk (by rw [rls_len]; omega), fun j acc μ3 => (∃ Y : List (List Rat), acc = rls Y ∧ Y.length = j ∧ ∀ r ∈ Y, r.length = n ∧ ∀ x ∈ r, In5 x) ∧ Lx m l (200 * i + 80 + 16 * j) 58 none μ3, ⟨⟨[], rfl, rfl, fun _ h => nomatch h⟩, lw2⟩, fun j y acc μ3 hy hJ s0 H0 C cl fp => ?_, fun acc μ3 hJ p np => ?_⟩
  obtain ⟨⟨Y, rfl, hYl, hY⟩, lwj⟩ := hJ
  obtain ⟨row, hrow, rfl⟩ := map_at hy
  have hj := (List.getElem?_eq_some_iff.mp hrow).1
  have rl' : row.length = n := s.r.row _ (List.mem_of_getElem? hrow)
  refine wGw_name 6 (fun s0 H0 C cl fp => (wE_frz (wE_lc [("_law_one", 5)] (wIt_list (wE_name 6 rfl ⟨_, rfl, ?_⟩)) nd (blkOk_by (by kernel_rfl))))) nd
  refine ⟨szOk (by rw [rl_len]; omega), fun t2 acc μ4 => (∃ zs : List Rat, acc = rl zs ∧ zs.length = t2 ∧ ∀ x ∈ zs, In5 x) ∧ Lx m l (200 * i + 80 + 16 * j + 4 * t2) 58 none μ4, ⟨⟨[], rfl, rfl, fun _ h => nomatch h⟩, lwj⟩, fun t2 y acc μ4 hy hJ s0 H0 C cl fp => ?_, fun acc μ4 hJ p np => ?_⟩
  obtain ⟨⟨zs, rfl, hzl, hz⟩, lwk⟩ := hJ
  have ht2 := (List.getElem?_eq_some_iff.mp hy).1
  rw [rl_len] at ht2
  refine wGw_name 5 (fun s0 H0 C cl fp => (wE_cal C__law_fraction ar.bk.bk (by omega) (wA_cons (wE_name 1 rfl (wA_nil ?_))))) nd
  refine ⟨m, l, _, _, _, rfl, lwk, by omega, fun nn d μ5 hf b1 b2 lw5 ls5 => ?_⟩
  obtain ⟨x, ex, hX⟩ := fr_in hf b1 b2
  refine ⟨⟨zs ++ [x], by rw [ex, rl_snoc], by rw [List.length_append, hzl]; rfl, fun y hy => ?_⟩, lw5.up (by omega)⟩
  rcases List.mem_append.mp hy with hy | hy
  · exact hz y hy
  · rw [List.mem_singleton.mp hy]; exact hX
  rw [rl_len, rl'] at hJ
  obtain ⟨⟨zs, rfl, hzl, hz⟩, lwk⟩ := hJ
  refine ⟨p, _, rfl, Mu.upd_same, ?_⟩
  rw [Mu.del_upd np]
  refine ⟨⟨Y ++ [zs], by unfold rls; rw [List.map_append]; rfl, by rw [List.length_append, hYl]; rfl, fun r hr => ?_⟩, lwk.up (by omega)⟩
  rcases List.mem_append.mp hr with hr | hr
  · exact hY r hr
  · rw [List.mem_singleton.mp hr]; exact ⟨hzl, hz⟩
  rw [rls_len, hl] at hJ
  obtain ⟨⟨Y, rfl, hYl, hY⟩, lwj⟩ := hJ
  have sY : SqD n Y := ⟨⟨hYl, fun r hr => (hY r hr).1⟩, n1, n4, fun r hr x hx => en7_in ((hY r hr).2 x hx)⟩
  refine wSs_frz 4 Mu.upd_same rfl ?_
  rw [Mu.del_upd np]
  refine wSs_cons (wS_setLc [("_law_one", 5)] 6 (wIt_list (wE_name 3 rfl ⟨_, rfl, ?_⟩)) nd (blkOk_by (N := N_law) (sc := defScope s_law) (by decide +kernel)) (sw_true rfl rfl rfl (by decide +kernel)))
  refine ⟨szOk (by rw [rls_len]; omega), fun t2 acc μ4 => (∃ zs : List Rat, acc = rl zs ∧ zs.length = t2 ∧ ∀ x ∈ zs, In5 x) ∧ Lx m l (200 * i + 80 + 16 * n + 4 * t2) 58 none μ4, ⟨⟨[], rfl, rfl, fun _ h => nomatch h⟩, lwj⟩, fun t2 y acc μ4 hy hJ s0 H0 C cl fp => ?_, fun acc μ4 hJ p2 np2 => ?_⟩
  obtain ⟨⟨zs, rfl, hzl, hz⟩, lwk⟩ := hJ
  have ht2 := (List.getElem?_eq_some_iff.mp hy).1
  rw [rls_len] at ht2
  refine wGw_name 5 (fun s0 H0 C cl fp => (wE_cal C__law_fraction ar.bk (by omega) (wA_cons (wE_name 1 rfl (wA_nil ?_))))) nd
  refine ⟨m, l, _, _, _, rfl, lwk, by omega, fun nn d μ5 hf b1 b2 lw5 ls5 => ?_⟩
  obtain ⟨x, ex, hX⟩ := fr_in hf b1 b2
  refine ⟨⟨zs ++ [x], by rw [ex, rl_snoc], by rw [List.length_append, hzl]; rfl, fun y hy => ?_⟩, lw5.up (by omega)⟩
  rcases List.mem_append.mp hy with hy | hy
  · exact hz y hy
  · rw [List.mem_singleton.mp hy]; exact hX
  rw [rls_len, hl] at hJ
  obtain ⟨⟨zs, rfl, hzl, hz⟩, lwk⟩ := hJ
  refine wSs_frz 6 Mu.upd_same rfl ?_
  rw [Mu.del_upd np2]
  have hz7 : ∀ x ∈ zs, FB 82 x := fun x hx => (en7_in (hz x hx)).fb
  have smM := s.ab.sm s.r (by omega) (by decide)
  have smY := sY.ab.sm sY.r (by omega) (by decide)
  have smR : Sm zs := row_sm hz7 (by omega) (by decide)
  have lw8 := lwk.up (d := 200 * i + 200) (by omega)
  clear lwk lwj
  refine wSs_cons (wS_set 7 (wE_callB (id := "repr") TX.b_repr (by decide +kernel) (wA_cons (wE_lstF (wA_cons (wE_name 3 rfl (wA_cons (wE_name 4 rfl (wA_cons (wE_name 6 rfl (wA_nil ⟨by show 3 ≤ sizeLine; decide, (wA_nil ?_)⟩)))))))))) nd)
  refine wC_reprW ar ND (.dat (three_isD M Y zs)) (three_wsh smM smY smR) (three_deep M Y zs) (three_shown smM smY smR (by omega) (by omega)) ?_
  refine wSs_cons (wS_set 8 (wE_cal C__law_square_back ar (by omega) (wA_cons (wE_name 3 rfl (wA_nil ?_)))) nd)
  refine ⟨M, n, rfl, s, ?_⟩
  refine wSs_cons (wS_if (wT_cmp (wE_callB (id := "repr") TX.b_repr (by decide +kernel) (wA_cons (wE_cal C_determinant ar (by omega) (wA_cons (wE_name 3 rfl (wA_nil ?_))))))))
  refine ⟨M, n, rfl, s, ?_⟩
  refine wA_nil ?_
  refine wC_repr ar (show_ra ((det_fb s.e n4).mono (by decide))) ?_
  refine wE_callB (id := "repr") TX.b_repr (by decide +kernel) (wA_cons (wE_cal C__law_determinant ar (by omega) (wA_cons (wE_name 3 rfl (wA_nil ?_)))))
  refine ⟨M, n, rfl, by omega, n4, s.r, s.e, ?_⟩
  refine wA_nil ?_
  refine wC_repr ar (show_ra ((det_fb s.e n4).mono (by decide))) ?_
  refine wO_neS ?_
  refine ⟨_, rfl, ?_⟩
  refine ⟨fun hk => ?_, fun hk => ?_⟩
  refine wSs_cons (wS_ret (wE_bl ?_))
  simp at hk
  refine wSs_nil ?_
  refine wSs_cons (wS_if (wT_cmp (wE_callB (id := "repr") TX.b_repr (by decide +kernel) (wA_cons (wE_frz (wE_cal C_put_to ar (by omega) (wA_cons (wE_name 3 rfl (wA_cons (wE_name 6 rfl (wA_nil ?_)))))))))))
  refine ⟨_, _, M, zs, 82, rfl, .inl rfl, rwsF M, s.ab, hz7, by decide, by omega, by omega, fun p3 np3 => ⟨p3, _, rfl, Mu.upd_same, ?_⟩⟩
  rw [Mu.del_upd np3]
  have smP : Sm (putF M zs) := row_sm (put_fb s.ab hz7 (by omega) (by decide)) (by unfold putF; rw [List.length_map]; omega) (by decide)
  have szP : (toD (D.A.lst (rl (putF M zs)))).shown.length ≤ sizeLine := szOk (Nat.le_trans (shown_rl smP) (by decide))
  refine wA_nil ?_
  refine wC_reprW ar ND (.dat (datRl _).1) (wsh_rl smP) (datRl _).2 szP ?_
  refine wE_callB (id := "repr") TX.b_repr (by decide +kernel) (wA_cons (wE_cal C__law_put_to ar (by omega) (wA_cons (wE_name 3 rfl (wA_cons (wE_name 6 rfl (wA_nil ?_)))))))
  refine ⟨M, zs, 82, rfl, s.ab, hz7, by decide, by omega, by omega, ?_⟩
  refine wA_nil ?_
  refine wC_reprW ar ND (.dat (datRl _).1) (wsh_rl smP) (datRl _).2 szP ?_
  refine wO_neS ?_
  refine ⟨_, rfl, ?_⟩
  refine ⟨fun hk => ?_, fun hk => ?_⟩
  refine wSs_cons (wS_ret (wE_bl ?_))
  simp at hk
  refine wSs_nil ?_
  refine wSs_cons (wS_if (wT_cmp (wE_callB (id := "repr") TX.b_repr (by decide +kernel) (wA_cons (wE_cal C_both ar (by omega) (wA_cons (wE_name 3 rfl (wA_cons (wE_name 4 rfl (wA_nil ?_))))))))))
  refine ⟨_, _, _, _, M, Y, n, 82, rfl, .inl rfl, rwsF M, .inl rfl, rwsF Y, s.r, sY.r, n4, s.ab, sY.ab, by decide, by decide, ?_⟩
  have rP := rect_prod s.r sY.r
  have smB := (prod_fb s.r sY.r s.ab sY.ab n4 (by decide) (by decide)).sm rP (by omega) (by decide)
  have szB : (toD (D.A.lst (rls (prodF M Y)))).shown.length ≤ sizeLine := szOk (Nat.le_trans (shown_rls4 smB (by rw [rP.len]; exact n4)) (by decide))
  refine wA_nil ?_
  refine wC_reprW ar ND (.dat (datRls _).1) (wsh_rls smB) (datRls _).2 szB ?_
  refine wE_callB (id := "repr") TX.b_repr (by decide +kernel) (wA_cons (wE_cal C__law_product ar (by omega) (wA_cons (wE_name 3 rfl (wA_cons (wE_name 4 rfl (wA_nil ?_)))))))
  refine ⟨M, Y, n, 82, rfl, s.r, sY.r, n4, s.ab, sY.ab, by decide, by decide, ?_⟩
  refine wA_nil ?_
  refine wC_reprW ar ND (.dat (datRls _).1) (wsh_rls smB) (datRls _).2 szB ?_
  refine wO_neS ?_
  refine ⟨_, rfl, ?_⟩
  refine ⟨fun hk => ?_, fun hk => ?_⟩
  refine wSs_cons (wS_ret (wE_bl ?_))
  simp at hk
  refine wSs_nil ?_
  refine wSs_cons (wS_for (wIt_range1 TX.b_range (wA_cons (wE_int (wA_nil ⟨_, rfl, by omega, by omega, ?_⟩)))))
  refine ⟨fun j Γ' μ' => ∃ x9 x10 x11 x12 x13, Γ' = [some (.fls (ns.map D.A.int)), some (.loc m), some (.int (0 + (i : Int))), some (.lst (rls M)), some (.lst (rls Y)), x5, some (.lst (rl zs)), some (.str (toD (.lst (threeA M Y zs))).shown), some (dueB n M), x9, x10, x11, x12, x13] ∧ Lx m l (200 * i + 200) 58 none μ', ⟨_, _, _, _, _, rfl, lw8⟩, fun j y Γ' μ' hy hI => ?_, fun Γ' μ' hI => ?_⟩
  obtain ⟨x9, x10, x11, x12, x13, rfl, lw9⟩ := hI
  refine wG_name 9 ?_ nd
  refine wSs_cons (wS_set 10 (wE_cal C__law_told ar (by omega) (wA_cons (wE_name 3 rfl (wA_nil ?_)))) nd)
  refine ⟨M, n, rfl, s, fun y2 μ9 ft => ?_⟩
  have lw10 := lw9.sub ft.sub
  refine wSs_cons (wS_if ?_)
  refine wT.imp (QB := fun kk μ2 => kk = false ∧ μ2 = μ9) ?_ (fun kk μ2 hq => ?_)
  refine wT_chain (wW_or (wT_cmp (wE_callB (id := "repr") TX.b_repr (by decide +kernel) (wA_cons (wE_name 10 rfl (wA_nil ?_))))))
  refine wC_reprFound ar ND s ft ?_
  refine wE_callB (id := "repr") TX.b_repr (by decide +kernel) (wA_cons ?_)
  refine wE.imp (Q := fun z μ2 => z = flatB n M ∧ μ2 = μ9) ?_ (fun z μ2 hz2 => ?_)
  refine wE_if (wT_cmp (wE_name 8 rfl (wE_non ?_)))
  refine wO_isN ?_
  rw [due_non]
  refine ⟨_, rfl, ?_⟩
  refine ⟨fun hk => ?_, fun hk => ?_⟩
  refine wE_str ?_
  exact ⟨by unfold flatB; rw [if_pos (of_decide_eq_true hk)], rfl⟩
  refine wE_name 8 rfl ?_
  exact ⟨due_flat (of_decide_eq_false hk), rfl⟩
  obtain ⟨rfl, rfl⟩ := hz2
  refine wA_nil ?_
  refine wC_reprFlat ar ND s ?_
  refine wO_neS ?_
  refine ⟨_, rfl, ?_⟩
  refine ⟨fun hk => ?_, fun hk => ?_⟩
  · simp at hk
  refine wW_or1 (wT_cmp (wE_callB (id := "repr") TX.b_repr (by decide +kernel) (wA_cons (wE_lstF (wA_cons (wE_name 3 rfl (wA_cons (wE_name 4 rfl (wA_cons (wE_name 6 rfl (wA_nil ⟨by show 3 ≤ sizeLine; decide, (wA_nil ?_)⟩)))))))))))
  refine wC_reprW ar ND (.dat (three_isD M Y zs)) (three_wsh smM smY smR) (three_deep M Y zs) (three_shown smM smY smR (by omega) (by omega)) ?_
  refine wE_name 7 rfl ?_
  refine wO_neS ?_
  refine ⟨_, rfl, ?_⟩
  exact ⟨by simp [threeA], rfl⟩
  obtain ⟨rfl, rfl⟩ := hq
  refine ⟨fun hk => ?_, fun hk => ?_⟩
  refine wSs_cons (wS_ret (wE_bl ?_))
  cases hk
  refine wSs_nil ?_
  refine wSs_cut (fun Γ' μ' => ∃ x9 x10 x11 x12 x13, Γ' = [some (.fls (ns.map D.A.int)), some (.loc m), some (.int (0 + (i : Int))), some (.lst (rls M)), some (.lst (rls Y)), x5, some (.lst (rl zs)), some (.str (toD (.lst (threeA M Y zs))).shown), some (dueB n M), x9, x10, x11, x12, x13] ∧ Lx m l (200 * i + 200) 58 none μ') ?_ (fun Γ' μ' hP => ?_)
  refine wS_if (wT_cmp (wE_name 8 rfl (wE_non ?_)))
  refine wO_notN ?_
  rw [due_non]
  refine ⟨_, rfl, ?_⟩
  refine ⟨fun hk => ?_, fun hk => ?_⟩
  have nz : detF n M ≠ 0 := by simpa using hk
  obtain ⟨B0, p4, ps, rfl, ib, tb⟩ : ∃ X p ps, y2 = .loc p ∧ IsBack n M X ∧ ToldB μ' X p ps μ2 := by
    rcases ft.is_ with ⟨h, _⟩ | ⟨_, h⟩
    · exact absurd h nz
    · exact h
  have abB : AB 700 B0 := by rw [ib.e]; exact back_fb s nz
  refine wSs_cons (wS_setLcF [("_law_k", 13)] 11 (wIt_range1 TX.b_range (wA_cons (wE_callB (id := "len") TX.b_len (by decide +kernel) (wA_cons (wE_name 3 rfl (wA_nil ?_)))))) nd (blkOk_by (N := N_law) (sc := defScope s_law) (by decide +kernel)) (sw_true rfl rfl rfl (by decide +kernel)))
  refine wC_len (.lst _) ?_
  rw [rls_len, hl]
  refine wA_nil ⟨_, rfl, by omega, by omega, ?_⟩
  refine ⟨szOk (by rw [rgA_len]; omega), rls (unitF n), by rw [rgA_len, rls_len, unit_len]; omega, fun i1 y z hy hz s0 H0 C cl fp => ?_, ?_⟩
  obtain ⟨hi1, rfl⟩ := rgA_at hy
  obtain ⟨r, hr, rfl⟩ := map_at hz
  obtain ⟨i2, hi2, rfl⟩ := map_at hr
  obtain rfl : i2 = i1 := by
    rw [List.getElem?_range (by omega)] at hi2
    exact (Option.some.inj hi2).symm
  rw [Int.zero_add]
  refine wGw_name 13 (⟨rfl, fun s0 H0 C cl fp => (wE_lcF (own := [("_law_j", 12)]) (wIt_range1 TX.b_range (wA_cons (wE_callB (id := "len") TX.b_len (by decide +kernel) (wA_cons (wE_name 3 rfl (wA_nil ?_)))))) nd (blkOk_by (by kernel_rfl)))⟩) nd
  refine wC_len (.lst _) ?_
  rw [rls_len, hl]
  refine wA_nil ⟨_, rfl, by omega, by omega, ?_⟩
  refine ⟨szOk (by rw [rgA_len]; omega), rl ((List.range n).map fun j => if i2 = j then 1 else 0), by rw [rgA_len, rl_len, List.length_map, List.length_range]; omega, fun j y z hy hz s0 H0 C cl fp => ?_, ?_⟩
  obtain ⟨hj, rfl⟩ := rgA_at hy
  obtain ⟨v, hv, rfl⟩ := map_at hz
  obtain ⟨j2, hj2, rfl⟩ := map_at hv
  obtain rfl : j2 = j := by
    rw [List.getElem?_range (by omega)] at hj2
    exact (Option.some.inj hj2).symm
  rw [Int.zero_add]
  refine wGw_name 12 (⟨rfl, fun s0 H0 C cl fp => (wE_tup (wA_cons (wE_callTy (T := "int") TX.b_int (by decide +kernel) (wA_cons (wE_cmp (wE_name 13 rfl (wE_name 12 rfl ?_)))))))⟩) nd
  refine wO_eqI ?_
  refine wA_nil ?_
  refine wC_intB ?_
  refine wA_cons (wE_int (wA_nil ⟨by show 2 ≤ sizeLine; decide, ?_⟩))
  refine ⟨?_, .refl _⟩
  exact unit_int (n := n)
  refine ⟨?_, .refl _⟩
  rfl
  refine wSs_cons (wS_if ?_)
  refine wT.imp (QB := fun kk μ3 => kk = false ∧ μ3 = μ2) ?_ (fun kk μ3 hq => ?_)
  refine wT_chain (wW_or (wT_cmp (wE_cal C_both ar (by omega) (wA_cons (wE_name 10 rfl (wA_cons (wE_name 3 rfl (wA_nil ?_))))))))
  refine ⟨_, _, _, _, B0, M, n, 700, rfl, .inr ⟨p4, rfl, tb.at_⟩, rwsO tb.rows, .inl rfl, rwsF M, ib.r, s.r, n4, abB, fun r hr x hx => (s.ab r hr x hx).mono (by decide), by decide, by decide, ?_⟩
  rw [ib.one]
  refine wE_name 11 rfl ?_
  refine wO_neD ar.u64 (datRls _) (datRls _) ?_
  rw [show PyData.eqv (toD (D.A.lst (rls (unitF n)))) (toD (D.A.lst (rls (unitF n)))) = true from eqvRls _]
  refine ⟨_, rfl, ?_⟩
  refine ⟨fun hk => ?_, fun hk => ?_⟩
  · cases hk
  refine wW_or1 (wT_cmp (wE_cal C_both ar (by omega) (wA_cons (wE_name 3 rfl (wA_cons (wE_name 10 rfl (wA_nil ?_)))))))
  refine ⟨_, _, _, _, M, B0, n, 700, rfl, .inl rfl, rwsF M, .inr ⟨p4, rfl, tb.at_⟩, rwsO tb.rows, s.r, ib.r, n4, fun r hr x hx => (s.ab r hr x hx).mono (by decide), abB, by decide, by decide, ?_⟩
  rw [ib.two]
  refine wE_name 11 rfl ?_
  refine wO_neD ar.u64 (datRls _) (datRls _) ?_
  rw [show PyData.eqv (toD (D.A.lst (rls (unitF n)))) (toD (D.A.lst (rls (unitF n)))) = true from eqvRls _]
  refine ⟨_, rfl, ?_⟩
  exact ⟨rfl, rfl⟩
  obtain ⟨rfl, rfl⟩ := hq
  refine ⟨fun hk => ?_, fun hk => ?_⟩
  refine wSs_cons (wS_ret (wE_bl ?_))
  cases hk
  obtain ⟨q0, ps2, rfl, hq0⟩ := told_first tb.rows ib.r n1
  have e04 : q0 ≠ p4 := (tb.news q0 List.mem_cons_self).2
  have nq0 := (tb.news q0 List.mem_cons_self).1
  have o1 := lw9.off nq0
  have o2 := lw9.off tb.new
  refine wSs_nil ?_
  refine wSs_cons (wS_expr (wE_append (wE_ix (wE_name 10 rfl (wE_int ?_)))))
  refine wI_loc tb.at_ (atI_pos (i := 0) (y := .loc q0) (by rfl) (by decide)) ?_
  refine ⟨q0, _, rfl, hq0, ?_⟩
  refine wE_tup (wA_cons (wE_int (wA_cons (wE_int (wA_nil ⟨by show 2 ≤ sizeLine; decide, ?_⟩)))))
  refine ⟨_, hq0, szLt (by rw [rl_len, ib.r.rw n1]; omega), ?_⟩
  refine wSs_cons (wS_expr (wE_append (wE_name 10 rfl ?_)))
  refine ⟨p4, _, rfl, by rw [Mu.upd_ne (Ne.symm e04)]; exact tb.at_, ?_⟩
  refine wE_lstF (wA_nil ⟨by show 0 ≤ sizeLine; decide, ?_⟩)
  refine ⟨_, by rw [Mu.upd_ne (Ne.symm e04)]; exact tb.at_, szLt (by have := TellP.lenP tb.rows; rw [List.length_map, this, ib.r.len]; omega), ?_⟩
  refine wSs_nil ?_
  exact ⟨_, _, _, _, _, rfl, lxUpd (lxUpd lw10 o1.1 o1.2) o2.1 o2.2⟩
  refine wSs_nil ?_
  exact ⟨_, _, _, _, _, rfl, lw10⟩
  refine wSs_nil ?_
  exact hP
  obtain ⟨x9, x10, x11, x12, x13, rfl, lw9⟩ := hI
  refine wSs_nil ?_
  exact ⟨_, _, _, _, _, _, _, _, _, _, _, _, rfl, lw9.up (by omega)⟩
  obtain ⟨x2, x3, x4, x5, x6, x7, x8, x9, x10, x11, x12, x13, rfl, lwi⟩ := hI
  refine wSs_cons (wS_ret (wE_bl ?_))
  exact q _

end
end D

set_option exponentiation.threshold 256
set_option pp.maxSteps 5000
set_option Elab.async false
set_option linter.all false
set_option pp.maxSteps 300
set_option maxRecDepth 100000
set_option maxHeartbeats 4000000
/-! K70t: the law's own determinant, all the way down. -/
namespace D
open PySem PySem.Spec PyProof.Rows L2
section
variable {P : Program} {w : World} {mg : Str → Option Value} {base : Heap} {K : PySem.W.Frag} {CF CS : Addr}
theorem Cal.up {j k : Nat} {x : Str} {c : AC} (C : Cal P w K mg base j x c) (h : j ≤ k) : Cal P w K mg base k x c := ⟨C.ex.imp fun f => Exists.imp fun fd => Exists.imp fun ps r => ⟨r.1.up h, r.2⟩⟩
theorem CalX.up {j k : Nat} {x : Str} {c : AC} (C : CalX P w K mg base j x c) (h : j ≤ k) : CalX P w K mg base k x c := ⟨C.ex.imp fun f => Exists.imp fun fd => Exists.imp fun ps r => ⟨r.1.up h, r.2⟩⟩
theorem det_zero {f : Addr} {fd : FuncData} (F : Fun K "_law_determinant" "_law_determinant" s__law_determinant f fd) : FnD P w K mg base CX0 1 f fd ["_law_square"] (c__law_determinant 0) :=
  fnD (k := 0) F sc__law_determinant (fun xs μ Q E hc => by obtain ⟨M, n, rfl, r⟩ := hc; rfl) (fun cdv Ao outer s H E xs μ Q E0 ar hc => by
    obtain ⟨M, n, rfl, h, r⟩ := hc
    exact absurd h (Nat.not_lt_zero _))
theorem det_all {n : Nat} (hn : 1 ≤ n) (TX : Txt K mg CF CS) (Ct : Cal P w K mg base n "_law_times" c__law_times) (Cl : Cal P w K mg base n "_law_less" c__law_less) (Cp : Cal P w K mg base n "_law_plus" c__law_plus) {f1 : Addr} {d1 : FuncData} (F1 : Fun K "_law_determinant" "_law_determinant" s__law_determinant f1 d1)
    (g1 : mg "_law_determinant" = some (.ref f1)) (k1 : PySem.W.keepIn K (.ref f1) = true) (b1 : Binds K d1 ["_law_square"] []) : ∀ k, Cal P w K mg base (n + k) "_law_determinant" (c__law_determinant k)
  | 0 => ⟨_, _, _, (det_zero F1).up hn, g1, k1, b1⟩
  | k + 1 => by
    have G := det_all hn TX Ct Cl Cp F1 g1 k1 b1 k
    exact ⟨_, _, _, ok__law_determinant TX (C__law_determinant := G) (C__law_times := Ct.up (Nat.le_add_right n k)) (C__law_less := Cl.up (Nat.le_add_right n k)) (C__law_plus := Cp.up (Nat.le_add_right n k)) (F := F1), g1, k1, b1⟩
end
end D

set_option exponentiation.threshold 256
set_option pp.maxSteps 5000
set_option Elab.async false
set_option linter.all false
set_option pp.maxSteps 300
set_option maxRecDepth 100000
set_option maxHeartbeats 4000000
namespace D
open PySem PySem.Spec PyProof.Rows L2
theorem all_mk {l : PySem.W.OpenLaw} {w : World} {K : PySem.W.Frag} {h : Heap} {mg : Str → Option Value} {fa CF CS f1 f2 f3 f4 f5 f6 f7 f8 f9 f10 f11 f12 f13 f14 f15 f16 f17 f18 f19 f20 f21 f22 f23 f24 f25 f26 f27 f28 f29 f30 : Addr} (X : K.In h) (G : h.Ns mainGlobals mg) (hfa : mg "law" = some (.ref fa)) (tr : l.prog.given.tree = none)
    {od1 an1 od2 an2 od3 an3 od4 an4 od5 an5 od6 an6 od7 an7 od8 an8 od9 an9 od10 an10 od11 an11 od12 an12 od13 an13 od14 an14 od15 an15 od16 an16 od17 an17 od18 an18 od19 an19 od20 an20 od21 an21 od22 an22 od23 an23 od24 an24 od25 an25 od26 an26 od27 an27 od28 an28 od29 an29 od30 an30 : Option Addr} {sl1 sl2 sl3 sl4 sl5 sl6 sl7 sl8 sl9 sl10 sl11 sl12 sl13 sl14 sl15 sl16 sl17 sl18 sl19 sl20 sl21 sl22 sl23 sl24 sl25 sl26 sl27 sl28 sl29 sl30 : Array (Option Value)} {oc1 kV1 dc1 pm1 cd1 ct1 oc2 kV2 dc2 pm2 cd2 ct2 oc3 kV3 dc3 pm3 cd3 ct3 oc4 kV4 dc4 pm4 cd4 ct4 oc5 kV5 dc5 pm5 cd5 ct5 oc6 kV6 dc6 pm6 cd6 ct6 oc7 kV7 dc7 pm7 cd7 ct7 oc8 kV8 dc8 pm8 cd8 ct8 oc9 kV9 dc9 pm9 cd9 ct9 oc10 kV10 dc10 pm10 cd10 ct10 oc11 kV11 dc11 pm11 cd11 ct11 oc12 kV12 dc12 pm12 cd12 ct12 oc13 kV13 dc13 pm13 cd13 ct13 oc14 kV14 dc14 pm14 cd14 ct14 oc15 kV15 dc15 pm15 cd15 ct15 oc16 kV16 dc16 pm16 cd16 ct16 oc17 kV17 dc17 pm17 cd17 ct17 oc18 kV18 dc18 pm18 cd18 ct18 oc19 kV19 dc19 pm19 cd19 ct19 oc20 kV20 dc20 pm20 cd20 ct20 oc21 kV21 dc21 pm21 cd21 ct21 oc22 kV22 dc22 pm22 cd22 ct22 oc23 kV23 dc23 pm23 cd23 ct23 oc24 kV24 dc24 pm24 cd24 ct24 oc25 kV25 dc25 pm25 cd25 ct25 oc26 kV26 dc26 pm26 cd26 ct26 oc27 kV27 dc27 pm27 cd27 ct27 oc28 kV28 dc28 pm28 cd28 ct28 oc29 kV29 dc29 pm29 cd29 ct29 oc30 kV30 dc30 pm30 cd30 ct30 : Value}
    (a1 : PySem.W.nsIn K mainGlobals "_law_mixed" = some (some (.ref f1)))
    (l1 : K.lookup f1 = some ⟨oc1, od1, .func (PySem.W.fnOf "_law_mixed" "_law_mixed" (defArgs s__law_mixed) (defBody s__law_mixed) (defScope s__law_mixed) .none kV1 dc1 pm1 an1 cd1 ct1), sl1⟩) (c1 : PySem.W.codeIn K cd1 "_law_mixed" = true) (k1 : PySem.W.keepIn K (.ref f1) = true)
    (a2 : PySem.W.nsIn K mainGlobals "_law_folded" = some (some (.ref f2)))
    (l2 : K.lookup f2 = some ⟨oc2, od2, .func (PySem.W.fnOf "_law_folded" "_law_folded" (defArgs s__law_folded) (defBody s__law_folded) (defScope s__law_folded) .none kV2 dc2 pm2 an2 cd2 ct2), sl2⟩) (c2 : PySem.W.codeIn K cd2 "_law_folded" = true) (k2 : PySem.W.keepIn K (.ref f2) = true)
    (a3 : PySem.W.nsIn K mainGlobals "_law_draw" = some (some (.ref f3)))
    (l3 : K.lookup f3 = some ⟨oc3, od3, .func (PySem.W.fnOf "_law_draw" "_law_draw" (defArgs s__law_draw) (defBody s__law_draw) (defScope s__law_draw) .none kV3 dc3 pm3 an3 cd3 ct3), sl3⟩) (c3 : PySem.W.codeIn K cd3 "_law_draw" = true) (k3 : PySem.W.keepIn K (.ref f3) = true)
    (a4 : PySem.W.nsIn K mainGlobals "_law_begun" = some (some (.ref f4)))
    (l4 : K.lookup f4 = some ⟨oc4, od4, .func (PySem.W.fnOf "_law_begun" "_law_begun" (defArgs s__law_begun) (defBody s__law_begun) (defScope s__law_begun) .none kV4 dc4 pm4 an4 cd4 ct4), sl4⟩) (c4 : PySem.W.codeIn K cd4 "_law_begun" = true) (k4 : PySem.W.keepIn K (.ref f4) = true)
    (a5 : PySem.W.nsIn K mainGlobals "common" = some (some (.ref f5)))
    (l5 : K.lookup f5 = some ⟨oc5, od5, .func (PySem.W.fnOf "common" "common" (defArgs s_common) (defBody s_common) (defScope s_common) .none kV5 dc5 pm5 an5 cd5 ct5), sl5⟩) (c5 : PySem.W.codeIn K cd5 "common" = true) (k5 : PySem.W.keepIn K (.ref f5) = true)
    (a6 : PySem.W.nsIn K mainGlobals "fraction" = some (some (.ref f6)))
    {T6 : Addr} {tc6 : Value} {td6 : Option Addr} {ti6 : Array Value} {tn6 : Nat} {ts6 : Array (Option Value)}
    (l6 : K.lookup f6 = some ⟨oc6, od6, .func (PySem.W.fnOf "fraction" "fraction" (defArgs s_fraction) (defBody s_fraction) (defScope s_fraction) (.ref T6) kV6 dc6 pm6 an6 cd6 ct6), sl6⟩) (c6 : PySem.W.codeIn K cd6 "fraction" = true) (k6 : PySem.W.keepIn K (.ref f6) = true)
    (lT6 : K.lookup T6 = some ⟨tc6, td6, .seq ti6 tn6, ts6⟩) (vT6 : ti6.toList.map intOf = [some 1])
    (a7 : PySem.W.nsIn K mainGlobals "plus" = some (some (.ref f7)))
    (l7 : K.lookup f7 = some ⟨oc7, od7, .func (PySem.W.fnOf "plus" "plus" (defArgs s_plus) (defBody s_plus) (defScope s_plus) .none kV7 dc7 pm7 an7 cd7 ct7), sl7⟩) (c7 : PySem.W.codeIn K cd7 "plus" = true) (k7 : PySem.W.keepIn K (.ref f7) = true)
    (a8 : PySem.W.nsIn K mainGlobals "less" = some (some (.ref f8)))
    (l8 : K.lookup f8 = some ⟨oc8, od8, .func (PySem.W.fnOf "less" "less" (defArgs s_less) (defBody s_less) (defScope s_less) .none kV8 dc8 pm8 an8 cd8 ct8), sl8⟩) (c8 : PySem.W.codeIn K cd8 "less" = true) (k8 : PySem.W.keepIn K (.ref f8) = true)
    (a9 : PySem.W.nsIn K mainGlobals "times" = some (some (.ref f9)))
    (l9 : K.lookup f9 = some ⟨oc9, od9, .func (PySem.W.fnOf "times" "times" (defArgs s_times) (defBody s_times) (defScope s_times) .none kV9 dc9 pm9 an9 cd9 ct9), sl9⟩) (c9 : PySem.W.codeIn K cd9 "times" = true) (k9 : PySem.W.keepIn K (.ref f9) = true)
    (a10 : PySem.W.nsIn K mainGlobals "over" = some (some (.ref f10)))
    (l10 : K.lookup f10 = some ⟨oc10, od10, .func (PySem.W.fnOf "over" "over" (defArgs s_over) (defBody s_over) (defScope s_over) .none kV10 dc10 pm10 an10 cd10 ct10), sl10⟩) (c10 : PySem.W.codeIn K cd10 "over" = true) (k10 : PySem.W.keepIn K (.ref f10) = true)
    (a11 : PySem.W.nsIn K mainGlobals "unit" = some (some (.ref f11)))
    (l11 : K.lookup f11 = some ⟨oc11, od11, .func (PySem.W.fnOf "unit" "unit" (defArgs s_unit) (defBody s_unit) (defScope s_unit) .none kV11 dc11 pm11 an11 cd11 ct11), sl11⟩) (c11 : PySem.W.codeIn K cd11 "unit" = true) (k11 : PySem.W.keepIn K (.ref f11) = true)
    (a12 : PySem.W.nsIn K mainGlobals "cleared" = some (some (.ref f12)))
    (l12 : K.lookup f12 = some ⟨oc12, od12, .func (PySem.W.fnOf "cleared" "cleared" (defArgs s_cleared) (defBody s_cleared) (defScope s_cleared) .none kV12 dc12 pm12 an12 cd12 ct12), sl12⟩) (c12 : PySem.W.codeIn K cd12 "cleared" = true) (k12 : PySem.W.keepIn K (.ref f12) = true)
    (a13 : PySem.W.nsIn K mainGlobals "determinant" = some (some (.ref f13)))
    (l13 : K.lookup f13 = some ⟨oc13, od13, .func (PySem.W.fnOf "determinant" "determinant" (defArgs s_determinant) (defBody s_determinant) (defScope s_determinant) .none kV13 dc13 pm13 an13 cd13 ct13), sl13⟩) (c13 : PySem.W.codeIn K cd13 "determinant" = true) (k13 : PySem.W.keepIn K (.ref f13) = true)
    (a14 : PySem.W.nsIn K mainGlobals "back_of" = some (some (.ref f14)))
    (l14 : K.lookup f14 = some ⟨oc14, od14, .func (PySem.W.fnOf "back_of" "back_of" (defArgs s_back_of) (defBody s_back_of) (defScope s_back_of) .none kV14 dc14 pm14 an14 cd14 ct14), sl14⟩) (c14 : PySem.W.codeIn K cd14 "back_of" = true) (k14 : PySem.W.keepIn K (.ref f14) = true)
    (a15 : PySem.W.nsIn K mainGlobals "put_to" = some (some (.ref f15)))
    (l15 : K.lookup f15 = some ⟨oc15, od15, .func (PySem.W.fnOf "put_to" "put_to" (defArgs s_put_to) (defBody s_put_to) (defScope s_put_to) .none kV15 dc15 pm15 an15 cd15 ct15), sl15⟩) (c15 : PySem.W.codeIn K cd15 "put_to" = true) (k15 : PySem.W.keepIn K (.ref f15) = true)
    (a16 : PySem.W.nsIn K mainGlobals "both" = some (some (.ref f16)))
    (l16 : K.lookup f16 = some ⟨oc16, od16, .func (PySem.W.fnOf "both" "both" (defArgs s_both) (defBody s_both) (defScope s_both) .none kV16 dc16 pm16 an16 cd16 ct16), sl16⟩) (c16 : PySem.W.codeIn K cd16 "both" = true) (k16 : PySem.W.keepIn K (.ref f16) = true)
    (a17 : PySem.W.nsIn K mainGlobals "_law_common" = some (some (.ref f17)))
    (l17 : K.lookup f17 = some ⟨oc17, od17, .func (PySem.W.fnOf "_law_common" "_law_common" (defArgs s__law_common) (defBody s__law_common) (defScope s__law_common) .none kV17 dc17 pm17 an17 cd17 ct17), sl17⟩) (c17 : PySem.W.codeIn K cd17 "_law_common" = true) (k17 : PySem.W.keepIn K (.ref f17) = true)
    (a18 : PySem.W.nsIn K mainGlobals "_law_lowest" = some (some (.ref f18)))
    (l18 : K.lookup f18 = some ⟨oc18, od18, .func (PySem.W.fnOf "_law_lowest" "_law_lowest" (defArgs s__law_lowest) (defBody s__law_lowest) (defScope s__law_lowest) .none kV18 dc18 pm18 an18 cd18 ct18), sl18⟩) (c18 : PySem.W.codeIn K cd18 "_law_lowest" = true) (k18 : PySem.W.keepIn K (.ref f18) = true)
    (a19 : PySem.W.nsIn K mainGlobals "_law_fraction" = some (some (.ref f19)))
    (l19 : K.lookup f19 = some ⟨oc19, od19, .func (PySem.W.fnOf "_law_fraction" "_law_fraction" (defArgs s__law_fraction) (defBody s__law_fraction) (defScope s__law_fraction) .none kV19 dc19 pm19 an19 cd19 ct19), sl19⟩) (c19 : PySem.W.codeIn K cd19 "_law_fraction" = true) (k19 : PySem.W.keepIn K (.ref f19) = true)
    (a20 : PySem.W.nsIn K mainGlobals "_law_plus" = some (some (.ref f20)))
    (l20 : K.lookup f20 = some ⟨oc20, od20, .func (PySem.W.fnOf "_law_plus" "_law_plus" (defArgs s__law_plus) (defBody s__law_plus) (defScope s__law_plus) .none kV20 dc20 pm20 an20 cd20 ct20), sl20⟩) (c20 : PySem.W.codeIn K cd20 "_law_plus" = true) (k20 : PySem.W.keepIn K (.ref f20) = true)
    (a21 : PySem.W.nsIn K mainGlobals "_law_less" = some (some (.ref f21)))
    (l21 : K.lookup f21 = some ⟨oc21, od21, .func (PySem.W.fnOf "_law_less" "_law_less" (defArgs s__law_less) (defBody s__law_less) (defScope s__law_less) .none kV21 dc21 pm21 an21 cd21 ct21), sl21⟩) (c21 : PySem.W.codeIn K cd21 "_law_less" = true) (k21 : PySem.W.keepIn K (.ref f21) = true)
    (a22 : PySem.W.nsIn K mainGlobals "_law_times" = some (some (.ref f22)))
    (l22 : K.lookup f22 = some ⟨oc22, od22, .func (PySem.W.fnOf "_law_times" "_law_times" (defArgs s__law_times) (defBody s__law_times) (defScope s__law_times) .none kV22 dc22 pm22 an22 cd22 ct22), sl22⟩) (c22 : PySem.W.codeIn K cd22 "_law_times" = true) (k22 : PySem.W.keepIn K (.ref f22) = true)
    (a23 : PySem.W.nsIn K mainGlobals "_law_over" = some (some (.ref f23)))
    (l23 : K.lookup f23 = some ⟨oc23, od23, .func (PySem.W.fnOf "_law_over" "_law_over" (defArgs s__law_over) (defBody s__law_over) (defScope s__law_over) .none kV23 dc23 pm23 an23 cd23 ct23), sl23⟩) (c23 : PySem.W.codeIn K cd23 "_law_over" = true) (k23 : PySem.W.keepIn K (.ref f23) = true)
    (a24 : PySem.W.nsIn K mainGlobals "_law_determinant" = some (some (.ref f24)))
    (l24 : K.lookup f24 = some ⟨oc24, od24, .func (PySem.W.fnOf "_law_determinant" "_law_determinant" (defArgs s__law_determinant) (defBody s__law_determinant) (defScope s__law_determinant) .none kV24 dc24 pm24 an24 cd24 ct24), sl24⟩) (c24 : PySem.W.codeIn K cd24 "_law_determinant" = true) (k24 : PySem.W.keepIn K (.ref f24) = true)
    (a25 : PySem.W.nsIn K mainGlobals "_law_square_back" = some (some (.ref f25)))
    (l25 : K.lookup f25 = some ⟨oc25, od25, .func (PySem.W.fnOf "_law_square_back" "_law_square_back" (defArgs s__law_square_back) (defBody s__law_square_back) (defScope s__law_square_back) .none kV25 dc25 pm25 an25 cd25 ct25), sl25⟩) (c25 : PySem.W.codeIn K cd25 "_law_square_back" = true) (k25 : PySem.W.keepIn K (.ref f25) = true)
    (a26 : PySem.W.nsIn K mainGlobals "_law_put_to" = some (some (.ref f26)))
    (l26 : K.lookup f26 = some ⟨oc26, od26, .func (PySem.W.fnOf "_law_put_to" "_law_put_to" (defArgs s__law_put_to) (defBody s__law_put_to) (defScope s__law_put_to) .none kV26 dc26 pm26 an26 cd26 ct26), sl26⟩) (c26 : PySem.W.codeIn K cd26 "_law_put_to" = true) (k26 : PySem.W.keepIn K (.ref f26) = true)
    (a27 : PySem.W.nsIn K mainGlobals "_law_product" = some (some (.ref f27)))
    (l27 : K.lookup f27 = some ⟨oc27, od27, .func (PySem.W.fnOf "_law_product" "_law_product" (defArgs s__law_product) (defBody s__law_product) (defScope s__law_product) .none kV27 dc27 pm27 an27 cd27 ct27), sl27⟩) (c27 : PySem.W.codeIn K cd27 "_law_product" = true) (k27 : PySem.W.keepIn K (.ref f27) = true)
    (a28 : PySem.W.nsIn K mainGlobals "_law_drawn" = some (some (.ref f28)))
    (l28 : K.lookup f28 = some ⟨oc28, od28, .func (PySem.W.fnOf "_law_drawn" "_law_drawn" (defArgs s__law_drawn) (defBody s__law_drawn) (defScope s__law_drawn) .none kV28 dc28 pm28 an28 cd28 ct28), sl28⟩) (c28 : PySem.W.codeIn K cd28 "_law_drawn" = true) (k28 : PySem.W.keepIn K (.ref f28) = true)
    (a29 : PySem.W.nsIn K mainGlobals "_law_told" = some (some (.ref f29)))
    (l29 : K.lookup f29 = some ⟨oc29, od29, .func (PySem.W.fnOf "_law_told" "_law_told" (defArgs s__law_told) (defBody s__law_told) (defScope s__law_told) .none kV29 dc29 pm29 an29 cd29 ct29), sl29⟩) (c29 : PySem.W.codeIn K cd29 "_law_told" = true) (k29 : PySem.W.keepIn K (.ref f29) = true)
    (a30 : PySem.W.nsIn K mainGlobals "law" = some (some (.ref f30)))
    (l30 : K.lookup f30 = some ⟨oc30, od30, .func (PySem.W.fnOf "law" "law" (defArgs s_law) (defBody s_law) (defScope s_law) .none kV30 dc30 pm30 an30 cd30 ct30), sl30⟩) (c30 : PySem.W.codeIn K cd30 "law" = true) (k30 : PySem.W.keepIn K (.ref f30) = true)
    (z0 : PySem.W.nsIn K mainGlobals "range" = some none)
    (z1 : PySem.W.nsIn K mainGlobals "len" = some none)
    (z2 : PySem.W.nsIn K mainGlobals "abs" = some none)
    (z3 : PySem.W.nsIn K mainGlobals "min" = some none)
    (z4 : PySem.W.nsIn K mainGlobals "enumerate" = some none)
    (z5 : PySem.W.nsIn K mainGlobals "zip" = some none)
    (z6 : PySem.W.nsIn K mainGlobals "list" = some none)
    (z7 : PySem.W.nsIn K mainGlobals "repr" = some none)
    (z8 : PySem.W.nsIn K mainGlobals "int" = some none)
    (z9 : PySem.W.nsIn K mainGlobals "isinstance" = some none)
    (z10 : PySem.W.nsIn K mainGlobals "ValueError" = some none)
    {p11 : Addr} {i_11 : Array Value} {n11 : Nat} {y11 : Array (Option Value)} {d11 : Option Addr} (z11 : PySem.W.nsIn K mainGlobals "NOUGHT" = some (some (.ref p11))) (w11 : K.lookup p11 = some ⟨.type "tuple", d11, .seq i_11 n11, y11⟩) (e11 : i_11.toList.map intOf = [some (0), some (1)])
    {p12 : Addr} {i_12 : Array Value} {n12 : Nat} {y12 : Array (Option Value)} {d12 : Option Addr} (z12 : PySem.W.nsIn K mainGlobals "ONE" = some (some (.ref p12))) (w12 : K.lookup p12 = some ⟨.type "tuple", d12, .seq i_12 n12, y12⟩) (e12 : i_12.toList.map intOf = [some (1), some (1)])
    (z13 : PySem.W.nsIn K mainGlobals "Flat" = some (some (.ref CF))) (y13 : PySem.W.excIn K CF [.type "ValueError", .type "Exception", .type "BaseException", .type "object"] "ValueError.__new__" = true) (v13 : PySem.W.keepIn K (.ref CF) = true) (u13 : PySem.W.subIn K (.ref CF) (.type "BaseException") = some true) (s13 : PySem.W.typeIn K (.ref CF) = some (.type "type"))
    (z14 : PySem.W.nsIn K mainGlobals "Flat" = some (some (.ref CF)))
    (z15 : PySem.W.kitOne K (.ref CF) (.ref CF) = some true)
    (z16 : PySem.W.kitOne K (.ref CF) (.type "ValueError") = some true)
    (hg17 : PySem.W.findIn K (.ref CF) "__getattribute__" = some (some (.builtin "BaseException.__getattribute__")))
    (hk17 : PySem.W.findIn K (.ref CF) "__getattr__" = some none)
    (hs17 : PySem.W.subIn K (.ref CF) (.type "BaseException") = some true)
    (hd17 : PySem.W.hasDictIn K CF = true)
    (ha17 : PySem.W.findIn K (.ref CF) "__class__" = some (some (.builtin "object.__class__")))
    (hn17 : PySem.W.specialIn K (.builtin "object.__class__") "__get__" = some (some (.builtin "getset_descriptor.__get__")))
    (ht17 : PySem.W.takesIn K (.builtin "object.__class__") = some true)
    (hm17 : PySem.W.mroIn K CF (.type "object") = some true)
    (z18 : PySem.W.nsIn K mainGlobals "SlopeError" = some (some (.ref CS)))
    (z19 : PySem.W.exmOne K (.ref CF) (.ref CS) = some true)
    : ∃ fd : FuncData, (∀ (s : Shared) (v : Value), BindsTo s fd ⟨[v], []⟩ [("_law_script", v)]) ∧ ∀ base : Heap, K.In base → base.Ns mainGlobals mg → base.NoDigits → base.NoSeer → (∀ p ∈ ([] : List (Addr × Addr)), LamX.TabB base mg p.1 p.2) → FnD l.prog w K mg base CX0 107 fa fd ["_law_script"] c_law := by
  have e := hfa.symm.trans (PySem.W.mg_of X G a30)
  cases e
  have T : Txt K mg CF CS := ⟨PySem.W.mg_none_of X G z0, PySem.W.mg_none_of X G z1, PySem.W.mg_none_of X G z2, PySem.W.mg_none_of X G z3, PySem.W.mg_none_of X G z4, PySem.W.mg_none_of X G z5, PySem.W.mg_none_of X G z6, PySem.W.mg_none_of X G z7, PySem.W.mg_none_of X G z8, PySem.W.mg_none_of X G z9, PySem.W.mg_none_of X G z10, kn_ints (ws := [0, 1]) X G z11 w11 e11 (by decide), kn_ints (ws := [1, 1]) X G z12 w12 e12 (by decide), ⟨⟨_, _, _, _, PySem.F.excBase_ValueError, y13⟩, PySem.W.mg_of X G z13, v13, u13, s13⟩, ⟨.ref CF, _, PySem.W.mg_of X G z14, rfl, fun F => rep_loc.mpr rfl⟩, z15, z16, ⟨hg17, hk17, hs17, hd17, ha17, hn17, ht17, hm17⟩, PySem.W.mg_of X G z18, z19⟩
  have F1 := fun_mk (st := s__law_mixed) l1 c1 k1
  have b1 := F1.binds (ps := ["_law_cell", "_law_k"]) fun _ _ _ _ _ _ us hl => match us, hl with | [_, _], _ => rfl
  have F2 := fun_mk (st := s__law_folded) l2 c2 k2
  have b2 := F2.binds (ps := ["_law_script"]) fun _ _ _ _ _ _ us hl => match us, hl with | [_], _ => rfl
  have F3 := fun_mk (st := s__law_draw) l3 c3 k3
  have b3 := F3.binds (ps := ["_law_m", "_law_many"]) fun _ _ _ _ _ _ us hl => match us, hl with | [_, _], _ => rfl
  have F4 := fun_mk (st := s__law_begun) l4 c4 k4
  have b4 := F4.binds (ps := ["_law_script"]) fun _ _ _ _ _ _ us hl => match us, hl with | [_], _ => rfl
  have F5 := fun_mk (st := s_common) l5 c5 k5
  have b5 := F5.binds (ps := ["one", "other"]) fun _ _ _ _ _ _ us hl => match us, hl with | [_, _], _ => rfl
  have F6 := fund_mk (st := s_fraction) (dvs := dvs_fraction) l6 c6 k6 lT6 (vals_nums (ws := [1]) vT6) (by simp)
  obtain ⟨dsg6, vsg6, g6⟩ := F6.binds1 (ps := ["n", "d"]) 1 0 (by simp) (by rfl) fun T kV doc pm an cdv ct us its l1 l2 => match us, its, l1, l2 with | [_], [_], _, _ => ⟨_, rfl, rfl⟩
  obtain ⟨dsb6, vsb6, b6⟩ := F6.binds1 (ps := ["n", "d"]) 2 1 (by simp) (by rfl) fun T kV doc pm an cdv ct us its l1 l2 => match us, its, l1, l2 with | [_, _], [_], _, _ => ⟨_, rfl, rfl⟩
  obtain rfl : dsb6 = [] := by cases vsb6; rfl
  have F7 := fun_mk (st := s_plus) l7 c7 k7
  have b7 := F7.binds (ps := ["one", "other"]) fun _ _ _ _ _ _ us hl => match us, hl with | [_, _], _ => rfl
  have F8 := fun_mk (st := s_less) l8 c8 k8
  have b8 := F8.binds (ps := ["one", "other"]) fun _ _ _ _ _ _ us hl => match us, hl with | [_, _], _ => rfl
  have F9 := fun_mk (st := s_times) l9 c9 k9
  have b9 := F9.binds (ps := ["one", "other"]) fun _ _ _ _ _ _ us hl => match us, hl with | [_, _], _ => rfl
  have F10 := fun_mk (st := s_over) l10 c10 k10
  have b10 := F10.binds (ps := ["one", "other"]) fun _ _ _ _ _ _ us hl => match us, hl with | [_, _], _ => rfl
  have F11 := fun_mk (st := s_unit) l11 c11 k11
  have b11 := F11.binds (ps := ["many"]) fun _ _ _ _ _ _ us hl => match us, hl with | [_], _ => rfl
  have F12 := fun_mk (st := s_cleared) l12 c12 k12
  have b12 := F12.binds (ps := ["rows", "at"]) fun _ _ _ _ _ _ us hl => match us, hl with | [_, _], _ => rfl
  have F13 := fun_mk (st := s_determinant) l13 c13 k13
  have b13 := F13.binds (ps := ["square"]) fun _ _ _ _ _ _ us hl => match us, hl with | [_], _ => rfl
  have F14 := fun_mk (st := s_back_of) l14 c14 k14
  have b14 := F14.binds (ps := ["square"]) fun _ _ _ _ _ _ us hl => match us, hl with | [_], _ => rfl
  have F15 := fun_mk (st := s_put_to) l15 c15 k15
  have b15 := F15.binds (ps := ["square", "row"]) fun _ _ _ _ _ _ us hl => match us, hl with | [_, _], _ => rfl
  have F16 := fun_mk (st := s_both) l16 c16 k16
  have b16 := F16.binds (ps := ["one", "other"]) fun _ _ _ _ _ _ us hl => match us, hl with | [_, _], _ => rfl
  have F17 := fun_mk (st := s__law_common) l17 c17 k17
  have b17 := F17.binds (ps := ["_law_one", "_law_other"]) fun _ _ _ _ _ _ us hl => match us, hl with | [_, _], _ => rfl
  have F18 := fun_mk (st := s__law_lowest) l18 c18 k18
  have b18 := F18.binds (ps := ["_law_n", "_law_d"]) fun _ _ _ _ _ _ us hl => match us, hl with | [_, _], _ => rfl
  have F19 := fun_mk (st := s__law_fraction) l19 c19 k19
  have b19 := F19.binds (ps := ["_law_m"]) fun _ _ _ _ _ _ us hl => match us, hl with | [_], _ => rfl
  have F20 := fun_mk (st := s__law_plus) l20 c20 k20
  have b20 := F20.binds (ps := ["_law_one", "_law_other"]) fun _ _ _ _ _ _ us hl => match us, hl with | [_, _], _ => rfl
  have F21 := fun_mk (st := s__law_less) l21 c21 k21
  have b21 := F21.binds (ps := ["_law_one", "_law_other"]) fun _ _ _ _ _ _ us hl => match us, hl with | [_, _], _ => rfl
  have F22 := fun_mk (st := s__law_times) l22 c22 k22
  have b22 := F22.binds (ps := ["_law_one", "_law_other"]) fun _ _ _ _ _ _ us hl => match us, hl with | [_, _], _ => rfl
  have F23 := fun_mk (st := s__law_over) l23 c23 k23
  have b23 := F23.binds (ps := ["_law_one", "_law_other"]) fun _ _ _ _ _ _ us hl => match us, hl with | [_, _], _ => rfl
  have F24 := fun_mk (st := s__law_determinant) l24 c24 k24
  have b24 := F24.binds (ps := ["_law_square"]) fun _ _ _ _ _ _ us hl => match us, hl with | [_], _ => rfl
  have F25 := fun_mk (st := s__law_square_back) l25 c25 k25
  have b25 := F25.binds (ps := ["_law_square"]) fun _ _ _ _ _ _ us hl => match us, hl with | [_], _ => rfl
  have F26 := fun_mk (st := s__law_put_to) l26 c26 k26
  have b26 := F26.binds (ps := ["_law_square", "_law_row"]) fun _ _ _ _ _ _ us hl => match us, hl with | [_, _], _ => rfl
  have F27 := fun_mk (st := s__law_product) l27 c27 k27
  have b27 := F27.binds (ps := ["_law_one", "_law_other"]) fun _ _ _ _ _ _ us hl => match us, hl with | [_, _], _ => rfl
  have F28 := fun_mk (st := s__law_drawn) l28 c28 k28
  have b28 := F28.binds (ps := ["_law_m"]) fun _ _ _ _ _ _ us hl => match us, hl with | [_], _ => rfl
  have F29 := fun_mk (st := s__law_told) l29 c29 k29
  have b29 := F29.binds (ps := ["_law_square"]) fun _ _ _ _ _ _ us hl => match us, hl with | [_], _ => rfl
  have F30 := fun_mk (st := s_law) l30 c30 k30
  have b30 := F30.binds (ps := ["_law_script"]) fun _ _ _ _ _ _ us hl => match us, hl with | [_], _ => rfl
  refine ⟨PySem.W.fnOf "law" "law" (defArgs s_law) (defBody s_law) (defScope s_law) .none kV30 dc30 pm30 an30 cd30 ct30, fun s v => .of_eq rfl, fun base _ _ nd se hT => ?_⟩
  have far : Far l.prog base := ⟨nd, se, tr⟩
  have Q_C__law_mixed := ok__law_mixed (P := l.prog) (w := w) (base := base) (n := 0) T  F1
  have C__law_mixed : Cal l.prog w K mg base 1 "_law_mixed" (c__law_mixed) := ⟨_, _, _, Q_C__law_mixed, PySem.W.mg_of X G a1, k1, b1⟩
  have Q_C__law_folded := ok__law_folded (P := l.prog) (w := w) (base := base) (n := 0) T  F2
  have C__law_folded : Cal l.prog w K mg base 1 "_law_folded" (c__law_folded) := ⟨_, _, _, Q_C__law_folded, PySem.W.mg_of X G a2, k2, b2⟩
  have Q_C__law_draw := ok__law_draw (P := l.prog) (w := w) (base := base) (n := 1) T (C__law_mixed.up (by decide)) F3
  have C__law_draw : Cal l.prog w K mg base 2 "_law_draw" (c__law_draw) := ⟨_, _, _, Q_C__law_draw, PySem.W.mg_of X G a3, k3, b3⟩
  have Q_C__law_begun := ok__law_begun (P := l.prog) (w := w) (base := base) (n := 1) T (C__law_folded.up (by decide)) F4
  have C__law_begun : Cal l.prog w K mg base 2 "_law_begun" (c__law_begun) := ⟨_, _, _, Q_C__law_begun, PySem.W.mg_of X G a4, k4, b4⟩
  have Q_C_common := ok_common (P := l.prog) (w := w) (base := base) (n := 0) T  F5
  have C_common : Cal l.prog w K mg base 1 "common" (c_common) := ⟨_, _, _, Q_C_common, PySem.W.mg_of X G a5, k5, b5⟩
  have Q_C_fraction := ok_fraction (P := l.prog) (w := w) (base := base) (n := 32) (n2 := by decide) (far := far) T (C_common.up (by decide)) F6
  have C_fraction : Cal l.prog w K mg base 33 "fraction" (c_fraction) := ⟨_, _, _, Q_C_fraction, PySem.W.mg_of X G a6, k6, b6⟩
  have Q_C_plus := ok_plus (P := l.prog) (w := w) (base := base) (n := 33) T (C_fraction.up (by decide)) F7
  have C_plus : Cal l.prog w K mg base 34 "plus" (c_plus) := ⟨_, _, _, Q_C_plus, PySem.W.mg_of X G a7, k7, b7⟩
  have Q_C_less := ok_less (P := l.prog) (w := w) (base := base) (n := 33) T (C_fraction.up (by decide)) F8
  have C_less : Cal l.prog w K mg base 34 "less" (c_less) := ⟨_, _, _, Q_C_less, PySem.W.mg_of X G a8, k8, b8⟩
  have Q_C_times := ok_times (P := l.prog) (w := w) (base := base) (n := 33) T (C_fraction.up (by decide)) F9
  have C_times : Cal l.prog w K mg base 34 "times" (c_times) := ⟨_, _, _, Q_C_times, PySem.W.mg_of X G a9, k9, b9⟩
  have Q_C_over := ok_over (P := l.prog) (w := w) (base := base) (n := 33) T (C_fraction.up (by decide)) F10
  have C_over : Cal l.prog w K mg base 34 "over" (c_over) := ⟨_, _, _, Q_C_over, PySem.W.mg_of X G a10, k10, b10⟩
  have Q_C_unit := ok_unit (P := l.prog) (w := w) (base := base) (n := 0) T  F11
  have C_unit : Cal l.prog w K mg base 1 "unit" (c_unit) := ⟨_, _, _, Q_C_unit, PySem.W.mg_of X G a11, k11, b11⟩
  have Q_C_cleared := ok_cleared (P := l.prog) (w := w) (base := base) (n := 34) T (C_over.up (by decide)) (C_less.up (by decide)) (C_times.up (by decide)) F12
  have C_cleared : Cal l.prog w K mg base 35 "cleared" (c_cleared) := ⟨_, _, _, Q_C_cleared, PySem.W.mg_of X G a12, k12, b12⟩
  have Q_C_determinant := ok_determinant (P := l.prog) (w := w) (base := base) (n := 35) T (C_times.up (by decide)) (C_less.up (by decide)) (C_cleared.up (by decide)) F13
  have C_determinant : Cal l.prog w K mg base 36 "determinant" (c_determinant) := ⟨_, _, _, Q_C_determinant, PySem.W.mg_of X G a13, k13, b13⟩
  have Q_C_back_of := ok_back_of (P := l.prog) (w := w) (base := base) (n := 35) T (C_unit.up (by decide)) (C_cleared.up (by decide)) F14
  have C_back_of : CalX l.prog w K mg base 36 "back_of" ((c_back_of CF)) := ⟨_, _, _, Q_C_back_of, PySem.W.mg_of X G a14, k14, b14⟩
  have Q_C_put_to := ok_put_to (P := l.prog) (w := w) (base := base) (n := 34) T (C_plus.up (by decide)) (C_times.up (by decide)) F15
  have C_put_to : Cal l.prog w K mg base 35 "put_to" (c_put_to) := ⟨_, _, _, Q_C_put_to, PySem.W.mg_of X G a15, k15, b15⟩
  have Q_C_both := ok_both (P := l.prog) (w := w) (base := base) (n := 35) T (C_put_to.up (by decide)) F16
  have C_both : Cal l.prog w K mg base 36 "both" (c_both) := ⟨_, _, _, Q_C_both, PySem.W.mg_of X G a16, k16, b16⟩
  have Q_C__law_common := ok__law_common (P := l.prog) (w := w) (base := base) (n := 0) T  F17
  have C__law_common : Cal l.prog w K mg base 1 "_law_common" (c__law_common) := ⟨_, _, _, Q_C__law_common, PySem.W.mg_of X G a17, k17, b17⟩
  have Q_C__law_lowest := ok__law_lowest (P := l.prog) (w := w) (base := base) (n := 1) T (C__law_common.up (by decide)) F18
  have C__law_lowest : Cal l.prog w K mg base 2 "_law_lowest" (c__law_lowest) := ⟨_, _, _, Q_C__law_lowest, PySem.W.mg_of X G a18, k18, b18⟩
  have Q_C__law_fraction := ok__law_fraction (P := l.prog) (w := w) (base := base) (n := 2) T (C__law_draw.up (by decide)) (C__law_lowest.up (by decide)) F19
  have C__law_fraction : Cal l.prog w K mg base 3 "_law_fraction" (c__law_fraction) := ⟨_, _, _, Q_C__law_fraction, PySem.W.mg_of X G a19, k19, b19⟩
  have Q_C_lowest_F := ok__law_lowest_F (P := l.prog) (w := w) (base := base) (n := 32) (n2 := by decide) (far := far) T (C__law_common.up (by decide)) F18
  have C_lowest_F : Cal l.prog w K mg base 33 "_law_lowest" (c__law_lowest_F) := ⟨_, _, _, Q_C_lowest_F, PySem.W.mg_of X G a18, k18, b18⟩
  have Q_C__law_plus := ok__law_plus (P := l.prog) (w := w) (base := base) (n := 33) T (C_lowest_F.up (by decide)) F20
  have C__law_plus : Cal l.prog w K mg base 34 "_law_plus" (c__law_plus) := ⟨_, _, _, Q_C__law_plus, PySem.W.mg_of X G a20, k20, b20⟩
  have Q_C__law_less := ok__law_less (P := l.prog) (w := w) (base := base) (n := 33) T (C_lowest_F.up (by decide)) F21
  have C__law_less : Cal l.prog w K mg base 34 "_law_less" (c__law_less) := ⟨_, _, _, Q_C__law_less, PySem.W.mg_of X G a21, k21, b21⟩
  have Q_C__law_times := ok__law_times (P := l.prog) (w := w) (base := base) (n := 33) T (C_lowest_F.up (by decide)) F22
  have C__law_times : Cal l.prog w K mg base 34 "_law_times" (c__law_times) := ⟨_, _, _, Q_C__law_times, PySem.W.mg_of X G a22, k22, b22⟩
  have Q_C__law_over := ok__law_over (P := l.prog) (w := w) (base := base) (n := 33) T (C_lowest_F.up (by decide)) F23
  have C__law_over : Cal l.prog w K mg base 34 "_law_over" (c__law_over) := ⟨_, _, _, Q_C__law_over, PySem.W.mg_of X G a23, k23, b23⟩
  have C__law_determinant : Cal l.prog w K mg base 105 "_law_determinant" (c__law_determinant 5) := (det_all (n := 100) (by decide) T (C__law_times.up (by decide)) (C__law_less.up (by decide)) (C__law_plus.up (by decide)) F24 (PySem.W.mg_of X G a24) k24 b24 5).up (by decide)
  have Q_C__law_square_back := ok__law_square_back (P := l.prog) (w := w) (base := base) (n := 105) T (C__law_determinant.up (by decide)) (C__law_over.up (by decide)) (C__law_times.up (by decide)) F25
  have C__law_square_back : Cal l.prog w K mg base 106 "_law_square_back" (c__law_square_back) := ⟨_, _, _, Q_C__law_square_back, PySem.W.mg_of X G a25, k25, b25⟩
  have Q_C__law_put_to := ok__law_put_to (P := l.prog) (w := w) (base := base) (n := 34) T (C__law_plus.up (by decide)) (C__law_times.up (by decide)) F26
  have C__law_put_to : Cal l.prog w K mg base 35 "_law_put_to" (c__law_put_to) := ⟨_, _, _, Q_C__law_put_to, PySem.W.mg_of X G a26, k26, b26⟩
  have Q_C__law_product := ok__law_product (P := l.prog) (w := w) (base := base) (n := 35) T (C__law_put_to.up (by decide)) F27
  have C__law_product : Cal l.prog w K mg base 36 "_law_product" (c__law_product) := ⟨_, _, _, Q_C__law_product, PySem.W.mg_of X G a27, k27, b27⟩
  have Q_C__law_drawn := ok__law_drawn (P := l.prog) (w := w) (base := base) (n := 34) T (C__law_draw.up (by decide)) (C__law_fraction.up (by decide)) (C__law_plus.up (by decide)) (C__law_times.up (by decide)) F28
  have C__law_drawn : Cal l.prog w K mg base 35 "_law_drawn" (c__law_drawn) := ⟨_, _, _, Q_C__law_drawn, PySem.W.mg_of X G a28, k28, b28⟩
  have Q_C__law_told := ok__law_told (P := l.prog) (w := w) (base := base) (n := 36) T (C_back_of.up (by decide)) F29
  have C__law_told : Cal l.prog w K mg base 37 "_law_told" ((c__law_told CF)) := ⟨_, _, _, Q_C__law_told, PySem.W.mg_of X G a29, k29, b29⟩
  exact ok_law (n := 106) (ND := nd) T (C__law_begun.up (by decide)) (C__law_drawn.up (by decide)) (C__law_fraction.up (by decide)) (C__law_square_back.up (by decide)) (C_determinant.up (by decide)) (C__law_determinant.up (by decide)) (C_put_to.up (by decide)) (C__law_put_to.up (by decide)) (C_both.up (by decide)) (C__law_product.up (by decide)) (C__law_told.up (by decide)) F30
end D
open PySem PySem.W PyProof.Rows
set_option maxHeartbeats 0 in
theorem PySem.Challenge.cw_slopehouse_k70_squares_holds : PySem.Challenge.rw_slopehouse_k70_squares.Holds := by
  refine D.pre.mk2 (fun w => PySem.W.byRow2 "special-get-raises" (P := D.pre.RP) D.headF D.headT w) ?_
  dsimp only [D.pre]
  refine D.walk_endS (l := PySem.Challenge.rw_slopehouse_k70_squares) (k := 107) (x := "_law_script") (c := fun _ => D.c_law) [] (fun b => "") rfl rfl ⟨rfl, by decide, by decide⟩ ?hi9 (fun w h Y => PySem.W.kIn_of Y) (fun w h Y => ?tt9) (fun w => ?nn9) (fun w h Y => ?cc9) ?F (fun _ ns hl => ⟨ns, rfl, hl,  fun _ => rfl⟩)
  case hi9 => decide +kernel
  case tt9 => exact (fun _ h => nomatch h)
  case nn9 => exact (fun _ h => nomatch h)
  case F =>
    intro w mg fa h KX G hmg
    have hmg : mg ("law" : PySem.Str) = some (.ref fa) := by rw [← (show (HandSHeadRun.topDef (PySem.W.OpenLaw.row PySem.Challenge.rw_slopehouse_k70_squares).prog 37).name = ("law" : PySem.Str) by kernel_rfl)]; exact hmg
    refine' D.all_mk KX G hmg rfl ?a1 ?l1 ?c1 ?k1 ?a2 ?l2 ?c2 ?k2 ?a3 ?l3 ?c3 ?k3 ?a4 ?l4 ?c4 ?k4 ?a5 ?l5 ?c5 ?k5 ?a6 ?l6 ?c6 ?k6 ?lT6 ?vT6 ?a7 ?l7 ?c7 ?k7 ?a8 ?l8 ?c8 ?k8 ?a9 ?l9 ?c9 ?k9 ?a10 ?l10 ?c10 ?k10 ?a11 ?l11 ?c11 ?k11 ?a12 ?l12 ?c12 ?k12 ?a13 ?l13 ?c13 ?k13 ?a14 ?l14 ?c14 ?k14 ?a15 ?l15 ?c15 ?k15 ?a16 ?l16 ?c16 ?k16 ?a17 ?l17 ?c17 ?k17 ?a18 ?l18 ?c18 ?k18 ?a19 ?l19 ?c19 ?k19 ?a20 ?l20 ?c20 ?k20 ?a21 ?l21 ?c21 ?k21 ?a22 ?l22 ?c22 ?k22 ?a23 ?l23 ?c23 ?k23 ?a24 ?l24 ?c24 ?k24 ?a25 ?l25 ?c25 ?k25 ?a26 ?l26 ?c26 ?k26 ?a27 ?l27 ?c27 ?k27 ?a28 ?l28 ?c28 ?k28 ?a29 ?l29 ?c29 ?k29 ?a30 ?l30 ?c30 ?k30 ?z0 ?z1 ?z2 ?z3 ?z4 ?z5 ?z6 ?z7 ?z8 ?z9 ?z10 ?z11 ?w11 ?e11 ?z12 ?w12 ?e12 ?z13 ?y13 ?v13 ?u13 ?s13 ?z14 ?z15 ?z16 ?hg17 ?hk17 ?hs17 ?hd17 ?ha17 ?hn17 ?ht17 ?hm17 ?z18 ?z19
    (case a1 => k_is)
    (case l1 => k_is)
    (case c1 => k_is)
    (case k1 => k_is)
    (case a2 => k_is)
    (case l2 => k_is)
    (case c2 => k_is)
    (case k2 => k_is)
    (case a3 => k_is)
    (case l3 => k_is)
    (case c3 => k_is)
    (case k3 => k_is)
    (case a4 => k_is)
    (case l4 => k_is)
    (case c4 => k_is)
    (case k4 => k_is)
    (case a5 => k_is)
    (case l5 => k_is)
    (case c5 => k_is)
    (case k5 => k_is)
    (case a6 => k_is)
    (case l6 => k_is)
    (case c6 => k_is)
    (case k6 => k_is)
    (case lT6 => k_is)
    (case vT6 => decide +kernel)
    (case a7 => k_is)
    (case l7 => k_is)
    (case c7 => k_is)
    (case k7 => k_is)
    (case a8 => k_is)
    (case l8 => k_is)
    (case c8 => k_is)
    (case k8 => k_is)
    (case a9 => k_is)
    (case l9 => k_is)
    (case c9 => k_is)
    (case k9 => k_is)
    (case a10 => k_is)
    (case l10 => k_is)
    (case c10 => k_is)
    (case k10 => k_is)
    (case a11 => k_is)
    (case l11 => k_is)
    (case c11 => k_is)
    (case k11 => k_is)
    (case a12 => k_is)
    (case l12 => k_is)
    (case c12 => k_is)
    (case k12 => k_is)
    (case a13 => k_is)
    (case l13 => k_is)
    (case c13 => k_is)
    (case k13 => k_is)
    (case a14 => k_is)
    (case l14 => k_is)
    (case c14 => k_is)
    (case k14 => k_is)
    (case a15 => k_is)
    (case l15 => k_is)
    (case c15 => k_is)
    (case k15 => k_is)
    (case a16 => k_is)
    (case l16 => k_is)
    (case c16 => k_is)
    (case k16 => k_is)
    (case a17 => k_is)
    (case l17 => k_is)
    (case c17 => k_is)
    (case k17 => k_is)
    (case a18 => k_is)
    (case l18 => k_is)
    (case c18 => k_is)
    (case k18 => k_is)
    (case a19 => k_is)
    (case l19 => k_is)
    (case c19 => k_is)
    (case k19 => k_is)
    (case a20 => k_is)
    (case l20 => k_is)
    (case c20 => k_is)
    (case k20 => k_is)
    (case a21 => k_is)
    (case l21 => k_is)
    (case c21 => k_is)
    (case k21 => k_is)
    (case a22 => k_is)
    (case l22 => k_is)
    (case c22 => k_is)
    (case k22 => k_is)
    (case a23 => k_is)
    (case l23 => k_is)
    (case c23 => k_is)
    (case k23 => k_is)
    (case a24 => k_is)
    (case l24 => k_is)
    (case c24 => k_is)
    (case k24 => k_is)
    (case a25 => k_is)
    (case l25 => k_is)
    (case c25 => k_is)
    (case k25 => k_is)
    (case a26 => k_is)
    (case l26 => k_is)
    (case c26 => k_is)
    (case k26 => k_is)
    (case a27 => k_is)
    (case l27 => k_is)
    (case c27 => k_is)
    (case k27 => k_is)
    (case a28 => k_is)
    (case l28 => k_is)
    (case c28 => k_is)
    (case k28 => k_is)
    (case a29 => k_is)
    (case l29 => k_is)
    (case c29 => k_is)
    (case k29 => k_is)
    (case a30 => k_is)
    (case l30 => k_is)
    (case c30 => k_is)
    (case k30 => k_is)
    (case z0 => k_is)
    (case z1 => k_is)
    (case z2 => k_is)
    (case z3 => k_is)
    (case z4 => k_is)
    (case z5 => k_is)
    (case z6 => k_is)
    (case z7 => k_is)
    (case z8 => k_is)
    (case z9 => k_is)
    (case z10 => k_is)
    (case z11 => k_is)
    (case w11 => k_is)
    (case e11 => decide +kernel)
    (case z12 => k_is)
    (case w12 => k_is)
    (case e12 => decide +kernel)
    (case z13 => k_is)
    (case y13 => kernel_rfl)
    (case v13 => k_is)
    (case u13 => k_is)
    (case s13 => k_is)
    (case z14 => k_is)
    (case z15 => kernel_rfl)
    (case z16 => kernel_rfl)
    (case hg17 => k_is)
    (case hk17 => k_is)
    (case hs17 => k_is)
    (case hd17 => k_is)
    (case ha17 => k_is)
    (case hn17 => k_is)
    (case ht17 => k_is)
    (case hm17 => k_is)
    (case z18 => k_is)
    (case z19 => kernel_rfl)
  case cc9 => exact (fun _ h => nomatch h)

